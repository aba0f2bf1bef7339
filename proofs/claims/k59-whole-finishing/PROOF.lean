import PyProof.Rows.All
import Wide.All
import OpenK.AllK
import Wide.FinOn
import HandS.ForMost
import HandS.DictComp
import HandS.Walk
import HandS.Zip
import HandS.Style
import HandS.TupAny
import HandS.Deep
import HandS.IsInst
import HandS.Conv
import HandS.More
import HandS.Strs
import HandS.Set
import HandS.SetKeys
import HandS.TupSets
import HandS.DictTup
import HandS.Replace
import HandS.SortInts
import HandS.Flow
import KE.DataFind
import KE.SortData
import HandS.Ends
import HandS.Words
import HandS.WordsExc
import HandS.Head0
import HandS.Head1
import HandS.Head2
import HandS.HeadEnd
import HandS.HeadHook1
import HandS.HeadHook2
import KE.KStateDown
import HandS.Star
import KE.DataCmp
import KE.GoesMore
import PyProof.DictUpdate
import HandS.Defaults
import PyProof.DictDisplay
import PyProof.ListStr
import KE.KRevSl
import PyProof.ReprRoads
import PyProof.ReprLen
import KE.KDictDisplayH
import HandS.TupMul
import HandS.NoneIn
import HandS.ReplaceLit
import PyProof.Rows.IntBool
import PySem.Challenge.RW_roomrings_k59_whole_finishing
set_option Elab.async false
section
set_option linter.all false
set_option maxRecDepth 100000
set_option autoImplicit false
set_option maxHeartbeats 1000000
/-! The ground: data that never change (Im), dicts of them (DL), calls by name (OkF), pure comprehensions. -/
namespace RW
open PySem PySem.Spec PyProof.Rows L2

/-! ### tuples stay -/
theorem _root_.L2.Rd.sm {H H' : Hp} (s : Same H H') {a : Addr} {u : HO} (h : Rd H a u) : Rd H' a u := by
  rcases h with h | ⟨o, h⟩
  · exact .inl (s _ _ h)
  · exact .inr ⟨o, s _ _ h⟩
theorem _root_.L2.Rd.free {H : Hp} {a p : Addr} {u : HO} (h : Rd H a u) (n : H p = none) : a ≠ p := by
  rcases h with h | ⟨o, h⟩
  · exact ne_of_none h n
  · exact ne_of_none h n
/-- no tuple, locked or not -/
def NoT (u : HO) : Prop := (∀ xs, u ≠ .tup xs) ∧ ∀ o xs, u ≠ .frz o (.tup xs)
theorem _root_.L2.Rd.ne {H : Hp} {a p : Addr} {xs : List V} {u : HO} (h : Rd H a (.tup xs)) (e : H p = some u) (n : NoT u) : a ≠ p := fun z => by
  rw [z] at h
  rcases h with h | ⟨o, h⟩
  · rw [e] at h
    exact n.1 _ (Option.some.inj h)
  · rw [e] at h
    exact n.2 _ _ (Option.some.inj h)
theorem _root_.L2.Rd.un {H : Hp} {a p : Addr} {u o : HO} (h : Rd H a u) (ne : a ≠ p) : Rd (upd H p o) a u := by
  rcases h with h | ⟨b, h⟩
  · exact .inl ((upd_ne ne).trans h)
  · exact .inr ⟨b, (upd_ne ne).trans h⟩
def KT (H H' : Hp) : Prop := ∀ a xs, Rd H a (.tup xs) → Rd H' a (.tup xs)
theorem KT.refl (H : Hp) : KT H H := fun _ _ h => h
theorem KT.trans {H H1 H2 : Hp} (a : KT H H1) (b : KT H1 H2) : KT H H2 := fun x o h => b x o (a x o h)
theorem KT.same {H H' : Hp} (s : Same H H') : KT H H' := fun a xs h => L2.Rd.sm s h
theorem KT.new {H : Hp} {p : Addr} {o : HO} (h : H p = none) : KT H (upd H p o) := fun a xs e => L2.Rd.un e (L2.Rd.free e h)
theorem KT.mut {H : Hp} {p : Addr} {o u : HO} (h : H p = some u) (hu : NoT u) : KT H (upd H p o) := fun a xs e => L2.Rd.un e (L2.Rd.ne e h hu)
theorem NoT.lst (ys : List V) : NoT (.lst ys) := ⟨(fun _ z => nomatch z), (fun _ _ z => nomatch z)⟩
theorem NoT.dk (ys : List (Key × V)) : NoT (.dK ys) := ⟨(fun _ z => nomatch z), (fun _ _ z => nomatch z)⟩
theorem NoT.dt (ys : List (List Key × V)) : NoT (.dT ys) := ⟨(fun _ z => nomatch z), (fun _ _ z => nomatch z)⟩
theorem KT.lst {H : Hp} {p : Addr} {o : HO} {ys : List V} (h : H p = some (.lst ys)) : KT H (upd H p o) := KT.mut h (.lst _)
theorem KT.dk {H : Hp} {p : Addr} {o : HO} {ys : List (Key × V)} (h : H p = some (.dK ys)) : KT H (upd H p o) := KT.mut h (.dk _)
theorem KT.dt {H : Hp} {p : Addr} {o : HO} {ys : List (List Key × V)} (h : H p = some (.dT ys)) : KT H (upd H p o) := KT.mut h (.dt _)
theorem Same.new {H : Hp} {p : Addr} {o : HO} (h : H p = none) : Same H (upd H p o) := fun b x e => by
  rw [upd_ne (ne_of_none e h)]
  exact e
/-- an object that H does not know may change -/
theorem Same.mut {H H' : Hp} {p : Addr} {o : HO} (e : Same H H') (h : H p = none) : Same H (upd H' p o) := fun a u ha => by
  rw [upd_ne (ne_of_none ha h)]
  exact e a u ha
theorem ne_free {H H' : Hp} {p q : Addr} {o : HO} (hp : H p = some o) (s : Same H H') (hq : H' q = none) : p ≠ q := ne_of_none (s _ _ hp) hq

/-! ### data of tuples alone -/
mutual
inductive Im (H : Hp) : V → PyData → Prop
  | non : Im H .non .none
  | bl (b : Bool) : Im H (.bl b) (.bool b)
  | int (i : Int) : Im H (.int i) (.int i)
  | str (x : Str) : Im H (.str x) (.str x)
  | tup {a : Addr} {xs : List V} {ds : List PyData} : Rd H a (.tup xs) → ImA H xs ds → Im H (.ref a) (.tuple ds)
inductive ImA (H : Hp) : List V → List PyData → Prop
  | nil : ImA H [] []
  | cons {v : V} {vs : List V} {d : PyData} {ds : List PyData} : Im H v d → ImA H vs ds → ImA H (v :: vs) (d :: ds)
end
mutual
theorem Im.mono {H H' : Hp} (k : KT H H') : ∀ {d : PyData} {v : V}, Im H v d → Im H' v d
  | .none, _, h => by cases h; exact .non
  | .bool b, _, h => by cases h; exact .bl b
  | .int i, _, h => by cases h; exact .int i
  | .str x, _, h => by cases h; exact .str x
  | .tuple ds, _, h => by
    cases h with
    | tup h1 h2 => exact .tup (k _ _ h1) (ImA.mono k h2)
  | .list _, _, h => nomatch h
  | .dict _, _, h => nomatch h
theorem ImA.mono {H H' : Hp} (k : KT H H') : ∀ {ds : List PyData} {vs : List V}, ImA H vs ds → ImA H' vs ds
  | [], _, h => by cases h; exact .nil
  | d :: ds, _, h => by
    cases h with
    | cons h1 h2 => exact .cons (Im.mono k h1) (ImA.mono k h2)
end
mutual
theorem Im.dp {K : PySem.W.Frag} {H : Hp} : ∀ {d : PyData} {v : V}, Im H v d → Dp K H v d
  | .none, _, h => by cases h; exact .non
  | .bool b, _, h => by cases h; exact .bl b
  | .int i, _, h => by cases h; exact .int i
  | .str x, _, h => by cases h; exact .str x
  | .tuple ds, _, h => by
    cases h with
    | tup h1 h2 => exact .tup (.inl h1) (ImA.dp h2)
  | .list _, _, h => nomatch h
  | .dict _, _, h => nomatch h
theorem ImA.dp {K : PySem.W.Frag} {H : Hp} : ∀ {ds : List PyData} {vs : List V}, ImA H vs ds → DpAll K H vs ds
  | [], _, h => by cases h; exact .nil
  | d :: ds, _, h => by
    cases h with
    | cons h1 h2 => exact .cons (Im.dp h1) (ImA.dp h2)
end
section
variable {H H' : Hp} {v : V} {vs ws : List V} {ds es : List PyData}
theorem Im.tinv (h : Im H v (.tuple ds)) : ∃ a xs, v = .ref a ∧ Rd H a (.tup xs) ∧ ImA H xs ds := by
  cases h with
  | tup h1 h2 => exact ⟨_, _, rfl, h1, h2⟩
theorem Im.sinv {x : Str} (h : Im H v (.str x)) : v = .str x := by cases h; rfl
theorem Im.iinv {x : Int} (h : Im H v (.int x)) : v = .int x := by cases h; rfl
theorem Im.binv {x : Bool} (h : Im H v (.bool x)) : v = .bl x := by cases h; rfl
theorem ImA.len (h : ImA H vs ds) : vs.length = ds.length := by
  induction ds generalizing vs with
  | nil => cases h; rfl
  | cons d ds ih =>
    cases h with
    | cons _ h2 => rw [List.length_cons, List.length_cons, ih h2]
theorem ImA.app (h : ImA H vs ds) (g : ImA H ws es) : ImA H (vs ++ ws) (ds ++ es) := by
  induction ds generalizing vs with
  | nil => cases h; exact g
  | cons d ds ih =>
    cases h with
    | cons h1 h2 => exact .cons h1 (ih h2)
theorem ImA.get (h : ImA H vs ds) {i : Nat} {d : PyData} (e : ds[i]? = some d) : ∃ x, vs[i]? = some x ∧ Im H x d := by
  induction ds generalizing vs i with
  | nil => cases e
  | cons d' ds ih =>
    cases h with
    | cons h1 h2 =>
      cases i with
      | zero =>
        cases e
        exact ⟨_, rfl, h1⟩
      | succ i => exact ih h2 e
theorem ImA.getV (h : ImA H vs ds) {i : Nat} {x : V} (e : vs[i]? = some x) : ∃ d, ds[i]? = some d ∧ Im H x d := by
  induction ds generalizing vs i with
  | nil =>
    cases h
    cases e
  | cons d' ds ih =>
    cases h with
    | cons h1 h2 =>
      cases i with
      | zero =>
        cases e
        exact ⟨_, rfl, h1⟩
      | succ i => exact ih h2 e
theorem ImA.take (n : Nat) (h : ImA H vs ds) : ImA H (vs.take n) (ds.take n) := by
  induction ds generalizing vs n with
  | nil =>
    cases h
    rw [List.take_nil, List.take_nil]
    exact .nil
  | cons d ds ih =>
    cases h with
    | cons h1 h2 =>
      cases n with
      | zero => exact .nil
      | succ n => exact .cons h1 (ih n h2)
theorem ImA.drop (n : Nat) (h : ImA H vs ds) : ImA H (vs.drop n) (ds.drop n) := by
  induction ds generalizing vs n with
  | nil =>
    cases h
    rw [List.drop_nil, List.drop_nil]
    exact .nil
  | cons d ds ih =>
    cases h with
    | cons h1 h2 =>
      cases n with
      | zero => exact .cons h1 h2
      | succ n => exact ih n h2
theorem ImA.rev (h : ImA H vs ds) : ImA H vs.reverse ds.reverse := by
  induction ds generalizing vs with
  | nil => cases h; exact .nil
  | cons d ds ih =>
    cases h with
    | cons h1 h2 =>
      rw [List.reverse_cons, List.reverse_cons]
      exact (ih h2).app (.cons h1 .nil)
theorem ImA.eraseIdx (n : Nat) (h : ImA H vs ds) : ImA H (vs.eraseIdx n) (ds.eraseIdx n) := by
  induction ds generalizing vs n with
  | nil =>
    cases h
    exact .nil
  | cons d ds ih =>
    cases h with
    | cons h1 h2 =>
      cases n with
      | zero => exact h2
      | succ n => exact .cons h1 (ih n h2)
theorem ImA.strs {xs : List Str} (h : ImA H vs (xs.map .str)) : vs = xs.map .str := by
  induction xs generalizing vs with
  | nil => cases h; rfl
  | cons x xs ih =>
    cases h with
    | cons h1 h2 => rw [List.map_cons, ih h2, h1.sinv]
theorem ImA.ofStrs (xs : List Str) : ImA H (xs.map .str) (xs.map .str) := by
  induction xs with
  | nil => exact .nil
  | cons x xs ih => exact .cons (.str x) ih
theorem ImA.ints {xs : List Int} (h : ImA H vs (xs.map .int)) : vs = xs.map .int := by
  induction xs generalizing vs with
  | nil => cases h; rfl
  | cons x xs ih =>
    cases h with
    | cons h1 h2 => rw [List.map_cons, ih h2, h1.iinv]
theorem ImA.ofInts (xs : List Int) : ImA H (xs.map .int) (xs.map .int) := by
  induction xs with
  | nil => exact .nil
  | cons x xs ih => exact .cons (.int x) ih
end
/-! ### the data of the program -/
abbrev Row := Str × Str × Int
def dRow (p : Row) : PyData := .tuple [.str p.1, .str p.2.1, .int p.2.2]
def dTree (T : List Row) : PyData := .tuple (T.map dRow)
def dMv (m : Str × Str) : PyData := .tuple [.str m.1, .str m.2]
def dMvs (L : List (Str × Str)) : PyData := .tuple (L.map dMv)
def dStrs (L : List Str) : PyData := .tuple (L.map .str)
def dInts (L : List Int) : PyData := .tuple (L.map .int)

/-! ### dicts with text keys and such values -/
abbrev Gd := List (Str × PyData)
def KvI (H : Hp) : List (Key × V) → Gd → Prop := Paired fun kv e => kv.1 = .inr e.1 ∧ Im H kv.2 e.2
def DL (H : Hp) (p : Addr) (g : Gd) : Prop := ∃ kvs, H p = some (.dK kvs) ∧ KvI H kvs g
theorem KvI.mono {H H' : Hp} (k : KT H H') {kvs : List (Key × V)} {g : Gd} (h : KvI H kvs g) : KvI H' kvs g := Paired.mapP h fun _ _ z => ⟨z.1, z.2.mono k⟩
theorem DL.same {H H' : Hp} (s : Same H H') {p : Addr} {g : Gd} (h : DL H p g) : DL H' p g := by
  obtain ⟨kvs, h1, h2⟩ := h
  exact ⟨kvs, s _ _ h1, h2.mono (.same s)⟩
theorem KvI.get {H : Hp} {k : Str} : ∀ {kvs : List (Key × V)} {g : Gd} {d : PyData}, KvI H kvs g → g.lookup k = some d → ∃ v, valV kvs (.inr k) = some v ∧ Im H v d
  | [], _, d, h, e => by
    cases h
    cases e
  | kv :: kvs, _, d, h, e => by
    cases h with
    | cons h1 h2 =>
      rename_i b g
      rw [List.lookup_cons] at e
      by_cases q : k = b.1
      · have q2 : (k == b.1) = true := by simp [q]
        rw [q2] at e
        cases e
        refine ⟨kv.2, ?_, h1.2⟩
        exact valV_pos (by rw [h1.1, q])
      · have q2 : (k == b.1) = false := by simpa using q
        rw [q2] at e
        obtain ⟨v, e1, e2⟩ := KvI.get h2 e
        refine ⟨v, ?_, e2⟩
        rw [valV_neg (by
          rw [h1.1]
          intro z
          exact q (Sum.inr.inj z).symm)]
        exact e1
theorem KvI.miss {H : Hp} {k : Str} : ∀ {kvs : List (Key × V)} {g : Gd}, KvI H kvs g → g.lookup k = none → valV kvs (.inr k) = none
  | [], _, h, e => rfl
  | kv :: kvs, _, h, e => by
    cases h with
    | cons h1 h2 =>
      rename_i b g
      rw [List.lookup_cons] at e
      by_cases q : k = b.1
      · have q2 : (k == b.1) = true := by simp [q]
        rw [q2] at e
        cases e
      · have q2 : (k == b.1) = false := by simpa using q
        rw [q2] at e
        rw [valV_neg (by
          rw [h1.1]
          intro z
          exact q (Sum.inr.inj z).symm)]
        exact KvI.miss h2 e
theorem KvI.len {H : Hp} {kvs : List (Key × V)} {g : Gd} (h : KvI H kvs g) : kvs.length = g.length := Paired.length h
def gput (g : Gd) (k : Str) (d : PyData) : Gd := if (g.any fun e => decide (e.1 = k)) = true then g.map (fun e => if e.1 = k then (e.1, d) else e) else g ++ [(k, d)]
theorem gput_look (g : Gd) (k : Str) (d : PyData) (j : Str) : (gput g k d).lookup j = if j = k then some d else g.lookup j := by
  unfold gput
  by_cases a : (g.any fun e => decide (e.1 = k)) = true
  · rw [if_pos a]
    have gen : ∀ g : Gd, (g.map (fun e => if e.1 = k then (e.1, d) else e)).lookup j = if j = k then (if (g.any fun e => decide (e.1 = k)) = true then some d else none) else g.lookup j := by
      intro g
      induction g with
      | nil => simp
      | cons e g ih =>
        rw [List.map_cons, List.lookup_cons, List.lookup_cons, ih, List.any_cons]
        by_cases q : e.1 = k
        · rw [if_pos q, decide_eq_true q, Bool.true_or, if_pos rfl]
          by_cases w : j = k
          · have t : (j == e.1) = true := by simp [w, q]
            simp only [t]
            simp [w]
          · have t : (j == e.1) = false := by simp [q, w]
            rw [if_neg w]
            simp only [t]
            rw [if_neg w]
        · rw [if_neg q, decide_eq_false q, Bool.false_or]
          by_cases w : j = k
          · have t : (j == e.1) = false := by
              rw [w]
              simpa using fun z : k = e.1 => q z.symm
            rw [if_pos w, if_pos w]
            simp only [t]
          · rw [if_neg w, if_neg w]
    rw [gen g, if_pos a]
  · rw [if_neg a]
    have hk : g.lookup k = none := by
      cases e : g.lookup k with
      | none => rfl
      | some y =>
        exfalso
        refine a (List.any_eq_true.mpr ⟨(k, y), ?_, by simp⟩)
        exact PySem.mem_of_lookup e
    rw [List.lookup_append]
    by_cases w : j = k
    · subst w
      rw [hk]
      simp
    · rw [if_neg w]
      have t : (j == k) = false := by simpa using w
      have e : ([(k, d)] : Gd).lookup j = none := by
        rw [List.lookup_cons, t]
        rfl
      rw [e]
      cases g.lookup j <;> rfl
theorem KvI.upd {H : Hp} {k : Str} {v : V} {d : PyData} (hv : Im H v d) : ∀ {kvs : List (Key × V)} {g : Gd}, KvI H kvs g → KvI H (kvs.map fun kv => if kv.1 = (.inr k : Key) then (kv.1, v) else kv) (g.map fun e => if e.1 = k then (e.1, d) else e)
  | _, _, .nil => .nil
  | a :: _, b :: _, .cons h1 h2 => by
    refine .cons ?_ (KvI.upd hv h2)
    dsimp only
    by_cases q : b.1 = k
    · rw [if_pos (by rw [h1.1, q]), if_pos q]
      exact ⟨h1.1, hv⟩
    · rw [if_neg (by
        rw [h1.1]
        intro z
        exact q (Sum.inr.inj z)), if_neg q]
      exact h1
theorem KvI.put {H : Hp} {k : Str} {v : V} {d : PyData} {kvs : List (Key × V)} {g : Gd} (h : KvI H kvs g) (hv : Im H v d) : KvI H (putK kvs (.inr k) v) (gput g k d) := by
  have ha : (kvs.any fun kv => decide (kv.1 = (.inr k : Key))) = g.any fun e => decide (e.1 = k) := by
    unfold KvI at h
    induction h with
    | nil => rfl
    | cons h1 _ ih =>
      rw [List.any_cons, List.any_cons, ih]
      congr 1
      rw [h1.1]
      exact key_rr _ _
  unfold putK gput
  rw [ha]
  split
  · exact KvI.upd hv h
  · exact Paired.snoc h ⟨rfl, hv⟩
end RW
end
section
set_option linter.all false
set_option maxRecDepth 100000
set_option autoImplicit false
set_option maxHeartbeats 1000000
/-! Calls by name, facts of the text, pure comprehensions. -/
namespace RW
open PySem PySem.Spec PyProof.Rows L2
def topS (i : Nat) : Stmt := PySem.Challenge.pw_roomrings_k59_whole_finishing.main.body.getD i (.Pass ⟨0, 0, 0, 0⟩)

/-! ### names that the top leaves as they are -/
structure Txt (mg : Str → Option Value) : Prop where
  b_tuple : mg "tuple" = none
  b_list : mg "list" = none
  b_dict : mg "dict" = none
  b_set : mg "set" = none
  b_sorted : mg "sorted" = none
  b_zip : mg "zip" = none
  b_enumerate : mg "enumerate" = none
  b_len : mg "len" = none
  b_range : mg "range" = none
  b_int : mg "int" = none
  b_str : mg "str" = none
  b_bool : mg "bool" = none
  b_isinstance : mg "isinstance" = none
  b_all : mg "all" = none
  b_max : mg "max" = none
  b_repr : mg "repr" = none
  g_LETTERS : ∃ t, mg "LETTERS" = some (.str "abcdefghijklmnopqrstuvwxyz" t)
  g_MOST_LETTERS : ∃ t, mg "MOST_LETTERS" = some (.int 8 t)
  g_ASK : ∃ t, mg "ASK" = some (.str "ask" t)
  g_DONE : ∃ t, mg "DONE" = some (.str "done" t)
theorem bb_tuple : bootBuiltins "tuple" = some (.type "tuple") := by decide +kernel
theorem bb_list : bootBuiltins "list" = some (.type "list") := by decide +kernel
theorem bb_dict : bootBuiltins "dict" = some (.type "dict") := by decide +kernel
theorem bb_set : bootBuiltins "set" = some (.type "set") := by decide +kernel
theorem bb_int : bootBuiltins "int" = some (.type "int") := by decide +kernel
theorem bb_str : bootBuiltins "str" = some (.type "str") := by decide +kernel
theorem bb_bool : bootBuiltins "bool" = some (.type "bool") := by decide +kernel
theorem bb_sorted : bootBuiltins "sorted" = some (.builtin "sorted") := by decide +kernel
theorem bb_all : bootBuiltins "all" = some (.builtin "all") := by decide +kernel
theorem bb_max : bootBuiltins "max" = some (.builtin "max") := by decide +kernel
theorem bb_repr : bootBuiltins "repr" = some (.builtin "repr") := by decide +kernel
theorem bb_isinstance : bootBuiltins "isinstance" = some (.builtin "isinstance") := by decide +kernel

/-! ### a def by its name -/
def Has (K : PySem.W.Frag) (mg : Str → Option Value) (x : Str) (st : Stmt) : Prop := ∃ (f : Addr) (fd : FuncData), mg x = some (.ref f) ∧ Fun K x x st f fd
def OkF (P : Program) (w : World) (K : PySem.W.Frag) (mg : Str → Option Value) (base : Heap) (x : Str) (ps : List Str) (k : Nat) (sp : Sp) : Prop :=
  ∃ (f : Addr) (fd : FuncData), mg x = some (.ref f) ∧ PySem.W.keepIn K (.ref f) = true ∧ Binds K fd ps [] ∧ FnOk P w K mg base CX0 k f fd ps sp
section
variable {P : Program} {w : World} {K : PySem.W.Frag} {mg : Str → Option Value} {base : Heap}
theorem Has.ok {x : Str} {st : Stmt} {N ps : List Str} {k : Nat} {sp : Sp} (F : Has K mg x st) (S : FnScope N ps (defScope st))
    (hb : ∀ (kV doc pm : Value) (an : Option Addr) (cdv ct : Value) (us : List Value), us.length = ps.length → bindArgs (PySem.W.fnOf x x (defArgs st) (defBody st) (defScope st) .none kV doc pm an cdv ct) ⟨us, []⟩ = pure (ps.zip us))
    (len : ∀ vs H Q E, sp vs H Q E → vs.length = ps.length)
    (hbody : ∀ (f : Addr) (cdv : Value) (A : Around) (outer : List Env) (s : Shared) (H : Hp) (vs : List V) (Q : VK) (E : XK), Room k (A.deeper (envOfC x (defScope st) s.heap.objs.size f cdv)) → sp vs H Q E →
      ∃ t, PSs (cxOf CX0 P w K mg base N x (defScope st) f cdv A outer s H E).nox (defBody st) t ∧ t { nx := fun _ H' => Q .non H', rt := Q } (start N vs) H) : OkF P w K mg base x ps (k + 1) sp := by
  obtain ⟨f, fd, hm, F⟩ := F
  exact ⟨f, fd, hm, F.kp, F.binds hb, F.ok S len fun cdv A outer s H vs Q E hr h => hbody f cdv A outer s H vs Q E hr h⟩
end
section
variable {X : Cx} {x : Str} {ps : List Str} {k : Nat} {sp : Sp} {e : Expr} {es : List Expr} {p pos : Pos} {t : TA}
theorem pe_c (F : OkF X.prog X.w X.K X.mg X.base x ps k sp) (hr : Room k X.A) (ha : PA X (e :: es) t) (hg : Gl X x := by rfl) (hdb : (x == ("__debug__" : Str)) = false := by decide)
    (he : starEach (e :: es) X.env = (false, eval e X.env) :: starEach es X.env := by rfl) (hpl : (backTo pos (starEach es X.env)).any (·.1) = false := by rfl) : PE X (.Call (.Name x p) (e :: es) [] pos) (tCall sp [] E0 t) := by
  obtain ⟨f, fd, hm, hk, hb, F⟩ := F
  exact pe_call F hr hg hm hk hb .nil pass0 ha hdb he hpl
theorem pe_c0 (F : OkF X.prog X.w X.K X.mg X.base x ps k sp) (hr : Room k X.A) (hg : Gl X x := by rfl) (hdb : (x == ("__debug__" : Str)) = false := by decide) : PE X (.Call (.Name x p) [] [] pos) (tCall sp [] E0 tNil) := by
  obtain ⟨f, fd, hm, hk, hb, F⟩ := F
  exact pe_call0 F hr hg hm hk hb .nil pass0 hdb
theorem pe_gs {s : Str} (h : ∃ t, X.mg x = some (.str s t)) (hg : Gl X x := by rfl) (hd : (x == ("__debug__" : Str)) = false := by decide) (hc : (x == ("__classdict__" : Str)) = false := by decide) : PE X (.Name x pos) (tC (.str s)) := by
  obtain ⟨t, h⟩ := h
  have r : RelV (.str s) (.str s t) := ⟨t, rfl⟩
  exact pe_glob hg h r hd
theorem pe_gi {i : Int} (h : ∃ t, X.mg x = some (.int i t)) (hg : Gl X x := by rfl) (hd : (x == ("__debug__" : Str)) = false := by decide) (hc : (x == ("__classdict__" : Str)) = false := by decide) : PE X (.Name x pos) (tC (.int i)) := by
  obtain ⟨t, h⟩ := h
  have r : RelV (.int i) (.int i t) := ⟨t, rfl⟩
  exact pe_glob hg h r hd
end
/-! ### targets over data -/
section
variable {K : PySem.W.Frag} {H : Hp} {x : V} {σ : L2.St} {Q : L2.St → Hp → Prop}
theorem g_tup2 {i j : Nat} {d e : PyData} (h : Im H x (.tuple [d, e])) (q : ∀ v w, Im H v d → Im H w e → Q ((σ.set i (some v)).set j (some w)) H) : gTup K 2 (gCons (gName i) (gCons (gName j) gNil)) x σ H Q := by
  obtain ⟨a, xs, rfl, h1, h2⟩ := h.tinv
  cases h2 with
  | cons i1 h2 => cases h2 with
    | cons i2 h2 =>
      cases h2
      exact ⟨a, _, rfl, .inl h1, rfl, _, _, rfl, _, _, rfl, rfl, q _ _ i1 i2⟩
theorem g_tup3 {i j l : Nat} {d e f : PyData} (h : Im H x (.tuple [d, e, f])) (q : ∀ v w u, Im H v d → Im H w e → Im H u f → Q (((σ.set i (some v)).set j (some w)).set l (some u)) H) :
    gTup K 3 (gCons (gName i) (gCons (gName j) (gCons (gName l) gNil))) x σ H Q := by
  obtain ⟨a, xs, rfl, h1, h2⟩ := h.tinv
  cases h2 with
  | cons i1 h2 => cases h2 with
    | cons i2 h2 => cases h2 with
      | cons i3 h2 =>
        cases h2
        exact ⟨a, _, rfl, .inl h1, rfl, _, _, rfl, _, _, rfl, _, _, rfl, rfl, q _ _ _ i1 i2 i3⟩
/-- a new pair of known values -/
theorem g_pair {i j : Nat} {T : Addr} {v w : V} (q : Q ((σ.set i (some v)).set j (some w)) (upd H T (.tup [v, w]))) : gTup K 2 (gCons (gName i) (gCons (gName j) gNil)) (.ref T) σ (upd H T (.tup [v, w])) Q :=
  ⟨T, _, rfl, .inl (.inl upd_same), rfl, _, _, rfl, _, _, rfl, rfl, q⟩
end
/-! ### comprehensions whose turns make nothing but their item -/
section
variable {J : It} {n : Nat} {G : Hp → Prop} {Y : Nat → Hp → V → Hp → Prop} {g : TG} {tt : TT} {te tk tv : TE} {vs : List Nat} {σ : L2.St} {H1 : Hp} {D : Addr} {Qd : Hp → Prop} {α : Type}
theorem lc_data (w : Walk J n G Y) (ds : List α) (hn : n = ds.length) (hz : ds.length ≤ 1000) (hD : H1 D = none) (hG : ∀ H, Same H1 H → G H) (p : α → Bool) (f : α → PyData)
    (hY : ∀ i H x H', i < n → Same H1 H → Y i H x H' → Same H H')
    (hs : ∀ i d x H H' (Qt : VK) (Qf : Hp → Prop), ds[i]? = some d → Same H1 H → Y i H x H' → (p d = true → ∀ y H4, Same H' H4 → Im H4 y (f d) → Qt y H4) → (p d = false → ∀ H3, Same H' H3 → Qf H3) →
      g x (wipe σ vs) H' fun σ2 H2 => wipe σ2 vs = wipe σ vs ∧ tt σ2 H2 fun b H3 => if b = true then te σ2 H3 Qt else Qf H3)
    (hd : ∀ H acc, Same H1 H → H D = some (.lst acc) → ImA H acc ((ds.filter p).map f) → Qd H) :
    ∃ W : Nat → Nat → Hp → Prop, (∃ m, W 0 m (upd H1 D (.lst []))) ∧ ∀ i m H, W i m H →
      (J.stop i H ∧ Qd H) ∨ (J.go i H ∧ ∃ Nx : Hp → Prop, (∀ H', Nx H' → ∃ m', m' < m ∧ W (i + 1) m' H') ∧ ∀ x H', J.yld i H x H' → g x (wipe σ vs) H' fun σ2 H2 => wipe σ2 vs = wipe σ vs ∧ tt σ2 H2 fun b H3 =>
        if b = true then te σ2 H3 fun y H4 => ∃ acc, H4 D = some (.lst acc) ∧ acc.length < sizeLine ∧ Nx (upd H4 D (.lst (acc ++ [y]))) else Nx H3) := by
  subst hn
  refine lc_it w (fun i H => Same H1 H ∧ ∃ acc, H D = some (.lst acc) ∧ ImA H acc (((ds.take i).filter p).map f)) ⟨Same.new hD, [], upd_same, .nil⟩ (fun i H _ h => hG H h.1) ?_ ?_
  · rintro i x H H' hi ⟨sm, acc, eD, ia⟩ y
    have e : ds[i]? = some ds[i] := List.getElem?_eq_getElem hi
    have sy := hY i H x H' hi sm y
    have et : ds.take (i + 1) = ds.take i ++ [ds[i]] := by rw [List.take_add_one, e]; rfl
    have hl : acc.length ≤ 1000 := by
      rw [ia.len, List.length_map]
      refine Nat.le_trans (List.length_filter_le _ _) ?_
      rw [List.length_take]
      omega
    refine hs i ds[i] x H H' _ _ e sm y (fun hp v H4 s4 iv => ?_) (fun hp H3 s3 => ?_)
    · have eD4 : H4 D = some (.lst acc) := s4 _ _ (sy _ _ eD)
      refine ⟨acc, eD4, small1000 hl, ?_, acc ++ [v], upd_same, ?_⟩
      · exact Same.mut ((sm.trans sy).trans s4) hD
      · rw [et, List.filter_append, List.map_append]
        refine ImA.app ?_ ?_
        · exact ((ia.mono (.same sy)).mono (.same s4)).mono (.lst eD4)
        · rw [List.filter_cons, if_pos hp]
          exact .cons (iv.mono (.lst eD4)) .nil
    · refine ⟨(sm.trans sy).trans s3, acc, s3 _ _ (sy _ _ eD), ?_⟩
      rw [et, List.filter_append, List.filter_cons, if_neg (by rw [hp]; decide)]
      rw [List.filter_nil, List.append_nil]
      exact (ia.mono (.same sy)).mono (.same s3)
  · rintro H ⟨sm, acc, eD, ia⟩
    rw [List.take_length] at ia
    exact hd H acc sm eD ia
/-- a dict comprehension over any walk -/
theorem dc_it (w : Walk J n G Y) (Pv : Nat → Hp → Prop) (h0 : Pv 0 (upd H1 D (.dK []))) (hG : ∀ i H, i ≤ n → Pv i H → G H)
    (hs : ∀ i x H H', i < n → Pv i H → Y i H x H' → g x (wipe σ vs) H' fun σ2 H2 => wipe σ2 vs = wipe σ vs ∧ tt σ2 H2 fun b H3 =>
      if b = true then tk σ2 H3 fun y H4 => tv σ2 H4 fun z H5 => ∃ kvs k, y = kV k ∧ H5 D = some (.dK kvs) ∧ kvs.length < sizeLine ∧ Pv (i + 1) (upd H5 D (.dK (putK kvs k z))) else Pv (i + 1) H3) (hd : ∀ H, Pv n H → Qd H) :
    ∃ W : Nat → Nat → Hp → Prop, (∃ m, W 0 m (upd H1 D (.dK []))) ∧ ∀ i m H, W i m H →
      (J.stop i H ∧ Qd H) ∨ (J.go i H ∧ ∃ Nx : Hp → Prop, (∀ H', Nx H' → ∃ m', m' < m ∧ W (i + 1) m' H') ∧ ∀ x H', J.yld i H x H' → g x (wipe σ vs) H' fun σ2 H2 => wipe σ2 vs = wipe σ vs ∧ tt σ2 H2 fun b H3 =>
        if b = true then tk σ2 H3 fun y H4 => tv σ2 H4 fun z H5 => ∃ kvs k, y = kV k ∧ H5 D = some (.dK kvs) ∧ kvs.length < sizeLine ∧ Nx (upd H5 D (.dK (putK kvs k z))) else Nx H3) := by
  refine ⟨fun i m H => m = n - i ∧ i ≤ n ∧ Pv i H, ⟨n, by omega, Nat.zero_le _, h0⟩, ?_⟩
  rintro i m H ⟨em, hi, pv⟩
  by_cases hlt : i < n
  · refine .inr ⟨w.goes i H hlt (hG i H hi pv), Pv (i + 1), fun H' p' => ⟨n - (i + 1), by omega, rfl, hlt, p'⟩, fun x H' y => ?_⟩
    exact hs i x H H' hlt pv (w.yields i H x H' hlt (hG i H hi pv) y)
  · obtain rfl : i = n := by omega
    exact .inl ⟨w.stops H (hG _ H hi pv), hd H pv⟩
theorem dc_data (w : Walk J n G Y) (ds : List α) (hn : n = ds.length) (hz : ds.length ≤ 1000) (hD : H1 D = none) (hG : ∀ H, Same H1 H → G H) (p : α → Bool) (kf : α → Str) (f : α → PyData) (hk : ((ds.filter p).map kf).Nodup)
    (hY : ∀ i H x H', i < n → Same H1 H → Y i H x H' → Same H H')
    (hs : ∀ i d x H H' (Qt : V → V → Hp → Prop) (Qf : Hp → Prop), ds[i]? = some d → Same H1 H → Y i H x H' → (p d = true → ∀ y H5, Same H' H5 → Im H5 y (f d) → Qt (.str (kf d)) y H5) → (p d = false → ∀ H3, Same H' H3 → Qf H3) →
      g x (wipe σ vs) H' fun σ2 H2 => wipe σ2 vs = wipe σ vs ∧ tt σ2 H2 fun b H3 => if b = true then tk σ2 H3 fun y H4 => tv σ2 H4 fun z H5 => Qt y z H5 else Qf H3)
    (hd : ∀ H, Same H1 H → DL H D ((ds.filter p).map fun d => (kf d, f d)) → Qd H) :
    ∃ W : Nat → Nat → Hp → Prop, (∃ m, W 0 m (upd H1 D (.dK []))) ∧ ∀ i m H, W i m H →
      (J.stop i H ∧ Qd H) ∨ (J.go i H ∧ ∃ Nx : Hp → Prop, (∀ H', Nx H' → ∃ m', m' < m ∧ W (i + 1) m' H') ∧ ∀ x H', J.yld i H x H' → g x (wipe σ vs) H' fun σ2 H2 => wipe σ2 vs = wipe σ vs ∧ tt σ2 H2 fun b H3 =>
        if b = true then tk σ2 H3 fun y H4 => tv σ2 H4 fun z H5 => ∃ kvs k, y = kV k ∧ H5 D = some (.dK kvs) ∧ kvs.length < sizeLine ∧ Nx (upd H5 D (.dK (putK kvs k z))) else Nx H3) := by
  subst hn
  refine dc_it w (fun i H => Same H1 H ∧ DL H D (((ds.take i).filter p).map fun d => (kf d, f d))) ⟨Same.new hD, [], upd_same, .nil⟩ (fun i H _ h => hG H h.1) ?_ ?_
  · rintro i x H H' hi ⟨sm, kvs, eD, ia⟩ y
    have e : ds[i]? = some ds[i] := List.getElem?_eq_getElem hi
    have sy := hY i H x H' hi sm y
    have et : ds.take (i + 1) = ds.take i ++ [ds[i]] := by rw [List.take_add_one, e]; rfl
    have hl : kvs.length ≤ 1000 := by
      rw [ia.len, List.length_map]
      refine Nat.le_trans (List.length_filter_le _ _) ?_
      rw [List.length_take]
      omega
    refine hs i ds[i] x H H' (fun y z H5 => ∃ kvs k, y = kV k ∧ H5 D = some (.dK kvs) ∧ kvs.length < sizeLine ∧ _) _ e sm y (fun hp v H5 s5 iv => ?_) (fun hp H3 s3 => ?_)
    · have eD5 : H5 D = some (.dK kvs) := s5 _ _ (sy _ _ eD)
      have i5 : KvI H5 kvs (((ds.take i).filter p).map fun d => (kf d, f d)) := (ia.mono (.same sy)).mono (.same s5)
      refine ⟨kvs, .inr (kf ds[i]), rfl, eD5, small1000 hl, Same.mut ((sm.trans sy).trans s5) hD, _, upd_same, ?_⟩
      have miss : (((ds.take i).filter p).map fun d => (kf d, f d)).lookup (kf ds[i]) = none := by
        cases q : (((ds.take i).filter p).map fun d => (kf d, f d)).lookup (kf ds[i]) with
        | none => rfl
        | some z =>
          exfalso
          have hm := PySem.mem_of_lookup q
          obtain ⟨d, hd1, hd2⟩ := List.mem_map.mp hm
          have split : ds.filter p = (ds.take i).filter p ++ (ds.drop i).filter p := by rw [← List.filter_append, List.take_append_drop]
          have hin : ds[i] ∈ (ds.drop i).filter p := by
            rw [List.mem_filter]
            refine ⟨?_, hp⟩
            rw [List.drop_eq_getElem_cons hi]
            exact List.mem_cons_self
          rw [split, List.map_append, List.nodup_append] at hk
          exact hk.2.2 _ (List.mem_map_of_mem hd1) _ (List.mem_map_of_mem hin) (congrArg Prod.fst hd2)
      rw [putK_new _ (i5.miss miss), et, List.filter_append, List.map_append]
      rw [List.filter_cons, if_pos hp]
      exact Paired.snoc (i5.mono (.dk eD5)) ⟨rfl, iv.mono (.dk eD5)⟩
    · refine ⟨(sm.trans sy).trans s3, kvs, s3 _ _ (sy _ _ eD), ?_⟩
      rw [et, List.filter_append, List.filter_cons, if_neg (by rw [hp]; decide)]
      rw [List.filter_nil, List.append_nil]
      exact (ia.mono (.same sy)).mono (.same s3)
  · rintro H ⟨sm, dl⟩
    rw [List.take_length] at dl
    exact hd H sm dl
end
theorem filter_true {α : Type} (l : List α) : l.filter (fun _ => true) = l := by
  induction l with
  | nil => rfl
  | cons a l ih => rw [List.filter_cons, if_pos rfl, ih]
end RW
end
section
set_option linter.all false
set_option maxRecDepth 100000
set_option autoImplicit false
set_option maxHeartbeats 0
/-! What the top leaves. -/
namespace RW
open PySem PySem.Spec PyProof.Rows L2
def dP (x : Str) (i : Nat) : He.DefD := ⟨(x, none), x, x, defArgs (topS i), defBody (topS i), defScope (topS i), [], []⟩
def dD (x : Str) (i : Nat) (v : He.Dv) : He.DefD := ⟨(x, none), x, x, defArgs (topS i), defBody (topS i), defScope (topS i), [v], []⟩
def dfs0 : List He.DefD := [dP "names_in" 1, dP "parents_by" 2, dP "rooms_by" 3, dP "ways_by" 4, dP "counts_by" 5, dP "uses_by" 6, dP "frees_by" 7, dP "entered_in" 9, dP "left_in" 10, dP "crossed_in" 11, dP "can_go" 12, dP "stand_by" 13, dP "is_integer" 17, dP "is_number" 18, dP "is_name" 19, dP "is_spot" 20, dP "is_pair" 21, dP "is_triple" 22, dP "is_folder" 23, dP "is_move" 24, dP "first_ringed" 26, dP "first_unparented" 27, dP "tree_fault" 28, dP "stand_fault" 29, dP "is_move_of" 30, dP "moves_fault" 31, dP "lot_fault" 32, dP "held_by" 34, dP "asked_fault" 35, dD "want" 41 (.int (-1))]
def dfs1 : List He.DefD := [dP "want_tree" 42, dP "want_stand" 43, dP "want_lot" 44, dP "want_case" 45, dP "want_lots" 46, dP "counts_at" 48, dP "misfits_at" 49, dP "crossed_by" 51, dD "loose_in" 52 (.adr (He.dflAt ("loose_in", none) 0)), dP "arrows_by" 53, dP "turned_arrows" 54, dP "reached_by" 55, dP "outermost_of" 56, dP "greatest_by" 57, dD "greatest_in" 58 (.adr (He.dflAt ("greatest_in", none) 0)), dD "has_ring_in" 59 (.adr (He.dflAt ("has_ring_in", none) 0)), dP "lot_less" 61, dP "is_let_in" 62, dP "calm_moves" 63, dP "first_let" 64, dP "order_by" 65, dP "want_asked" 69, dP "others_order" 70, dP "can_finish" 71, dP "finishing" 72, dP "_law_feed" 74, dP "_law_draw" 75, dP "_law_any" 76, dP "_law_names" 77, dP "_law_ups" 78]
def dfs2 : List He.DefD := [dP "_law_used" 79, dP "_law_in" 80, dP "_law_case" 81, dP "_law_shift" 82, dP "_law_has_place" 83, dP "_law_misfits" 84, dP "_law_scenes" 85, dP "_law_scene" 86, dP "_law_rounds" 87, dP "_law_drawn" 88, dP "_law_some_case" 89, dP "_law_held" 90, dP "_law_waits" 91, dP "_law_can_finish" 92, dP "_law_steps_right" 93, dP "_law_is_right" 94, dP "_law_by_hand" 95, dP "law" 96]
def dfs : List He.DefD := dfs0 ++ dfs1 ++ dfs2
def fcs0 : List He.Fa := [.glo "names_in", .glo "parents_by", .glo "rooms_by", .glo "ways_by", .glo "counts_by", .glo "uses_by", .glo "frees_by", .glo "entered_in", .glo "left_in", .glo "crossed_in", .glo "can_go", .glo "stand_by", .glo "is_integer", .glo "is_number", .glo "is_name", .glo "is_spot", .glo "is_pair", .glo "is_triple", .glo "is_folder", .glo "is_move", .glo "first_ringed", .glo "first_unparented", .glo "tree_fault", .glo "stand_fault", .glo "is_move_of", .glo "moves_fault", .glo "lot_fault", .glo "held_by", .glo "asked_fault", .glo "want"]
def fcs1 : List He.Fa := [.glo "want_tree", .glo "want_stand", .glo "want_lot", .glo "want_case", .glo "want_lots", .glo "counts_at", .glo "misfits_at", .glo "crossed_by", .glo "loose_in", .glo "arrows_by", .glo "turned_arrows", .glo "reached_by", .glo "outermost_of", .glo "greatest_by", .glo "greatest_in", .glo "has_ring_in", .glo "lot_less", .glo "is_let_in", .glo "calm_moves", .glo "first_let", .glo "order_by", .glo "want_asked", .glo "others_order", .glo "can_finish", .glo "finishing", .glo "_law_feed", .glo "_law_draw", .glo "_law_any", .glo "_law_names", .glo "_law_ups"]
def fcs2 : List He.Fa := [.glo "_law_used", .glo "_law_in", .glo "_law_case", .glo "_law_shift", .glo "_law_has_place", .glo "_law_misfits", .glo "_law_scenes", .glo "_law_scene", .glo "_law_rounds", .glo "_law_drawn", .glo "_law_some_case", .glo "_law_held", .glo "_law_waits", .glo "_law_can_finish", .glo "_law_steps_right", .glo "_law_is_right", .glo "_law_by_hand", .glo "law", .free "tuple", .free "list", .free "dict", .free "set", .free "sorted", .free "zip", .free "enumerate", .free "len", .free "range", .free "int", .free "str", .free "bool"]
def fcs3 : List He.Fa := [.free "isinstance", .free "all", .free "max", .free "repr", .str "LETTERS" "abcdefghijklmnopqrstuvwxyz", .int "MOST_LETTERS" 8, .str "ASK" "ask", .str "DONE" "done"]
def fcs : List He.Fa := fcs0 ++ fcs1 ++ fcs2 ++ fcs3
def loosN0 : List PySem.Str := ["names_in", "parents_by", "rooms_by", "ways_by", "counts_by", "uses_by", "frees_by", "entered_in", "left_in", "crossed_in", "can_go", "stand_by", "LETTERS", "MOST_LETTERS", "is_integer", "is_number", "is_name", "is_spot", "is_pair", "is_triple", "is_folder", "is_move", "first_ringed", "first_unparented", "tree_fault", "stand_fault", "is_move_of", "moves_fault", "lot_fault", "held_by"]
def loosN1 : List PySem.Str := ["asked_fault", "RoomError", "TreeError", "NotUsable", "want", "want_tree", "want_stand", "want_lot", "want_case", "want_lots", "counts_at", "misfits_at", "crossed_by", "loose_in", "arrows_by", "turned_arrows", "reached_by", "outermost_of", "greatest_by", "greatest_in", "has_ring_in", "lot_less", "is_let_in", "calm_moves", "first_let", "order_by", "ASK", "DONE", "want_asked", "others_order"]
def loosN2 : List PySem.Str := ["can_finish", "finishing", "_law_feed", "_law_draw", "_law_any", "_law_names", "_law_ups", "_law_used", "_law_in", "_law_case", "_law_shift", "_law_has_place", "_law_misfits", "_law_scenes", "_law_scene", "_law_rounds", "_law_drawn", "_law_some_case", "_law_held", "_law_waits", "_law_can_finish", "_law_steps_right", "_law_is_right", "_law_by_hand"]
def loosN : List PySem.Str := loosN0 ++ loosN1 ++ loosN2

abbrev lawP : PySem.W.OpenLaw := PySem.Challenge.rw_roomrings_k59_whole_finishing
abbrev lawR : PySem.W.OpenRow := PySem.W.OpenLaw.row lawP
/-- the default of has_ring_in is an empty tuple -/
def nilA (K : PySem.W.Frag) : Addr := He.dflAt ("has_ring_in", none) 0 K
def nilT (K : PySem.W.Frag) : Bool := match K.lookup (nilA K) with
  | some ⟨.type c, _, .seq its _, _⟩ => decide (c = "tuple") && decide (its.size = 0)
  | _ => false
theorem nilT_ok {K : PySem.W.Frag} (h : nilT K = true) (H : Hp) : SqT K H (nilA K) [] := by
  unfold nilT at h
  cases e : K.lookup (nilA K) with
  | none =>
    rw [e] at h
    cases h
  | some o =>
    obtain ⟨u1, u2, u3, u4⟩ := o
    rw [e] at h
    cases u1 with
    | type c =>
      cases u3 with
      | seq its n =>
        obtain ⟨h1, h2⟩ := Bool.and_eq_true_iff.mp (show (decide (c = "tuple") && decide (its.size = 0)) = true from h)
        have hz : its.size = 0 := of_decide_eq_true h2
        refine .inr ⟨_, its, n, e, congrArg Value.type (of_decide_eq_true h1), rfl, by rw [hz]; exact Nat.zero_le _, ?_⟩
        have hl : its.toList = [] := List.eq_nil_of_length_eq_zero (by rw [Array.length_toList]; exact hz)
        rw [hl]
        exact .nil
      | _ => cases h
    | _ => cases u3 <;> cases h
def seeN (K : PySem.W.Frag) : Bool × He.AlD := (nilT K, He.obsD fcs dfs K)
def fragN (g : Addr → Option Obj) : PySem.W.Frag := He.frG g (He.asD g 4)
def SaysN (K : PySem.W.Frag) : Prop := seeN K = (true, He.valD dfs)
def hkN : PySem.W.Hook where
  α := Bool × He.AlD
  obs := fun s => seeN (fragN s.heap.get?)
  val := fun _ => (true, He.valD dfs)
  says := fun _ hp => ∃ F : PySem.W.Frag, F.In hp ∧ SaysN F
  of := fun _ _ z => ⟨_, He.frG_in, z⟩
  keeps := fun _ _ _ ⟨F, inF, z⟩ kk => ⟨F, PySem.W.Frag.In.keeps inF kk, z⟩
def obN (s : PySem.W.SharedT) : Bool × He.AlD := seeN (fragN (HandSHeadRun.getT s))
theorem obN_eq (s : PySem.W.SharedT) : obN s = hkN.obs s.abs := by
  have e : HandSHeadRun.getT s = s.abs.heap.get? := funext (HandSHeadRun.getT_eq s)
  show seeN (fragN (HandSHeadRun.getT s)) = seeN (fragN s.abs.heap.get?)
  rw [e]
theorem runN (w : World) : HandSHeadRun.RunEq lawR (PySem.W.view lawR.prog [96]) hkN obN 4000 loosN w := by
  intro os
  kernel_rfl
end RW
end
section
set_option linter.all false
set_option maxRecDepth 100000
set_option autoImplicit false
set_option maxHeartbeats 1000000
/-! Walks over data: comprehensions and loops by what the source holds. -/
namespace RW
open PySem PySem.Spec PyProof.Rows L2
section
variable {K : PySem.W.Frag} {g : TG} {tt : TT} {te tk tv : TE} {vs : List Nat} {σ : L2.St} {H1 : Hp} {v : V} {α : Type} {ds : List α} {enc : α → PyData} {Q : Addr → Hp → Prop}
/-- the loop part of a list comprehension's reading -/
abbrev LcR (J : It) (g : TG) (tt : TT) (te : TE) (vs : List Nat) (σ : L2.St) (H1 : Hp) (Q : Addr → Hp → Prop) : Prop := ∀ D, H1 D = none → ∃ W : Nat → Nat → Hp → Prop, (∃ m, W 0 m (upd H1 D (.lst []))) ∧ ∀ i m H, W i m H →
  (J.stop i H ∧ Q D H) ∨ (J.go i H ∧ ∃ Nx : Hp → Prop, (∀ H', Nx H' → ∃ m', m' < m ∧ W (i + 1) m' H') ∧ ∀ x H', J.yld i H x H' → g x (wipe σ vs) H' fun σ2 H2 => wipe σ2 vs = wipe σ vs ∧ tt σ2 H2 fun b H3 =>
    if b = true then te σ2 H3 fun y H4 => ∃ acc, H4 D = some (.lst acc) ∧ acc.length < sizeLine ∧ Nx (upd H4 D (.lst (acc ++ [y]))) else Nx H3)
abbrev DcR (J : It) (g : TG) (tt : TT) (tk tv : TE) (vs : List Nat) (σ : L2.St) (H1 : Hp) (Q : Addr → Hp → Prop) : Prop := ∀ D, H1 D = none → ∃ W : Nat → Nat → Hp → Prop, (∃ m, W 0 m (upd H1 D (.dK []))) ∧ ∀ i m H, W i m H →
  (J.stop i H ∧ Q D H) ∨ (J.go i H ∧ ∃ Nx : Hp → Prop, (∀ H', Nx H' → ∃ m', m' < m ∧ W (i + 1) m' H') ∧ ∀ x H', J.yld i H x H' → g x (wipe σ vs) H' fun σ2 H2 => wipe σ2 vs = wipe σ vs ∧ tt σ2 H2 fun b H3 =>
    if b = true then tk σ2 H3 fun y H4 => tv σ2 H4 fun z H5 => ∃ kvs k, y = kV k ∧ H5 D = some (.dK kvs) ∧ kvs.length < sizeLine ∧ Nx (upd H5 D (.dK (putK kvs k z))) else Nx H3)
/-- one turn of a comprehension whose source is not changed: the item, the test, the element -/
abbrev LcT (g : TG) (tt : TT) (te : TE) (vs : List Nat) (σ : L2.St) (x : V) (H : Hp) (Qt : VK) (Qf : Hp → Prop) : Prop := g x (wipe σ vs) H fun σ2 H2 => wipe σ2 vs = wipe σ vs ∧ tt σ2 H2 fun b H3 => if b = true then te σ2 H3 Qt else Qf H3
abbrev DcT (g : TG) (tt : TT) (tk tv : TE) (vs : List Nat) (σ : L2.St) (x : V) (H : Hp) (Qt : V → V → Hp → Prop) (Qf : Hp → Prop) : Prop := g x (wipe σ vs) H fun σ2 H2 => wipe σ2 vs = wipe σ vs ∧ tt σ2 H2 fun b H3 => if b = true then tk σ2 H3 fun y H4 => tv σ2 H4 fun z H5 => Qt y z H5 else Qf H3
theorem get_enc {H : Hp} {xs : List V} (hA : ImA H xs (ds.map enc)) {i : Nat} {d : α} {x : V} (e : ds[i]? = some d) (ex : xs[i]? = some x) : Im H x (enc d) := by
  obtain ⟨y, h1, h2⟩ := hA.get (i := i) (d := enc d) (by rw [List.getElem?_map, e]; rfl)
  rw [ex] at h1
  cases h1
  exact h2
theorem lcT (h : Im H1 v (.tuple (ds.map enc))) (hz : ds.length ≤ 1000) (p : α → Bool) (f : α → PyData)
    (hs : ∀ d x H (Qt : VK) (Qf : Hp → Prop), d ∈ ds → Same H1 H → Im H x (enc d) → (p d = true → ∀ y H4, Same H H4 → Im H4 y (f d) → Qt y H4) → (p d = false → ∀ H3, Same H H3 → Qf H3) → LcT g tt te vs σ x H Qt Qf)
    (hd : ∀ D H acc, H1 D = none → Same H1 H → H D = some (.lst acc) → ImA H acc ((ds.filter p).map f) → Q D H) :
    ∃ a, v = .ref a ∧ (∃ xs, SqT K H1 a xs) ∧ LcR (Itt K a) g tt te vs σ H1 Q := by
  obtain ⟨a, xs, rfl, hT, hA⟩ := h.tinv
  refine ⟨a, rfl, ⟨xs, .inl hT⟩, fun D nD => ?_⟩
  refine lc_data walk_tup ds (by rw [hA.len, List.length_map]) hz nD (fun H s => .inl (hT.sm s)) p f (fun i H x H' _ _ y => by rw [y.1]; exact Same.refl _) ?_ (fun H acc s e i => hd D H acc nD s e i)
  rintro i d x H H' Qt Qf e s ⟨rfl, ex⟩ ht hf
  exact hs d x _ Qt Qf (List.mem_of_getElem? e) s (get_enc (hA.mono (.same s)) e ex) ht hf
theorem lcL {a : Addr} {xs : List V} (hL : H1 a = some (.lst xs)) (hA : ImA H1 xs (ds.map enc)) (hz : ds.length ≤ 1000) (p : α → Bool) (f : α → PyData)
    (hs : ∀ d x H (Qt : VK) (Qf : Hp → Prop), d ∈ ds → Same H1 H → Im H x (enc d) → (p d = true → ∀ y H4, Same H H4 → Im H4 y (f d) → Qt y H4) → (p d = false → ∀ H3, Same H H3 → Qf H3) → LcT g tt te vs σ x H Qt Qf)
    (hd : ∀ D H acc, H1 D = none → Same H1 H → H D = some (.lst acc) → ImA H acc ((ds.filter p).map f) → Q D H) :
    ∃ b, V.ref a = .ref b ∧ (∃ xs, SqL K H1 b xs) ∧ LcR (Itl K b) g tt te vs σ H1 Q := by
  refine ⟨a, rfl, ⟨xs, .inl (.inl hL)⟩, fun D nD => ?_⟩
  refine lc_data walk_list ds (by rw [hA.len, List.length_map]) hz nD (fun H s => .inl (.inl (s _ _ hL))) p f (fun i H x H' _ _ y => by rw [y.1]; exact Same.refl _) ?_ (fun H acc s e i => hd D H acc nD s e i)
  rintro i d x H H' Qt Qf e s ⟨rfl, ex⟩ ht hf
  exact hs d x _ Qt Qf (List.mem_of_getElem? e) s (get_enc (hA.mono (.same s)) e ex) ht hf
theorem dcT (h : Im H1 v (.tuple (ds.map enc))) (hz : ds.length ≤ 1000) (p : α → Bool) (kf : α → Str) (f : α → PyData) (hk : ((ds.filter p).map kf).Nodup)
    (hs : ∀ d x H (Qt : V → V → Hp → Prop) (Qf : Hp → Prop), d ∈ ds → Same H1 H → Im H x (enc d) → (p d = true → ∀ y H4, Same H H4 → Im H4 y (f d) → Qt (.str (kf d)) y H4) → (p d = false → ∀ H3, Same H H3 → Qf H3) → DcT g tt tk tv vs σ x H Qt Qf)
    (hd : ∀ D H, H1 D = none → Same H1 H → DL H D ((ds.filter p).map fun d => (kf d, f d)) → Q D H) :
    ∃ a, v = .ref a ∧ (∃ xs, SqT K H1 a xs) ∧ DcR (Itt K a) g tt tk tv vs σ H1 Q := by
  obtain ⟨a, xs, rfl, hT, hA⟩ := h.tinv
  refine ⟨a, rfl, ⟨xs, .inl hT⟩, fun D nD => ?_⟩
  refine dc_data walk_tup ds (by rw [hA.len, List.length_map]) hz nD (fun H s => .inl (hT.sm s)) p kf f hk (fun i H x H' _ _ y => by rw [y.1]; exact Same.refl _) ?_ (fun H s dl => hd D H nD s dl)
  rintro i d x H H' Qt Qf e s ⟨rfl, ex⟩ ht hf
  exact hs d x _ Qt Qf (List.mem_of_getElem? e) s (get_enc (hA.mono (.same s)) e ex) ht hf
/-- the loop part of a for's reading -/
abbrev ForR (J : It) (g : TG) (tb : TS) (E : L2.Ends) (σ : L2.St) (H : Hp) : Prop := ∃ W : Nat → Nat → L2.St → Hp → Prop, (∃ m, W 0 m σ H) ∧ ∀ i m σ H, W i m σ H →
  (J.stop i H ∧ E.nx σ H) ∨ (J.go i H ∧ ∃ N : L2.St → Hp → Prop, (∀ σ' H', N σ' H' → ∃ m', m' < m ∧ W (i + 1) m' σ' H') ∧ ∀ x H', J.yld i H x H' → g x σ H' fun σ2 H2 => tb { E with nx := N, ct := N, bk := E.nx } σ2 H2)
theorem forT {tb : TS} {E : L2.Ends} (h : Im H1 v (.tuple (ds.map enc))) (Pv : Nat → L2.St → Hp → Prop) (h0 : Pv 0 σ H1) (hk : ∀ i σ H, Pv i σ H → KT H1 H)
    (hs : ∀ i d x σ H, ds[i]? = some d → Pv i σ H → Im H x (enc d) → g x σ H fun σ2 H2 => tb { E with nx := Pv (i + 1), ct := Pv (i + 1), bk := E.nx } σ2 H2)
    (hd : ∀ σ H, Pv ds.length σ H → E.nx σ H) : ∃ a, v = .ref a ∧ (∃ xs, SqT K H1 a xs) ∧ ForR (Itt K a) g tb E σ H1 := by
  obtain ⟨a, xs, rfl, hT, hA⟩ := h.tinv
  have hl : xs.length = ds.length := by rw [hA.len, List.length_map]
  refine ⟨a, rfl, ⟨xs, .inl hT⟩, for_it walk_tup Pv h0 (fun i σ H _ p => .inl (hk i σ H p _ _ hT)) ?_ (by rw [hl]; exact hd)⟩
  rintro i x σ' H H' hi p ⟨rfl, ex⟩
  have e : ds[i]? = some (ds[i]'(by omega)) := List.getElem?_eq_getElem (by omega)
  exact hs i _ x σ' _ e p (get_enc (hA.mono (hk _ _ _ p)) e ex)
theorem forL {tb : TS} {E : L2.Ends} {a : Addr} {xs : List V} (hL : H1 a = some (.lst xs)) (hA : ImA H1 xs (ds.map enc)) (Pv : Nat → L2.St → Hp → Prop) (h0 : Pv 0 σ H1) (hk : ∀ i σ H, Pv i σ H → KT H1 H ∧ H a = some (.lst xs))
    (hs : ∀ i d x σ H, ds[i]? = some d → Pv i σ H → Im H x (enc d) → g x σ H fun σ2 H2 => tb { E with nx := Pv (i + 1), ct := Pv (i + 1), bk := E.nx } σ2 H2)
    (hd : ∀ σ H, Pv ds.length σ H → E.nx σ H) : ∃ b, V.ref a = .ref b ∧ (∃ xs, SqL K H1 b xs) ∧ ForR (Itl K b) g tb E σ H1 := by
  have hl : xs.length = ds.length := by rw [hA.len, List.length_map]
  refine ⟨a, rfl, ⟨xs, .inl (.inl hL)⟩, for_it walk_list Pv h0 (fun i σ H _ p => .inl (.inl (hk i σ H p).2)) ?_ (by rw [hl]; exact hd)⟩
  rintro i x σ' H H' hi p ⟨rfl, ex⟩
  have e : ds[i]? = some (ds[i]'(by omega)) := List.getElem?_eq_getElem (by omega)
  exact hs i _ x σ' _ e p (get_enc (hA.mono (hk _ _ _ p).1) e ex)
end
/-! ### small readings -/
section
variable {K : PySem.W.Frag} {H : Hp} {Q : VK}
/-- tuple(a new list) -/
theorem r_tuple {D : Addr} {acc : List V} {ds : List PyData} {R : List V → Addr → Prop} {R2 : List V → Addr → Prop} (e : H D = some (.lst acc)) (i : ImA H acc ds) (q : ∀ l, H l = none → Im (upd H l (.tup acc)) (.ref l) (.tuple ds) → R acc l) :
    ∃ p ys, [V.ref D] = [V.ref p] ∧ ((SqL K H p ys ∧ ∀ l, H l = none → R ys l) ∨ (SqT K H p ys ∧ R2 ys p)) :=
  ⟨D, acc, rfl, .inl ⟨.inl (.inl e), fun l nl => q l nl (.tup (.inl upd_same) (i.mono (.new nl)))⟩⟩
/-- list(a tuple) -/
theorem r_list {v : V} {ds : List PyData} {R : List V → Addr → Prop} (i : Im H v (.tuple ds)) (q : ∀ l xs, H l = none → ImA (upd H l (.lst xs)) xs ds → R xs l) :
    ∃ p ys, [v] = [V.ref p] ∧ (SqL K H p ys ∨ SqT K H p ys) ∧ ∀ l, H l = none → R ys l := by
  obtain ⟨a, xs, rfl, hT, hA⟩ := i.tinv
  exact ⟨a, xs, rfl, .inr (.inl hT), fun l nl => q l xs nl (hA.mono (.new nl))⟩
/-- a display of a tuple -/
theorem r_tup {xs : List V} {ds : List PyData} {R : Addr → Prop} (i : ImA H xs ds) (hl : ds.length ≤ 1000) (q : ∀ p, H p = none → Im (upd H p (.tup xs)) (.ref p) (.tuple ds) → R p) : xs.length ≤ sizeLine ∧ ∀ p, H p = none → R p :=
  ⟨by rw [i.len]; exact Nat.le_of_lt (small1000 hl), fun p np => q p np (.tup (.inl upd_same) (i.mono (.new np)))⟩
/-- d[k] -/
theorem r_get {p : Addr} {gd : Gd} {k : Str} {d : PyData} {R : V → Prop} (h : DL H p gd) (e : gd.lookup k = some d) (q : ∀ v, Im H v d → R v) : ∃ a v, V.ref p = .ref a ∧ DGet H a (.str k) (some v) ∧ R v := by
  obtain ⟨kvs, hp, i⟩ := h
  obtain ⟨v, e1, iv⟩ := i.get e
  refine ⟨p, v, rfl, ?_, q v iv⟩
  have z := DGet.k (k := (.inr k : Key)) hp
  rw [e1] at z
  exact z
/-- k in d -/
theorem r_in {p : Addr} {gd : Gd} {k : Str} {R : Option V → Prop} (h : DL H p gd) (q1 : gd.lookup k = none → R none) (q2 : ∀ d v, gd.lookup k = some d → Im H v d → R (some v)) : ∃ a o, V.ref p = .ref a ∧ DGet H a (.str k) o ∧ R o := by
  obtain ⟨kvs, hp, i⟩ := h
  refine ⟨p, _, rfl, DGet.k (k := (.inr k : Key)) hp, ?_⟩
  cases e : gd.lookup k with
  | none =>
    rw [i.miss e]
    exact q1 e
  | some d =>
    obtain ⟨v, e1, iv⟩ := i.get e
    rw [e1]
    exact q2 d v e iv
/-- d[k] = v -/
theorem r_put {p : Addr} {gd : Gd} {k : Str} {v : V} {d : PyData} {R : Hp → Prop} (h : DL H p gd) (hl : gd.length ≤ 1000) (iv : Im H v d) (q : ∀ kvs kvs', H p = some (.dK kvs) → DL (upd H p (.dK kvs')) p (gput gd k d) → R (upd H p (.dK kvs'))) :
    ∃ a H4, V.ref p = .ref a ∧ DPut H a (.str k) v H4 ∧ R H4 := by
  obtain ⟨kvs, hp, i⟩ := h
  refine ⟨p, _, rfl, DPut.k (k := (.inr k : Key)) hp (by rw [i.len]; exact small1000 hl), ?_⟩
  exact q kvs _ hp ⟨_, upd_same, (i.put iv).mono (.dk hp)⟩
theorem DL.kt {H' : Hp} {p : Addr} {gd : Gd} (h : DL H p gd) (k : KT H H') (e : H' p = H p) : DL H' p gd := by
  obtain ⟨kvs, hp, i⟩ := h
  exact ⟨kvs, e.trans hp, i.mono k⟩
theorem DL.other {p q : Addr} {o : HO} {gd : Gd} (h : DL H p gd) (ne : p ≠ q) (k : KT H (upd H q o)) : DL (upd H q o) p gd := h.kt k (upd_ne ne)
theorem gput_keys (g : Gd) (k : Str) (d : PyData) : (gput g k d).map (·.1) = if k ∈ g.map (·.1) then g.map (·.1) else g.map (·.1) ++ [k] := by
  unfold gput
  have e : ((g.any fun e => decide (e.1 = k)) = true) ↔ k ∈ g.map (·.1) := by
    rw [List.any_eq_true, List.mem_map]
    constructor
    · rintro ⟨x, h1, h2⟩
      exact ⟨x, h1, of_decide_eq_true h2⟩
    · rintro ⟨x, h1, h2⟩
      exact ⟨x, h1, decide_eq_true h2⟩
  by_cases h : k ∈ g.map (·.1)
  · rw [if_pos (e.mpr h), if_pos h, List.map_map]
    refine List.map_congr_left fun x _ => ?_
    show (if x.1 = k then (x.1, d) else x).1 = x.1
    split <;> rfl
  · rw [if_neg fun z => h (e.mp z), if_neg h, List.map_append]
    rfl
theorem nodup_len {l m : List Str} (hn : l.Nodup) (h : ∀ x, x ∈ l → x ∈ m) : l.length ≤ m.length := by
  induction l generalizing m with
  | nil => exact Nat.zero_le _
  | cons a l ih =>
    rw [List.nodup_cons] at hn
    have hm : a ∈ m := h a List.mem_cons_self
    have := ih (m := m.erase a) hn.2 fun x hx => by
      have ne : x ≠ a := fun e => hn.1 (by rw [← e]; exact hx)
      exact (List.mem_erase_of_ne ne).mpr (h x (List.mem_cons_of_mem _ hx))
    rw [List.length_erase_of_mem hm] at this
    have := List.length_pos_of_mem hm
    rw [List.length_cons]
    omega
theorem look_isSome {g : Gd} {k : Str} : (g.lookup k).isSome = true ↔ k ∈ g.map (·.1) := by
  induction g with
  | nil => simp
  | cons e g ih =>
    rw [List.lookup_cons, List.map_cons, List.mem_cons]
    by_cases q : k = e.1
    · have : (k == e.1) = true := by simpa using q
      rw [this]
      simp [q]
    · have : (k == e.1) = false := by simpa using q
      rw [this, ih]
      simp [q]
theorem look_map {α : Type} (l : List α) (kf : α → Str) (f : α → PyData) (hn : (l.map kf).Nodup) {a : α} (h : a ∈ l) : (l.map fun d => (kf d, f d)).lookup (kf a) = some (f a) := by
  induction l with
  | nil => cases h
  | cons b l ih =>
    rw [List.map_cons, List.nodup_cons] at hn
    rw [List.map_cons, List.lookup_cons]
    rcases List.mem_cons.mp h with rfl | h
    · simp
    · have ne : kf a ≠ kf b := fun e => hn.1 (by rw [← e]; exact List.mem_map_of_mem h)
      have : (kf a == kf b) = false := by simpa using ne
      rw [this]
      exact ih hn.2 h
theorem look_none {α : Type} (l : List α) (kf : α → Str) (f : α → PyData) {k : Str} (h : k ∉ l.map kf) : (l.map fun d => (kf d, f d)).lookup k = none := by
  induction l with
  | nil => rfl
  | cons b l ih =>
    rw [List.map_cons, List.mem_cons, not_or] at h
    rw [List.map_cons, List.lookup_cons]
    have : (k == kf b) = false := by simpa using h.1
    rw [this]
    exact ih h.2
end
end RW
end
section
set_option linter.all false
set_option autoImplicit false
/-! Trees: the ways from a spot outwards. -/
namespace RW
open PySem
def names (T : List Row) : List Str := T.map (·.1)
def par (T : List Row) (x : Str) : Str := match T.find? fun r => decide (r.1 = x) with
  | some r => r.2.1
  | none => Str.empty
def room (T : List Row) (x : Str) : Int := match T.find? fun r => decide (r.1 = x) with
  | some r => r.2.2
  | none => 0
def waysN (T : List Row) : Nat → Str → List Str
  | 0, _ => []
  | k + 1, x => if x ∈ names T then x :: waysN T k (par T x) else []
def ways (T : List Row) (x : Str) : List Str := waysN T T.length x
abbrev E' : Str := ("" : Str)
/-- what a tree of the law is -/
structure TreeOk (T : List Row) : Prop where
  ne : T ≠ []
  len : T.length ≤ 20
  nd : (names T).Nodup
  noE : E' ∉ names T
  par : ∀ r, r ∈ T → r.2.1 = E' ∨ r.2.1 ∈ names T
  rk : ∃ rk : Str → Nat, ∀ r, r ∈ T → 1 ≤ rk r.1 ∧ rk r.1 ≤ T.length ∧ (r.2.1 = E' ∨ rk r.2.1 < rk r.1)
theorem find_row {T : List Row} (nd : (names T).Nodup) {r : Row} (h : r ∈ T) : T.find? (fun q => decide (q.1 = r.1)) = some r := by
  induction T with
  | nil => cases h
  | cons q T ih =>
    have nd' : q.1 ∉ names T ∧ (names T).Nodup := List.nodup_cons.mp nd
    rw [List.find?_cons]
    rcases List.mem_cons.mp h with rfl | h
    · simp
    · have ne : q.1 ≠ r.1 := fun e => nd'.1 (by rw [e]; exact List.mem_map_of_mem h)
      rw [decide_eq_false ne]
      exact ih nd'.2 h
theorem par_row {T : List Row} (nd : (names T).Nodup) {r : Row} (h : r ∈ T) : par T r.1 = r.2.1 := by
  unfold par
  rw [find_row nd h]
theorem room_row {T : List Row} (nd : (names T).Nodup) {r : Row} (h : r ∈ T) : room T r.1 = r.2.2 := by
  unfold room
  rw [find_row nd h]
theorem names_row {T : List Row} {x : Str} (h : x ∈ names T) : ∃ r, r ∈ T ∧ r.1 = x := List.mem_map.mp h
namespace TreeOk
variable {T : List Row}
theorem rk' (h : TreeOk T) : ∃ rk : Str → Nat, ∀ x, x ∈ names T → 1 ≤ rk x ∧ rk x ≤ T.length ∧ (RW.par T x = E' ∨ rk (RW.par T x) < rk x) := by
  obtain ⟨rk, q⟩ := h.rk
  refine ⟨rk, fun x hx => ?_⟩
  obtain ⟨r, hr, rfl⟩ := names_row hx
  rw [par_row h.nd hr]
  exact q r hr
theorem pin (h : TreeOk T) {x : Str} (hx : x ∈ names T) : RW.par T x = E' ∨ RW.par T x ∈ names T := by
  obtain ⟨r, hr, rfl⟩ := names_row hx
  rw [par_row h.nd hr]
  exact h.par r hr
theorem waysN_out {x : Str} (hx : x ∉ names T) : ∀ k, waysN T k x = []
  | 0 => rfl
  | k + 1 => by
    unfold waysN
    rw [if_neg hx]
theorem waysN_stable (h : TreeOk T) {rk : Str → Nat} (q : ∀ x, x ∈ names T → 1 ≤ rk x ∧ rk x ≤ T.length ∧ (RW.par T x = E' ∨ rk (RW.par T x) < rk x)) : ∀ (n k j : Nat) (x : Str), rk x ≤ n → rk x ≤ k → rk x ≤ j → waysN T k x = waysN T j x
  | n, k, j, x, hn, hk, hj => by
    by_cases hx : x ∈ names T
    · obtain ⟨h1, h2, h3⟩ := q x hx
      match n, k, j, hn, hk, hj with
      | 0, k, j, hn, hk, hj => omega
      | n + 1, 0, j, hn, hk, hj => omega
      | n + 1, k + 1, 0, hn, hk, hj => omega
      | n + 1, k + 1, j + 1, hn, hk, hj =>
        unfold waysN
        rw [if_pos hx, if_pos hx]
        congr 1
        rcases h3 with e | h3
        · have no : RW.par T x ∉ names T := by
            rw [e]
            exact h.noE
          rw [waysN_out no, waysN_out no]
        · exact waysN_stable h q n k j (RW.par T x) (by omega) (by omega) (by omega)
    · rw [waysN_out hx, waysN_out hx]
theorem ways_cons (h : TreeOk T) {x : Str} (hx : x ∈ names T) : ways T x = x :: ways T (RW.par T x) := by
  obtain ⟨rk, q⟩ := h.rk'
  obtain ⟨h1, h2, h3⟩ := q x hx
  unfold ways
  have e : T.length = (T.length - 1) + 1 := by omega
  conv => lhs; rw [e]
  rw [waysN, if_pos hx]
  congr 1
  rcases h3 with z | h3
  · have no : RW.par T x ∉ names T := by
      rw [z]
      exact h.noE
    rw [waysN_out no, waysN_out no]
  · exact waysN_stable h q _ _ _ (RW.par T x) (Nat.le_refl _) (by omega) (by omega)
theorem ways_out {x : Str} (hx : x ∉ names T) : ways T x = [] := waysN_out hx _
theorem ways_E (h : TreeOk T) : ways T E' = [] := ways_out h.noE
theorem ways_len (h : TreeOk T) (x : Str) : (ways T x).length ≤ T.length := by
  have : ∀ k x, (waysN T k x).length ≤ k := by
    intro k
    induction k with
    | zero => intro x; exact Nat.le_refl _
    | succ k ih =>
      intro x
      unfold waysN
      split
      · rw [List.length_cons]
        have := ih (RW.par T x)
        omega
      · exact Nat.zero_le _
  exact this _ _
/-- induction along the ways -/
theorem ind (h : TreeOk T) {M : Str → Prop} (out : ∀ x, x ∉ names T → M x) (step : ∀ x, x ∈ names T → M (RW.par T x) → M x) (x : Str) : M x := by
  have key : ∀ (n : Nat) (x : Str), (ways T x).length ≤ n → M x := by
    intro n
    induction n with
    | zero =>
      intro x hn
      by_cases hx : x ∈ names T
      · rw [h.ways_cons hx, List.length_cons] at hn
        omega
      · exact out x hx
    | succ n ih =>
      intro x hn
      by_cases hx : x ∈ names T
      · rw [h.ways_cons hx, List.length_cons] at hn
        exact step x hx (ih _ (by omega))
      · exact out x hx
  exact key _ x (Nat.le_refl _)
theorem ways_in (h : TreeOk T) {x f : Str} (hf : f ∈ ways T x) : f ∈ names T := by
  revert hf
  refine h.ind (M := fun x => f ∈ ways T x → f ∈ names T) (fun x hx hf => ?_) (fun x hx ih hf => ?_) x
  · rw [ways_out hx] at hf
    cases hf
  · rw [h.ways_cons hx] at hf
    rcases List.mem_cons.mp hf with rfl | hf
    · exact hx
    · exact ih hf
theorem ways_dom {x f : Str} (hf : f ∈ ways T x) : x ∈ names T := Classical.byContradiction fun hx => by
  rw [ways_out hx] at hf
  cases hf
theorem ways_self (h : TreeOk T) {x : Str} (hx : x ∈ names T) : x ∈ ways T x := by
  rw [h.ways_cons hx]
  exact List.mem_cons_self
/-- the ways of one around are a tail of the ways -/
theorem ways_suffix (h : TreeOk T) {x f : Str} (hf : f ∈ ways T x) : ∃ l, ways T x = l ++ ways T f := by
  revert hf
  refine h.ind (M := fun x => f ∈ ways T x → ∃ l, ways T x = l ++ ways T f) (fun x hx hf => ?_) (fun x hx ih hf => ?_) x
  · rw [ways_out hx] at hf
    cases hf
  · rw [h.ways_cons hx] at hf ⊢
    rcases List.mem_cons.mp hf with rfl | hf
    · exact ⟨[], by rw [h.ways_cons hx]; rfl⟩
    · obtain ⟨l, e⟩ := ih hf
      exact ⟨x :: l, by rw [e]; rfl⟩
theorem ways_tr (h : TreeOk T) {x f g : Str} (hf : f ∈ ways T x) (hg : g ∈ ways T f) : g ∈ ways T x := by
  obtain ⟨l, e⟩ := h.ways_suffix hf
  rw [e]
  exact List.mem_append_right _ hg
theorem ways_lt (h : TreeOk T) {f g : Str} (hg : g ∈ ways T f) (ne : g ≠ f) : (ways T g).length < (ways T f).length := by
  obtain ⟨l, e⟩ := h.ways_suffix hg
  cases l with
  | nil =>
    exfalso
    rw [List.nil_append] at e
    have hf : f ∈ names T := ways_dom hg
    have hg' : g ∈ names T := h.ways_in hg
    rw [h.ways_cons hf, h.ways_cons hg'] at e
    injection e with e1 _
    exact ne e1.symm
  | cons a l =>
    rw [e, List.cons_append, List.length_cons, List.length_append]
    omega
theorem ways_ch (h : TreeOk T) {x f g : Str} (hf : f ∈ ways T x) (hg : g ∈ ways T x) : f ∈ ways T g ∨ g ∈ ways T f := by
  revert hf hg
  refine h.ind (M := fun x => f ∈ ways T x → g ∈ ways T x → f ∈ ways T g ∨ g ∈ ways T f) (fun x hx hf _ => ?_) (fun x hx ih hf hg => ?_) x
  · rw [ways_out hx] at hf
    cases hf
  · have hf0 := hf
    have hg0 := hg
    rw [h.ways_cons hx] at hf hg
    rcases List.mem_cons.mp hf with rfl | hf
    · exact .inr hg0
    · rcases List.mem_cons.mp hg with rfl | hg
      · exact .inl hf0
      · exact ih hf hg
theorem ways_nd (h : TreeOk T) (x : Str) : (ways T x).Nodup := by
  refine h.ind (M := fun x => (ways T x).Nodup) (fun x hx => ?_) (fun x hx ih => ?_) x
  · rw [ways_out hx]
    exact List.nodup_nil
  · rw [h.ways_cons hx, List.nodup_cons]
    refine ⟨fun hm => ?_, ih⟩
    obtain ⟨l, e⟩ := h.ways_suffix hm
    have c := congrArg List.length e
    rw [h.ways_cons hx, List.length_append, List.length_cons] at c
    omega
end TreeOk
end RW
end
section
set_option linter.all false
set_option maxRecDepth 100000
set_option autoImplicit false
set_option maxHeartbeats 1000000
/-! Walks over pairs (zip of tuples), over the entries and keys of dicts that are locked for good; dict(pairs). -/
namespace RW
open PySem PySem.Spec PyProof.Rows L2
/-- e's dict, locked from here on -/
def tFrz (td : TE) : TE := fun σ H Q => td σ H fun x H1 => ∃ d kvs, x = V.ref d ∧ H1 d = some (.dK kvs) ∧ ∀ o, Q x (upd H1 d (.frz o (.dK kvs)))
theorem pe_frz {X : Cx} {e : Expr} {td : TE} (h : PE X e td) : PE X e (tFrz td) := by
  refine ⟨fun pins s σ H Q I hq => ?_⟩
  refine thn (h.run pins s σ H _ I hq) fun u s1 ⟨x, H1, I1, rx, d, kvs, ex, hd, q⟩ => ?_
  obtain ⟨od, I2⟩ := I1.lock hd True.intro
  exact ⟨x, _, I2, rx, q od⟩
/-- all but p stands as it did -/
def SameX (p : Addr) (H H' : Hp) : Prop := ∀ b o, b ≠ p → H b = some o → H' b = some o
theorem KT.sx {p : Addr} {H H' : Hp} {u : HO} (h : H p = some u) (hu : NoT u) (s : SameX p H H') : KT H H' := fun a xs e => by
  have ne : a ≠ p := L2.Rd.ne e h hu
  rcases e with e | ⟨o, e⟩
  · exact .inl (s a _ ne e)
  · exact .inr ⟨o, s a _ ne e⟩
theorem SameX.old {p : Addr} {H0 H H' : Hp} (s : Same H0 H) (x : SameX p H H') (n : H0 p = none) : Same H0 H' := fun b o e => x b o (ne_of_none e n) (s b o e)
theorem SameX.dl {p q : Addr} {H H' : Hp} {gd gp : Gd} (x : SameX p H H') (hp : DL H p gp) (h : DL H q gd) (ne : q ≠ p) : DL H' q gd := by
  obtain ⟨kvp, ep, _⟩ := hp
  obtain ⟨kvs, e, i⟩ := h
  exact ⟨kvs, x _ _ ne e, i.mono (.sx ep (.dk _) x)⟩
theorem walk_zipT {K : PySem.W.Frag} {a b : Addr} {xs ys : List V} {n : Nat} (hn : n = min xs.length ys.length) : Walk (RZ.ItzT K a b) n (fun H => SqT K H a xs ∧ SqT K H b ys) (YPair (fun i => xs[i]?) (fun i => ys[i]?)) := by
  refine ⟨fun i _ hi q => ?_, fun _ q => ⟨xs, ys, q.1, q.2, by omega⟩, fun i H v H' hi q y => ?_⟩
  · have l1 : i < xs.length := by omega
    have l2 : i < ys.length := by omega
    exact ⟨xs, ys, xs[i], ys[i], q.1, q.2, List.getElem?_eq_getElem l1, List.getElem?_eq_getElem l2⟩
  · obtain ⟨T, x, z, e1, e2, e3, e4, e5⟩ := y
    exact ⟨T, x, z, e1, e2, e3, e4 xs q.1, e5 ys q.2⟩
section
variable {K : PySem.W.Frag} {g : TG} {tt : TT} {te tk tv : TE} {vs : List Nat} {σ : L2.St} {H1 : Hp} {v1 v2 : V} {α β : Type} {as : List α} {bs : List β} {ea : α → PyData} {eb : β → PyData} {Q : Addr → Hp → Prop}
theorem zip_im {H : Hp} {xs ys : List V} (hA : ImA H xs (as.map ea)) (hB : ImA H ys (bs.map eb)) {i : Nat} {d : α × β} {T : Addr} {x y : V} (nT : H T = none) (e : (as.zip bs)[i]? = some d) (ex : xs[i]? = some x) (ey : ys[i]? = some y) :
    Im (upd H T (.tup [x, y])) (.ref T) (.tuple [ea d.1, eb d.2]) := by
  rw [List.getElem?_zip_eq_some] at e
  refine .tup (.inl upd_same) (.cons ?_ (.cons ?_ .nil))
  · exact (get_enc hA e.1 ex).mono (.new nT)
  · exact (get_enc hB e.2 ey).mono (.new nT)
theorem dcZ (h1 : Im H1 v1 (.tuple (as.map ea))) (h2 : Im H1 v2 (.tuple (bs.map eb))) (hl : as.length = bs.length) (hz : as.length ≤ 1000) (kf : α × β → Str) (f : α × β → PyData) (hk : ((as.zip bs).map kf).Nodup)
    (hs : ∀ d x H (Qt : V → V → Hp → Prop) (Qf : Hp → Prop), d ∈ as.zip bs → KT H1 H → Im H x (.tuple [ea d.1, eb d.2]) → (∀ y H4, Same H H4 → Im H4 y (f d) → Qt (.str (kf d)) y H4) → DcT g tt tk tv vs σ x H Qt Qf)
    (hd : ∀ D H, H1 D = none → Same H1 H → DL H D ((as.zip bs).map fun d => (kf d, f d)) → Q D H) {Z : Addr → Addr → Prop} :
    ∃ a b xs ys, [v1, v2] = [V.ref a, V.ref b] ∧ ((SqL K H1 a xs ∧ SqL K H1 b ys ∧ Z a b) ∨ (SqT K H1 a xs ∧ SqT K H1 b ys ∧ DcR (RZ.ItzT K a b) g tt tk tv vs σ H1 Q)) := by
  obtain ⟨a, xs, rfl, hT1, hA⟩ := h1.tinv
  obtain ⟨b, ys, rfl, hT2, hB⟩ := h2.tinv
  have l1 : xs.length = as.length := by rw [hA.len, List.length_map]
  have l2 : ys.length = bs.length := by rw [hB.len, List.length_map]
  refine ⟨a, b, xs, ys, rfl, .inr ⟨.inl hT1, .inl hT2, fun D nD => ?_⟩⟩
  refine dc_data (walk_zipT rfl) (as.zip bs) (by rw [List.length_zip, l1, l2]) (by rw [List.length_zip]; omega) nD (fun H s => ⟨.inl (hT1.sm s), .inl (hT2.sm s)⟩) (fun _ => true) kf f (by rw [filter_true]; exact hk) (fun i H x H' _ _ y => ?_) ?_ (fun H s dl => ?_)
  · obtain ⟨T, x1, y1, _, nT, e, _⟩ := y
    rw [e]
    exact Same.new nT
  · rintro i d x H H' Qt Qf e s ⟨T, x1, y1, rfl, nT, rfl, ex, ey⟩ ht _
    exact hs d _ _ Qt Qf (List.mem_of_getElem? e) ((KT.same s).trans (.new nT)) (zip_im (hA.mono (.same s)) (hB.mono (.same s)) nT e ex ey) (ht rfl)
  · rw [filter_true] at dl
    exact hd D H nD s dl
theorem forZ {tb : TS} {E : L2.Ends} (h1 : Im H1 v1 (.tuple (as.map ea))) (h2 : Im H1 v2 (.tuple (bs.map eb))) (hl : as.length = bs.length) (Pv : Nat → L2.St → Hp → Prop) (h0 : Pv 0 σ H1) (hk : ∀ i σ H, Pv i σ H → KT H1 H)
    (hs : ∀ i d T x y σ H, (as.zip bs)[i]? = some d → Pv i σ H → H T = none → Im (upd H T (.tup [x, y])) (.ref T) (.tuple [ea d.1, eb d.2]) → g (.ref T) σ (upd H T (.tup [x, y])) fun σ2 H2 => tb { E with nx := Pv (i + 1), ct := Pv (i + 1), bk := E.nx } σ2 H2)
    (hd : ∀ σ H, Pv as.length σ H → E.nx σ H) {Z : Addr → Addr → Prop} :
    ∃ a b xs ys, [v1, v2] = [V.ref a, V.ref b] ∧ ((SqL K H1 a xs ∧ SqL K H1 b ys ∧ Z a b) ∨ (SqT K H1 a xs ∧ SqT K H1 b ys ∧ ForR (RZ.ItzT K a b) g tb E σ H1)) := by
  obtain ⟨a, xs, rfl, hT1, hA⟩ := h1.tinv
  obtain ⟨b, ys, rfl, hT2, hB⟩ := h2.tinv
  have l1 : xs.length = as.length := by rw [hA.len, List.length_map]
  have l2 : ys.length = bs.length := by rw [hB.len, List.length_map]
  have ln : as.length = min xs.length ys.length := by omega
  refine ⟨a, b, xs, ys, rfl, .inr ⟨.inl hT1, .inl hT2, for_it (walk_zipT ln) Pv h0 (fun i σ H _ p => ⟨.inl (hk i σ H p _ _ hT1), .inl (hk i σ H p _ _ hT2)⟩) ?_ hd⟩⟩
  rintro i x σ' H H' hi p ⟨T, x1, y1, rfl, nT, rfl, ex, ey⟩
  have lz : i < (as.zip bs).length := by rw [List.length_zip]; omega
  have e : (as.zip bs)[i]? = some ((as.zip bs)[i]'lz) := List.getElem?_eq_getElem lz
  exact hs i _ T x1 y1 σ' H e p nT (zip_im (hA.mono (hk _ _ _ p)) (hB.mono (hk _ _ _ p)) nT e ex ey)
end
section
variable {K : PySem.W.Frag} {g : TG} {tt : TT} {te tk tv : TE} {vs : List Nat} {σ : L2.St} {H1 : Hp} {p : Addr} {gd : Gd} {Q : Addr → Hp → Prop}
theorem KvI.at {H : Hp} : ∀ {kvs : List (Key × V)} {gd : Gd} {i : Nat} {d : Str × PyData}, KvI H kvs gd → gd[i]? = some d → ∃ v, kvs[i]? = some (.inr d.1, v) ∧ Im H v d.2
  | _, _, i, d, .nil, e => by cases e
  | a :: l, _, 0, d, .cons h1 h2, e => by
    cases e
    refine ⟨a.2, ?_, h1.2⟩
    show some a = some (.inr _, a.2)
    rw [← h1.1]
  | _ :: l, _ :: g, i + 1, d, .cons h1 h2, e => KvI.at (kvs := l) (gd := g) (i := i) h2 e
/-- {k: v for a, b in d.items()} of a dict that nobody changes any more -/
theorem dcI (h : DL H1 p gd) (hz : gd.length ≤ 1000) (pr : Str × PyData → Bool) (kf : Str × PyData → Str) (f : Str × PyData → PyData) (hk : ((gd.filter pr).map kf).Nodup)
    (hs : ∀ d x H (Qt : V → V → Hp → Prop) (Qf : Hp → Prop), d ∈ gd → SameX p H1 H → Im H x (.tuple [.str d.1, d.2]) → (pr d = true → ∀ y H4, Same H H4 → Im H4 y (f d) → Qt (.str (kf d)) y H4) → (pr d = false → ∀ H3, Same H H3 → Qf H3) → DcT g tt tk tv vs σ x H Qt Qf)
    (hd : ∀ D H, H1 D = none → SameX p H1 H → DL H D ((gd.filter pr).map fun d => (kf d, f d)) → Q D H) :
    ∃ d kvs, V.ref p = .ref d ∧ H1 d = some (.dK kvs) ∧ ∀ o, ∃ d' o' kvs', V.ref p = .ref d' ∧ (upd H1 d (.frz o (.dK kvs))) d' = some (.frz o' (.dK kvs')) ∧ DcR (Iti d' o' kvs') g tt tk tv vs σ (upd H1 d (.frz o (.dK kvs))) Q := by
  obtain ⟨kvs, hp, i⟩ := h
  refine ⟨p, kvs, rfl, hp, fun o => ⟨p, o, kvs, rfl, upd_same, fun D nD => ?_⟩⟩
  have kt : KT H1 (upd H1 p (.frz o (.dK kvs))) := .dk hp
  have sx : ∀ H, Same (upd H1 p (.frz o (.dK kvs))) H → SameX p H1 H := fun H s b u ne e => s b u (by rw [upd_ne ne]; exact e)
  have nD1 : H1 D = none := by
    have ne : D ≠ p := fun e => by
      rw [e, upd_same] at nD
      cases nD
    rw [upd_ne ne] at nD
    exact nD
  refine dc_data walk_items gd i.len hz nD (fun H s => s _ _ upd_same) pr kf f hk (fun j H x H' _ _ y => ?_) ?_ (fun H s dl => hd D H nD1 (sx H s) dl)
  · obtain ⟨T, x1, y1, _, nT, e, _⟩ := y
    rw [e]
    exact Same.new nT
  · rintro j d x H H' Qt Qf e s ⟨T, x1, y1, rfl, nT, rfl, ex, ey⟩ ht hf
    obtain ⟨v, ev, iv⟩ := i.at e
    dsimp only at ex ey
    rw [ev] at ex ey
    cases ex
    cases ey
    refine hs d _ _ Qt Qf (List.mem_of_getElem? e) (fun b u ne eb => Same.new nT b u (sx H s b u ne eb)) ?_ ht hf
    exact .tup (.inl upd_same) (.cons (.str _) (.cons ((iv.mono (kt.trans (.same s))).mono (.new nT)) .nil))
/-- for a, b in d.items(): likewise -/
theorem forI {tb : TS} {E : L2.Ends} (h : DL H1 p gd) (Pv : Nat → L2.St → Hp → Prop) (h0 : ∀ HF, SameX p H1 HF → KT H1 HF → Pv 0 σ HF) (hk : ∀ i σ H, Pv i σ H → KT H1 H)
    (hs : ∀ (L : Hp → Prop) (_ : ∀ H H', Same H H' → L H → L H') (_ : ∀ H q o', q ≠ p → L H → L (upd H q o')) i d T x y σ H, gd[i]? = some d → L H → Pv i σ H → H T = none → T ≠ p → Im (upd H T (.tup [x, y])) (.ref T) (.tuple [.str d.1, d.2]) →
      g (.ref T) σ (upd H T (.tup [x, y])) fun σ2 H2 => tb { E with nx := fun σ' H' => L H' ∧ Pv (i + 1) σ' H', ct := fun σ' H' => L H' ∧ Pv (i + 1) σ' H', bk := E.nx } σ2 H2)
    (hd : ∀ σ H, Pv gd.length σ H → E.nx σ H) :
    ∃ d kvs, V.ref p = .ref d ∧ H1 d = some (.dK kvs) ∧ ∀ o, ∃ d' o' kvs', V.ref p = .ref d' ∧ (upd H1 d (.frz o (.dK kvs))) d' = some (.frz o' (.dK kvs')) ∧ ForR (Iti d' o' kvs') g tb E σ (upd H1 d (.frz o (.dK kvs))) := by
  obtain ⟨kvs, hp, i⟩ := h
  refine ⟨p, kvs, rfl, hp, fun o => ⟨p, o, kvs, rfl, upd_same, ?_⟩⟩
  have hlen := i.len
  let L : Hp → Prop := fun H => H p = some (.frz o (.dK kvs))
  refine for_it walk_items (fun j σ H => L H ∧ Pv j σ H) ⟨upd_same, h0 _ (fun b u ne e => by rw [upd_ne ne]; exact e) (.dk hp)⟩ (fun j σ H _ q => q.1) ?_ (fun σ H q => hd σ H (by rw [← hlen]; exact q.2))
  rintro j x σ' H H' hj ⟨lH, pv⟩ ⟨T, x1, y1, rfl, nT, rfl, ex, ey⟩
  have hj' : j < gd.length := by omega
  have e : gd[j]? = some gd[j] := List.getElem?_eq_getElem hj'
  obtain ⟨v, ev, iv⟩ := i.at e
  dsimp only at ex ey
  rw [ev] at ex ey
  cases ex
  cases ey
  have nTp : T ≠ p := fun z => by
    rw [z, lH] at nT
    cases nT
  exact hs L (fun H H' s l => s _ _ l) (fun H q o' ne l => (upd_ne ne.symm).trans l) j _ T _ _ σ' H e lH pv nT nTp (.tup (.inl upd_same) (.cons (.str _) (.cons ((iv.mono (hk _ _ _ pv)).mono (.new nT)) .nil)))
/-- {k: v for k in d} of such a dict -/
theorem dcK (h : DL H1 p gd) (hz : gd.length ≤ 1000) (pr : Str × PyData → Bool) (kf : Str × PyData → Str) (f : Str × PyData → PyData) (hk : ((gd.filter pr).map kf).Nodup)
    (hs : ∀ d H (Qt : V → V → Hp → Prop) (Qf : Hp → Prop), d ∈ gd → SameX p H1 H → (∀ v, Im H v d.2 → DGet H p (.str d.1) (some v) → pr d = true → ∀ y H4, Same H H4 → Im H4 y (f d) → Qt (.str (kf d)) y H4) → (pr d = false → ∀ H3, Same H H3 → Qf H3) → (∃ kvs o, H p = some (.frz o (.dK kvs)) ∧ KvI H kvs gd) → DcT g tt tk tv vs σ (.str d.1) H Qt Qf)
    (hd : ∀ D H, H1 D = none → SameX p H1 H → DL H D ((gd.filter pr).map fun d => (kf d, f d)) → Q D H) {Z : Addr → List (Key × V) → Obj → Addr → Obj → Prop} :
    ∃ d kvs, V.ref p = .ref d ∧ H1 d = some (.dK kvs) ∧ ∀ o, ∃ d' o', V.ref p = .ref d' ∧ ((∃ kvs', (upd H1 d (.frz o (.dK kvs))) d' = some (.frz o' (.dK kvs')) ∧ DcR (Itk d' o' kvs') g tt tk tv vs σ (upd H1 d (.frz o (.dK kvs))) Q) ∨ Z d kvs o d' o') := by
  obtain ⟨kvs, hp, i⟩ := h
  refine ⟨p, kvs, rfl, hp, fun o => ⟨p, o, rfl, .inl ⟨kvs, upd_same, fun D nD => ?_⟩⟩⟩
  have kt : KT H1 (upd H1 p (.frz o (.dK kvs))) := .dk hp
  have sx : ∀ H, Same (upd H1 p (.frz o (.dK kvs))) H → SameX p H1 H := fun H s b u ne e => s b u (by rw [upd_ne ne]; exact e)
  have nD1 : H1 D = none := by
    have ne : D ≠ p := fun e => by
      rw [e, upd_same] at nD
      cases nD
    rw [upd_ne ne] at nD
    exact nD
  refine dc_data walk_keys gd i.len hz nD (fun H s => s _ _ upd_same) pr kf f hk (fun j H x H' _ _ y => by rw [y.1]; exact Same.refl _) ?_ (fun H s dl => hd D H nD1 (sx H s) dl)
  rintro j d x H H' Qt Qf e s ⟨rfl, k, v, ex, rfl⟩ ht hf
  obtain ⟨v', ev, iv⟩ := i.at e
  rw [ev] at ex
  cases ex
  exact hs d _ Qt Qf (List.mem_of_getElem? e) (sx _ s) (fun _ _ _ hp => ht hp) hf ⟨kvs, o, s _ _ upd_same, i.mono (kt.trans (.same s))⟩
/-- dict(a list of pairs) -/
theorem mergeK_new : ∀ (kvs acc : List (Key × V)), ((acc ++ kvs).map (·.1)).Nodup → mergeK acc kvs = acc ++ kvs
  | [], acc, _ => by
    rw [List.append_nil]
    rfl
  | kv :: kvs, acc, h => by
    have hk : valV acc kv.1 = none := by
      cases q : valV acc kv.1 with
      | none => rfl
      | some v =>
        exfalso
        rw [List.map_append, List.nodup_append] at h
        have : (acc.any fun e => decide (e.1 = kv.1)) = true := by
          rw [valV_any, q]
          rfl
        obtain ⟨e, he, hd⟩ := List.any_eq_true.mp this
        exact h.2.2 _ (List.mem_map_of_mem he) _ List.mem_cons_self (of_decide_eq_true hd)
    show mergeK (putK acc kv.1 kv.2) kvs = _
    rw [putK_new _ hk, mergeK_new kvs _ (by rw [List.append_assoc]; exact h), List.append_assoc]
    rfl
theorem r_dictP {D : Addr} {acc : List V} {R : List (Key × V) → Addr → Prop} (e : H1 D = some (.lst acc)) (i : ImA H1 acc (gd.map fun e => .tuple [.str e.1, e.2])) (hn : (gd.map (·.1)).Nodup)
    (q : ∀ kvs p, H1 p = none → DL (upd H1 p (.dK (mergeK [] kvs))) p gd → R kvs p) :
    ∃ (a : Addr) (ps : List Addr) (kvs : List (Key × V)), [V.ref D] = [V.ref a] ∧ SqL K H1 a (ps.map V.ref) ∧ Paired (fun p kv => SqT K H1 p [kV kv.1, kv.2]) ps kvs ∧ ∀ p, H1 p = none → R kvs p := by
  have gen : ∀ {gd : Gd} {acc : List V}, ImA H1 acc (gd.map fun e => .tuple [.str e.1, e.2]) → ∃ (ps : List Addr) (kvs : List (Key × V)), acc = ps.map V.ref ∧ Paired (fun p kv => SqT K H1 p [kV kv.1, kv.2]) ps kvs ∧ KvI H1 kvs gd := by
    intro gd
    induction gd with
    | nil =>
      intro acc i
      cases i
      exact ⟨[], [], rfl, .nil, .nil⟩
    | cons e gd ih =>
      intro acc i
      cases i with
      | cons i1 i2 =>
        obtain ⟨ps, kvs, rfl, h2, h3⟩ := ih i2
        obtain ⟨a, xs, rfl, ha, hA⟩ := i1.tinv
        cases hA with
        | cons j1 j2 =>
          cases j2 with
          | cons j2 j3 =>
            cases j3
            rename_i v1 v2
            have e1 := j1.sinv
            subst e1
            exact ⟨a :: ps, (.inr e.1, v2) :: kvs, rfl, .cons (.inl ha) h2, .cons ⟨rfl, j2⟩ h3⟩
  obtain ⟨ps, kvs, rfl, h2, h3⟩ := gen i
  refine ⟨D, ps, kvs, rfl, .inl (.inl e), h2, fun p np => q kvs p np ⟨_, upd_same, ?_⟩⟩
  have hk : (kvs.map (·.1)).Nodup := by
    have e2 : kvs.map (·.1) = (gd.map (·.1)).map (Sum.inr : Str → Key) := by
      clear q hn e i h2
      unfold KvI at h3
      induction h3 with
      | nil => rfl
      | cons h _ ih => rw [List.map_cons, List.map_cons, List.map_cons, ih, h.1]
    rw [e2]
    exact List.pairwise_map.mpr (List.Pairwise.imp (fun hne z => hne (Sum.inr.inj z)) hn)
  rw [mergeK_new kvs [] hk]
  exact h3.mono (.new np)
end
end RW
end
section
set_option linter.all false
set_option maxRecDepth 100000
set_option autoImplicit false
set_option maxHeartbeats 4000000
/-! set(xs) of a list or a tuple, whatever its items are: the update loop and the call, over what one item's adding does. -/
namespace SetG
open PySem PySem.Spec PyProof.Rows L2
section
variable {prog : Program} {w : World} {A : Around} {R : Result → Shared → Prop} {I : Addr} {fp wr : List Addr} {G : Array GenState → Array GenState → Prop} {n : Nat} {Pw : Nat → Value → Prop} {St : Nat → Shared → Prop}
/-- C i h: the set that is made holds the first i items -/
theorem loop_go (W : WalksS prog w A.in1 I fp wr G n Pw St) (S : Addr) (hSf : S ∉ fp) (hwr : ∀ b, b ∈ wr → ¬ Nat.le b S) (item : Nat → Value → Prop) (hval : ∀ i v, Pw i v → item i v) (C : Nat → Heap → Prop)
    (stay : ∀ i h h', (∀ b o, Nat.le b S → h.get? b = some o → h'.get? b = some o) → C i h → C i h')
    (step : ∀ (i : Nat) (v : Value) (s' : Shared) (E' : Value → Shared → Prop) (Q' : Bool → Shared → Prop), i < n → item i v → C i s'.heap →
      (∀ b h' tk, Heap.SameBut S s'.heap h' → s'.toks ≤ tk → C (i + 1) h' → Q' b { s' with heap := h', toks := tk }) → wpAny (model prog w) A.in1 (setAdd S v) Q' E' s') :
    ∀ (k i : Nat) (s : Shared), n - i = k → i ≤ n → St i s → C i s.heap → (∀ s', Moved (S :: wr) G s s' → C n s'.heap → R (.ok (.ret .none)) s') →
      codeAny (model prog w) A (.builtin "set.update.loop" ⟨[.ref S, .ref I], []⟩) R s := by
  have hsub : ∀ b, b ∈ wr → b ∈ S :: wr := fun b hb => List.mem_cons_of_mem _ hb
  have moved : ∀ {i : Nat} {s s' : Shared}, Moved wr G s s' → C i s.heap → C i s'.heap := fun {i s s'} m c => stay i _ _ (fun b o hb e => m.heap b o (fun z => hwr b z hb) e) c
  intro k
  induction k with
  | zero =>
    intro i s hk hi hst hC hR
    obtain rfl : i = n := by omega
    refine codeAny_builtin PyProof.Rows.F.entry_set_update_loop ?_
    rw [Around.under_plainId PyProof.Rows.F.plain_set_update_loop _]
    show wpAny _ A.in1 (pyNext (.ref I) >>= _) _ _ s
    refine wpAny_bind (W.done s _ _ hst fun s' hm => ?_)
    show wpAny _ A.in1 (ret Value.none) _ _ s'
    exact wpAny_pure (hR s' (hm.mono hsub) (moved hm hC))
  | succ k ih =>
    intro i s hk hi hst hC hR
    have hlt : i < n := by omega
    refine codeAny_builtin PyProof.Rows.F.entry_set_update_loop ?_
    rw [Around.under_plainId PyProof.Rows.F.plain_set_update_loop _]
    show wpAny _ A.in1 (pyNext (.ref I) >>= _) _ _ s
    refine wpAny_bind (W.item i s _ _ hlt hst fun v s' hP hst' hm => ?_)
    have hC' := moved hm hC
    show wpAny _ A.in1 (holding [v] (setAdd S v) >>= _) _ _ s'
    refine wpAny_bind (wpAny_holding (step i v s' _ _ hlt (hval i v hP) hC' fun b h' tk hsb htk hC2 => ?_))
    refine wpAny_pure ⟨plainId_quiet PyProof.Rows.F.plain_set_update_loop _, ih (i + 1) _ (by omega) hlt (W.frame _ s' _ _ hst' htk fun b hb o e => ?_) hC2 fun s'' hm'' hC'' => ?_⟩
    · exact (hsb.2 b (fun z => hSf (by rw [← z]; exact hb))).trans e
    · refine hR s'' (Moved.trans W.gtrans ((hm.mono hsub).then_heap htk fun b o hb e => ?_) hm'') hC''
      exact (hsb.2 b (fun z => hb (by rw [z]; exact List.mem_cons_self))).trans e
end
/-- the object that set() makes -/
abbrev fresh (led : Bool) : Obj := { cls := .type "set", dict := none, data := .set #[] 0 (.fresh 0 0 led) }
section
variable {prog : Program} {w : World} {A : Around} {E : Value → Shared → Prop} {s : Shared}
theorem call_setL {l : Addr} {items : Array Value} {Q : Value → Shared → Prop} (hh : A.handled = none) (hl : s.heap.IsList l items) (C : Nat → Heap → Prop)
    (stay : ∀ i h h', (∀ b o, Nat.le b s.heap.objs.size → h.get? b = some o → h'.get? b = some o) → C i h → C i h')
    (start : ∀ h, h.get? s.heap.objs.size = some (fresh (!w.params.followText "set-order")) → (∀ b o, s.heap.get? b = some o → h.get? b = some o) → C 0 h)
    (step : ∀ (A' : Around) (i : Nat) (v : Value) (s' : Shared) (E' : Value → Shared → Prop) (Q' : Bool → Shared → Prop), A'.units = A.units + 3 → i < items.size → items[i]? = some v → C i s'.heap →
      (∀ b h' tk, Heap.SameBut s.heap.objs.size s'.heap h' → s'.toks ≤ tk → C (i + 1) h' → Q' b { s' with heap := h', toks := tk }) → wpAny (model prog w) A' (setAdd s.heap.objs.size v) Q' E' s')
    (h : ∀ (h' : Heap) (tk : Nat), C items.size h' → (∀ b o, s.heap.get? b = some o → h'.get? b = some o) → Q (.ref s.heap.objs.size) { s with heap := h', toks := tk }) :
    wpAny (model prog w) A (call (.type "set") [.ref l]) Q E s := by
  obtain ⟨c, tl, hmro⟩ := PySem.F.called_set.mro
  have hmade := PySem.F.called_set.made
  have hsub := PySem.F.called_set.sub
  have lS : l < s.heap.objs.size := by
    obtain ⟨o, ho, _⟩ := hl
    exact Heap.lt_size ho
  generalize hS : s.heap.objs.size = S at lS stay start step h
  generalize hF : fresh (!w.params.followText "set-order") = F at start
  refine wpAny_call (codeAny_of_tree ?_)
  show wpAny _ _ (callAny (.type "set") _) _ _ _
  refine wpAny_pure ⟨Code.quiet_builtin _ (by decide +kernel), codeAny_builtin PySem.F.entry_type_call ?_⟩
  rw [Around.under_plain (weight_type_call_type "set" [.ref l] []) rfl]
  have f1 := PySem.F.called_set.notType
  have f2 := PySem.F.called_set.canCreate
  have f3 := PySem.F.typeCall_set_1 (.ref l)
  repeat (any_goals (first | assumption | wp_step))

  refine codeAny_mono (code_set_led1 (.ref l) (E := E) (Q₁ := fun obj s₁ => obj = .ref S ∧ s₁ = { s with heap := s.heap.push F }) ⟨by rw [hS], by cases hF; rfl⟩) fun r s₁ hr => ?_
  cases r with
  | error e => exact hr
  | ok fl =>
    cases fl with
    | ret obj =>
      obtain ⟨rfl, rfl⟩ := hr
      have gS : (s.heap.push F).get? S = some F := by
        rw [← hS]
        exact Heap.get?_push_size _ (by cases hF; rfl)
      have tS : Shared.TypeIs { s with heap := s.heap.push F } (.ref S) "set" := ⟨_, gS, by cases hF; rfl⟩
      have f4 := PySem.F.called_set.init.lookup
      have f5 := PySem.F.called_set.init.bind (.ref S)
      repeat (any_goals (first | assumption | wp_step))

      refine codeAny_mono (codeAny_call_builtin (R := wants (fun r s₂ => r = .none ∧ ∃ h' tk, s₂ = { s with heap := h', toks := tk } ∧ C items.size h' ∧ (∀ b o, s.heap.get? b = some o → h'.get? b = some o)) E) PySem.F.called_set.init.plain PySem.F.entry_set_init (check_set_init_1 tS ?_)) fun r₂ s₂ hr₂ => ?_
      · obtain ⟨ol, hol, hcl, nl, hdl⟩ := hl
        obtain ⟨ocls, odict, odata, oslots⟩ := ol
        simp only at hcl hdl
        subst hcl; subst hdl
        have hol' : (s.heap.push F).get? l = some { cls := .type "list", dict := odict, data := .seq items nl, slots := oslots } := Heap.get?_push_of_some _ hol
        have f6 := PySem.F.sub_list_set
        have f7 := PySem.F.sub_list_frozenset
        have f8 : (Value.type "list" == Value.type "dict") = false := by decide
        have hl1 : (s.heap.push F).IsList l items := ⟨_, hol', rfl, nl, rfl⟩
        have zI : (s.heap.push F).objs.size = S + 1 := by rw [Heap.size_push, hS]
        have neI : l ≠ (s.heap.push F).objs.size := by
          rw [zI]
          exact Nat.ne_of_lt (Nat.lt_succ_of_lt lS)
        have nfp : S ∉ [(s.heap.push F).objs.size, l] := by
          rw [zI]
          simp only [List.mem_cons, List.not_mem_nil, or_false, not_or]
          exact ⟨Nat.ne_of_lt (Nat.lt_succ_self _), Nat.ne_of_gt lS⟩
        subst hF
        unfold Builtin.«set.__init__» noKeywords Builtin.Frozenset.updateFrom
        generalize hPI : pyIter = PI
        wp_walk
        subst hPI

        refine wpAny_pyIter_list hl1 ?_
        refine wpAny_bind (wpAny_runValue ?_)
        have hh3 : A.in1.in1.in1.handled = none := by simp [hh]
        refine loop_go ((Walks.list hh3 _ l neI items).toS) S nfp (fun b hb z => ?nle) (fun i v => items[i]? = some v) (fun i v hv => hv) (fun i h' => C i h' ∧ ∀ b o, s.heap.get? b = some o → h'.get? b = some o) (fun i h1 h2 k c => ⟨stay i h1 h2 k c.1, fun b o e => ?old⟩)
          (fun i v s' E' Q' hi hv c k => step _ i v s' E' Q' rfl hi hv c.1 fun b h' tk sb ht c' => k b h' tk sb ht ⟨c', fun b o e => ?old2⟩)
          (items.size - 0) 0 _ (by omega) (Nat.zero_le _) ⟨⟨_, Heap.get?_push_size _ rfl, rfl, rfl⟩, (hl1.push _)⟩ ?c0 ?fin
        case nle =>
          rw [List.mem_singleton] at hb
          rw [hb, zI] at z
          exact absurd z (Nat.not_succ_le_self S)
        case old =>
          have hb : b < s.heap.objs.size := Heap.lt_size e
          exact k b o (by rw [hS] at hb; exact Nat.le_of_lt hb) (c.2 b o e)
        case old2 =>
          have hb : b < s.heap.objs.size := Heap.lt_size e
          rw [hS] at hb
          exact (sb.2 b (Nat.ne_of_lt hb)).trans (c.2 b o e)
        case c0 =>
          exact ⟨start _ (Heap.get?_push_of_some _ gS) fun b o e => Heap.get?_push_of_some _ (Heap.get?_push_of_some _ e), fun b o e => Heap.get?_push_of_some _ (Heap.get?_push_of_some _ e)⟩
        case fin =>
          intro s' hm c
          obtain ⟨h', g2, d', tk', os'⟩ := s'
          have eg : g2 = s.gens := hm.gens
          have ed : d' = s.drawn := hm.drawn
          have eo : os' = s.os := hm.os
          subst eg ed eo
          show wpAny _ _ _ _ _ _
          refine wpAny_pure ?_
          show wpAny _ _ (ret Value.none) _ _ _
          exact wpAny_pure ⟨rfl, h', tk', rfl, c.1, c.2⟩
      · cases r₂ with
        | error e => exact hr₂
        | ok fl₂ =>
          cases fl₂ with
          | ret r =>
            obtain ⟨rfl, h', tk, rfl, c, old⟩ := hr₂
            repeat (any_goals (first | assumption | wp_step))
            exact h _ _ c old
          | _ => exact hr₂.elim
    | _ => exact hr.elim

theorem call_setT {l : Addr} {items : Array Value} {Q : Value → Shared → Prop} (hh : A.handled = none) (hl : s.heap.IsTuple l items) (C : Nat → Heap → Prop)
    (stay : ∀ i h h', (∀ b o, Nat.le b s.heap.objs.size → h.get? b = some o → h'.get? b = some o) → C i h → C i h')
    (start : ∀ h, h.get? s.heap.objs.size = some (fresh (!w.params.followText "set-order")) → (∀ b o, s.heap.get? b = some o → h.get? b = some o) → C 0 h)
    (step : ∀ (A' : Around) (i : Nat) (v : Value) (s' : Shared) (E' : Value → Shared → Prop) (Q' : Bool → Shared → Prop), A'.units = A.units + 3 → i < items.size → items[i]? = some v → C i s'.heap →
      (∀ b h' tk, Heap.SameBut s.heap.objs.size s'.heap h' → s'.toks ≤ tk → C (i + 1) h' → Q' b { s' with heap := h', toks := tk }) → wpAny (model prog w) A' (setAdd s.heap.objs.size v) Q' E' s')
    (h : ∀ (h' : Heap) (tk : Nat), C items.size h' → (∀ b o, s.heap.get? b = some o → h'.get? b = some o) → Q (.ref s.heap.objs.size) { s with heap := h', toks := tk }) :
    wpAny (model prog w) A (call (.type "set") [.ref l]) Q E s := by
  obtain ⟨c, tl, hmro⟩ := PySem.F.called_set.mro
  have hmade := PySem.F.called_set.made
  have hsub := PySem.F.called_set.sub
  have lS : l < s.heap.objs.size := by
    obtain ⟨o, ho, _⟩ := hl
    exact Heap.lt_size ho
  generalize hS : s.heap.objs.size = S at lS stay start step h
  generalize hF : fresh (!w.params.followText "set-order") = F at start
  refine wpAny_call (codeAny_of_tree ?_)
  show wpAny _ _ (callAny (.type "set") _) _ _ _
  refine wpAny_pure ⟨Code.quiet_builtin _ (by decide +kernel), codeAny_builtin PySem.F.entry_type_call ?_⟩
  rw [Around.under_plain (weight_type_call_type "set" [.ref l] []) rfl]
  have f1 := PySem.F.called_set.notType
  have f2 := PySem.F.called_set.canCreate
  have f3 := PySem.F.typeCall_set_1 (.ref l)
  repeat (any_goals (first | assumption | wp_step))

  refine codeAny_mono (code_set_led1 (.ref l) (E := E) (Q₁ := fun obj s₁ => obj = .ref S ∧ s₁ = { s with heap := s.heap.push F }) ⟨by rw [hS], by cases hF; rfl⟩) fun r s₁ hr => ?_
  cases r with
  | error e => exact hr
  | ok fl =>
    cases fl with
    | ret obj =>
      obtain ⟨rfl, rfl⟩ := hr
      have gS : (s.heap.push F).get? S = some F := by
        rw [← hS]
        exact Heap.get?_push_size _ (by cases hF; rfl)
      have tS : Shared.TypeIs { s with heap := s.heap.push F } (.ref S) "set" := ⟨_, gS, by cases hF; rfl⟩
      have f4 := PySem.F.called_set.init.lookup
      have f5 := PySem.F.called_set.init.bind (.ref S)
      repeat (any_goals (first | assumption | wp_step))

      refine codeAny_mono (codeAny_call_builtin (R := wants (fun r s₂ => r = .none ∧ ∃ h' tk, s₂ = { s with heap := h', toks := tk } ∧ C items.size h' ∧ (∀ b o, s.heap.get? b = some o → h'.get? b = some o)) E) PySem.F.called_set.init.plain PySem.F.entry_set_init (check_set_init_1 tS ?_)) fun r₂ s₂ hr₂ => ?_
      · obtain ⟨ol, hol, hcl, nl, hdl⟩ := hl
        obtain ⟨ocls, odict, odata, oslots⟩ := ol
        simp only at hcl hdl
        subst hcl; subst hdl
        have hol' : (s.heap.push F).get? l = some { cls := .type "tuple", dict := odict, data := .seq items nl, slots := oslots } := Heap.get?_push_of_some _ hol
        have f6 := PySem.F.sub_tuple_set
        have f7 := PySem.F.sub_tuple_frozenset
        have f8 : (Value.type "tuple" == Value.type "dict") = false := by decide
        have hl1 : (s.heap.push F).IsTuple l items := ⟨_, hol', rfl, nl, rfl⟩
        have zI : (s.heap.push F).objs.size = S + 1 := by rw [Heap.size_push, hS]
        have neI : l ≠ (s.heap.push F).objs.size := by
          rw [zI]
          exact Nat.ne_of_lt (Nat.lt_succ_of_lt lS)
        have nfp : S ∉ [(s.heap.push F).objs.size, l] := by
          rw [zI]
          simp only [List.mem_cons, List.not_mem_nil, or_false, not_or]
          exact ⟨Nat.ne_of_lt (Nat.lt_succ_self _), Nat.ne_of_gt lS⟩
        subst hF
        unfold Builtin.«set.__init__» noKeywords Builtin.Frozenset.updateFrom
        generalize hPI : pyIter = PI
        wp_walk
        subst hPI

        refine wpAny_pyIter_tuple hl1 ?_
        refine wpAny_bind (wpAny_runValue ?_)
        have hh3 : A.in1.in1.in1.handled = none := by simp [hh]
        refine loop_go ((Walks.tuple hh3 _ l neI items).toS) S nfp (fun b hb z => ?nle) (fun i v => items[i]? = some v) (fun i v hv => hv) (fun i h' => C i h' ∧ ∀ b o, s.heap.get? b = some o → h'.get? b = some o) (fun i h1 h2 k c => ⟨stay i h1 h2 k c.1, fun b o e => ?old⟩)
          (fun i v s' E' Q' hi hv c k => step _ i v s' E' Q' rfl hi hv c.1 fun b h' tk sb ht c' => k b h' tk sb ht ⟨c', fun b o e => ?old2⟩)
          (items.size - 0) 0 _ (by omega) (Nat.zero_le _) ⟨⟨_, Heap.get?_push_size _ rfl, rfl, rfl⟩, (hl1.push _)⟩ ?c0 ?fin
        case nle =>
          rw [List.mem_singleton] at hb
          rw [hb, zI] at z
          exact absurd z (Nat.not_succ_le_self S)
        case old =>
          have hb : b < s.heap.objs.size := Heap.lt_size e
          exact k b o (by rw [hS] at hb; exact Nat.le_of_lt hb) (c.2 b o e)
        case old2 =>
          have hb : b < s.heap.objs.size := Heap.lt_size e
          rw [hS] at hb
          exact (sb.2 b (Nat.ne_of_lt hb)).trans (c.2 b o e)
        case c0 =>
          exact ⟨start _ (Heap.get?_push_of_some _ gS) fun b o e => Heap.get?_push_of_some _ (Heap.get?_push_of_some _ e), fun b o e => Heap.get?_push_of_some _ (Heap.get?_push_of_some _ e)⟩
        case fin =>
          intro s' hm c
          obtain ⟨h', g2, d', tk', os'⟩ := s'
          have eg : g2 = s.gens := hm.gens
          have ed : d' = s.drawn := hm.drawn
          have eo : os' = s.os := hm.os
          subst eg ed eo
          show wpAny _ _ _ _ _ _
          refine wpAny_pure ?_
          show wpAny _ _ (ret Value.none) _ _ _
          exact wpAny_pure ⟨rfl, h', tk', rfl, c.1, c.2⟩
      · cases r₂ with
        | error e => exact hr₂
        | ok fl₂ =>
          cases fl₂ with
          | ret r =>
            obtain ⟨rfl, h', tk, rfl, c, old⟩ := hr₂
            repeat (any_goals (first | assumption | wp_step))
            exact h _ _ c old
          | _ => exact hr₂.elim
    | _ => exact hr.elim
end
end SetG
end
section
set_option linter.all false
set_option maxRecDepth 100000
set_option autoImplicit false
set_option maxHeartbeats 4000000
/-! Sets of texts: what stands at the set, and one text's adding. -/
namespace SetG
open PySem PySem.Spec PyProof.Rows L2
def keyS (e : Int × Value) : Str := match e.2 with
  | .str x _ => x
  | _ => Str.empty
def GoodS (w : World) (e : Int × Value) : Prop := ∃ x tk, e.2 = Value.str x tk ∧ e.1 = hashStr w x
/-- the texts ks stand in the set at a -/
def SetRS (w : World) (h : Heap) (a : Addr) (ks : List Str) : Prop :=
  ∃ o es ep t, h.get? a = some o ∧ o.ExactSet ∧ o.data = .set es ep t ∧ (∀ e, e ∈ es.toList → GoodS w e) ∧ es.toList.map keyS = ks ∧ ks.Nodup ∧ es.size < scanBound ∧ t.fits es.size = true ∧ Ris t.place.toList ∧ (w.params.followText "set-order" = true ∨ t.led = true)
section
variable {P : Program} {w : World} {A : Around} {E : Value → Shared → Prop} {s : Shared} {a : Addr} {ks : List Str}
theorem goodS_elems {l : List (Int × Value)} (g : ∀ e, e ∈ l → GoodS w e) : ElemsOf (PySem.strKind P w) l := fun e he => by
  obtain ⟨x, tk, h1, h2⟩ := g e he
  exact ⟨⟨x, by rw [h1]; exact strKind_is _ _ _ _, h2⟩, by rw [h1] <;> rfl⟩
theorem goodS_is {e : Int × Value} (g : GoodS w e) (x : Str) : (PySem.strKind P w).is x e.2 = true ↔ keyS e = x := by
  obtain ⟨y, tk, h1, _⟩ := g
  unfold keyS
  rw [h1]
  constructor
  · intro h
    exact (PySem.strKind P w).inj (.str y tk) y x (strKind_is _ _ _ _) h
  · intro h
    rw [← h]
    exact strKind_is _ _ _ _
theorem setRS_fresh {h : Heap} (ho : h.get? a = some { cls := .type "set", dict := none, data := .set #[] 0 (.fresh 0 0 (!w.params.followText "set-order")) }) : SetRS w h a [] := by
  refine ⟨_, #[], 0, _, ho, ⟨rfl, rfl, rfl⟩, rfl, fun e he => (by simp at he), rfl, List.nodup_nil, (by decide), (by rfl), List.Pairwise.nil, ?_⟩
  show _ ∨ (!w.params.followText "set-order") = true
  cases w.params.followText "set-order"
  · exact .inr rfl
  · exact .inl rfl
/-- what is stored behind a new text, the table laid anew or not -/
theorem storeS {g : Bool → Sem Unit} (hg : ∀ (b : Bool) (s₁ : Shared) (Q' : Unit → Shared → Prop), Q' () s₁ → wpAny (model P w) A (g b) Q' E s₁)
    {o : Obj} {es es1 : Array (Int × Value)} {ep : Nat} {t t2 : SetTable} (ho : s.heap.get? a = some o) (hex : o.ExactSet) (hd : o.data = .set es ep t)
    (g1 : ∀ e, e ∈ es1.toList → GoodS w e) (nd1 : (es1.toList.map keyS).Nodup) (hb1 : es1.size < scanBound) (hf2 : t2.fits es1.size = true) (hr : Ris t2.place.toList) (hl : w.params.followText "set-order" = true ∨ t2.led = true) {wasDummy : Bool} {R : Option Bool → Shared → Prop}
    (hR : ∀ h' ks', Heap.SameBut a s.heap h' → SetRS w h' a ks' → ks'.Perm (es1.toList.map keyS) → R (some true) { s with heap := h' }) :
    wpAny (model P w) A (do
        storeSet a es1 t2
        if (!wasDummy && t2.tooFull) = true then do
            g (relayAll t2 es1 (SetTable.grown es1.size)).2.2
            storeSet a (relayAll t2 es1 (SetTable.grown es1.size)).1 (relayAll t2 es1 (SetTable.grown es1.size)).2.1
            pure (some true)
          else pure (some true)) R E s := by
  have at1 := store_at (es' := es1) (t' := t2) ho hd
  have but1 := Heap.SameBut.update s.heap a (Obj.putSet es1 t2)
  refine wpAny_bind (wpAny_storeSet_of ho hd ?_ (fits_of_scanBound hb1))
  split
  · have pm := relayAll_perm t2 es1 (SetTable.grown es1.size)
    have hf3 := relayAll_fits t2 es1 (SetTable.grown es1.size)
    have hr3 := relayAll_ris t2 es1 (SetTable.grown es1.size)
    have hl3 := relayAll_led t2 es1 (SetTable.grown es1.size)
    generalize relayAll t2 es1 (SetTable.grown es1.size) = Z at pm hf3 hr3 hl3 ⊢
    obtain ⟨es2, t3, gave⟩ := Z
    dsimp only at pm hf3 hr3 hl3 ⊢
    have pk := pm.map keyS
    have hb2 : es2.size < scanBound := by
      have e := pm.length_eq
      rw [Array.length_toList, Array.length_toList] at e
      omega
    refine wpAny_bind (hg _ _ _ (wpAny_bind (wpAny_storeSet_of at1 rfl ?_ (fits_of_scanBound hb2))))
    refine wpAny_pure (hR _ _ (but1.trans (Heap.SameBut.update _ a _)) ⟨_, es2, _, t3, store_at (es' := es2) (t' := t3) at1 rfl, hex, rfl, fun e he => g1 e (pm.mem_iff.mp he), rfl, pk.nodup_iff.mpr nd1, hb2, hf3, hr3, ?_⟩ pk)
    exact hl.imp id fun z => by rw [hl3]; exact z
  · exact wpAny_pure (hR _ _ but1 ⟨_, es1, _, t2, at1, hex, rfl, g1, rfl, nd1, hb1, hf2, hr, hl⟩ (.refl _))
theorem addS {x : Str} {tk : Tok} {Q : Bool → Shared → Prop} (R : SetRS w s.heap a ks) (few : ks.length + 1 < scanBound)
    (hQ : ∀ b h' ks', Heap.SameBut a s.heap h' → SetRS w h' a ks' → (∀ y, y ∈ ks' ↔ y = x ∨ y ∈ ks) → ks'.length ≤ ks.length + 1 → Q b { s with heap := h', toks := s.toks + 1 }) :
    wpAny (model P w) A (setAdd a (.str x tk)) Q E s := by
  unfold setAdd
  refine wpAny_holding (wpAny_bind ((PySem.strKind P w).pyHash (k := x) (strKind_is _ _ _ _) ?_))
  obtain ⟨o, es, ep, t, ho, hex, hd, g, em, nd, hb, hf, hr, hl⟩ := R
  have hkey : (PySem.strKind P w).is x (.str x tk) = true := strKind_is _ _ _ _
  have hsc : (Value.str x tk).scannable = true := rfl
  have hel : ElemsOf (PySem.strKind P w) es.toList := goodS_elems g
  have hlen : es.size = ks.length := by
    rw [← em, List.length_map, Array.length_toList]
  generalize hs1 : ({ s with toks := s.toks + 1 } : Shared) = s1
  have hh1 : s1.heap = s.heap := by rw [← hs1]
  have ho1 : s1.heap.get? a = some o := by rw [hh1]; exact ho
  have fin : ∀ b h' ks', Heap.SameBut a s1.heap h' → SetRS w h' a ks' → (∀ y, y ∈ ks' ↔ y = x ∨ y ∈ ks) → ks'.length ≤ ks.length + 1 → Q b { s1 with heap := h' } := fun b h' ks' sb r m l => by
    rw [hh1] at sb
    rw [← hs1]
    exact hQ b h' ks' sb r m l
  unfold setAddHashed setAddHashedIn
  refine wpAny_holding (wpAny_bind (wpAny_setState_of ho1 hd hf ?_))
  dsimp only
  rw [byScan_of hsc hb hel]
  simp only [↓reduceIte]
  unfold setAddByScan
  refine wpAny_bind (wpAny_bind (wpAny_rule (wpAny_bind (wpAny_setScan_of hkey ho1 hd hf hel ?_))))
  cases hfi : List.findIdx? (fun e => (PySem.strKind P w).is x e.2) es.toList with
  | some j =>
    dsimp only
    obtain ⟨hj, pj, _⟩ := List.findIdx?_eq_some_iff_getElem.mp hfi
    have hin : x ∈ ks := by
      rw [← em]
      exact List.mem_map.mpr ⟨es.toList[j], List.getElem_mem hj, (goodS_is (P := P) (g _ (List.getElem_mem hj)) x).mp pj⟩
    refine wpAny_pure (wpAny_pure ?_)
    refine fin false s1.heap ks (Heap.SameBut.refl a _) ⟨o, es, ep, t, ho1, hex, hd, g, em, nd, hb, hf, hr, hl⟩ (fun y => ⟨.inr, fun z => ?_⟩) (Nat.le_succ _)
    rcases z with rfl | z
    · exact hin
    · exact z
  | none =>
    dsimp only
    have hnot : x ∉ ks := fun z => by
      rw [← em] at z
      obtain ⟨e, he, q⟩ := List.mem_map.mp z
      have c := List.findIdx?_eq_none_iff.mp hfi e he
      rw [(goodS_is (P := P) (g e he) x).mpr q] at c
      cases c
    have quiet : ∀ (b : Bool) (s₁ : Shared) (Q' : Unit → Shared → Prop), Q' () s₁ → wpAny (model P w) A (match b with | true => rule "set.scan.the-table-gave-way" | false => pure ()) Q' E s₁ := fun b s₁ Q' q => by
      cases b
      · exact wpAny_pure q
      · exact wpAny_rule q
    have pm := layNew_perm t es ((PySem.strKind P w).hash x) (.str x tk)
    have hf1 := layNew_fits t es ((PySem.strKind P w).hash x) (.str x tk)
    have hr1 := layNew_ris t es ((PySem.strKind P w).hash x) (.str x tk) hr
    have hl1 := layNew_led t es ((PySem.strKind P w).hash x) (.str x tk)
    generalize layNew t es ((PySem.strKind P w).hash x) (.str x tk) = Z at pm hf1 hr1 hl1 ⊢
    obtain ⟨es1, t1, wasDummy, gave⟩ := Z
    dsimp only at pm hf1 hr1 hl1 ⊢
    rw [Array.toList_push] at pm
    have pc : es1.toList.Perm (((PySem.strKind P w).hash x, Value.str x tk) :: es.toList) := pm.trans (List.perm_append_singleton _ _)
    have pk : (es1.toList.map keyS).Perm (x :: ks) := by
      have z := pc.map keyS
      rw [List.map_cons, em] at z
      exact z
    have g1 : ∀ e, e ∈ es1.toList → GoodS w e := fun e he => by
      rcases List.mem_cons.mp (pc.mem_iff.mp he) with z | z
      · rw [z]
        exact ⟨x, tk, rfl, rfl⟩
      · exact g e z
    have nd1 : (es1.toList.map keyS).Nodup := pk.nodup_iff.mpr (List.nodup_cons.mpr ⟨hnot, nd⟩)
    have hb1 : es1.size < scanBound := by
      have e := pk.length_eq
      rw [List.length_map, Array.length_toList, List.length_cons] at e
      omega
    have hled : w.params.followText "set-order" = true ∨ t1.led = true := hl.imp id fun z => by rw [hl1]; exact z
    have fin2 : ∀ h' ks', Heap.SameBut a s1.heap h' → SetRS w h' a ks' → ks'.Perm (es1.toList.map keyS) → Q true { s1 with heap := h' } := fun h' ks' sb r p => by
      have p2 := p.trans pk
      refine fin true h' ks' sb r (fun y => by rw [p2.mem_iff, List.mem_cons]) ?_
      rw [p2.length_eq, List.length_cons]
      exact Nat.le_refl _
    refine wpAny_bind (quiet _ _ _ ?_)
    split
    · refine wpAny_bind ?_
      rw [hashByValue_scannable 8 hsc]
      refine wpAny_pure (storeS quiet ho1 hex hd g1 nd1 hb1 ?_ ?_ ?_ fun h' ks' sb r p => ?_)
      · first
          | exact hf1
          | (split <;> first | exact hf1 | exact SetTable.fits_plain_off hf1)
      · first
          | exact hr1
          | (split <;> exact hr1)
      · first
          | exact hled
          | (split <;> exact hled)
      · dsimp only
        exact wpAny_pure (fin2 h' ks' sb r p)
    · refine wpAny_bind (wpAny_pure ?_)
      simp only [↓reduceIte]
      refine storeS quiet ho1 hex hd g1 nd1 hb1 hf1 hr1 hled fun h' ks' sb r p => ?_
      dsimp only
      exact wpAny_pure (fin2 h' ks' sb r p)
end
end SetG
end
section
set_option linter.all false
set_option maxRecDepth 100000
set_option autoImplicit false
set_option maxHeartbeats 4000000
/-! Sets of things that are compared in the heap (pairs of texts): the search through the table, and adding. -/
namespace SetG
open PySem PySem.Spec PyProof.Rows L2
section
variable {P : Program} {w : World} {κ : Type} [DecidableEq κ]
/-- what adding asks of such a thing, beyond its hash and its == -/
structure Fine (kd : HeapKind P w κ) : Prop where
  ofA : ∀ {A : Around} {E : Value → Shared → Prop} {s : Shared} {k : κ} {b : Addr} {Q : Bool → Shared → Prop}, kd.is s.heap k b → Q false s → wpAny (model P w) A (ofAClassStatement 8 (.ref b)) Q E s
  byV : ∀ {A : Around} {E : Value → Shared → Prop} {s : Shared} {k : κ} {b : Addr} {Q : Bool → Shared → Prop}, kd.is s.heap k b → (∀ r, Q r s) → wpAny (model P w) A (hashByValue 8 (.ref b)) Q E s
  keepS : ∀ {h h' : Heap} {k : κ} {a b : Addr} {o : Obj} {es : Array (Int × Value)} {ep : Nat} {t : SetTable}, kd.is h k b → h.get? a = some o → o.data = .set es ep t → Heap.SameBut a h h' → kd.is h' k b
variable (kd : HeapKind P w κ)
def ents (L : List (Addr × κ)) : List (Int × Value) := L.map fun p => (kd.hash p.2, Value.ref p.1)
structure SetD (h : Heap) (a : Addr) (L : List (Addr × κ)) (o : Obj) (es : Array (Int × Value)) (ep : Nat) (t : SetTable) : Prop where
  at_ : h.get? a = some o
  ex : o.ExactSet
  dt : o.data = .set es ep t
  en : es.toList = ents kd L
  tab : TabOk t (L.map fun p => kd.hash p.2)
  nd : (L.map (·.2)).Nodup
  is : ∀ p, p ∈ L → kd.is h p.2 p.1
  led : w.params.followText "set-order" = true ∨ t.led = true
  room : L.length * 5 < t.mask * 3
  few : L.length < 64
variable {kd} {A : Around} {E : Value → Shared → Prop} {s : Shared} {a : Addr} {L : List (Addr × κ)} {o : Obj} {es : Array (Int × Value)} {ep : Nat} {t : SetTable}
theorem ents_len : (ents kd L).length = L.length := List.length_map _
namespace SetD
theorem size (D : SetD kd s.heap a L o es ep t) : es.size = L.length := by
  rw [← Array.length_toList, D.en, ents_len]
theorem fits (D : SetD kd s.heap a L o es ep t) : t.fits es.size = true := by
  have e1 := D.tab.sz
  rw [List.length_map] at e1
  have e2 := D.size
  have e3 := D.room
  unfold SetTable.fits SetTable.fill
  rw [D.tab.dm, Bool.and_eq_true, beq_iff_eq, decide_eq_true_eq]
  refine ⟨by omega, ?_⟩
  show t.place.size + 0 ≤ t.mask
  omega
theorem entry (D : SetD kd s.heap a L o es ep t) {i : Nat} {p : Addr × κ} (h : L[i]? = some p) : es[i]? = some (kd.hash p.2, Value.ref p.1) := by
  rw [← Array.getElem?_toList, D.en]
  unfold ents
  rw [List.getElem?_map, h]
  rfl
theorem steady (D : SetD kd s.heap a L o es ep t) : ¬ t.gaveWay = true := by
  unfold SetTable.gaveWay
  rw [mask_odd D.tab.mok]
  decide
end SetD
theorem sees (F : Fine kd) {k : κ} {b : Addr} {Q : Bool → Shared → Prop} (hk : kd.is s.heap k b) {ys : List Value} (hy : ∀ y, y ∈ ys → ∃ k' c, y = Value.ref c ∧ kd.is s.heap k' c) (h : Q false s) :
    wpAny (model P w) A (searchCouldBeSeen (.ref b) ys) Q E s := by
  unfold searchCouldBeSeen
  refine wpAny_bind (wpAny_forIn_list _ (fun rest r s' => r.1 = none ∧ s' = s ∧ ∀ y, y ∈ rest → ∃ k' c, y = Value.ref c ∧ kd.is s.heap k' c) _ ?_ ?_ _ _ ⟨rfl, rfl, hy⟩)
  · rintro v rest r s' ⟨hr, rfl, all⟩
    obtain ⟨k', c, rfl, hc⟩ := all v List.mem_cons_self
    have more : ∀ y, y ∈ rest → ∃ k' c, y = Value.ref c ∧ kd.is s'.heap k' c := fun u hu => all u (List.mem_cons_of_mem _ hu)
    dsimp only
    by_cases hv : (b == c || (carriedByValue (.ref b) && carriedByValue (.ref c))) = true
    · exact wp_if_pos hv (wpAny_pure ⟨rfl, rfl, more⟩)
    · refine wp_if_neg hv (wpAny_bind (kd.quiet hk ?_))
      simp only [Bool.not_true, Bool.false_eq_true, if_false]
      refine wpAny_bind (kd.quiet hc ?_)
      simp only [Bool.not_true, Bool.false_eq_true, if_false]
      refine wpAny_bind (F.ofA hk ?_)
      simp only [Bool.false_eq_true, if_false]
      refine wpAny_bind (F.ofA hc ?_)
      simp only [Bool.false_eq_true, if_false]
      exact wpAny_pure ⟨rfl, rfl, more⟩
  · rintro ⟨r1, r2⟩ s' ⟨hr, rfl, _⟩
    obtain rfl : r1 = none := hr
    exact wpAny_pure h
/-- the way of a hash: where its c-th look stands -/
abbrev wayP (t : SetTable) (h : Int) (c : Nat) : SetTable.Probe := nth t.mask (runAt t.mask (SetTable.bits h % (t.mask + 1)) (SetTable.bits h)) c
theorem wayP_add (t : SetTable) (h : Int) (c q : Nat) : nth t.mask (wayP t h c) q = wayP t h (c + q) := (nth_add t.mask c _ q).symm
theorem wayP_clean (t : SetTable) (h : Int) (c : Nat) : (wayP t h c).dummy = none := by
  have gen : ∀ (n : Nat) (p : SetTable.Probe), p.dummy = none → (nth t.mask p n).dummy = none := by
    intro n
    induction n with
    | zero => exact fun p z => z
    | succ n ih =>
      intro p z
      refine ih (adv t.mask p) ?_
      unfold adv
      split <;> exact z
  exact gen c _ rfl
/-- the search from the c-th look on; K: the first empty slot of the way -/
theorem seek (F : Fine kd) (D : SetD kd s.heap a L o es ep t) {x : Addr} {k : κ} (hx : kd.is s.heap k x) (hu : kd.room A) {K : Nat} (hKf : K < 10 * SetTable.turns t.mask)
    (hK : way t.mask (kd.hash k) K ∉ t.place.toList) (hKb : ∀ c, c < K → way t.mask (kd.hash k) c ∈ t.place.toList) {Q : SetFound → Shared → Prop}
    (yes : k ∈ L.map (·.2) → Q (.there none) s) (no : k ∉ L.map (·.2) → Q (.free (way t.mask (kd.hash k) K) false) s) :
    ∀ (f c : Nat) (stand : Option SetTable.Probe), stand.getD (t.probeStart (kd.hash k)) = wayP t (kd.hash k) c → c ≤ K → K - c < f →
      (∀ (i : Nat) p, L[i]? = some p → p.2 = k → ∃ c', c ≤ c' ∧ c' < K ∧ t.place.toList[i]? = some (way t.mask (kd.hash k) c')) →
      wpAny (model P w) A (setSearchFrom a (.ref x) (kd.hash k) true f stand) Q E s := by
  intro f
  induction f with
  | zero =>
    intro c stand _ _ hf _
    omega
  | succ f ih =>
    intro c stand hst hc hf ahead
    generalize hh : kd.hash k = hv at hKf hK hKb no hst ahead ih ⊢
    rw [setSearchFrom_succ]
    refine wpAny_bind (wpAny_setState_of D.at_ D.dt D.fits ?_)
    dsimp only
    refine wp_if_neg D.steady ?_
    try refine wpAny_bind (wpAny_pure ?_)
    have hashAt : ∀ (i : Nat) p, L[i]? = some p → (fun i => (es[i]?.map (·.1)).getD 0) i = kd.hash p.2 := fun i p hp => by
      show (es[i]?.map (·.1)).getD 0 = _
      rw [D.entry hp]
      rfl
    have slot : ∀ q, (nth t.mask (wayP t hv c) q).j = way t.mask hv (c + q) := fun q => congrArg SetTable.Probe.j (wayP_add t hv c q)
    have spec := go_spec t D.tab.ris D.tab.dm (fun i => (es[i]?.map (·.1)).getD 0) hv (10 * SetTable.turns t.mask) (K - c) (wayP t hv c) (wayP_clean t hv c) (by omega)
      (fun q hq => by rw [slot]; exact hKb (c + q) (by omega)) (by rw [slot, show c + (K - c) = K by omega]; exact hK)
    rcases spec with ⟨q, i, hq, hi, _, hno, hpr⟩ | ⟨hno, hpr⟩
    · rw [slot] at hi hpr
      rw [wayP_add] at hpr
      rw [show t.probe (fun i => (es[i]?.map (·.1)).getD 0) hv (stand.getD (t.probeStart hv)) = some (.candidate (way t.mask hv (c + q)) i (wayP t hv (c + (q + 1)))) from by rw [hst]; exact hpr]
      dsimp only
      have hil : i < L.length := by
        have z1 := (List.getElem?_eq_some_iff.mp hi).1
        have z2 := D.tab.sz
        rw [List.length_map] at z2
        rw [Array.length_toList] at z1
        omega
      obtain ⟨p, hp⟩ : ∃ p, L[i]? = some p := ⟨_, List.getElem?_eq_getElem hil⟩
      have hmem : p ∈ L := List.mem_of_getElem? hp
      have live := slot_live D.tab.ris hi
      have rest : wpAny (model P w) A (searchRest a (.ref x) hv true f es t (way t.mask hv (c + q)) i (wayP t hv (c + (q + 1)))) Q E s := by
        unfold searchRest
        rw [D.entry hp]
        dsimp only
        refine wpAny_bind (wpAny_holding (kd.eqBool hu (D.is p hmem) hx (wpAny_bind (wpAny_setState_of D.at_ D.dt D.fits ?_))))
        dsimp only
        by_cases hkk : p.2 = k
        · exact wp_if_pos (by simp [hkk]) (wpAny_pure (yes (List.mem_map.mpr ⟨p, hmem, hkk⟩)))
        · refine wp_if_neg (by simp [hkk]) ?_
          try refine wpAny_bind (wpAny_pure ?_)
          rw [sameMem]
          dsimp only
          simp only [if_true, live, D.entry hp]
          refine wpAny_bind (wpAny_isSame_ref_self (wpAny_bind (wpAny_pure ?_)))
          simp only [if_true]
          refine wp_if_neg (by simp [hkk]) (ih (c + (q + 1)) _ rfl (by omega) (by omega) fun i0 p0 h0 hk0 => ?_)
          obtain ⟨c', b1, b2, b3⟩ := ahead i0 p0 h0 hk0
          refine ⟨c', ?_, b2, b3⟩
          rcases Nat.lt_trichotomy c' (c + q) with lt | eq | gt
          · exfalso
            refine hno (c' - c) i0 (by omega) (by rw [slot, show c + (c' - c) = c' by omega]; exact b3) ?_
            exact (hashAt i0 p0 h0).trans (by rw [hk0, hh])
          · exfalso
            rw [eq] at b3
            have z := slot_live D.tab.ris b3
            rw [live] at z
            injection z with z
            rw [← z, hp] at h0
            cases h0
            exact hkk hk0
          · omega
      by_cases hl : t.led = true
      · refine wp_if_neg (by simp [hl]) ?_
        try refine wpAny_bind (wpAny_pure ?_)
        exact rest
      · refine wp_if_pos (by simp [hl]) (wpAny_bind (sees F hx (fun y hy => ?_) ?_))
        · obtain ⟨e, he, ee⟩ := List.mem_map.mp hy
          have he2 : e ∈ es.toList := by
            have z : e ∈ es ∧ e.1 = hv := by simpa using he
            simpa using z.1
          rw [D.en] at he2
          obtain ⟨p2, hp2, e2⟩ := List.mem_map.mp he2
          exact ⟨p2.2, p2.1, by rw [← ee, ← e2], D.is p2 hp2⟩
        · refine wp_if_neg (by decide) ?_
          try refine wpAny_bind (wpAny_pure ?_)
          exact rest
    · rw [slot, show c + (K - c) = K by omega] at hpr
      rw [show t.probe (fun i => (es[i]?.map (·.1)).getD 0) hv (stand.getD (t.probeStart hv)) = some (.empty (way t.mask hv K) none) from by rw [hst]; exact hpr]
      dsimp only
      refine wpAny_pure (no fun hm => ?_)
      obtain ⟨p0, h0, hk0⟩ := List.mem_map.mp hm
      obtain ⟨i0, hi0, e0⟩ := List.getElem_of_mem h0
      have h00 : L[i0]? = some p0 := by rw [List.getElem?_eq_getElem hi0, e0]
      obtain ⟨c', b1, b2, b3⟩ := ahead i0 p0 h00 hk0
      refine hno (c' - c) i0 (by omega) (by rw [slot, show c + (c' - c) = c' by omega]; exact b3) ?_
      exact (hashAt i0 p0 h00).trans (by rw [hk0, hh])
theorem seek_all (F : Fine kd) (D : SetD kd s.heap a L o es ep t) {x : Addr} {k : κ} (hx : kd.is s.heap k x) (hu : kd.room A) {Q : SetFound → Shared → Prop}
    (yes : k ∈ L.map (·.2) → Q (.there none) s)
    (no : ∀ K, k ∉ L.map (·.2) → way t.mask (kd.hash k) K ∉ t.place.toList → (∀ c, c < K → way t.mask (kd.hash k) c ∈ t.place.toList) → Q (.free (way t.mask (kd.hash k) K) false) s) :
    wpAny (model P w) A (setSearch a (.ref x) (kd.hash k) true) Q E s := by
  have hroom := D.room
  obtain ⟨K, hKf, hK, hKb⟩ := D.tab.first (by rw [List.length_map]; omega) (kd.hash k)
  have hbig : K < 100000 := by
    have : 10 * SetTable.turns t.mask ≤ 1420 := by
      unfold SetTable.turns
      rcases D.tab.mok with e | e | e <;> omega
    omega
  unfold setSearch
  refine seek F D hx hu hKf hK hKb yes (fun hn => no K hn hK hKb) 100000 0 none rfl (Nat.zero_le _) (by omega) fun i p hp hk => ?_
  have hi : (L.map fun p => kd.hash p.2)[i]? = some (kd.hash k) := by
    rw [List.getElem?_map, hp, ← hk]
    rfl
  have hil : i < t.place.toList.length := by
    have z1 : i < L.length := (List.getElem?_eq_some_iff.mp hp).1
    have z2 := D.tab.sz
    rw [List.length_map] at z2
    rw [Array.length_toList]
    omega
  have hj := List.getElem?_eq_getElem hil
  obtain ⟨c, hc, e⟩ := D.tab.before hK hi hj
  exact ⟨c, Nat.zero_le _, hc, by rw [hj, e]⟩
/-- the entries in another order -/
theorem ents_order (order : Array Nat) (hr : es.toList = ents kd L) (hp : order.toList.Perm (List.range L.length)) :
    ∃ L2 : List (Addr × κ), (order.filterMap (es[·]?)).toList = ents kd L2 ∧ L2.Perm L ∧ (L2.map fun p => kd.hash p.2) = order.toList.map fun i => (es.map (·.1)).getD i 0 := by
  have ent : ∀ (i : Nat) p, L[i]? = some p → es[i]? = some (kd.hash p.2, Value.ref p.1) := fun i p h => by
    rw [← Array.getElem?_toList, hr]
    unfold ents
    rw [List.getElem?_map, h]
    rfl
  have gen : ∀ l : List Nat, (∀ i, i ∈ l → i < L.length) → l.filterMap (fun i => es[i]?) = ents kd (l.filterMap fun i => L[i]?) ∧ ((l.filterMap fun i => L[i]?).map fun p => kd.hash p.2) = l.map fun i => (es.map (·.1)).getD i 0 := by
    intro l
    induction l with
    | nil => exact fun _ => ⟨rfl, rfl⟩
    | cons i l ih =>
      intro hl
      have hi := List.getElem?_eq_getElem (hl i List.mem_cons_self)
      obtain ⟨e1, e2⟩ := ih fun j hj => hl j (List.mem_cons_of_mem _ hj)
      have hE := ent i _ hi
      refine ⟨?_, ?_⟩
      · rw [List.filterMap_cons_some hE, List.filterMap_cons_some hi, e1]
        rfl
      · rw [List.filterMap_cons_some hi, List.map_cons, List.map_cons, e2]
        have z : (es.map (·.1)).getD i 0 = kd.hash (L[i]'(hl i List.mem_cons_self)).2 := by
          rw [Array.getD_eq_getD_getElem?, Array.getElem?_map, hE]
          rfl
        rw [z]
  obtain ⟨e1, e2⟩ := gen order.toList fun i hi => List.mem_range.mp (hp.mem_iff.mp hi)
  refine ⟨order.toList.filterMap fun i => L[i]?, by first | (rw [Array.toList_filterMap]; exact e1) | simpa using e1, ?_, e2⟩
  have all : (List.range L.length).filterMap (fun i => L[i]?) = L := by
    refine List.ext_getElem? fun n => ?_
    have : ∀ m, m ≤ L.length → (List.range m).filterMap (fun i => L[i]?) = L.take m := by
      intro m
      induction m with
      | zero => exact fun _ => rfl
      | succ m ih =>
        intro hm
        rw [List.range_succ, List.filterMap_append, ih (Nat.le_of_lt hm), List.take_add_one]
        congr 1
    rw [this _ (Nat.le_refl _), List.take_length]
  have z := hp.filterMap fun i => L[i]?
  rw [all] at z
  exact z
/-- the table laid anew -/
theorem relay (F : Fine kd) (at_ : s.heap.get? a = some o) (ex : o.ExactSet) (dt : o.data = .set es ep t) (en : es.toList = ents kd L) (sz : t.place.size = es.size) (dm : t.dummies = #[]) (fl : es.size ≤ t.mask)
    (nd : (L.map (·.2)).Nodup) (is : ∀ p, p ∈ L → kd.is s.heap p.2 p.1) (ld : w.params.followText "set-order" = true ∨ t.led = true) (few : L.length < 64) {wanted M : Nat}
    (hw : SetTable.sizeAbove wanted - 1 = M) (hM : MaskOk M) (hw2 : SetTable.sizeAbove wanted ≤ 128) (hn : L.length * 5 < M * 3) {Q : Unit → Shared → Prop}
    (hQ : ∀ h' L' o' es' ep' t', Heap.SameBut a s.heap h' → SetD kd h' a L' o' es' ep' t' → L'.Perm L → Q () { s with heap := h' }) : wpAny (model P w) A (setRelay a wanted) Q E s := by
  have hsl : es.size = L.length := by rw [← Array.length_toList, en, ents_len]
  have hfits : t.fits es.size = true := by
    unfold SetTable.fits SetTable.fill
    rw [dm, Bool.and_eq_true, beq_iff_eq, decide_eq_true_eq]
    refine ⟨sz, ?_⟩
    show t.place.size + 0 ≤ t.mask
    omega
  obtain ⟨t', order, e, hp, Tb, em, el, ep', ed⟩ := relaid_ok t (hs := es.map (·.1)) (wanted := wanted) hw hM (by rw [Array.size_map, hsl]; omega)
  rw [Array.size_map, hsl] at hp
  obtain ⟨L2, r1, r2, r3⟩ := ents_order (kd := kd) (L := L) (es := es) order en hp
  rw [← r3] at Tb
  have hs2 : (order.filterMap (es[·]?)).size = es.size := by rw [← Array.length_toList, r1, ents_len, r2.length_eq, hsl]
  rw [setRelay_eq]
  refine wpAny_bind (wpAny_setState_of at_ dt hfits ?_)
  dsimp only
  refine wp_if_neg (by rw [sizeLine_eq]; omega) ?_
  try refine wpAny_bind (wpAny_pure ?_)
  rw [e]
  dsimp only
  refine wpAny_bind (wp_if_neg (by rw [hs2]; simp) ?_)
  try refine wpAny_bind (wpAny_pure ?_)
  refine wpAny_pure ?_
  dsimp only
  refine wpAny_storeSet_of at_ dt ?_ (by rw [hs2, hsl, sizeLine_eq]; omega)
  have sb : Heap.SameBut a s.heap (s.heap.update a (Obj.putSet (order.filterMap (es[·]?)) t')) := Heap.SameBut.update ..
  exact hQ _ L2 _ _ _ t' sb ⟨store_at at_ dt, ⟨ex.1, ex.2.1, ex.2.2⟩, rfl, r1, Tb, (r2.map (·.2)).nodup_iff.mpr nd, fun p hpm => F.keepS (is p (r2.mem_iff.mp hpm)) at_ dt sb, by rw [el]; exact ld, by rw [r2.length_eq, em]; exact hn, by rw [r2.length_eq]; exact few⟩ r2
theorem ins_perm {α : Type} (l : List α) (p : Nat) (x : α) : (l.take p ++ x :: l.drop p).Perm (x :: l) := by
  have z : (l.take p ++ x :: l.drop p).Perm (x :: (l.take p ++ l.drop p)) := List.perm_middle
  rw [List.take_append_drop] at z
  exact z
def SetRM (kd : HeapKind P w κ) (h : Heap) (a : Addr) (L : List (Addr × κ)) : Prop := ∃ o es ep t, SetD kd h a L o es ep t
theorem addM_rest (F : Fine kd) (D : SetD kd s.heap a L o es ep t) {x : Addr} {k : κ} (hx : kd.is s.heap k x) (few : L.length + 1 < 64) {Q : Bool → Shared → Prop}
    (hQ : ∀ b h' L', Heap.SameBut a s.heap h' → SetRM kd h' a L' → (L' = L ∧ k ∈ L.map (·.2) ∨ L'.Perm ((x, k) :: L)) → Q b { s with heap := h' })
    (hm : k ∉ L.map (·.2)) {p : Nat} {t1 : SetTable} (q3 : TabOk t1 ((L.map fun p => kd.hash p.2).take p ++ kd.hash k :: (L.map fun p => kd.hash p.2).drop p)) (q4 : t1.mask = t.mask) (q5 : t1.led = t.led) (q9 : t1.fill = (L.map fun p => kd.hash p.2).length + 1) :
    wpAny (model P w) A (do
      storeSet a (SetTable.insertAt es p (kd.hash k, Value.ref x)) t1
      if !false && t1.tooFull then setRelay a (SetTable.grown (es.size + 1))
      return true) Q E s := by
  have hsl := D.size
  have hroom := D.room
  have pm := ins_perm L p (x, k)
  have hin : (SetTable.insertAt es p (kd.hash k, Value.ref x)).toList = ents kd (L.take p ++ (x, k) :: L.drop p) := by
    rw [SetTable.toList_insertAt, D.en]
    unfold ents
    rw [List.map_append, List.map_cons, List.map_take, List.map_drop]
  have hhs : (L.take p ++ (x, k) :: L.drop p).map (fun p => kd.hash p.2) = (L.map fun p => kd.hash p.2).take p ++ kd.hash k :: (L.map fun p => kd.hash p.2).drop p := by
    rw [List.map_append, List.map_cons, List.map_take, List.map_drop]
  rw [← hhs] at q3
  have hlen : (L.take p ++ (x, k) :: L.drop p).length = L.length + 1 := pm.length_eq
  have nd1 : ((L.take p ++ (x, k) :: L.drop p).map (·.2)).Nodup := (pm.map (·.2)).nodup_iff.mpr (List.nodup_cons.mpr ⟨hm, D.nd⟩)
  have hes : (SetTable.insertAt es p (kd.hash k, Value.ref x)).size = L.length + 1 := by rw [← Array.length_toList, hin, ents_len, hlen]
  generalize SetTable.insertAt es p (kd.hash k, Value.ref x) = es1 at hin hes ⊢
  generalize L.take p ++ (x, k) :: L.drop p = L1 at pm hlen q3 nd1 hin
  refine wpAny_bind (wpAny_storeSet_of D.at_ D.dt ?_ (by rw [hes, sizeLine_eq]; omega))
  have sb : Heap.SameBut a s.heap (s.heap.update a (Obj.putSet es1 t1)) := Heap.SameBut.update ..
  have at1 := store_at (es' := es1) (t' := t1) D.at_ D.dt
  generalize s.heap.update a (Obj.putSet es1 t1) = h1 at sb at1 ⊢
  have is1 : ∀ p, p ∈ L1 → kd.is h1 p.2 p.1 := fun p hp => by
    rcases List.mem_cons.mp (pm.mem_iff.mp hp) with e | hp
    · rw [e]
      exact F.keepS hx D.at_ D.dt sb
    · exact F.keepS (D.is p hp) D.at_ D.dt sb
  have ld1 : w.params.followText "set-order" = true ∨ t1.led = true := by rw [q5]; exact D.led
  by_cases hf : t1.tooFull = true
  · first
      | (refine wpAny_bind ?_; refine wp_if_pos (by simp [hf]) ?_)
      | (refine wp_if_pos (by simp [hf]) ?_; refine wpAny_bind ?_)
    have hfull : (L.length + 1) * 5 ≥ t1.mask * 3 := by
      have z := hf
      unfold SetTable.tooFull at z
      rw [decide_eq_true_eq, q9, List.length_map] at z
      exact z
    rw [hsl]
    have sz1 : t1.place.size = es1.size := by
      have z := q3.sz
      rw [List.length_map, hlen] at z
      rw [z, hes]
    have two : (t.mask = 7 ∧ L.length = 4) ∨ (t.mask = 31 ∧ L.length = 18) := by
      rcases D.tab.mok with e | e | e
      · left
        rw [q4, e] at hfull
        rw [e] at hroom
        exact ⟨e, by omega⟩
      · right
        rw [q4, e] at hfull
        rw [e] at hroom
        exact ⟨e, by omega⟩
      · exfalso
        rw [q4, e] at hfull
        omega
    have go : ∀ M, SetTable.sizeAbove (SetTable.grown (L.length + 1)) - 1 = M → MaskOk M → SetTable.sizeAbove (SetTable.grown (L.length + 1)) ≤ 128 → (L.length + 1) * 5 < M * 3 →
        wpAny (model P w) A (setRelay a (SetTable.grown (L.length + 1))) (fun _ s' => wpAny (model P w) A (pure true) Q E s') E { s with heap := h1 } := fun M m1 m2 m3 m4 => by
      refine relay (s := { s with heap := h1 }) F at1 ⟨D.ex.1, D.ex.2.1, D.ex.2.2⟩ rfl hin sz1 q3.dm (by rw [hes, q4]; rcases two with ⟨e, e2⟩ | ⟨e, e2⟩ <;> omega) nd1 is1 ld1 (by rw [hlen]; exact few) m1 m2 m3 (by rw [hlen]; exact m4) ?_
      intro h2 L2 o2 es2 ep2 t2 sb2 D2 pm2
      exact wpAny_pure (hQ true h2 L2 (sb.trans sb2) ⟨o2, es2, ep2, t2, D2⟩ (.inr (pm2.trans pm)))
    rcases two with ⟨_, e2⟩ | ⟨_, e2⟩
    · exact go 31 (by rw [e2, size_20]) (.inr (.inl rfl)) (by rw [e2, size_20]; decide) (by omega)
    · exact go 127 (by rw [e2, size_76]) (.inr (.inr rfl)) (by rw [e2, size_76]; decide) (by omega)
  · first
      | refine wp_if_neg (by simp [hf]) ?_
      | (refine wpAny_bind ?_; refine wp_if_neg (by simp [hf]) ?_; refine wpAny_pure ?_)
    refine wpAny_pure (hQ true h1 L1 sb ⟨_, es1, ep + 1, t1, at1, ⟨D.ex.1, D.ex.2.1, D.ex.2.2⟩, rfl, hin, q3, nd1, is1, ld1, ?_, by rw [hlen]; exact few⟩ (.inr pm))
    have z := hf
    unfold SetTable.tooFull at z
    rw [decide_eq_true_eq, q9, List.length_map] at z
    rw [hlen]
    omega
theorem addM (F : Fine kd) (R : SetRM kd s.heap a L) {x : Addr} {k : κ} (hx : kd.is s.heap k x) (hu : kd.room A) (few : L.length + 1 < 64) {Q : Bool → Shared → Prop}
    (hQ : ∀ b h' L', Heap.SameBut a s.heap h' → SetRM kd h' a L' → (L' = L ∧ k ∈ L.map (·.2) ∨ L'.Perm ((x, k) :: L)) → Q b { s with heap := h' }) :
    wpAny (model P w) A (setAddHashed a (.ref x) (kd.hash k)) Q E s := by
  obtain ⟨o, es, ep, t, D⟩ := R
  have hsl := D.size
  have hroom := D.room
  unfold setAddHashed
  refine wpAny_holding ?_
  rw [show (100000 : Nat) = 99999 + 1 from rfl, setAddHashedIn_succ]
  refine wpAny_bind (wpAny_setState_of D.at_ D.dt D.fits ?_)
  dsimp only
  refine wp_if_neg (by simp [byScan, Value.scannable]) ?_
  try refine wpAny_bind (wpAny_pure ?_)
  refine wpAny_bind (seek_all F D hx hu (fun hm => ?_) fun K hm hK hb => ?_)
  · dsimp only
    exact wpAny_pure (hQ false s.heap L (Heap.SameBut.refl a s.heap) ⟨o, es, ep, t, D⟩ (.inl ⟨rfl, hm⟩))
  · dsimp only
    refine wpAny_bind (wpAny_setState_of D.at_ D.dt D.fits ?_)
    dsimp only
    obtain ⟨q1, q2, q3, q4, q5, q6, q7, q8, q9⟩ := D.tab.put hK hb
    generalize hpt : t.put (way t.mask (kd.hash k) K) = pt at q1 q3 q4 q5 q6 q7 q8 q9 ⊢
    obtain ⟨t1, p⟩ := pt
    dsimp only at q1 q3 q4 q5 q6 q7 q8 q9 ⊢
    subst q1
    generalize hpp : SetTable.below t.place (way t.mask (kd.hash k) K) = p at q2 q3 ⊢
    rcases Bool.eq_false_or_eq_true t1.plain with hp1 | hp1
    · first
        | (refine wpAny_bind ?_; refine wp_if_pos hp1 ?_; refine F.byV hx fun r => ?_)
        | refine wp_if_pos hp1 (wpAny_bind (F.byV hx fun r => ?_))
      cases r
      case true =>
        simp only [if_true]
        exact addM_rest F D hx few hQ hm q3 q4 q5 q9
      simp only [Bool.false_eq_true, if_false]
      exact addM_rest (t1 := { t1 with plain := false }) F D hx few hQ hm ⟨q3.ris, q3.dm, q3.sz, q3.mok, q3.bd, q3.reach⟩ q4 q5 q9
    · have hp2 : ¬ t1.plain = true := by rw [hp1]; decide
      first
        | (refine wpAny_bind ?_; refine wp_if_neg hp2 ?_; refine wpAny_pure ?_)
        | refine wp_if_neg hp2 (wpAny_bind (wpAny_pure ?_))
      simp only [if_true]
      exact addM_rest F D hx few hQ hm q3 q4 q5 q9
end
end SetG
end
section
set_option linter.all false
set_option maxRecDepth 100000
set_option autoImplicit false
set_option maxHeartbeats 4000000
/-! sorted(set(xs)), sorted(xs): of texts and of pairs of texts. -/
namespace RW
open PySem PySem.Spec PyProof.Rows L2 SetG
section
variable {X : Cx} {pins : List (Addr × Obj)} {σ : L2.St} {H : Hp} {s : Shared}
mutual
theorem Im.reads (I : Inv X pins σ H s) : ∀ {d : PyData} {v : V} {u : Value}, Im H v d → RelV v u → Reads s.heap u d []
  | .none, _, _, h, r => by
    cases h
    obtain rfl : _ = Value.none := r
    exact .none
  | .bool b, _, _, h, r => by
    cases h
    obtain rfl : _ = Value.bool b := r
    exact .bool b
  | .int i, _, _, h, r => by
    cases h
    obtain ⟨t, rfl⟩ := r
    exact .int i t
  | .str x, _, _, h, r => by
    cases h
    obtain ⟨t, rfl⟩ := r
    exact .str x t
  | .tuple ds, _, _, h, r => by
    cases h with
    | tup h1 h2 =>
      obtain rfl : _ = Value.ref _ := r
      obtain ⟨its, rv, ⟨o, ho, hc, n, hd⟩, _⟩ := I.tuple (.inl h1)
      exact .tuple ho hc hd (ImA.reads I h2 (by simpa using rv))
  | .list _, _, _, h, _ => nomatch h
  | .dict _, _, _, h, _ => nomatch h
theorem ImA.reads (I : Inv X pins σ H s) : ∀ {ds : List PyData} {vs : List V} {us : List Value}, ImA H vs ds → Vals vs us → ReadsAll s.heap us ds []
  | [], _, _, h, r => by
    cases h
    cases r
    exact .nil
  | d :: ds, _, _, h, r => by
    cases h with
    | cons h1 h2 =>
      cases r with
      | cons r1 r2 => exact ReadsAll.cons (as := []) (bs := []) (Im.reads I h1 r1) (ImA.reads I h2 r2)
end
end
section
variable {α β : Type}
theorem each_perm {R : α → β → Prop} {as : List α} {bs : List β} (e : PySem.W.EachIs R as bs) : ∀ {as' : List α}, as'.Perm as → ∃ bs' : List β, bs'.Perm bs ∧ PySem.W.EachIs R as' bs' := by
  intro as' p
  induction p generalizing bs with
  | nil => exact ⟨bs, .refl _, e⟩
  | cons x p ih =>
    cases e with
    | cons e1 e2 =>
      obtain ⟨bs', p', e'⟩ := ih e2
      exact ⟨_ :: bs', p'.cons _, .cons e1 e'⟩
  | swap x y l =>
    cases e with
    | cons e1 e2 =>
      cases e2 with
      | cons e2 e3 => exact ⟨_, .swap _ _ _, .cons e2 (.cons e1 e3)⟩
  | trans p1 p2 ih1 ih2 =>
    obtain ⟨b1, q1, e1⟩ := ih2 e
    obtain ⟨b2, q2, e2⟩ := ih1 e1
    exact ⟨b2, q2.trans q1, e2⟩
end
/-- a value that shows b -/
def Shows {β : Type} (H : Hp) (enc : β → PyData) (u : Value) (b : β) : Prop := ∃ x : V, RelV x u ∧ Im H x (enc b)
theorem shows_vals {β : Type} {H : Hp} {enc : β → PyData} {us : List Value} {bs : List β} (e : PySem.W.EachIs (Shows H enc) us bs) : ∃ xs : List V, Vals xs us ∧ ImA H xs (bs.map enc) := by
  induction e with
  | nil => exact ⟨[], .nil, .nil⟩
  | cons h _ ih =>
    obtain ⟨x, r, i⟩ := h
    obtain ⟨xs, rv, iv⟩ := ih
    exact ⟨x :: xs, .cons r rv, .cons i iv⟩
theorem shows_of {β : Type} {H : Hp} {enc : β → PyData} : ∀ {bs : List β} {us : List Value} {xs : List V}, Vals xs us → ImA H xs (bs.map enc) → PySem.W.EachIs (Shows H enc) us bs
  | [], _, _, r, i => by
    cases i
    cases r
    exact .nil
  | b :: bs, _, _, r, i => by
    cases i with
    | cons i1 i2 =>
      cases r with
      | cons r1 r2 => exact .cons ⟨_, r1, i1⟩ (shows_of r2 i2)
/-- data that sort: texts, or tuples that all have something -/
structure SortOk {β : Type} (enc : β → PyData) : Prop where
  alike : ∀ b b', PySem.W.alike (enc b) (enc b') = true
  sort : (∀ b, ∃ x r, enc b = .tuple (x :: r)) ∨ ∀ b, enc b ≠ .none ∧ ∀ xs, enc b ≠ .tuple xs
  deep : ∀ b, (enc b).depth ≤ 3
theorem SortOk.sortable {β : Type} {enc : β → PyData} (h : SortOk enc) (bs : List β) : PySem.W.Sortable (bs.map enc) := by
  rcases h.sort with q | q
  · exact PySem.W.Sortable.tuples q
  · exact PySem.W.Sortable.others q
theorem sortOk_str : SortOk PyData.str := ⟨fun b b' => rfl, Or.inr (fun b => ⟨(fun z => nomatch z), (fun xs z => nomatch z)⟩), fun b => by simp [PyData.depth]⟩
theorem sortOk_mv : SortOk dMv := ⟨fun b b' => rfl, .inl fun b => ⟨_, _, rfl⟩, fun b => by simp [dMv, PyData.depth, PyData.depthAll]⟩
section
variable {X : Cx} {β : Type} {enc : β → PyData}
/-- what is left of a sort: the new list at p, in the order of the sort -/
def SoQ (enc : β → PyData) (bs : List β) (H : Hp) (Q : VK) : Prop := ∀ (p : Addr) (xs : List V) (bs' : List β), H p = none → bs'.Perm bs → bs'.Pairwise (fun a b => PySem.W.dataLe false enc a b = true) → ImA (upd H p (.lst xs)) xs (bs'.map enc) → Q (.ref p) (upd H p (.lst xs))
theorem soQ_end {pins : List (Addr × Obj)} {σ : L2.St} {H : Hp} {s s' : Shared} {bs bs' : List β} {Q : VK} (I : Inv X pins σ H s) {p : Addr} {out : List Value} {c : Nat} (q : SoQ enc bs H Q) (hl : bs.length ≤ 1000) (pm : bs'.Perm bs)
    (pw : bs'.Pairwise (fun a b => PySem.W.dataLe false enc a b = true)) (k : ∀ b o, s.heap.get? b = some o → s'.heap.get? b = some o) (g : s'.gens = s.gens) (ho : s'.os = s.os) (hp : s.heap.objs.size ≤ p) (hg : s'.heap.get? p = some (seqObj "list" out.toArray c)) (e : PySem.W.EachIs (Shows H enc) out bs') :
    EP X pins σ Q (.ref p) s' := by
  obtain ⟨xs, rv, iv⟩ := shows_vals e
  have hn : H p = none := I.hok.fresh hp
  have hlen : xs.length ≤ sizeLine := by
    rw [iv.len, List.length_map, pm.length_eq]
    exact Nat.le_of_lt (small1000 hl)
  have J : Inv X pins σ (upd H p (.lst xs)) { s with heap := s'.heap, gens := s'.gens, drawn := s'.drawn, toks := s'.toks } :=
    I.call (ch := []) (Un.laid k hp hn) (I.hok.laid k hp ⟨hlen, out, c, rv, hg⟩) (by rw [g]; exact I.bare) (fun _ z => nomatch z)
  have e' : s' = { s with heap := s'.heap, gens := s'.gens, drawn := s'.drawn, toks := s'.toks } := by
    cases s'
    cases s
    cases ho
    rfl
  rw [e']
  exact ⟨.ref p, _, J, rfl, q p xs bs' hn pm pw (iv.mono (.new hn))⟩
theorem le_trans' {enc : β → PyData} (a b c : β) (h1 : PySem.W.dataLe false enc a b = true) (h2 : PySem.W.dataLe false enc b c = true) : PySem.W.dataLe false enc a c = true := by
  rw [PySem.W.dataLe_eq] at h1 h2 ⊢
  simp only [cond_false, Bool.not_eq_true'] at h1 h2 ⊢
  cases e : PySem.W.dataLt (enc c) (enc a) with
  | false => rfl
  | true =>
    exfalso
    cases e2 : PySem.W.dataLt (enc a) (enc b) with
    | true =>
      have z : PySem.W.dataLt (enc c) (enc b) = true := PyProof.Rows.lex_trans _ _ _ e e2
      rw [h2] at z
      cases z
    | false =>
      have z : PySem.W.keyToks (enc a) = PySem.W.keyToks (enc b) := PyProof.Rows.lex_total _ _ e2 h1
      unfold PySem.W.dataLt at e h2
      rw [z, h2] at e
      cases e
theorem le_total' {enc : β → PyData} (a b : β) : (PySem.W.dataLe false enc a b || PySem.W.dataLe false enc b a) = true := by
  rw [PySem.W.dataLe_eq]
  simp only [cond_false]
  cases e : PySem.W.dataLt (enc b) (enc a) with
  | false => rfl
  | true =>
    cases e2 : PySem.W.dataLt (enc a) (enc b) with
    | false => rfl
    | true =>
      exfalso
      have z : PySem.W.dataLt (enc a) (enc a) = true := PyProof.Rows.lex_trans _ _ _ e2 e
      have z2 : PySem.W.dataLt (enc a) (enc a) = false := PyProof.Rows.lex_irrefl _
      rw [z2] at z
      cases z
theorem merge_pw (h : SortOk enc) (bs : List β) : (bs.mergeSort (PySem.W.dataLe false enc)).Pairwise (fun a b => PySem.W.dataLe false enc a b = true) :=
  List.pairwise_mergeSort le_trans' le_total' bs
/-- sorted(xs), xs a list of data -/
def rSortD (enc : β → PyData) : List V → Hp → VK → Prop := fun vs H Q => ∃ (a : Addr) (xs : List V) (bs : List β), vs = [V.ref a] ∧ H a = some (.lst xs) ∧ ImA H xs (bs.map enc) ∧ bs.length ≤ 1000 ∧ SoQ enc bs H Q
theorem cr_sortD (h : SortOk enc) (hu : X.A.units + 65 < cLine) : CallR X (.builtin "sorted") (rSortD enc) := by
  intro pins s σ H vs us Q I r hq
  obtain ⟨a, xs, bs, rfl, ha, iv, hl, q⟩ := hq
  rw [Vals.ref1 r]
  obtain ⟨its, rv, pl, _⟩ := I.list (.inl (.inl ha))
  have er : PySem.W.EachIs (Shows H enc) its bs := shows_of rv iv
  refine PySem.W.sorted_data (enc := enc) (R := Shows H enc) pl.isList er (er.mono fun v b ⟨x, rx, ix⟩ => ⟨_, Im.reads I ix rx⟩) (PySem.W.AllAlike.of h.alike) (h.sortable bs) (Nat.le_of_lt (small1000 hl)) (fun b _ => by
    have := h.deep b
    omega) fun out ho eo => ?_
  obtain ⟨c, hc⟩ := sortedAll_at s.heap its (List.toArray out)
  exact soQ_end I q hl (List.mergeSort_perm bs _) (merge_pw h bs) (fun b o z => sortedAll_old z) rfl rfl (Nat.le_succ _) hc eo
/-- sorted of a set whose entries show data -/
theorem sorted_entries (h : SortOk enc) (hh : X.A.handled = none) (hu : X.A.units + 65 < cLine) {pins : List (Addr × Obj)} {σ : L2.St} {H : Hp} {s : Shared} {a : Addr} {es : Array (Int × Value)} {ep : Nat} {t : SetTable} {bs : List β} {Q : VK} (I : Inv X pins σ H s)
    (ha : SetAt s.heap a es ep t) (hf : t.fits es.size = true) (hsz : es.size < scanBound) (hr : Ris t.place.toList) (hl : X.w.params.followText "set-order" = true ∨ t.led = true) (e : PySem.W.EachIs (Shows H enc) (es.toList.map (·.2)) bs) (hlen : bs.length ≤ 1000) (q : SoQ enc bs H Q) :
    wpAny (model X.prog X.w) X.A (call (.builtin "sorted") [.ref a]) (EP X pins σ Q) X.xe s := by
  refine Calls.call_function_entry kind_sorted plain_sorted entry_sorted (args_sorted1 _) ?_
  unfold Builtin.«sorted»
  refine wpAny_bind (m := checkCount "sorted" 1 1 _) (wpAny_pure ?_)
  refine wpAny_bind (collect_set (A := X.A.in1) hh ha hf hsz hr hl fun s1 vs k1 hz g1 o1 pm => ?_)
  obtain ⟨b1, p1, e1⟩ := each_perm e pm
  have vl : vs.length ≤ 1000 := by
    rw [e1.length, p1.length_eq]
    exact hlen
  refine wpAny_bind (wpAny_newList ?_ (Nat.le_of_lt (small1000 vl)))
  have atL : (s1.heap.push (seqObj "list" vs.toArray 0)).get? s1.heap.objs.size = some (seqObj "list" vs.toArray 0) := Heap.get?_push_size _ rfl
  have old : ∀ b o, s.heap.get? b = some o → (s1.heap.push (seqObj "list" vs.toArray 0)).get? b = some o := fun b o z => Heap.get?_push_of_some _ (k1 b o z)
  have er : PySem.W.EachIs (fun v b => ∃ as, Reads (s1.heap.push (seqObj "list" vs.toArray 0)) v (enc b) as ∧ s1.heap.objs.size ∉ as) vs b1 := e1.mono fun v b ⟨x, rx, ix⟩ => ⟨[], PyProof.Rows.Reads.keeps old (Im.reads I ix rx), fun z => nomatch z⟩
  refine wpAny_bind (wpAny_holding (PySem.W.list_sort_data (s := { s1 with heap := s1.heap.push (seqObj "list" vs.toArray 0) }) (enc := enc) (R := Shows H enc) atL e1 er (PySem.W.AllAlike.of h.alike) (h.sortable b1) (by rw [← e1.length]; exact Nat.le_of_lt (small1000 vl)) (fun b _ => ?_) fun out ho eo => ?_))
  · have := h.deep b
    show X.A.units + 1 + 1 + (enc b).depth < cLine
    omega
  · obtain ⟨c, hc⟩ := sortedHeap_at (vs := vs) (out := List.toArray out) atL
    refine wpAny_pure ⟨_, rfl, ?_⟩
    refine soQ_end (s' := { s1 with heap := sortedHeap (s1.heap.push (seqObj "list" vs.toArray 0)) s1.heap.objs.size vs (List.toArray out) }) I q hlen ((List.mergeSort_perm b1 _).trans p1) (merge_pw h b1) (fun b o z => ?_) g1 o1 hz hc eo
    have z1 := k1 b o z
    have lt := Heap.lt_size z1
    show (sortedHeap (s1.heap.push (seqObj "list" vs.toArray 0)) s1.heap.objs.size vs (List.toArray out)).get? b = some o
    rw [sortedHeap_old (Nat.ne_of_lt lt) (by rw [size_push']; exact Nat.lt_succ_of_lt lt)]
    exact Heap.get?_push_of_some _ z1
end
/-! ### texts -/
section
variable {X : Cx}
def SetSO (w : World) (a : Addr) (ks : List Str) : HO := .ext fun h => SetRS w h a ks
theorem setRS_at {w : World} {h h' : Heap} {a : Addr} {ks : List Str} (R : SetRS w h a ks) (k : ∀ o, h.get? a = some o → h'.get? a = some o) : SetRS w h' a ks := by
  obtain ⟨o, es, ep, t, ho, r⟩ := R
  exact ⟨o, es, ep, t, k o ho, r⟩
def rSetS (K : PySem.W.Frag) (w : World) : List V → Hp → VK → Prop := fun xs H Q => ∃ (a : Addr) (ss : List Str), xs = [V.ref a] ∧ (SqL K H a (ss.map .str) ∨ SqT K H a (ss.map .str)) ∧ ss.length < 64 ∧ ∀ p ks, H p = none → ks.Nodup → ks.length ≤ 64 → (∀ y, y ∈ ks ↔ y ∈ ss) → Q (.ref p) (upd H p (SetSO w p ks))
theorem val_str {ss : List Str} {its : List Value} (r : Vals (ss.map .str) its) {i : Nat} {v : Value} (e : its[i]? = some v) : ∃ x t, ss[i]? = some x ∧ v = .str x t := by
  have hl := r.length
  have hi : i < its.length := (List.getElem?_eq_some_iff.mp e).1
  rw [List.length_map] at hl
  have h1 : (ss.map V.str)[i]? = some (.str (ss[i]'(by omega))) := by
    rw [List.getElem?_map, List.getElem?_eq_getElem (by omega)]
    rfl
  obtain ⟨u, e1, r1⟩ := Vals.get r h1
  rw [e] at e1
  cases e1
  obtain ⟨t, rfl⟩ := r1
  exact ⟨_, t, List.getElem?_eq_getElem (by omega), rfl⟩
theorem cr_setS (hc : X.calm = true) : CallR X (.type "set") (rSetS X.K X.w) := by
  intro pins s σ H xs us Q I r h
  obtain ⟨a, ss, rfl, ha, hl, q⟩ := h
  rw [Vals.ref1 r]
  have hn : H s.heap.objs.size = none := I.hok.fresh (Nat.le_refl _)
  -- what holds behind i items
  let C : Nat → Heap → Prop := fun i h => ∃ ks, SetRS X.w h s.heap.objs.size ks ∧ (∀ y, y ∈ ks ↔ y ∈ ss.take i) ∧ ks.length ≤ i
  have stay : ∀ i h h', (∀ b o, Nat.le b s.heap.objs.size → h.get? b = some o → h'.get? b = some o) → C i h → C i h' := fun i h h' k ⟨ks, R, m, l⟩ => ⟨ks, setRS_at R fun o e => k _ o (Nat.le_refl _) e, m, l⟩
  have start : ∀ h, h.get? s.heap.objs.size = some (fresh (!X.w.params.followText "set-order")) → (∀ b o, s.heap.get? b = some o → h.get? b = some o) → C 0 h := fun h ho _ => ⟨[], setRS_fresh ho, fun y => by rw [List.take_zero], Nat.le_refl _⟩
  have step : ∀ (its : List Value), Vals (ss.map .str) its → ∀ (A' : Around) (i : Nat) (v : Value) (s' : Shared) (E' : Value → Shared → Prop) (Q' : Bool → Shared → Prop), A'.units = X.A.units + 3 → i < its.toArray.size → its.toArray[i]? = some v → C i s'.heap →
      (∀ b h' tk, Heap.SameBut s.heap.objs.size s'.heap h' → s'.toks ≤ tk → C (i + 1) h' → Q' b { s' with heap := h', toks := tk }) → wpAny (model X.prog X.w) A' (setAdd s.heap.objs.size v) Q' E' s' := by
    intro its rv A' i v s' E' Q' _ hi hv ⟨ks, R, m, l⟩ k
    have hv' : its[i]? = some v := by simpa using hv
    obtain ⟨x, tk, ex, rfl⟩ := val_str rv hv'
    have hi' : i < ss.length := (List.getElem?_eq_some_iff.mp ex).1
    refine addS R (by unfold scanBound; omega) fun b h' ks' sb R' m' l' => k b h' _ sb (Nat.le_succ _) ⟨ks', R', fun y => ?_, by omega⟩
    rw [m' y, m y, List.take_add_one, ex, List.mem_append]
    show _ ↔ _ ∨ y ∈ [x]
    rw [List.mem_singleton]
    exact Or.comm
  have fin : ∀ n, n = ss.length → ∀ (h' : Heap) (tk : Nat), C n h' → (∀ b o, s.heap.get? b = some o → h'.get? b = some o) → EP X pins σ Q (.ref s.heap.objs.size) { s with heap := h', toks := tk } := by
    rintro n rfl h' tk ⟨ks, R, m, l⟩ k
    have R' := R
    obtain ⟨o, es, ep, t, ho, _, _, _, em, nd, _⟩ := R
    refine ⟨.ref s.heap.objs.size, upd H s.heap.objs.size (SetSO X.w s.heap.objs.size ks), I.laid (t' := tk) k (Nat.le_refl _) ⟨R', ⟨o, ho⟩, fun h1 h2 z kk => setRS_at z kk⟩, rfl, q _ ks hn nd (by omega) fun y => ?_⟩
    rw [m y, List.take_length]
  rcases ha with ha | ha
  · obtain ⟨its, rv, pl, hz⟩ := I.list ha
    have hsz : its.toArray.size = ss.length := by
      have := rv.length
      rw [List.length_map] at this
      simpa using this.symm
    refine call_setL (I.ok.hd hc) pl.isList C stay start (step its rv) (fin _ hsz)
  · obtain ⟨its, rv, pl, hz⟩ := I.tuple ha
    have hsz : its.toArray.size = ss.length := by
      have := rv.length
      rw [List.length_map] at this
      simpa using this.symm
    refine call_setT (I.ok.hd hc) (by
      obtain ⟨o, e1, e2, n, e3⟩ := pl
      exact ⟨o, e1, e2, n, e3⟩) C stay start (step its rv) (fin _ hsz)
def rSoSetS (w : World) : List V → Hp → VK → Prop := fun vs H Q => ∃ (a : Addr) (ks : List Str), vs = [V.ref a] ∧ H a = some (SetSO w a ks) ∧ ks.length ≤ 1000 ∧ SoQ PyData.str ks H Q
theorem cr_soSetS (hc : X.calm = true) (hu : X.A.units + 65 < cLine) : CallR X (.builtin "sorted") (rSoSetS X.w) := by
  intro pins s σ H vs us Q I r h
  obtain ⟨a, ks, rfl, ha, hl, q⟩ := h
  rw [Vals.ref1 r]
  have R : SetRS X.w s.heap a ks := (I.hok a _ ha).1
  obtain ⟨o, es, ep, t, ho, hex, hd, g, em, nd, hb, hf, hr, hled⟩ := R
  refine sorted_entries sortOk_str (I.ok.hd hc) hu I ⟨o, ho, hex.1, hd⟩ hf hb hr hled ?_ hl q
  rw [← em]
  generalize es.toList = l at g
  induction l with
  | nil => exact .nil
  | cons e l ih =>
    obtain ⟨x, tk, e1, _⟩ := g e List.mem_cons_self
    refine .cons ⟨.str x, ⟨tk, e1⟩, ?_⟩ (ih fun e' he => g e' (List.mem_cons_of_mem _ he))
    have : keyS e = x := by
      unfold keyS
      rw [e1]
    rw [this]
    exact .str x
end
end RW
end
section
set_option linter.all false
set_option maxRecDepth 100000
set_option autoImplicit false
set_option maxHeartbeats 4000000
/-! sorted(set(xs)) as one rule: of texts, of pairs of texts. -/
namespace SetG
open PySem PySem.Spec PyProof.Rows L2
section
variable {P : Program} {w : World}
abbrev kP (P : Program) (w : World) : HeapKind P w (List Str) := tupleKind (PySem.strKind P w)
theorem strs_items {k : List Str} {vs : List Value} (h : ItemsAre (PySem.strKind P w) k vs) : ∀ v, v ∈ vs → ∃ x t, v = Value.str x t := by
  induction h with
  | nil => exact fun v hv => nomatch hv
  | @cons k0 v' ks vs h1 _ ih =>
    intro v hv
    rcases List.mem_cons.mp hv with e | hv
    · obtain ⟨t, e2⟩ := Value.isStrOf_shape (x := k0) (v := v') h1
      exact ⟨k0, t, e.trans e2⟩
    · exact ih v hv
theorem ofA_str (n : Nat) (x : Str) (t : Tok) : ofAClassStatement n (.str x t) = pure false := by
  cases n <;> rfl
theorem byV_str (n : Nat) (x : Str) (t : Tok) : hashByValue n (.str x t) = pure false := by
  rw [hashByValue_scannable n (show (Value.str x t).scannable = true from rfl)]
  rfl
theorem fineP : Fine (kP P w) where
  ofA := by
    intro A E s k b Q hk h
    obtain ⟨o, items, n, ho, hc, hd, hi⟩ := hk
    unfold ofAClassStatement
    refine wpAny_bind (wpAny_typeOf (T := "tuple") ⟨o, ho, hc⟩ ?_)
    dsimp only
    have e : (("tuple" : String) == "tuple") = true := by decide
    simp only [e, if_true, Bool.not_true, Bool.false_eq_true, if_false]
    try refine wpAny_bind (wpAny_pure ?_)
    try simp only [Bool.not_true, Bool.false_eq_true, if_false]
    show wpAny _ _ (seqItems? (.ref b) >>= _) _ _ s
    refine wpAny_bind (wpAny_seqItems ho hd ?_)
    dsimp only
    refine wpAny_bind ?_
    show wpAny _ _ (forIn items _ _) _ _ s
    rw [← Array.forIn_toList]
    refine wpAny_forIn_list _ (fun rest r s' => r.1 = none ∧ s' = s ∧ ∀ v, v ∈ rest → ∃ x t, v = Value.str x t) _ ?_ ?_ _ _ ⟨rfl, rfl, strs_items hi⟩
    · rintro v rest r s' ⟨hr, rfl, all⟩
      obtain ⟨x, t, rfl⟩ := all v List.mem_cons_self
      rw [ofA_str]
      refine wpAny_bind (wpAny_pure ?_)
      simp only [Bool.false_eq_true, if_false]
      exact wpAny_pure ⟨rfl, rfl, fun u hu' => all u (List.mem_cons_of_mem _ hu')⟩
    · rintro ⟨r1, r2⟩ s' ⟨hr, rfl, _⟩
      obtain rfl : r1 = none := hr
      exact wpAny_pure h
  byV := by
    intro A E s k b Q hk h
    obtain ⟨o, items, n, ho, hc, hd, hi⟩ := hk
    unfold hashByValue
    refine wpAny_bind (wpAny_specialOf (T := "tuple") ⟨o, ho, hc⟩ PySem.F.slot_tuple_hash.lookup ?_)
    show wpAny _ _ (seqItems? (.ref b) >>= _) _ _ s
    refine wpAny_bind (wpAny_seqItems ho hd (wpAny_bind ?_))
    show wpAny _ _ (forIn items _ _) _ _ s
    rw [← Array.forIn_toList]
    refine wpAny_forIn_list _ (fun rest r s' => s' = s ∧ ∀ v, v ∈ rest → ∃ x t, v = Value.str x t) _ ?_ ?_ _ _ ⟨rfl, strs_items hi⟩
    · rintro v rest r s' ⟨rfl, all⟩
      obtain ⟨x, t, rfl⟩ := all v List.mem_cons_self
      rw [byV_str]
      refine wpAny_bind (wpAny_pure ?_)
      simp only [Bool.not_false, if_true]
      exact wpAny_pure (show wpAny _ _ (pure false) _ _ _ from wpAny_pure (h _))
    · rintro ⟨r1, r2⟩ s' ⟨rfl, _⟩
      cases r1
      · exact wpAny_pure (h _)
      · exact wpAny_pure (h _)
  keepS := by
    intro h h' k a b o es ep t hb ho hd hs
    obtain ⟨o', items, n, ho', hc, hd', hi⟩ := hb
    have hne : b ≠ a := by
      rintro rfl
      obtain rfl : o' = o := Option.some.inj (ho'.symm.trans ho)
      rw [hd] at hd'
      exact nomatch hd'
    exact ⟨o', items, n, (hs.2 b hne).trans ho', hc, hd', hi⟩
theorem setRM_fresh {h : Heap} {a : Addr} (ho : h.get? a = some { cls := .type "set", dict := none, data := .set #[] 0 (.fresh 0 0 (!w.params.followText "set-order")) }) : SetRM (kP P w) h a [] := by
  refine ⟨_, #[], 0, _, ho, ⟨rfl, rfl, rfl⟩, rfl, rfl, ⟨List.Pairwise.nil, rfl, rfl, .inl rfl, fun x hx => (by cases hx), fun i h j hi => (by simp at hi)⟩, List.nodup_nil, (fun p hp => nomatch hp), ?_, ?_, ?_⟩
  · show _ ∨ (!w.params.followText "set-order") = true
    cases w.params.followText "set-order"
    · exact .inr rfl
    · exact .inl rfl
  · show 0 * 5 < 7 * 3
    decide
  · show 0 < 64
    decide
/-- what a sort asks of the set at a -/
def SetM0 (P : Program) (w : World) (h : Heap) (a : Addr) (L : List (Addr × List Str)) : Prop := ∃ o es ep t, h.get? a = some o ∧ o.cls = .type "set" ∧ o.data = .set es ep t ∧ es.toList = ents (kP P w) L ∧ t.fits es.size = true ∧ Ris t.place.toList ∧ (w.params.followText "set-order" = true ∨ t.led = true) ∧ es.size < 64
end
end SetG
namespace RW
open PySem PySem.Spec PyProof.Rows L2 SetG
section
variable {X : Cx}
def SetMO (P : Program) (w : World) (a : Addr) (L : List (Addr × List Str)) : HO := .ext fun h => SetM0 P w h a L
abbrev mk (m : Str × Str) : List Str := [m.1, m.2]
def MvAt (H : Hp) (q : Addr × List Str) (m : Str × Str) : Prop := q.2 = mk m ∧ Rd H q.1 (.tup [.str m.1, .str m.2])
def rSetM (K : PySem.W.Frag) (P : Program) (w : World) : List V → Hp → VK → Prop := fun xs H Q => ∃ (a : Addr) (vs : List V) (ms : List (Str × Str)), xs = [V.ref a] ∧ (SqL K H a vs ∨ SqT K H a vs) ∧ ImA H vs (ms.map dMv) ∧ ms.length < 63 ∧
  ∀ p L, H p = none → L.length ≤ 64 → (L.map (·.2)).Nodup → (∀ q, q ∈ L → ∃ m, m ∈ ms ∧ MvAt H q m) → (∀ m, m ∈ ms → mk m ∈ L.map (·.2)) → Q (.ref p) (upd H p (SetMO P w p L))
theorem Im.mv {H : Hp} {v : V} {m : Str × Str} (h : Im H v (dMv m)) : ∃ b, v = .ref b ∧ Rd H b (.tup [.str m.1, .str m.2]) := by
  obtain ⟨b, xs, rfl, hb, i⟩ := h.tinv
  cases i with
  | cons i1 i2 => cases i2 with
    | cons i2 i3 =>
      cases i3
      have e1 := i1.sinv
      have e2 := i2.sinv
      subst e1 e2
      exact ⟨b, rfl, hb⟩
theorem is_mv {pins : List (Addr × Obj)} {σ : L2.St} {H : Hp} {s : Shared} (I : Inv X pins σ H s) {b : Addr} {m : Str × Str} (h : Rd H b (.tup [.str m.1, .str m.2])) : (kP X.prog X.w).is s.heap (mk m) b := by
  obtain ⟨its, rv, ⟨o, ho, hc, n, hd⟩, _⟩ := I.tuple (.inl h)
  refine ⟨o, its.toArray, n, ho, hc, hd, ?_⟩
  cases rv with
  | cons r1 rv => cases rv with
    | cons r2 rv =>
      cases rv
      obtain ⟨t1, rfl⟩ := r1
      obtain ⟨t2, rfl⟩ := r2
      exact .cons (strKind_is _ _ _ _) (.cons (strKind_is _ _ _ _) .nil)
theorem cr_setM (hc : X.calm = true) (hu : X.A.units + 65 < cLine) : CallR X (.type "set") (rSetM X.K X.prog X.w) := by
  intro pins s σ H xs us Q I r h
  obtain ⟨a, vs, ms, rfl, ha, iv, hl, q⟩ := h
  rw [Vals.ref1 r]
  have hn : H s.heap.objs.size = none := I.hok.fresh (Nat.le_refl _)
  let kd := kP X.prog X.w
  let old : Heap → Prop := fun h => ∀ b o, s.heap.get? b = some o → h.get? b = some o
  let C : Nat → Heap → Prop := fun i h => old h ∧ ∃ L, SetRM kd h s.heap.objs.size L ∧ (∀ q, q ∈ L → ∃ m, m ∈ ms ∧ MvAt H q m) ∧ (∀ m, m ∈ ms.take i → mk m ∈ L.map (·.2)) ∧ L.length ≤ i
  have isOld : ∀ {h : Heap} {b : Addr} {m : Str × Str}, old h → Rd H b (.tup [.str m.1, .str m.2]) → kd.is h (mk m) b := fun {h b m} k e => by
    obtain ⟨o, items, n, ho, rest⟩ := is_mv I e
    exact ⟨o, items, n, k b o ho, rest⟩
  have stay : ∀ i h h', (∀ b o, Nat.le b s.heap.objs.size → h.get? b = some o → h'.get? b = some o) → C i h → C i h' := fun i h h' k ⟨ol, L, ⟨o, es, ep, t, D⟩, e1, e2, e3⟩ => by
    have ol' : old h' := fun b o e => k b o (Nat.le_of_lt (Heap.lt_size e)) (ol b o e)
    refine ⟨ol', L, ⟨o, es, ep, t, { D with at_ := k _ _ (Nat.le_refl _) D.at_, is := fun p hp => ?_ }⟩, e1, e2, e3⟩
    obtain ⟨m, _, em, hm⟩ := e1 p hp
    rw [em]
    exact isOld ol' hm
  have start : ∀ h, h.get? s.heap.objs.size = some (fresh (!X.w.params.followText "set-order")) → (∀ b o, s.heap.get? b = some o → h.get? b = some o) → C 0 h := fun h ho k => ⟨k, [], setRM_fresh ho, (fun q hq => nomatch hq), (fun m hm => by rw [List.take_zero] at hm; cases hm), Nat.le_refl _⟩
  have step : ∀ (its : List Value), Vals vs its → ∀ (A' : Around) (i : Nat) (v : Value) (s' : Shared) (E' : Value → Shared → Prop) (Q' : Bool → Shared → Prop), A'.units = X.A.units + 3 → i < its.toArray.size → its.toArray[i]? = some v → C i s'.heap →
      (∀ b h' tk, Heap.SameBut s.heap.objs.size s'.heap h' → s'.toks ≤ tk → C (i + 1) h' → Q' b { s' with heap := h', toks := tk }) → wpAny (model X.prog X.w) A' (setAdd s.heap.objs.size v) Q' E' s' := by
    intro its rv A' i v s' E' Q' hA hi hv ⟨ol, L, R, e1, e2, e3⟩ k
    have hv' : its[i]? = some v := by simpa using hv
    have hi' : i < vs.length := by
      have := rv.length
      have h2 : i < its.length := by simpa using hi
      omega
    obtain ⟨d, ed, iv'⟩ := iv.getV (List.getElem?_eq_getElem hi')
    have hm0 : ∃ m, ms[i]? = some m ∧ dMv m = d := by
      rw [List.getElem?_map] at ed
      cases e0 : ms[i]? with
      | none =>
        rw [e0] at ed
        cases ed
      | some m =>
        rw [e0] at ed
        exact ⟨m, rfl, Option.some.inj ed⟩
    obtain ⟨m, em, rfl⟩ := hm0
    obtain ⟨b, eb, hb⟩ := iv'.mv
    obtain ⟨u, eu, ru⟩ := Vals.get rv (List.getElem?_eq_getElem hi')
    rw [hv'] at eu
    cases eu
    rw [eb] at ru
    obtain rfl : v = Value.ref b := ru
    have hx : kd.is s'.heap (mk m) b := isOld ol hb
    have hroom : kd.room A' := by
      show A'.units < cLine
      rw [hA]
      omega
    unfold setAdd
    refine wpAny_holding (wpAny_bind (kd.pyHash hroom hx ?_))
    have hvl0 := iv.len
    rw [List.length_map] at hvl0
    refine addM (s := { s' with toks := s'.toks + kd.draws (mk m) }) fineP R hx hroom (by omega) fun bb h' L' sb R' hL' => ?_
    have ol' : old h' := fun b' o e => (sb.2 b' (Nat.ne_of_lt (Heap.lt_size e))).trans (ol b' o e)
    have etk : ms.take (i + 1) = ms.take i ++ [m] := by
      rw [List.take_add_one, em]
      rfl
    refine k bb h' _ sb (Nat.le_add_right _ _) ⟨ol', L', R', ?_, ?_, ?_⟩
    · rcases hL' with ⟨rfl, _⟩ | pm
      · exact e1
      · intro q hq
        rcases List.mem_cons.mp (pm.mem_iff.mp hq) with rfl | hq
        · exact ⟨m, List.mem_of_getElem? em, rfl, hb⟩
        · exact e1 q hq
    · intro m' hm'
      rw [etk] at hm'
      rcases hL' with ⟨rfl, hin⟩ | pm
      · rcases List.mem_append.mp hm' with hm' | hm'
        · exact e2 m' hm'
        · rw [List.mem_singleton.mp hm']
          exact hin
      · refine (pm.map (·.2)).mem_iff.mpr ?_
        rcases List.mem_append.mp hm' with hm' | hm'
        · exact List.mem_cons_of_mem _ (e2 m' hm')
        · rw [List.mem_singleton.mp hm']
          exact List.mem_cons_self
    · rcases hL' with ⟨rfl, _⟩ | pm
      · omega
      · rw [pm.length_eq, List.length_cons]
        omega
  have fin : ∀ n, n = ms.length → ∀ (h' : Heap) (tk : Nat), C n h' → (∀ b o, s.heap.get? b = some o → h'.get? b = some o) → EP X pins σ Q (.ref s.heap.objs.size) { s with heap := h', toks := tk } := by
    rintro n rfl h' tk ⟨_, L, ⟨o, es, ep, t, D⟩, e1, e2, e3⟩ k
    have few : es.size < 64 := by
      rw [SetD.size (s := { s with heap := h' }) D]
      exact D.few
    refine ⟨.ref s.heap.objs.size, upd H s.heap.objs.size (SetMO X.prog X.w s.heap.objs.size L), I.laid (t' := tk) k (Nat.le_refl _) ⟨⟨o, es, ep, t, D.at_, D.ex.1, D.dt, D.en, SetD.fits (s := { s with heap := h' }) D, D.tab.ris, D.led, few⟩, ⟨o, D.at_⟩, fun h1 h2 z kk => ?_⟩, rfl, q _ L hn (by omega) D.nd e1 fun m hm => e2 m (by rw [List.take_length]; exact hm)⟩
    obtain ⟨o', es', ep', t', z1, z2⟩ := z
    exact ⟨o', es', ep', t', kk _ z1, z2⟩
  have hvl : vs.length = ms.length := by rw [iv.len, List.length_map]
  rcases ha with ha | ha
  · obtain ⟨its, rv, pl, hz⟩ := I.list ha
    have hsz : its.toArray.size = ms.length := by
      have := rv.length
      simpa using (by omega : its.length = ms.length)
    exact call_setL (I.ok.hd hc) pl.isList C stay start (step its rv) (fin _ hsz)
  · obtain ⟨its, rv, pl, hz⟩ := I.tuple ha
    have hsz : its.toArray.size = ms.length := by
      have := rv.length
      simpa using (by omega : its.length = ms.length)
    exact call_setT (I.ok.hd hc) (by
      obtain ⟨o, e1, e2, n, e3⟩ := pl
      exact ⟨o, e1, e2, n, e3⟩) C stay start (step its rv) (fin _ hsz)
def rSoSetM (P : Program) (w : World) : List V → Hp → VK → Prop := fun vs H Q => ∃ (a : Addr) (L : List (Addr × List Str)) (bs : List (Str × Str)), vs = [V.ref a] ∧ H a = some (SetMO P w a L) ∧ PySem.W.EachIs (MvAt H) L bs ∧ bs.length ≤ 1000 ∧ SoQ dMv bs H Q
theorem cr_soSetM (hc : X.calm = true) (hu : X.A.units + 65 < cLine) : CallR X (.builtin "sorted") (rSoSetM X.prog X.w) := by
  intro pins s σ H vs us Q I r h
  obtain ⟨a, L, bs, rfl, ha, eb, hl, q⟩ := h
  rw [Vals.ref1 r]
  obtain ⟨o, es, ep, t, ho, hcl, hd, en, hf, hr, hled, few⟩ : SetM0 X.prog X.w s.heap a L := (I.hok a _ ha).1
  refine sorted_entries sortOk_mv (I.ok.hd hc) hu I ⟨o, ho, hcl, hd⟩ hf (by unfold scanBound; omega) hr hled ?_ hl q
  rw [en]
  clear en q ha hl
  induction eb with
  | nil => exact .nil
  | cons h _ ih =>
    refine .cons ⟨.ref _, rfl, .tup h.2 (.cons (.str _) (.cons (.str _) .nil))⟩ ih
end
/-! ### as one rule -/
def tMono (t : TE) : TE := fun σ H Q => ∃ Q1 : VK, t σ H Q1 ∧ ∀ v H', Q1 v H' → Q v H'
theorem pe_mono {X : Cx} {e : Expr} {t : TE} (h : PE X e t) : PE X e (tMono t) := by
  refine ⟨fun pins s σ H Q I hq => ?_⟩
  obtain ⟨Q1, h1, h2⟩ := hq
  exact thn (h.run pins s σ H _ I h1) fun u s1 ⟨v, H', I', r, q⟩ => ⟨v, H', I', r, h2 v H' q⟩
theorem pe_imp {X : Cx} {e : Expr} {t t' : TE} (h : PE X e t) (k : ∀ σ H Q, t' σ H Q → t σ H Q) : PE X e t' := ⟨fun pins s σ H Q I hq => h.run pins s σ H Q I (k σ H Q hq)⟩
/-- sorted(set(e)), e a list or tuple of texts -/
def tSSetS (K : PySem.W.Frag) (te : TE) : TE := fun σ H Q => te σ H fun x H1 => ∃ (a : Addr) (ss : List Str), x = V.ref a ∧ (SqL K H1 a (ss.map .str) ∨ SqT K H1 a (ss.map .str)) ∧ ss.length < 64 ∧
  ∀ (p : Addr) (ys : List Str) (H2 : Hp), Same H1 H2 → H1 p = none → ys.Nodup → (∀ y, y ∈ ys ↔ y ∈ ss) → H2 p = some (.lst (ys.map .str)) → Q (.ref p) H2
def tSSetM (K : PySem.W.Frag) (te : TE) : TE := fun σ H Q => te σ H fun x H1 => ∃ (a : Addr) (vs : List V) (ms : List (Str × Str)), x = V.ref a ∧ (SqL K H1 a vs ∨ SqT K H1 a vs) ∧ ImA H1 vs (ms.map dMv) ∧ ms.length < 63 ∧
  ∀ (p : Addr) (xs : List V) (ys : List (Str × Str)) (H2 : Hp), Same H1 H2 → H1 p = none → ys.Nodup → (∀ y, y ∈ ys ↔ y ∈ ms) → H2 p = some (.lst xs) → ImA H2 xs (ys.map dMv) → Q (.ref p) H2
section
variable {X : Cx} {e : Expr} {te : TE} {p1 p2 q1 q2 : Pos} {k : Nat}
theorem pe_ssetS (Tx : Txt X.mg) (hr : Room k X.A) (he : PE X e te) (hc : X.calm = true := by rfl) (hg : Gl X "sorted" := by rfl) (hg2 : Gl X "set" := by rfl)
    (h1 : starEach [.Call (.Name "set" q1) [e] [] q2] X.env = (false, eval (.Call (.Name "set" q1) [e] [] q2) X.env) :: starEach [] X.env := by rfl) (h2 : starEach [e] X.env = (false, eval e X.env) :: starEach [] X.env := by rfl) :
    PE X (.Call (.Name "sorted" p1) [.Call (.Name "set" q1) [e] [] q2] [] p2) (tSSetS X.K te) := by
  have hu : X.A.units + 65 < cLine := by
    have := hr.un
    omega
  refine pe_imp (pe_callB (cr_soSetS hc hu) hg Tx.b_sorted bb_sorted (pa_cons (pe_callTy (cr_setS hc) hg2 Tx.b_set bb_set (pa_cons (pe_mono he) pa_nil h2) (he := h2)) pa_nil h1) (he := h1)) fun σ H Q h => ?_
  refine ⟨_, h, ?_⟩
  rintro x H1 ⟨a, ss, rfl, ha, hl, q⟩
  refine ⟨a, ss, rfl, ha, hl, fun S ks nS nd hkl mem => ?_⟩
  refine ⟨S, ks, rfl, upd_same, by omega, fun p xs bs np pm pw iv => ?_⟩
  have e1 : xs = bs.map V.str := iv.strs
  subst e1
  have ne : p ≠ S := fun z => by
    rw [z, upd_same] at np
    cases np
  refine q p bs _ ((Same.new nS).trans (Same.new np)) (by
    rw [upd_ne ne] at np
    exact np) (pm.nodup_iff.mpr nd) (fun y => by rw [pm.mem_iff, mem y]) upd_same
theorem mvAt_nodup {H : Hp} {L : List (Addr × List Str)} {bs : List (Str × Str)} (e : PySem.W.EachIs (MvAt H) L bs) : L.map (·.2) = bs.map mk := by
  induction e with
  | nil => rfl
  | cons h _ ih => rw [List.map_cons, List.map_cons, ih, h.1]
theorem mk_inj {m n : Str × Str} (h : mk m = mk n) : m = n := by
  injection h with h1 h2
  injection h2 with h2 _
  exact Prod.ext h1 h2
theorem pe_ssetM (Tx : Txt X.mg) (hr : Room k X.A) (he : PE X e te) (hc : X.calm = true := by rfl) (hg : Gl X "sorted" := by rfl) (hg2 : Gl X "set" := by rfl)
    (h1 : starEach [.Call (.Name "set" q1) [e] [] q2] X.env = (false, eval (.Call (.Name "set" q1) [e] [] q2) X.env) :: starEach [] X.env := by rfl) (h2 : starEach [e] X.env = (false, eval e X.env) :: starEach [] X.env := by rfl) :
    PE X (.Call (.Name "sorted" p1) [.Call (.Name "set" q1) [e] [] q2] [] p2) (tSSetM X.K te) := by
  have hu : X.A.units + 65 < cLine := by
    have := hr.un
    omega
  refine pe_imp (pe_callB (cr_soSetM hc hu) hg Tx.b_sorted bb_sorted (pa_cons (pe_callTy (cr_setM hc hu) hg2 Tx.b_set bb_set (pa_cons (pe_mono he) pa_nil h2) (he := h2)) pa_nil h1) (he := h1)) fun σ H Q h => ?_
  refine ⟨_, h, ?_⟩
  rintro x H1 ⟨a, vs, ms, rfl, ha, iv, hl, q⟩
  refine ⟨a, vs, ms, rfl, ha, iv, hl, fun S L nS hLl nd sub all => ?_⟩
  have key : ∀ L : List (Addr × List Str), (∀ q, q ∈ L → ∃ m, m ∈ ms ∧ MvAt H1 q m) → ∃ bs : List (Str × Str), PySem.W.EachIs (MvAt (upd H1 S (SetMO X.prog X.w S L))) L bs ∧ (∀ m, m ∈ bs → m ∈ ms) := by
    intro L0 hs
    have gen : ∀ L : List (Addr × List Str), (∀ q, q ∈ L → ∃ m, m ∈ ms ∧ MvAt H1 q m) → ∃ bs : List (Str × Str), PySem.W.EachIs (MvAt (upd H1 S (SetMO X.prog X.w S L0))) L bs ∧ (∀ m, m ∈ bs → m ∈ ms) := by
      intro L
      induction L with
      | nil => exact fun _ => ⟨[], .nil, fun m hm => nomatch hm⟩
      | cons q L ih =>
        intro hs
        obtain ⟨bs, e, hb⟩ := ih fun q' hq => hs q' (List.mem_cons_of_mem _ hq)
        obtain ⟨m, hm, e1, e2⟩ := hs q List.mem_cons_self
        refine ⟨m :: bs, .cons ⟨e1, L2.Rd.sm (Same.new nS) e2⟩ e, fun m' hm' => ?_⟩
        rcases List.mem_cons.mp hm' with rfl | hm'
        · exact hm
        · exact hb m' hm'
    exact gen L0 hs
  obtain ⟨bs, eb, hb⟩ := key L sub
  have hmap := mvAt_nodup eb
  have hlb : bs.length ≤ 64 := by
    rw [← eb.length]
    exact hLl
  refine ⟨S, L, bs, rfl, upd_same, eb, by omega, fun p xs bs' np pm pw iv' => ?_⟩
  have ne : p ≠ S := fun z => by
    rw [z, upd_same] at np
    cases np
  have ndb : bs.Nodup := by
    rw [hmap] at nd
    exact List.Pairwise.imp (fun h z => h (by rw [z])) (List.pairwise_map.mp nd)
  refine q p xs bs' _ ((Same.new nS).trans (Same.new np)) (by
    rw [upd_ne ne] at np
    exact np) (pm.nodup_iff.mpr ndb) (fun y => ?_) upd_same iv'
  rw [pm.mem_iff]
  refine ⟨hb y, fun hy => ?_⟩
  have z := all y hy
  rw [hmap] at z
  obtain ⟨m, hm, em⟩ := List.mem_map.mp z
  rw [← mk_inj em]
  exact hm
end
end RW
end
section
set_option linter.all false
set_option maxRecDepth 100000
set_option autoImplicit false
set_option maxHeartbeats 1000000
/-! Tuples of a known object. -/
namespace RW
open PySem PySem.Spec PyProof.Rows L2
/-- a tuple of a known object -/
def Fz (H : Hp) (v : V) : Prop := ∃ a o xs, v = .ref a ∧ H a = some (.frz o (.tup xs)) ∧ o.dict = none
theorem Fz.sm {H H' : Hp} {v : V} (s : Same H H') (h : Fz H v) : Fz H' v := by
  obtain ⟨a, o, xs, e, h1, h2⟩ := h
  exact ⟨a, o, xs, e, s _ _ h1, h2⟩
section
variable {X : Cx}
theorem cr_tupF : CallR X (.type "tuple") (fun xs H Q => ∃ p ys, xs = [.ref p] ∧ SqL X.K H p ys ∧ ∀ l o, H l = none → o.dict = none → Q (.ref l) (upd H l (.frz o (.tup ys)))) := by
  intro pins s σ H xs us Q I r h
  obtain ⟨p, ys, rfl, hq, q⟩ := h
  obtain ⟨u, rfl, rx⟩ := vals1 r
  cases rx
  obtain ⟨its, r', pl, hz⟩ := I.list hq
  have hlen := r'.length
  refine call_tuple_list pl.isList (fun h' kp => ?_) (by simp only [List.size_toArray] <;> omega)
  have I1 : Inv X pins σ H { s with heap := h' } := I.kept (t' := s.toks) kp
  have I2 : Inv X pins σ (upd H h'.objs.size (.frz { cls := .type "tuple", data := .seq its.toArray } (.tup ys))) { s with heap := h'.push { cls := .type "tuple", data := .seq its.toArray } } :=
    I1.laid (t' := s.toks) (fun b o e => Heap.get?_push_of_some _ e) (Nat.le_refl _) (show ObjOk X.prog X.w _ _ _ (.frz _ (.tup ys)) from ⟨Heap.get?_push_size _ rfl, hz, its, r', IsTup.new _ _⟩)
  exact ⟨.ref h'.objs.size, _, I2, rfl, q _ _ (I1.hok.fresh (Nat.le_refl _)) rfl⟩
end
section
variable {K : PySem.W.Frag} {H : Hp} {Q : VK}
/-- tuple(a new list) -/
theorem r_tupF {D : Addr} {acc : List V} {ds : List PyData} (e : H D = some (.lst acc)) (i : ImA H acc ds) (q : ∀ l H', Same H H' → H l = none → Fz H' (.ref l) → Im H' (.ref l) (.tuple ds) → Q (.ref l) H') :
    ∃ p ys, [V.ref D] = [V.ref p] ∧ SqL K H p ys ∧ ∀ l o, H l = none → o.dict = none → Q (.ref l) (upd H l (.frz o (.tup ys))) :=
  ⟨D, acc, rfl, .inl (.inl e), fun l o nl ho => q l _ (Same.new nl) nl ⟨l, o, acc, rfl, upd_same, ho⟩ (.tup (.inr ⟨o, upd_same⟩) (i.mono (.new nl)))⟩
end
end RW
end
section
set_option linter.all false
set_option maxRecDepth 100000
set_option autoImplicit false
set_option maxHeartbeats 1000000
/-! names_in, parents_by, rooms_by, ways_by. -/
namespace RW
open PySem PySem.Spec PyProof.Rows L2
abbrev s_names_in : Stmt := topS 1
abbrev N_names_in : List Str := ["tree", "name", "parent", "room"]
theorem sc_names_in : FnScope N_names_in ["tree"] (defScope s_names_in) := ⟨rfl, rfl, rfl, by decide +kernel, rfl, by decide +kernel, by decide +kernel⟩
abbrev s_parents_by : Stmt := topS 2
abbrev N_parents_by : List Str := ["tree", "name", "parent", "room"]
theorem sc_parents_by : FnScope N_parents_by ["tree"] (defScope s_parents_by) := ⟨rfl, rfl, rfl, by decide +kernel, rfl, by decide +kernel, by decide +kernel⟩
abbrev s_rooms_by : Stmt := topS 3
abbrev N_rooms_by : List Str := ["tree", "name", "parent", "room"]
theorem sc_rooms_by : FnScope N_rooms_by ["tree"] (defScope s_rooms_by) := ⟨rfl, rfl, rfl, by decide +kernel, rfl, by decide +kernel, by decide +kernel⟩
abbrev s_ways_by : Stmt := topS 4
abbrev N_ways_by : List Str := ["tree", "parents", "ways", "name", "waiting", "here", "own"]
theorem sc_ways_by : FnScope N_ways_by ["tree"] (defScope s_ways_by) := ⟨rfl, rfl, rfl, by decide +kernel, rfl, by decide +kernel, by decide +kernel⟩

section
variable {P : Program} {w : World} {K : PySem.W.Frag} {mg : Str → Option Value} {base : Heap}
def sp_names_in : Sp := fun vs H Q _ => ∃ (T : List Row) (v : V), vs = [v] ∧ Im H v (dTree T) ∧ T.length ≤ 1000 ∧ ∀ v' H', Same H H' → Fz H' v' → Im H' v' (dStrs (names T)) → Q v' H'
theorem ok_names_in (Tx : Txt mg) (hf : Has K mg "names_in" s_names_in) : OkF P w K mg base "names_in" ["tree"] 1 sp_names_in := by
  refine Has.ok hf sc_names_in (fun _ _ _ _ _ _ us hl => match us, hl with | [_], _ => rfl) (fun vs H Q E h => ?_) (fun f cdv A outer s H vs Q E hr h => ?_)
  · obtain ⟨T, v, rfl, _⟩ := h
    rfl
  · obtain ⟨T, v, rfl, iv, hz, q⟩ := h
    refine ⟨_, (pss_one (ps_ret (pe_callTy cr_tupF (by rfl) Tx.b_tuple bb_tuple (pa_cons (pe_lc (own := [("name", 1), ("parent", 2), ("room", 3)]) (g := (gTup K 3 (gCons (gName 1) (gCons (gName 2) (gCons (gName 3) gNil))))) (tt := tYes) rfl sc_names_in.nd (pi_tup (pv 0)) (blkOk_by (own := [("name", 1), ("parent", 2), ("room", 3)]) (N := N_names_in) (sc := defScope s_names_in) (by decide +kernel)) (fun _ _ _ _ _ => (pg_tup rfl (pgs_cons (pg_name (i := 1) sc_names_in.nd rfl (.inl rfl)) (pgs_cons (pg_name (i := 2) sc_names_in.nd rfl (.inl rfl)) (pgs_cons (pg_name (i := 3) sc_names_in.nd rfl (.inl rfl)) pgs_nil))))) (fun _ _ _ _ _ => pts_nil) (fun _ _ _ _ _ => (pv 1))) pa_nil)))), ?_⟩
    refine ⟨_, rfl, lcT iv hz (fun _ => true) (fun r => .str r.1) ?_ ?_⟩
    · intro r x H1 Qt Qf _ _ ix ht _
      exact g_tup3 ix fun a b c ia _ _ => ⟨rfl, a, rfl, ht rfl _ _ (Same.refl _) ia⟩
    · intro D H1 acc _ sm e i
      rw [filter_true] at i
      refine r_tupF e i fun l H' s' nl fz i2 => q _ _ (sm.trans s') fz ?_
      show Im _ _ (.tuple ((T.map (·.1)).map .str))
      rw [List.map_map]
      exact i2
def sp_parents_by : Sp := fun vs H Q _ => ∃ (T : List Row) (v : V), vs = [v] ∧ Im H v (dTree T) ∧ T.length ≤ 1000 ∧ (names T).Nodup ∧ ∀ p H', Same H H' → H p = none → DL H' p (T.map fun r => (r.1, .str r.2.1)) → Q (.ref p) H'
theorem ok_parents_by (hf : Has K mg "parents_by" s_parents_by) : OkF P w K mg base "parents_by" ["tree"] 1 sp_parents_by := by
  refine Has.ok hf sc_parents_by (fun _ _ _ _ _ _ us hl => match us, hl with | [_], _ => rfl) (fun vs H Q E h => ?_) (fun f cdv A outer s H vs Q E hr h => ?_)
  · obtain ⟨T, v, rfl, _⟩ := h
    rfl
  · obtain ⟨T, v, rfl, iv, hz, nd, q⟩ := h
    refine ⟨_, (pss_one (ps_ret (pe_dc (own := [("name", 1), ("parent", 2), ("room", 3)]) (g := (gTup K 3 (gCons (gName 1) (gCons (gName 2) (gCons (gName 3) gNil))))) (tt := tYes) rfl sc_parents_by.nd (pi_tup (pv 0)) (blkOk_by (own := [("name", 1), ("parent", 2), ("room", 3)]) (N := N_parents_by) (sc := defScope s_parents_by) (by decide +kernel)) (fun _ _ _ _ _ => (pg_tup rfl (pgs_cons (pg_name (i := 1) sc_parents_by.nd rfl (.inl rfl)) (pgs_cons (pg_name (i := 2) sc_parents_by.nd rfl (.inl rfl)) (pgs_cons (pg_name (i := 3) sc_parents_by.nd rfl (.inl rfl)) pgs_nil))))) (fun _ _ _ _ _ => pts_nil) (fun _ _ _ _ _ => (pv 1)) (fun _ _ _ _ _ => (pv 2))))), ?_⟩
    refine ⟨_, rfl, dcT iv hz (fun _ => true) (fun r => r.1) (fun r => .str r.2.1) ?_ ?_ ?_⟩
    · rw [filter_true]
      exact nd
    · intro r x H1 Qt Qf _ _ ix ht _
      exact g_tup3 ix fun a b c ia ib _ => ⟨rfl, a, rfl, b, rfl, by rw [ia.sinv]; exact ht rfl _ _ (Same.refl _) ib⟩
    · intro D H1 nD sm dl
      rw [filter_true] at dl
      exact q D H1 sm nD dl
def sp_rooms_by : Sp := fun vs H Q _ => ∃ (T : List Row) (v : V), vs = [v] ∧ Im H v (dTree T) ∧ T.length ≤ 1000 ∧ (names T).Nodup ∧ ∀ p H', Same H H' → H p = none → DL H' p (T.map fun r => (r.1, .int r.2.2)) → Q (.ref p) H'
theorem ok_rooms_by (hf : Has K mg "rooms_by" s_rooms_by) : OkF P w K mg base "rooms_by" ["tree"] 1 sp_rooms_by := by
  refine Has.ok hf sc_rooms_by (fun _ _ _ _ _ _ us hl => match us, hl with | [_], _ => rfl) (fun vs H Q E h => ?_) (fun f cdv A outer s H vs Q E hr h => ?_)
  · obtain ⟨T, v, rfl, _⟩ := h
    rfl
  · obtain ⟨T, v, rfl, iv, hz, nd, q⟩ := h
    refine ⟨_, (pss_one (ps_ret (pe_dc (own := [("name", 1), ("parent", 2), ("room", 3)]) (g := (gTup K 3 (gCons (gName 1) (gCons (gName 2) (gCons (gName 3) gNil))))) (tt := tYes) rfl sc_rooms_by.nd (pi_tup (pv 0)) (blkOk_by (own := [("name", 1), ("parent", 2), ("room", 3)]) (N := N_rooms_by) (sc := defScope s_rooms_by) (by decide +kernel)) (fun _ _ _ _ _ => (pg_tup rfl (pgs_cons (pg_name (i := 1) sc_rooms_by.nd rfl (.inl rfl)) (pgs_cons (pg_name (i := 2) sc_rooms_by.nd rfl (.inl rfl)) (pgs_cons (pg_name (i := 3) sc_rooms_by.nd rfl (.inl rfl)) pgs_nil))))) (fun _ _ _ _ _ => pts_nil) (fun _ _ _ _ _ => (pv 1)) (fun _ _ _ _ _ => (pv 3))))), ?_⟩
    refine ⟨_, rfl, dcT iv hz (fun _ => true) (fun r => r.1) (fun r => .int r.2.2) ?_ ?_ ?_⟩
    · rw [filter_true]
      exact nd
    · intro r x H1 Qt Qf _ _ ix ht _
      exact g_tup3 ix fun a b c ia _ ic => ⟨rfl, a, rfl, c, rfl, by rw [ia.sinv]; exact ht rfl _ _ (Same.refl _) ic⟩
    · intro D H1 nD sm dl
      rw [filter_true] at dl
      exact q D H1 sm nD dl
/-- the dict of the ways -/
structure WOk (T : List Row) (gd : Gd) : Prop where
  e : gd.lookup E' = some (dStrs (ways T E'))
  v : ∀ k d, gd.lookup k = some d → (k = E' ∨ k ∈ names T) ∧ d = dStrs (ways T k)
  nd : (gd.map (·.1)).Nodup
theorem WOk.len {T : List Row} {gd : Gd} (h : WOk T gd) (ht : T.length ≤ 20) : gd.length ≤ 1000 := by
  have := nodup_len (m := E' :: names T) h.nd fun x hx => by
    obtain ⟨d, hd⟩ := Option.isSome_iff_exists.mp (look_isSome.mpr hx)
    rcases (h.v x d hd).1 with e | e
    · rw [e]
      exact List.mem_cons_self
    · exact List.mem_cons_of_mem _ e
  rw [List.length_map, List.length_cons] at this
  unfold names at this
  rw [List.length_map] at this
  omega
theorem WOk.put {T : List Row} {gd : Gd} (h : WOk T gd) {k : Str} (hk : k ∈ names T) : WOk T (gput gd k (dStrs (ways T k))) := by
  refine ⟨?_, fun j d hj => ?_, ?_⟩
  · rw [gput_look]
    split
    · rename_i e
      rw [e]
    · exact h.e
  · rw [gput_look] at hj
    split at hj
    · rename_i e
      cases hj
      rw [e]
      exact ⟨.inr hk, rfl⟩
    · exact h.v j d hj
  · rw [gput_keys]
    split
    · exact h.nd
    · rename_i hn
      rw [List.nodup_append]
      refine ⟨h.nd, by simp, fun a ha b hb => ?_⟩
      rw [List.mem_singleton] at hb
      rw [hb]
      exact fun e => hn (by rw [← e]; exact ha)
/-- a chain inwards: the parent of the first is h, .. -/
def RC (T : List Row) : List Str → Str → Prop
  | [], _ => True
  | x :: r, h => x ∈ names T ∧ par T x = h ∧ RC T r x
def WaysD (T : List Row) (gd : Gd) : Prop := ∀ x, x = E' ∨ x ∈ names T → gd.lookup x = some (dStrs (ways T x))
def sp_ways_by : Sp := fun vs H Q _ => ∃ (T : List Row) (v : V), vs = [v] ∧ Im H v (dTree T) ∧ TreeOk T ∧ ∀ p H' gd, Same H H' → H p = none → DL H' p gd → WaysD T gd → Q (.ref p) H'
theorem ok_ways_by (F_parents_by : OkF P w K mg base "parents_by" ["tree"] 1 sp_parents_by) (F_names_in : OkF P w K mg base "names_in" ["tree"] 1 sp_names_in) (hf : Has K mg "ways_by" s_ways_by) : OkF P w K mg base "ways_by" ["tree"] 2 sp_ways_by := by
  refine Has.ok hf sc_ways_by (fun _ _ _ _ _ _ us hl => match us, hl with | [_], _ => rfl) (fun vs H Q E h => ?_) (fun f cdv A outer s H vs Q E hr h => ?_)
  · obtain ⟨T, v, rfl, _⟩ := h
    rfl
  · obtain ⟨T, v, rfl, iv, ok, q⟩ := h
    have hu := hu_of hr
    refine ⟨_, (pss_cons (ps_set (i := 1) sc_ways_by.nd rfl (.inl rfl) (pe_c F_parents_by (hr.mono (by decide)) (pa_cons (pv 0) pa_nil)))
  (pss_cons (ps_set (i := 2) sc_ways_by.nd rfl (.inl rfl) (pe_disp (pps_cons pe_str (pe_tup pa_nil) pps_nil) (by rfl) (by rfl) (fun z => by cases z) (by decide)))
  (pss_cons (ps_for PassesOwn.never rfl (pi_tup (pe_c F_names_in (hr.mono (by decide)) (pa_cons (pv 0) pa_nil))) (pg_name (i := 3) sc_ways_by.nd rfl (.inl rfl)) (pss_cons (ps_set (i := 4) sc_ways_by.nd rfl (.inl rfl) (pe_lst pa_nil))
  (pss_cons (ps_set (i := 5) sc_ways_by.nd rfl (.inl rfl) (pv 3))
  (pss_cons (ps_while PassesOwn.never (pt_cmp (pc_dnotin hu (pv 5) (pv 2))) (pss_cons (ps_expr (pe_bm PySem.F.plainAttrs_list PySem.F.slot_list_append PySem.F.type_list_append mt_append (pv 4) (pa_cons (pv 5) pa_nil)))
  (pss_one (ps_set (i := 5) sc_ways_by.nd rfl (.inl rfl) (pe_dget hu (pv 1) (pv 5) (fun _ _ => rfl))))))
  (pss_one (ps_for PassesOwn.never rfl (pi_list (pe_revL (pv 4))) (pg_name (i := 6) sc_ways_by.nd rfl (.inl rfl)) (pss_one (ps_dput hu (pv 2) (pv 6) (pe_tup (pa_cons (pv 6) (StX.pa_star (pe_dget hu (pv 2) (pe_dget hu (pv 1) (pv 6) (fun _ _ => rfl)) (fun _ _ => rfl)) pa_nil))) rfl))))))))
  (pss_one (ps_ret (pv 2)))))), ?_⟩
    have hz : T.length ≤ 1000 := Nat.le_trans ok.len (by decide)
    -- parents; ways = {"": ()}
    refine ⟨v, rfl, T, v, rfl, iv, hz, ok.nd, fun p1 H1 s1 n1 d1 => ?_⟩
    intro p2 n2
    refine ⟨Nat.zero_le _, fun t nt => ?_⟩
    have ne2t : p2 ≠ t := ne_of_none upd_same nt
    refine ⟨(upd_ne ne2t).trans upd_same, [(.inr E', .ref t)], rfl, (by show 1 ≤ 15; decide), ?_⟩
    have n2' : H p2 = none := s1.free n2
    have ntH1 : H1 t = none := by
      rw [upd_ne ne2t.symm] at nt
      exact nt
    generalize hA : upd (upd (upd H1 p2 (.dK [])) t (.tup [])) p2 (.dK (mergeK [] [((.inr E' : Key), V.ref t)])) = HA
    have sA : Same H1 HA := by
      rw [← hA]
      exact Same.mut ((Same.new n2).trans (Same.new nt)) n2
    have dA : DL HA p2 [(E', dStrs (ways T E'))] := by
      rw [← hA, ok.ways_E]
      refine ⟨_, upd_same, .cons ⟨rfl, ?_⟩ .nil⟩
      exact .tup (.inl ((upd_ne ne2t.symm).trans upd_same)) .nil
    have wA : WOk T [(E', dStrs (ways T E'))] := by
      refine ⟨by simp, fun k d hk => ?_, by simp⟩
      rw [List.lookup_cons] at hk
      by_cases e : k = E'
      · have z : (k == E') = true := by simpa using e
        rw [z] at hk
        cases hk
        rw [e]
        exact ⟨.inl rfl, rfl⟩
      · have z : (k == E') = false := by simpa using e
        rw [z] at hk
        cases hk
    clear hA
    -- for name in names_in(tree)
    refine ⟨v, rfl, T, v, rfl, iv.mono (.same (s1.trans sA)), hz, fun v2 H2 s2 _ i2 => ?_⟩
    have n12 : p1 ≠ p2 := by
      obtain ⟨_, h1, _⟩ := d1
      exact ne_of_none h1 n2
    have s02 : Same H H2 := (s1.trans sA).trans s2
    have d12 : DL H2 p1 (T.map fun r => (r.1, .str r.2.1)) := (d1.same sA).same s2
    refine forT (ds := names T) (enc := PyData.str) i2 (fun i σ H' => ∃ y3 y4 y5 y6 gd, σ = [some v, some (.ref p1), some (.ref p2), y3, y4, y5, y6] ∧ Same H H' ∧ KT H2 H' ∧ DL H' p1 (T.map fun r => (r.1, .str r.2.1)) ∧ DL H' p2 gd ∧ WOk T gd ∧ ∀ x, x ∈ (names T).take i → (gd.lookup x).isSome = true)
      ⟨none, none, none, none, _, rfl, s02, KT.refl _, d12, dA.same s2, wA, fun x hx => nomatch hx⟩ (fun i σ H' h => by
        obtain ⟨_, _, _, _, _, _, _, k, _⟩ := h
        exact k) ?_ ?_
    · rintro i nm x σ H' e ⟨y3, y4, y5, y6, gd, rfl, sm, kt, e1, e2, wk, all⟩ ix
      have hnm : nm ∈ names T := List.mem_of_getElem? e
      rw [ix.sinv]
      -- waiting = []; here = name
      refine ⟨Nat.zero_le _, fun l nl => ?_⟩
      have nlp1 : p1 ≠ l := by
        obtain ⟨_, h1, _⟩ := e1
        exact ne_of_none h1 nl
      have nlp2 : p2 ≠ l := by
        obtain ⟨_, h1, _⟩ := e2
        exact ne_of_none h1 nl
      have nlH : H l = none := sm.free nl
      refine ⟨_, rfl, ?_⟩
      -- while here not in ways
      let Inv : Nat → L2.St → Hp → Prop := fun m σ' H'' => ∃ (here : Str) (ws : List Str), σ' = [some v, some (.ref p1), some (.ref p2), some (.str nm), some (.ref l), some (.str here), y6] ∧ Same H H'' ∧ KT H2 H'' ∧ DL H'' p1 (T.map fun r => (r.1, .str r.2.1)) ∧ DL H'' p2 gd ∧
        H'' l = some (.lst (ws.reverse.map .str)) ∧ RC T ws here ∧ (here = E' ∨ here ∈ names T) ∧ (nm ∈ ws ∨ (here = nm ∧ ws = [])) ∧ m = (ways T here).length ∧ ws.length + m ≤ 500
      refine ⟨Inv, ⟨(ways T nm).length, nm, [], rfl, Same.mut sm nlH, kt.trans (.new nl), e1.other nlp1 (.new nl), e2.other nlp2 (.new nl), upd_same, trivial, .inr hnm, .inr ⟨rfl, rfl⟩, rfl, ?_⟩, ?_⟩
      · have := ok.ways_len nm
        have := ok.len
        show 0 + (ways T nm).length ≤ 500
        omega
      · rintro m σ' H3 ⟨here, ws, rfl, sm3, kt3, f1, f2, el, rc, hin, hnw, rfl, hlen⟩
        refine ⟨_, rfl, _, rfl, r_in f2 (fun miss => ?_) (fun d v' there iv' => ?_)⟩
        · -- one step outwards
          refine ⟨_, rfl, iteT ⟨fun σ'' H'' => ∃ m', m' < (ways T here).length ∧ Inv m' σ'' H'', fun _ _ h => h, ?_⟩⟩
          have hne : here ≠ E' := fun z => by
            rw [z, wk.e] at miss
            cases miss
          have hn : here ∈ names T := hin.resolve_left hne
          have hw := ok.ways_cons hn
          obtain ⟨r, hrT, hr1⟩ := names_row hn
          refine ⟨_, rfl, .inl ⟨rfl, _, .inl (.inl el)⟩, _, rfl, l, _, _, rfl, rfl, el, ?_, ?_⟩
          · rw [List.length_map, List.length_reverse]
            exact small1000 (by omega)
          · have nl1 : p1 ≠ l := nlp1
            have f1' : DL (upd H3 l (.lst (ws.reverse.map .str ++ [V.str here]))) p1 (T.map fun r => (r.1, .str r.2.1)) := f1.other nlp1 (.lst el)
            refine ⟨_, rfl, _, rfl, r_get (d := .str (par T here)) f1' ?_ fun v3 i3 => ?_⟩
            · rw [← hr1, look_map T (·.1) (fun r => .str r.2.1) ok.nd hrT, par_row ok.nd hrT]
            · rw [i3.sinv]
              refine ⟨(ways T (par T here)).length, ?_, par T here, here :: ws, rfl, Same.mut sm3 nlH, kt3.trans (.lst el), f1', f2.other nlp2 (.lst el), ?_, ⟨hn, rfl, rc⟩, ok.pin hn, ?_, rfl, ?_⟩
              · rw [hw, List.length_cons]
                exact Nat.lt_succ_self _
              · rw [upd_same, List.reverse_cons, List.map_append]
                rfl
              · rcases hnw with h | ⟨h, h'⟩
                · exact .inl (List.mem_cons_of_mem _ h)
                · rw [h]
                  exact .inl List.mem_cons_self
              · rw [hw, List.length_cons] at hlen
                rw [List.length_cons]
                omega
        · -- the way is known: for own in waiting[::-1]
          refine ⟨_, rfl, iteF ?_⟩
          refine ⟨_, rfl, l, _, rfl, .inl (.inl el), fun l2 nl2 => ?_⟩
          have kn2 : KT H3 (upd H3 l2 (.lst (ws.reverse.map V.str).reverse)) := .new nl2
          have nl2p1 : p1 ≠ l2 := by
            obtain ⟨_, h1, _⟩ := f1
            exact ne_of_none h1 nl2
          have nl2p2 : p2 ≠ l2 := by
            obtain ⟨_, h1, _⟩ := f2
            exact ne_of_none h1 nl2
          refine forL (ds := ws) (enc := PyData.str) upd_same (by
            rw [← List.map_reverse, List.reverse_reverse]
            exact ImA.ofStrs ws) (fun j σ' H4 => ∃ z6 gd' h', σ' = [some v, some (.ref p1), some (.ref p2), some (.str nm), some (.ref l), some (.str here), z6] ∧ Same H H4 ∧ KT H2 H4 ∧ KT (upd H3 l2 (.lst (ws.reverse.map V.str).reverse)) H4 ∧
              H4 l2 = some (.lst (ws.reverse.map V.str).reverse) ∧ DL H4 p1 (T.map fun r => (r.1, .str r.2.1)) ∧ DL H4 p2 gd' ∧ WOk T gd' ∧ (∀ x, x ∈ (names T).take i → (gd'.lookup x).isSome = true) ∧ (gd'.lookup h').isSome = true ∧ RC T (ws.drop j) h' ∧ ((gd'.lookup nm).isSome = true ∨ nm ∈ ws.drop j))
            ⟨_, gd, here, rfl, Same.mut sm3 (sm3.free nl2), kt3.trans kn2, KT.refl _, upd_same, f1.other nl2p1 kn2, f2.other nl2p2 kn2, wk, all, by rw [there]; rfl, rc, ?_⟩ (fun j σ' H4 h => ?_) ?_ ?_
          · rcases hnw with h | ⟨h, h'⟩
            · exact .inr h
            · refine .inl ?_
              rw [← h, there]
              rfl
          · obtain ⟨_, _, _, _, _, _, k, k2, _⟩ := h
            exact ⟨k, k2⟩
          · rintro j own x σ' H4 ej ⟨z6, gd', h', rfl, sm4, kt4, kt4', el2, g1, g2, wk', all', hh', rc', hnm'⟩ ix
            rw [ix.sinv]
            have hj : j < ws.length := (List.getElem?_eq_some_iff.mp ej).1
            have hdrop : ws.drop j = own :: ws.drop (j + 1) := by
              rw [List.drop_eq_getElem_cons hj]
              congr 1
              exact (List.getElem?_eq_some_iff.mp ej).2
            rw [hdrop] at rc' hnm'
            obtain ⟨hon, hpar, rc''⟩ := rc'
            obtain ⟨r, hrT, hr1⟩ := names_row hon
            obtain ⟨dh, hdh⟩ := Option.isSome_iff_exists.mp hh'
            have edh := (wk'.v h' dh hdh).2
            -- (own, *ways[parents[own]])
            refine ⟨_, rfl, _, rfl, _, rfl, _, rfl, r_get (d := .str h') g1 ?_ fun v3 i3 => ?_⟩
            · rw [← hr1, look_map T (·.1) (fun r => .str r.2.1) ok.nd hrT, ← par_row ok.nd hrT, hr1, hpar]
            · rw [i3.sinv]
              refine r_get g2 hdh fun v4 i4 => ?_
              rw [edh] at i4
              obtain ⟨a4, xs4, rfl, h4, hA4⟩ := i4.tinv
              refine ⟨a4, xs4, rfl, .inl (.inl h4), ?_⟩
              have hl4 : xs4.length ≤ 20 := by
                rw [hA4.len, List.length_map]
                exact Nat.le_trans (ok.ways_len _) ok.len
              refine ⟨by
                show ([V.str own] ++ (xs4 ++ [])).length ≤ sizeLine
                rw [List.append_nil, List.length_append]
                exact Nat.le_of_lt (small1000 (by show 1 + xs4.length ≤ 1000; omega)), fun t nt => ?_⟩
              have np1 : p1 ≠ t := by
                obtain ⟨_, h1, _⟩ := g1
                exact ne_of_none h1 nt
              have np2 : p2 ≠ t := by
                obtain ⟨_, h1, _⟩ := g2
                exact ne_of_none h1 nt
              have g2t := g2.other (o := .tup (V.str own :: (xs4 ++ []))) np2 (.new nt)
              have it : Im (upd H4 t (.tup (V.str own :: (xs4 ++ [])))) (.ref t) (dStrs (ways T own)) := by
                rw [ok.ways_cons hon, hpar]
                refine .tup (.inl upd_same) (.cons (.str own) ?_)
                rw [List.append_nil]
                exact hA4.mono (.new nt)
              refine ⟨_, rfl, _, rfl, r_put g2t (wk'.len ok.len) it fun kvs kvs' hk dl' => ?_⟩
              have np21 : p1 ≠ p2 := n12
              have nl2p : l2 ≠ p2 := nl2p2.symm
              have ktt : KT H4 (upd (upd H4 t (.tup (V.str own :: (xs4 ++ [])))) p2 (.dK kvs')) := KT.trans (.new nt) (.dk hk)
              refine ⟨_, gput gd' own (dStrs (ways T own)), own, rfl, Same.mut (sm4.trans (Same.new nt)) n2', kt4.trans ktt, kt4'.trans ktt, ?_, ?_, dl', wk'.put hon, fun x hx => ?_, ?_, rc'', ?_⟩
              · rw [upd_ne nl2p, upd_ne (ne_of_none el2 nt)]
                exact el2
              · exact (g1.other np1 (.new nt)).other np21 (.dk hk)
              · rw [gput_look]
                split
                · rfl
                · exact all' x hx
              · rw [gput_look, if_pos rfl]
                rfl
              · rcases hnm' with h | h
                · refine .inl ?_
                  rw [gput_look]
                  split
                  · rfl
                  · exact h
                · rcases List.mem_cons.mp h with rfl | h
                  · refine .inl ?_
                    rw [gput_look, if_pos rfl]
                    rfl
                  · exact .inr h
          · rintro σ' H4 ⟨z6, gd', h', rfl, sm4, kt4, kt4', el2, g1, g2, wk', all', hh', rc', hnm'⟩
            refine ⟨_, _, _, _, gd', rfl, sm4, kt4, g1, g2, wk', fun x hx => ?_⟩
            rw [List.take_add_one, e] at hx
            rcases List.mem_append.mp hx with hx | hx
            · exact all' x hx
            · have ex : x = nm := by simpa using hx
              rw [ex]
              rcases hnm' with h | h
              · exact h
              · rw [List.drop_length] at h
                cases h
    · rintro σ H' ⟨y3, y4, y5, y6, gd, rfl, sm, kt, e1, e2, wk, all⟩
      refine ⟨_, rfl, q p2 H' gd sm n2' e2 fun x hx => ?_⟩
      rcases hx with hx | hx
      · rw [hx]
        exact wk.e
      · have hx' : x ∈ (names T).take (names T).length := by
          rw [List.take_length]
          exact hx
        obtain ⟨d, hd⟩ := Option.isSome_iff_exists.mp (all x hx')
        rw [hd, (wk.v x d hd).2]
end
end RW
end
section
set_option linter.all false
set_option maxRecDepth 100000
set_option autoImplicit false
set_option maxHeartbeats 1000000
/-! counts_by, uses_by, frees_by. -/
namespace RW
open PySem PySem.Spec PyProof.Rows L2
abbrev s_counts_by : Stmt := topS 5
abbrev N_counts_by : List Str := ["tree", "counts", "name", "count"]
theorem sc_counts_by : FnScope N_counts_by ["tree", "counts"] (defScope s_counts_by) := ⟨rfl, rfl, rfl, by decide +kernel, rfl, by decide +kernel, by decide +kernel⟩
abbrev s_uses_by : Stmt := topS 6
abbrev N_uses_by : List Str := ["tree", "counts", "ways", "uses", "name", "count", "folder"]
theorem sc_uses_by : FnScope N_uses_by ["tree", "counts"] (defScope s_uses_by) := ⟨rfl, rfl, rfl, by decide +kernel, rfl, by decide +kernel, by decide +kernel⟩
abbrev s_frees_by : Stmt := topS 7
abbrev N_frees_by : List Str := ["tree", "counts", "rooms", "folder", "use"]
theorem sc_frees_by : FnScope N_frees_by ["tree", "counts"] (defScope s_frees_by) := ⟨rfl, rfl, rfl, by decide +kernel, rfl, by decide +kernel, by decide +kernel⟩

theorem gput_map {l : List Str} {g : Str → PyData} {k : Str} {d : PyData} (hk : k ∈ l) : gput (l.map fun n => (n, g n)) k d = l.map fun n => (n, if n = k then d else g n) := by
  unfold gput
  have a : ((l.map fun n => (n, g n)).any fun e => decide (e.1 = k)) = true := List.any_eq_true.mpr ⟨(k, g k), List.mem_map_of_mem (f := fun n => (n, g n)) hk, decide_eq_true rfl⟩
  rw [if_pos a, List.map_map]
  refine List.map_congr_left fun n _ => ?_
  show (if n = k then (n, d) else (n, g n)) = _
  split <;> rfl
theorem look_mapS {l : List Str} {g : Str → PyData} {k : Str} (hk : k ∈ l) : (l.map fun n => (n, g n)).lookup k = some (g k) := by
  induction l with
  | nil => cases hk
  | cons a l ih =>
    rw [List.map_cons, List.lookup_cons]
    by_cases e : k = a
    · have z : (k == a) = true := by simpa using e
      rw [z, e]
    · have z : (k == a) = false := by simpa using e
      rw [z]
      exact ih ((List.mem_cons.mp hk).resolve_left e)
def useN (T : List Row) (l : List (Str × Int)) (f : Str) : Int := (l.map fun d => if f ∈ ways T d.1 then d.2 else 0).sum
/-- how many files a folder uses -/
def use (T : List Row) (s : List Int) (f : Str) : Int := useN T ((names T).zip s) f
def gInts (T : List Row) (f : Str → Int) : Gd := (names T).map fun n => (n, .int (f n))
theorem gInts_look {T : List Row} {f : Str → Int} {k : Str} (hk : k ∈ names T) : (gInts T f).lookup k = some (.int (f k)) := look_mapS hk
theorem gInts_len (T : List Row) (f : Str → Int) : (gInts T f).length = T.length := by
  unfold gInts names
  rw [List.length_map, List.length_map]
theorem zip_fst {α β : Type} : ∀ {l : List α} {m : List β}, l.length = m.length → (l.zip m).map (·.1) = l
  | [], _, _ => rfl
  | a :: l, b :: m, h => by
    rw [List.zip_cons_cons, List.map_cons, zip_fst (by simpa using h)]
section
variable {P : Program} {w : World} {K : PySem.W.Frag} {mg : Str → Option Value} {base : Heap}
def sp_counts_by : Sp := fun vs H Q _ => ∃ (T : List Row) (s : List Int) (v u : V), vs = [v, u] ∧ Im H v (dTree T) ∧ Im H u (dInts s) ∧ T.length = s.length ∧ T.length ≤ 1000 ∧ (names T).Nodup ∧
  ∀ p H', Same H H' → H p = none → DL H' p (((names T).zip s).map fun d => (d.1, .int d.2)) → Q (.ref p) H'
theorem ok_counts_by (Tx : Txt mg) (F_names_in : OkF P w K mg base "names_in" ["tree"] 1 sp_names_in) (hf : Has K mg "counts_by" s_counts_by) : OkF P w K mg base "counts_by" ["tree", "counts"] 2 sp_counts_by := by
  refine Has.ok hf sc_counts_by (fun _ _ _ _ _ _ us hl => match us, hl with | [_, _], _ => rfl) (fun vs H Q E h => ?_) (fun f cdv A outer s H vs Q E hr h => ?_)
  · obtain ⟨T, s, v, u, rfl, _⟩ := h
    rfl
  · obtain ⟨T, s, v, u, rfl, iv, iu, hl, hz, nd, q⟩ := h
    have hl' : (names T).length = s.length := by
      unfold names
      rw [List.length_map]
      exact hl
    refine ⟨_, (pss_one (ps_ret (pe_dc (own := [("name", 2), ("count", 3)]) (g := (gTup K 2 (gCons (gName 2) (gCons (gName 3) gNil)))) (tt := tYes) rfl sc_counts_by.nd (RZ.pi_zipA (by rfl) Tx.b_zip (pa_cons (pe_c F_names_in (hr.mono (by decide)) (pa_cons (pv 0) pa_nil)) (pa_cons (pv 1) pa_nil))) (blkOk_by (own := [("name", 2), ("count", 3)]) (N := N_counts_by) (sc := defScope s_counts_by) (by decide +kernel)) (fun _ _ _ _ _ => (pg_tup rfl (pgs_cons (pg_name (i := 2) sc_counts_by.nd rfl (.inl rfl)) (pgs_cons (pg_name (i := 3) sc_counts_by.nd rfl (.inl rfl)) pgs_nil)))) (fun _ _ _ _ _ => pts_nil) (fun _ _ _ _ _ => (pv 2)) (fun _ _ _ _ _ => (pv 3))))), ?_⟩
    refine ⟨v, rfl, T, v, rfl, iv, hz, fun v1 H1 s1 _ i1 => ?_⟩
    refine ⟨u, rfl, dcZ (as := names T) (ea := PyData.str) i1 (iu.mono (.same s1)) hl' (by omega) (fun d => d.1) (fun d => .int d.2) ?_ ?_ ?_⟩
    · rw [zip_fst hl']
      exact nd
    · intro d x H2 Qt Qf _ _ ix ht
      exact g_tup2 ix fun a b ia ib => ⟨rfl, a, rfl, b, rfl, by rw [ia.sinv]; exact ht _ _ (Same.refl _) ib⟩
    · intro D H2 nD s2 dl
      exact q D H2 (s1.trans s2) (s1.free nD) dl
def sp_uses_by : Sp := fun vs H Q _ => ∃ (T : List Row) (s : List Int) (v u : V), vs = [v, u] ∧ Im H v (dTree T) ∧ Im H u (dInts s) ∧ T.length = s.length ∧ TreeOk T ∧
  ∀ p H', Same H H' → H p = none → DL H' p (gInts T (use T s)) → Q (.ref p) H'
theorem ok_uses_by (Tx : Txt mg) (F_names_in : OkF P w K mg base "names_in" ["tree"] 1 sp_names_in) (F_ways_by : OkF P w K mg base "ways_by" ["tree"] 2 sp_ways_by) (F_counts_by : OkF P w K mg base "counts_by" ["tree", "counts"] 2 sp_counts_by) (hf : Has K mg "uses_by" s_uses_by) :
    OkF P w K mg base "uses_by" ["tree", "counts"] 3 sp_uses_by := by
  refine Has.ok hf sc_uses_by (fun _ _ _ _ _ _ us hl => match us, hl with | [_, _], _ => rfl) (fun vs H Q E h => ?_) (fun f cdv A outer s H vs Q E hr h => ?_)
  · obtain ⟨T, s, v, u, rfl, _⟩ := h
    rfl
  · obtain ⟨T, s, v, u, rfl, iv, iu, hl, ok, q⟩ := h
    have hu := hu_of hr
    have hz : T.length ≤ 1000 := Nat.le_trans ok.len (by decide)
    have hn : (names T).length = T.length := List.length_map _
    have hl' : (names T).length = s.length := by omega
    refine ⟨_, (pss_cons (ps_set (i := 2) sc_uses_by.nd rfl (.inl rfl) (pe_c F_ways_by (hr.mono (by decide)) (pa_cons (pv 0) pa_nil)))
  (pss_cons (ps_set (i := 3) sc_uses_by.nd rfl (.inl rfl) (pe_callTy (call_dictP rfl) (by rfl) Tx.b_dict bb_dict (pa_cons (pe_lc (own := [("name", 4)]) (g := (gName 4)) (tt := tYes) rfl sc_uses_by.nd (pi_tup (pe_c F_names_in (hr.mono (by decide)) (pa_cons (pv 0) pa_nil))) (blkOk_by (own := [("name", 4)]) (N := N_uses_by) (sc := defScope s_uses_by) (by decide +kernel)) (fun _ _ _ _ _ => (pg_name (i := 4) sc_uses_by.nd rfl (.inl rfl))) (fun _ _ _ _ _ => pts_nil) (fun _ _ _ _ _ => (pe_tup (pa_cons (pv 4) (pa_cons pe_int pa_nil))))) pa_nil)))
  (pss_cons (ps_for PassesOwn.never rfl (pi_items (pe_frz (pe_c F_counts_by (hr.mono (by decide)) (pa_cons (pv 0) (pa_cons (pv 1) pa_nil))))) (pg_tup rfl (pgs_cons (pg_name (i := 4) sc_uses_by.nd rfl (.inl rfl)) (pgs_cons (pg_name (i := 5) sc_uses_by.nd rfl (.inl rfl)) pgs_nil))) (pss_one (ps_for PassesOwn.never rfl (pi_tup (pe_dget hu (pv 2) (pv 4) (fun _ _ => rfl))) (pg_name (i := 6) sc_uses_by.nd rfl (.inl rfl)) (pss_one (ps_dput hu (pv 3) (pv 6) (pe_op op_add (pe_dget hu (pv 3) (pv 6) (fun _ _ => rfl)) (pv 5)) rfl)))))
  (pss_one (ps_ret (pv 3)))))), ?_⟩
    -- ways; uses
    refine ⟨v, rfl, T, v, rfl, iv, ok, fun pw H1 gw s1 nw dw wd => ?_⟩
    refine ⟨v, rfl, T, v, rfl, iv.mono (.same s1), hz, fun v2 H2 s2 _ i2 => ?_⟩
    refine lcT (ds := names T) (enc := PyData.str) i2 (by omega) (fun _ => true) (fun n => .tuple [.str n, .int 0]) ?_ ?_
    · intro n x H3 Qt Qf _ _ ix ht _
      rw [ix.sinv]
      refine ⟨rfl, _, rfl, r_tup (.cons (.str n) (.cons (.int 0) .nil)) (by show 2 ≤ 1000; decide) fun t nt it => ht rfl _ _ (Same.new nt) it⟩
    · intro D H3 acc nD s3 e i3
      rw [filter_true] at i3
      refine r_dictP (gd := gInts T fun _ => 0) e (by
        unfold gInts
        rw [List.map_map]
        exact i3) (by
        unfold gInts
        rw [List.map_map]
        show ((names T).map id).Nodup
        rw [List.map_id]
        exact ok.nd) fun kvs pu nu du => ?_
      generalize hH4 : upd H3 pu (.dK (mergeK [] kvs)) = H4 at du ⊢
      have s4 : Same H3 H4 := by
        rw [← hH4]
        exact Same.new nu
      clear hH4
      have s14 : Same H1 H4 := (s2.trans s3).trans s4
      have nu1 : H1 pu = none := (s2.trans s3).free nu
      have npw : pw ≠ pu := by
        obtain ⟨_, h1, _⟩ := dw
        exact ne_of_none h1 nu1
      -- for name, count in counts_by(tree, counts).items()
      refine ⟨v, rfl, u, rfl, T, s, v, u, rfl, iv.mono (.same (s1.trans s14)), iu.mono (.same (s1.trans s14)), hl, hz, ok.nd, fun pc H5 s5 nc dc => ?_⟩
      have ncu : pu ≠ pc := by
        obtain ⟨_, h1, _⟩ := du
        exact ne_of_none h1 nc
      have ncw : pw ≠ pc := by
        obtain ⟨_, h1, _⟩ := dw
        exact ne_of_none (s14 _ _ h1) nc
      have s05 : Same H H5 := (s1.trans s14).trans s5
      have hlen : (((names T).zip s).map fun d => (d.1, PyData.int d.2)).length = (names T).length := by
        rw [List.length_map, List.length_zip, ← hl', Nat.min_self]
      refine forI dc (fun i σ H' => ∃ y4 y5 y6, σ = [some v, some u, some (.ref pw), some (.ref pu), y4, y5, y6] ∧ Same H H' ∧ KT H5 H' ∧ DL H' pw gw ∧ DL H' pu (gInts T (useN T (((names T).zip s).take i))))
        (fun HF sx kf => ⟨none, none, none, rfl, sx.old s05 ((s1.trans s14).free nc), kf, sx.dl dc ((dw.same s14).same s5) ncw, sx.dl dc (du.same s5) ncu⟩) (fun i σ H' h => by
          obtain ⟨_, _, _, _, _, k, _⟩ := h
          exact k) ?_ ?_
      · rintro L hS hU i d T2 x y σ H' e lH ⟨y4, y5, y6, rfl, sm, kt, ew, eu⟩ nT nTp ix
        have he : ∃ z, ((names T).zip s)[i]? = some z ∧ (z.1, PyData.int z.2) = d := by
          rw [List.getElem?_map] at e
          cases q0 : ((names T).zip s)[i]? with
          | none =>
            rw [q0] at e
            cases e
          | some z =>
            rw [q0] at e
            exact ⟨z, rfl, Option.some.inj e⟩
        obtain ⟨⟨nm, ct⟩, ez, rfl⟩ := he
        have hnm : nm ∈ names T := (List.of_mem_zip (List.mem_of_getElem? ez)).1
        have sT : Same H' (upd H' T2 (.tup [x, y])) := Same.new nT
        have lT : L (upd H' T2 (.tup [x, y])) := hS _ _ sT lH
        refine g_tup2 ix fun a b ia ib => ?_
        rw [ia.sinv, ib.iinv]
        -- for folder in ways[name]
        refine ⟨_, rfl, _, rfl, r_get (ew.same sT) (wd nm (.inr hnm)) fun v3 i3 => ?_⟩
        refine forT (ds := ways T nm) (enc := PyData.str) i3 (fun j σ' H6 => ∃ z6, σ' = [some v, some u, some (.ref pw), some (.ref pu), some (.str nm), some (.int ct), z6] ∧ L H6 ∧ Same H H6 ∧ KT H5 H6 ∧ KT (upd H' T2 (.tup [x, y])) H6 ∧ DL H6 pw gw ∧
            DL H6 pu (gInts T fun f => useN T (((names T).zip s).take i) f + if f ∈ (ways T nm).take j then ct else 0))
          ⟨_, rfl, lT, sm.trans sT, kt.trans (.same sT), KT.refl _, ew.same sT, ?_⟩ (fun j σ' H6 h => by
            obtain ⟨_, _, _, _, _, k, _⟩ := h
            exact k) ?_ ?_
        · have z := eu.same sT
          have ee : (fun f => useN T (((names T).zip s).take i) f + if f ∈ (ways T nm).take 0 then ct else 0) = useN T (((names T).zip s).take i) := by
            funext f
            rw [List.take_zero, if_neg (fun h => nomatch h), Int.add_zero]
          rw [ee]
          exact z
        · rintro j fo x' σ' H6 ej ⟨z6, rfl, l6, sm6, kt6, kt6', ew6, eu6⟩ ix'
          rw [ix'.sinv]
          have hfo : fo ∈ ways T nm := List.mem_of_getElem? ej
          have hfn : fo ∈ names T := ok.ways_in hfo
          have hnot : fo ∉ (ways T nm).take j := fun hm => by
            have nd := ok.ways_nd nm
            have hj : j < (ways T nm).length := (List.getElem?_eq_some_iff.mp ej).1
            rw [← List.take_append_drop j (ways T nm), List.nodup_append] at nd
            refine nd.2.2 fo hm fo ?_ rfl
            rw [List.drop_eq_getElem_cons hj, (List.getElem?_eq_some_iff.mp ej).2]
            exact List.mem_cons_self
          -- uses[folder] = uses[folder] + count
          refine ⟨_, rfl, _, rfl, r_get eu6 (gInts_look hfn) fun v7 i7 => ?_⟩
          rw [i7.iinv]
          refine ⟨_, rfl, _, _, rfl, rfl, ?_⟩
          refine ⟨_, rfl, _, rfl, r_put eu6 (by rw [gInts_len]; omega) (.int _) fun kvs6 kvs' hk dl' => ?_⟩
          refine ⟨_, rfl, hU _ _ _ ncu l6, Same.mut sm6 (s1.free nu1), kt6.trans (.dk hk), kt6'.trans (.dk hk), ew6.other npw (.dk hk), ?_⟩
          have hg : gput (gInts T fun f => useN T (((names T).zip s).take i) f + if f ∈ (ways T nm).take j then ct else 0) fo (.int (useN T (((names T).zip s).take i) fo + (if fo ∈ (ways T nm).take j then ct else 0) + ct)) =
              gInts T fun f => useN T (((names T).zip s).take i) f + if f ∈ (ways T nm).take (j + 1) then ct else 0 := by
            unfold gInts
            rw [gput_map hfn]
            refine List.map_congr_left fun n _ => ?_
            have et : (ways T nm).take (j + 1) = (ways T nm).take j ++ [fo] := by rw [List.take_add_one, ej]; rfl
            by_cases e1 : n = fo
            · rw [if_pos e1, e1, if_neg hnot, et]
              dsimp only
              rw [if_pos (List.mem_append_right _ List.mem_cons_self), Int.add_zero]
            · rw [if_neg e1, et]
              have : n ∈ (ways T nm).take j ++ [fo] ↔ n ∈ (ways T nm).take j := by
                rw [List.mem_append, List.mem_singleton]
                exact ⟨fun h => h.resolve_right e1, .inl⟩
              simp only [this]
          rw [← hg]
          exact dl'
        · rintro σ' H6 ⟨z6, rfl, l6, sm6, kt6, kt6', ew6, eu6⟩
          refine ⟨l6, _, _, _, rfl, sm6, kt6, ew6, ?_⟩
          have ee : (fun f => useN T (((names T).zip s).take i) f + if f ∈ (ways T nm).take (ways T nm).length then ct else 0) = useN T (((names T).zip s).take (i + 1)) := by
            funext f
            rw [List.take_length, List.take_add_one, ez]
            unfold useN
            rw [List.map_append, List.sum_append]
            show _ = _ + ([if f ∈ ways T nm then ct else 0] : List Int).sum
            simp
          rw [ee] at eu6
          exact eu6
      · rintro σ H' ⟨y4, y5, y6, rfl, sm, kt, ew, eu⟩
        refine ⟨_, rfl, q pu H' sm (s1.free nu1) ?_⟩
        rw [hlen] at eu
        have ee : ((names T).zip s).take (names T).length = (names T).zip s := List.take_of_length_le (by rw [List.length_zip]; omega)
        rw [ee] at eu
        exact eu
def sp_frees_by : Sp := fun vs H Q _ => ∃ (T : List Row) (s : List Int) (v u : V), vs = [v, u] ∧ Im H v (dTree T) ∧ Im H u (dInts s) ∧ T.length = s.length ∧ TreeOk T ∧
  ∀ p H', Same H H' → H p = none → DL H' p (gInts T fun f => room T f - use T s f) → Q (.ref p) H'
theorem rooms_gd {T : List Row} (ok : TreeOk T) : (T.map fun r => (r.1, PyData.int r.2.2)) = gInts T (room T) := by
  unfold gInts names
  rw [List.map_map]
  refine List.map_congr_left fun r hr => ?_
  show _ = (r.1, PyData.int (room T r.1))
  rw [room_row ok.nd hr]
theorem ok_frees_by (F_rooms_by : OkF P w K mg base "rooms_by" ["tree"] 1 sp_rooms_by) (F_uses_by : OkF P w K mg base "uses_by" ["tree", "counts"] 3 sp_uses_by) (hf : Has K mg "frees_by" s_frees_by) : OkF P w K mg base "frees_by" ["tree", "counts"] 4 sp_frees_by := by
  refine Has.ok hf sc_frees_by (fun _ _ _ _ _ _ us hl => match us, hl with | [_, _], _ => rfl) (fun vs H Q E h => ?_) (fun f cdv A outer s H vs Q E hr h => ?_)
  · obtain ⟨T, s, v, u, rfl, _⟩ := h
    rfl
  · obtain ⟨T, s, v, u, rfl, iv, iu, hl, ok, q⟩ := h
    have hu := hu_of hr
    have hz : T.length ≤ 1000 := Nat.le_trans ok.len (by decide)
    refine ⟨_, (pss_cons (ps_set (i := 2) sc_frees_by.nd rfl (.inr rfl) (pe_c F_rooms_by (hr.mono (by decide)) (pa_cons (pv 0) pa_nil)))
  (pss_one (ps_ret (pe_dc (own := [("folder", 3), ("use", 4)]) (g := (gTup K 2 (gCons (gName 3) (gCons (gName 4) gNil)))) (tt := tYes) rfl sc_frees_by.nd (pi_items (pe_frz (pe_c F_uses_by (hr.mono (by decide)) (pa_cons (pv 0) (pa_cons (pv 1) pa_nil))))) (blkOk_by (own := [("folder", 3), ("use", 4)]) (N := N_frees_by) (sc := defScope s_frees_by) (by decide +kernel)) (fun _ _ _ _ _ => (pg_tup rfl (pgs_cons (pg_name (i := 3) sc_frees_by.nd rfl (.inl rfl)) (pgs_cons (pg_name (i := 4) sc_frees_by.nd rfl (.inl rfl)) pgs_nil)))) (fun _ _ _ _ _ => pts_nil) (fun _ _ _ _ _ => (pv 3)) (fun _ _ _ _ _ => (pe_op op_sub (pe_dget hu (pv 2) (pv 3) (fun _ _ => rfl)) (pv 4))))))), ?_⟩
    refine ⟨v, rfl, T, v, rfl, iv, hz, ok.nd, fun pr H1 s1 n1 d1 => ?_⟩
    rw [rooms_gd ok] at d1
    refine ⟨v, rfl, u, rfl, T, s, v, u, rfl, iv.mono (.same s1), iu.mono (.same s1), hl, ok, fun pu H2 s2 n2 d2 => ?_⟩
    have ne : pr ≠ pu := by
      obtain ⟨_, h1, _⟩ := d1
      exact ne_of_none h1 n2
    refine dcI d2 (by rw [gInts_len]; exact hz) (fun _ => true) (fun d => d.1) (fun d => match d.2 with | .int i => .int (room T d.1 - i) | _ => .none) ?_ ?_ ?_
    · rw [filter_true]
      unfold gInts
      rw [List.map_map]
      show ((names T).map id).Nodup
      rw [List.map_id]
      exact ok.nd
    · intro d x H3 Qt Qf hd sx ix ht _
      obtain ⟨n, hn, rfl⟩ := List.mem_map.mp hd
      refine g_tup2 ix fun a b ia ib => ?_
      rw [ia.sinv, ib.iinv]
      refine ⟨rfl, _, rfl, ?_⟩
      refine ⟨_, rfl, _, rfl, r_get (sx.dl d2 (d1.same s2) ne) (gInts_look hn) fun v3 i3 => ?_⟩
      rw [i3.iinv]
      exact ⟨_, rfl, _, _, rfl, rfl, ht rfl _ _ (Same.refl _) (.int _)⟩
    · intro D H3 nD sx dl
      rw [filter_true] at dl
      refine q D H3 (sx.old (s1.trans s2) (s1.free n2)) ((s1.trans s2).free nD) ?_
      have e : ((gInts T (use T s)).map fun d => (d.1, match d.2 with | .int i => PyData.int (room T d.1 - i) | _ => .none)) = gInts T fun f => room T f - use T s f := by
        unfold gInts
        rw [List.map_map]
        rfl
      rw [← e]
      exact dl
end
end RW
end
section
set_option autoImplicit false
/-! The mathematics: moves in a forest of folders, blocking sets, and that a move is let. -/
set_option linter.all false
namespace RR
section
variable {N : Type} [DecidableEq N]

/-- W x: the folders around x, x first -/
structure Forest (F : List N) (W : N → List N) : Prop where
  nd : F.Nodup
  self : ∀ x, x ∈ F → x ∈ W x
  inF : ∀ x f, f ∈ W x → f ∈ F
  dom : ∀ x f, f ∈ W x → x ∈ F
  tr : ∀ x f g, f ∈ W x → g ∈ W f → g ∈ W x
  ch : ∀ x f g, f ∈ W x → g ∈ W x → f ∈ W g ∨ g ∈ W f
  lt : ∀ f g, g ∈ W f → g ≠ f → (W g).length < (W f).length

abbrev Mv (N : Type) := N × N

def d (W : N → List N) (m : Mv N) (f : N) : Int := (if f ∈ W m.2 then 1 else 0) - (if f ∈ W m.1 then 1 else 0)
def after (W : N → List N) (u : N → Int) (m : Mv N) : N → Int := fun f => u f + d W m f
def ent (W : N → List N) (m : Mv N) (f : N) : Prop := f ∈ W m.2 ∧ f ∉ W m.1
def canGo (W : N → List N) (r u : N → Int) (m : Mv N) : Prop := ∀ f, ent W m f → u f < r f
def endU (W : N → List N) (u : N → Int) : List (Mv N) → N → Int
  | [] => u
  | m :: ms => endU W (after W u m) ms
def fits (F : List N) (W : N → List N) (r u : N → Int) (L : List (Mv N)) : Prop := ∀ f, f ∈ F → endU W u L f ≤ r f
def crosses (W : N → List N) (m : Mv N) (f : N) : Prop := (f ∈ W m.2 ∧ f ∉ W m.1) ∨ (f ∈ W m.1 ∧ f ∉ W m.2)
def out (W : N → List N) (U : N → Prop) (f : N) : Prop := U f ∧ ∀ g, g ∈ W f → U g → g = f

structure Blk (F : List N) (W : N → List N) (r u : N → Int) (L : List (Mv N)) (U : N → Prop) : Prop where
  some_ : ∃ x, U x
  inF : ∀ x, U x → x ∈ F
  down : ∀ x f, f ∈ W x → U f → U x
  shut : ∀ m, m ∈ L → (U m.1 ↔ U m.2)
  full : ∀ f, out W U f → r f ≤ u f
  crossed : ∀ f, out W U f → ∃ m, m ∈ L ∧ crosses W m f

def NB (F : List N) (W : N → List N) (r u : N → Int) (L : List (Mv N)) : Prop := ∀ U, ¬ Blk F W r u L U

variable {F : List N} {W : N → List N} {r u : N → Int} {L : List (Mv N)}

theorem endU_eq (W : N → List N) (f : N) : ∀ (L : List (Mv N)) (u : N → Int), endU W u L f = u f + (L.map fun m => d W m f).sum
  | [], u => by simp [endU]
  | m :: ms, u => by
    rw [endU, endU_eq W f ms, List.map_cons, List.sum_cons]
    unfold after
    omega

theorem d_le (W : N → List N) (m : Mv N) (f : N) : d W m f ≤ 1 := by
  unfold d
  split <;> split <;> omega

/-- the outermost one around x -/
theorem has_out (hF : Forest F W) {U : N → Prop} (dn : ∀ x f, f ∈ W x → U f → U x) : ∀ (n : Nat) (x : N), (W x).length ≤ n → U x → x ∈ F → ∃ f, f ∈ W x ∧ out W U f
  | n, x, hn, hx, hxF => by
    by_cases h : ∃ g, g ∈ W x ∧ U g ∧ g ≠ x
    · obtain ⟨g, hg, ug, ne⟩ := h
      have hl := hF.lt x g hg ne
      match n, hn with
      | 0, hn => omega
      | n + 1, hn =>
        obtain ⟨f, hf, of⟩ := has_out hF dn n g (by omega) ug (hF.inF _ _ hg)
        exact ⟨f, hF.tr _ _ _ hg hf, of⟩
    · refine ⟨x, hF.self x hxF, hx, fun g hg ug => ?_⟩
      exact Classical.byContradiction fun ne => h ⟨g, hg, ug, ne⟩

theorem out_uniq (hF : Forest F W) {U : N → Prop} {x f g : N} (hf : f ∈ W x) (hg : g ∈ W x) (of : out W U f) (og : out W U g) : f = g := by
  rcases hF.ch x f g hf hg with h | h
  · exact og.2 f h of.1
  · exact (of.2 g h og.1).symm

/-! ### sums over the outermost -/
open Classical in
noncomputable def S (F : List N) (W : N → List N) (U : N → Prop) (g : N → Int) : Int := ((F.filter fun f => decide (out W U f)).map g).sum
theorem sum_zero {l : List N} {p : N → Prop} [DecidablePred p] (h : ∀ f, f ∈ l → ¬ p f) : (l.map fun f => if p f then (1 : Int) else 0).sum = 0 := by
  induction l with
  | nil => rfl
  | cons a l ih =>
    rw [List.map_cons, List.sum_cons, ih fun f hf => h f (List.mem_cons_of_mem _ hf), if_neg (h a List.mem_cons_self)]
    rfl
theorem sum_one {l : List N} {p : N → Prop} [DecidablePred p] {x : N} (nd : l.Nodup) (hx : x ∈ l) (px : p x) (h : ∀ f, f ∈ l → p f → f = x) : (l.map fun f => if p f then (1 : Int) else 0).sum = 1 := by
  induction l with
  | nil => cases hx
  | cons a l ih =>
    rw [List.nodup_cons] at nd
    rw [List.map_cons, List.sum_cons]
    by_cases e : a = x
    · subst e
      rw [if_pos px, sum_zero fun f hf pf => nd.1 (by rw [← h f (List.mem_cons_of_mem _ hf) pf]; exact hf)]
      rfl
    · have hx' : x ∈ l := by
        rcases List.mem_cons.mp hx with q | q
        · exact absurd q.symm e
        · exact q
      rw [if_neg fun pa => e (h a List.mem_cons_self pa), ih nd.2 hx' fun f hf => h f (List.mem_cons_of_mem _ hf)]
      rfl
theorem sum_add {l : List N} {g h : N → Int} : (l.map fun f => g f + h f).sum = (l.map g).sum + (l.map h).sum := by
  induction l with
  | nil => rfl
  | cons a l ih =>
    simp only [List.map_cons, List.sum_cons, ih]
    omega
theorem sum_sub {l : List N} {g h : N → Int} : (l.map fun f => g f - h f).sum = (l.map g).sum - (l.map h).sum := by
  induction l with
  | nil => rfl
  | cons a l ih =>
    simp only [List.map_cons, List.sum_cons, ih]
    omega
theorem sum_le {l : List N} {g h : N → Int} (q : ∀ f, f ∈ l → g f ≤ h f) : (l.map g).sum ≤ (l.map h).sum := by
  induction l with
  | nil => exact Int.le_refl _
  | cons a l ih =>
    have := ih fun f hf => q f (List.mem_cons_of_mem _ hf)
    have := q a List.mem_cons_self
    simp only [List.map_cons, List.sum_cons]
    omega
theorem sum_eq_each {l : List N} {g h : N → Int} (q : ∀ f, f ∈ l → g f ≤ h f) (e : (l.map h).sum ≤ (l.map g).sum) : ∀ f, f ∈ l → g f = h f := by
  induction l with
  | nil => exact fun f hf => nomatch hf
  | cons a l ih =>
    have q' : ∀ f, f ∈ l → g f ≤ h f := fun f hf => q f (List.mem_cons_of_mem _ hf)
    have h1 := sum_le q'
    have h2 := q a List.mem_cons_self
    simp only [List.map_cons, List.sum_cons] at e
    intro f hf
    rcases List.mem_cons.mp hf with rfl | hf
    · omega
    · exact ih q' (by omega) f hf
open Classical in
theorem S_le {U : N → Prop} {g h : N → Int} (q : ∀ f, out W U f → f ∈ F → g f ≤ h f) : S F W U g ≤ S F W U h := by
  unfold S
  refine sum_le fun f hf => ?_
  rw [List.mem_filter] at hf
  exact q f (of_decide_eq_true hf.2) hf.1
open Classical in
theorem S_each {U : N → Prop} {g h : N → Int} (q : ∀ f, out W U f → f ∈ F → g f ≤ h f) (e : S F W U h ≤ S F W U g) : ∀ f, out W U f → f ∈ F → g f = h f := by
  unfold S at e
  intro f of hf
  refine sum_eq_each (fun f hf => ?_) e f ?_
  · rw [List.mem_filter] at hf
    exact q f (of_decide_eq_true hf.2) hf.1
  · rw [List.mem_filter]
    exact ⟨hf, decide_eq_true of⟩
open Classical in
/-- how many outermost ones stand around x -/
theorem S_around (hF : Forest F W) {U : N → Prop} (dn : ∀ x f, f ∈ W x → U f → U x) (inF : ∀ x, U x → x ∈ F) (x : N) : S F W U (fun f => if f ∈ W x then 1 else 0) = if U x then 1 else 0 := by
  unfold S
  split
  · rename_i hx
    obtain ⟨f, hf, of⟩ := has_out hF dn _ x (Nat.le_refl _) hx (inF x hx)
    refine sum_one (x := f) (List.Pairwise.filter _ hF.nd) ?_ hf fun g hg hgx => ?_
    · rw [List.mem_filter]
      exact ⟨hF.inF _ _ hf, decide_eq_true of⟩
    · rw [List.mem_filter] at hg
      exact out_uniq hF hgx hf (of_decide_eq_true hg.2) of
  · rename_i hx
    refine sum_zero fun f hf hfx => hx ?_
    rw [List.mem_filter] at hf
    exact dn _ _ hfx (of_decide_eq_true hf.2).1
open Classical in
noncomputable def cin (U : N → Prop) (m : Mv N) : Int := (if U m.2 then 1 else 0) - (if U m.1 then 1 else 0)
theorem S_d (hF : Forest F W) {U : N → Prop} (dn : ∀ x f, f ∈ W x → U f → U x) (inF : ∀ x, U x → x ∈ F) (m : Mv N) : S F W U (d W m) = cin U m := by
  have e : S F W U (d W m) = S F W U (fun f => if f ∈ W m.2 then 1 else 0) - S F W U (fun f => if f ∈ W m.1 then 1 else 0) := by
    unfold S
    exact sum_sub
  rw [e, S_around hF dn inF, S_around hF dn inF]
  rfl
theorem S_end (hF : Forest F W) {U : N → Prop} (dn : ∀ x f, f ∈ W x → U f → U x) (inF : ∀ x, U x → x ∈ F) : ∀ (L : List (Mv N)) (u : N → Int), S F W U (endU W u L) = S F W U u + (L.map (cin U)).sum
  | [], u => by simp [endU]
  | m :: ms, u => by
    rw [endU, S_end hF dn inF ms, List.map_cons, List.sum_cons, ← S_d hF dn inF m]
    have e : S F W U (after W u m) = S F W U u + S F W U (d W m) := by
      unfold S
      exact sum_add
    rw [e]
    omega
theorem cin_shut {U : N → Prop} {m : Mv N} (h : U m.1 ↔ U m.2) : cin U m = 0 := by
  unfold cin
  by_cases q : U m.1
  · rw [if_pos q, if_pos (h.mp q)]; rfl
  · rw [if_neg q, if_neg fun z => q (h.mpr z)]; rfl
theorem cin_in {U : N → Prop} {m : Mv N} (h : U m.2) : 0 ≤ cin U m := by
  unfold cin
  rw [if_pos h]
  split <;> omega
theorem cin_zero {U : N → Prop} {m : Mv N} (h : U m.2) (z : cin U m = 0) : U m.1 := by
  unfold cin at z
  rw [if_pos h] at z
  by_cases q : U m.1
  · exact q
  · rw [if_neg q] at z
    omega
theorem msum_zero {g : Mv N → Int} (h : ∀ m, m ∈ L → g m = 0) : (L.map g).sum = 0 := by
  induction L with
  | nil => rfl
  | cons a l ih =>
    rw [List.map_cons, List.sum_cons, ih fun m hm => h m (List.mem_cons_of_mem _ hm), h a List.mem_cons_self]
    rfl
theorem msum_nonneg {g : Mv N → Int} (h : ∀ m, m ∈ L → 0 ≤ g m) : 0 ≤ (L.map g).sum := by
  induction L with
  | nil => exact Int.le_refl _
  | cons a l ih =>
    have := ih fun m hm => h m (List.mem_cons_of_mem _ hm)
    have := h a List.mem_cons_self
    rw [List.map_cons, List.sum_cons]
    omega
theorem msum_each {g : Mv N → Int} (h : ∀ m, m ∈ L → 0 ≤ g m) (e : (L.map g).sum ≤ 0) : ∀ m, m ∈ L → g m = 0 := by
  induction L with
  | nil => exact fun m hm => nomatch hm
  | cons a l ih =>
    have h' : ∀ m, m ∈ l → 0 ≤ g m := fun m hm => h m (List.mem_cons_of_mem _ hm)
    have h1 := msum_nonneg h'
    have h2 := h a List.mem_cons_self
    rw [List.map_cons, List.sum_cons] at e
    intro m hm
    rcases List.mem_cons.mp hm with rfl | hm
    · omega
    · exact ih h' (by omega) m hm
theorem msum_erase {g : Mv N → Int} {m : Mv N} (h : m ∈ L) : (L.map g).sum = g m + ((L.erase m).map g).sum := by
  induction L with
  | nil => cases h
  | cons a l ih =>
    rw [List.map_cons, List.sum_cons]
    by_cases e : a = m
    · subst e
      rw [List.erase_cons_head]
    · have hm : m ∈ l := by
        rcases List.mem_cons.mp h with q | q
        · exact absurd q.symm e
        · exact q
      rw [List.erase_cons_tail (by simpa using e), List.map_cons, List.sum_cons, ih hm]
      omega
theorem mem_or_erase {m x : Mv N} (h : x ∈ L) : x = m ∨ x ∈ L.erase m := by
  by_cases e : x = m
  · exact .inl e
  · exact .inr ((List.mem_erase_of_ne e).mpr h)

/-! ### if each move's target lies within a full folder that some move enters, there is a ring -/
theorem flow (hF : Forest F W) (hu : ∀ f, f ∈ F → u f ≤ r f) (hfit : fits F W r u L) (hne : L ≠ []) (E : N → Prop) (hE : ∀ f, E f → f ∈ F ∧ r f ≤ u f ∧ ∃ m, m ∈ L ∧ ent W m f)
    (ht : ∀ m, m ∈ L → ∃ f, E f ∧ f ∈ W m.2) : ∃ U, Blk F W r u L U := by
  let U : N → Prop := fun x => ∃ f, E f ∧ f ∈ W x
  have dn : ∀ x f, f ∈ W x → U f → U x := fun x f hf ⟨g, eg, hg⟩ => ⟨g, eg, hF.tr _ _ _ hf hg⟩
  have inF : ∀ x, U x → x ∈ F := fun x ⟨g, _, hg⟩ => hF.dom _ _ hg
  have ou : ∀ f, out W U f → E f := fun f ⟨⟨g, eg, hg⟩, q⟩ => by
    have e := q g hg ⟨g, eg, hF.self g (hE g eg).1⟩
    rw [← e]
    exact eg
  have hs : S F W U (endU W u L) = S F W U u + (L.map (cin U)).sum := S_end hF dn inF L u
  have h1 : S F W U (endU W u L) ≤ S F W U u := S_le fun f of hf => Int.le_trans (hfit f hf) (hE f (ou f of)).2.1
  have h2 : ∀ m, m ∈ L → cin U m = 0 := msum_each (fun m hm => cin_in (ht m hm)) (by omega)
  refine ⟨U, ?_, inF, dn, fun m hm => ⟨fun _ => ht m hm, fun q => cin_zero q (h2 m hm)⟩, fun f of => (hE f (ou f of)).2.1, fun f of => ?_⟩
  · cases L with
    | nil => exact absurd rfl hne
    | cons m l => exact ⟨m.2, ht m List.mem_cons_self⟩
  · obtain ⟨m, hm, e⟩ := (hE f (ou f of)).2.2
    exact ⟨m, hm, .inl e⟩

/-! ### a move that is not let -/
structure Trap (F : List N) (W : N → List N) (r u : N → Int) (L : List (Mv N)) (m : Mv N) (U : N → Prop) (f0 : N) : Prop where
  inF : ∀ x, U x → x ∈ F
  down : ∀ x f, f ∈ W x → U f → U x
  shut : ∀ x, x ∈ L.erase m → (U x.1 ↔ U x.2)
  o0 : out W U f0
  e0 : ent W m f0
  one : u f0 + 1 = r f0
  na : ¬ U m.1
  yb : U m.2
  full : ∀ f, out W U f → f ≠ f0 → r f ≤ u f
  crossed : ∀ f, out W U f → ∃ x, x ∈ L.erase m ∧ crosses W x f

theorem trap (hF : Forest F W) (hu : ∀ f, f ∈ F → u f ≤ r f) (hnb : NB F W r u L) {m : Mv N} (hm : m ∈ L) (hgo : canGo W r u m) {U : N → Prop} (B : Blk F W r (after W u m) (L.erase m) U) : ∃ f0, Trap F W r u L m U f0 := by
  have around : ∀ x, U x → ∃ f, f ∈ W x ∧ out W U f := fun x hx => has_out hF B.down _ x (Nat.le_refl _) hx (B.inF x hx)
  have noleft : ∀ f, out W U f → f ∈ W m.1 → f ∈ W m.2 := fun f of ha => Classical.byContradiction fun hb => by
    have h1 := B.full f of
    have h2 := hu f (B.inF f of.1)
    unfold after d at h1
    rw [if_neg hb, if_pos ha] at h1
    omega
  by_cases h : ∃ f, out W U f ∧ ent W m f
  · obtain ⟨f0, of, e0⟩ := h
    have yb : U m.2 := B.down _ _ e0.1 of.1
    have na : ¬ U m.1 := fun ha => by
      obtain ⟨g, hg, og⟩ := around _ ha
      have hb := noleft g og hg
      have e := out_uniq hF hb e0.1 og of
      rw [e] at hg
      exact e0.2 hg
    refine ⟨f0, B.inF, B.down, B.shut, of, e0, ?_, na, yb, fun f off ne => ?_, B.crossed⟩
    · have h1 := B.full f0 of
      have h2 := hgo f0 e0
      unfold after d at h1
      rw [if_pos e0.1, if_neg e0.2] at h1
      omega
    · have h1 := B.full f off
      have hb : f ∉ W m.2 := fun q => ne (out_uniq hF q e0.1 off of)
      have ha : f ∉ W m.1 := fun q => na (B.down _ _ q off.1)
      unfold after d at h1
      rw [if_neg hb, if_neg ha] at h1
      omega
  · exfalso
    have same : ∀ f, out W U f → (f ∈ W m.1 ↔ f ∈ W m.2) := fun f of => ⟨noleft f of, fun hb => Classical.byContradiction fun ha => h ⟨f, of, hb, ha⟩⟩
    refine hnb U ⟨B.some_, B.inF, B.down, fun x hx => ?_, fun f of => ?_, fun f of => ?_⟩
    · rcases mem_or_erase (m := m) hx with rfl | q
      · constructor
        · intro ha
          obtain ⟨g, hg, og⟩ := around _ ha
          exact B.down _ _ ((same g og).mp hg) og.1
        · intro hb
          obtain ⟨g, hg, og⟩ := around _ hb
          exact B.down _ _ ((same g og).mpr hg) og.1
      · exact B.shut x q
    · have h1 := B.full f of
      have h2 := same f of
      unfold after d at h1
      by_cases q : f ∈ W m.1
      · rw [if_pos q, if_pos (h2.mp q)] at h1
        omega
      · rw [if_neg q, if_neg fun z => q (h2.mpr z)] at h1
        omega
    · obtain ⟨x, hx, c⟩ := B.crossed f of
      exact ⟨x, List.mem_of_mem_erase hx, c⟩

open Classical in
theorem Trap.exact (hF : Forest F W) (hfit : fits F W r u L) {m : Mv N} {U : N → Prop} {f0 : N} (hm : m ∈ L) (T : Trap F W r u L m U f0) : ∀ f, out W U f → endU W u L f = r f := by
  have hs := S_end hF T.down T.inF L u
  have h1 : (L.map (cin U)).sum = 1 := by
    rw [msum_erase hm, msum_zero fun x hx => cin_shut (T.shut x hx)]
    unfold cin
    rw [if_pos T.yb, if_neg T.na]
    rfl
  have h2 : S F W U r ≤ S F W U u + 1 := by
    have q : S F W U r ≤ S F W U (fun f => u f + if f = f0 then 1 else 0) := S_le fun f of hf => by
      by_cases e : f = f0
      · rw [if_pos e, e]
        have := T.one
        omega
      · rw [if_neg e]
        have := T.full f of e
        omega
    have q2 : S F W U (fun f => u f + if f = f0 then 1 else 0) = S F W U u + S F W U (fun f => if f = f0 then 1 else 0) := by
      unfold S
      exact sum_add
    have q3 : S F W U (fun f => if f = f0 then 1 else 0) = 1 := by
      unfold S
      refine sum_one (x := f0) (List.Pairwise.filter _ hF.nd) ?_ rfl fun f _ e => e
      rw [List.mem_filter]
      exact ⟨T.inF _ T.o0.1, decide_eq_true T.o0⟩
    omega
  intro f of
  exact S_each (fun f _ hf => hfit f hf) (by omega) f of (T.inF f of.1)

open Classical in
noncomputable def roomIn (r u : N → Int) (U : N → Prop) (n : Nat) : N → Int := fun f => if U f then r f else u f + n + 1

theorem let_move (hF : Forest F W) : ∀ (n : Nat) (L : List (Mv N)) (r u : N → Int), L.length = n → (∀ f, f ∈ F → u f ≤ r f) → fits F W r u L → NB F W r u L → L ≠ [] →
    ∃ m, m ∈ L ∧ canGo W r u m ∧ NB F W r (after W u m) (L.erase m) := by
  intro n
  induction n using Nat.strongRecOn with
  | ind n ih =>
    intro L r u hn hu hfit hnb hne
    refine Classical.byContradiction fun stuck => ?_
    have traps : ∀ m, m ∈ L → canGo W r u m → ∃ U f0, Trap F W r u L m U f0 := fun m hm hgo => by
      have q : ¬ NB F W r (after W u m) (L.erase m) := fun z => stuck ⟨m, hm, hgo, z⟩
      have ⟨U, B⟩ : ∃ U, Blk F W r (after W u m) (L.erase m) U := Classical.byContradiction fun z => q fun U B => z ⟨U, B⟩
      obtain ⟨f0, T⟩ := trap hF hu hnb hm hgo B
      exact ⟨U, f0, T⟩
    -- each move that can go lies within a full folder that some move enters
    have claim : ∀ z, z ∈ L → canGo W r u z → ∃ g, (g ∈ F ∧ r g ≤ u g ∧ ∃ x, x ∈ L ∧ ent W x g) ∧ g ∈ W z.2 := by
      intro z hz hgo
      obtain ⟨U, f0, T⟩ := traps z hz hgo
      classical
      let Lin := (L.erase z).filter fun x => decide (U x.2)
      let r' := roomIn r u U L.length
      have r'in : ∀ f, U f → r' f = r f := fun f hf => if_pos hf
      have r'out : ∀ f, ¬ U f → r' f = u f + L.length + 1 := fun f hf => if_neg hf
      have memIn : ∀ x, x ∈ Lin ↔ x ∈ L.erase z ∧ U x.2 := fun x => by
        show x ∈ (L.erase z).filter _ ↔ _
        rw [List.mem_filter, decide_eq_true_iff]
      have inL : ∀ x, x ∈ Lin → x ∈ L := fun x hx => List.mem_of_mem_erase ((memIn x).mp hx).1
      have lenIn : Lin.length < L.length := by
        have h1 : Lin.length ≤ (L.erase z).length := List.length_filter_le _ _
        have h2 := List.length_erase_of_mem hz
        have h3 : 0 < L.length := List.length_pos_iff.mpr hne
        omega
      have hu' : ∀ f, f ∈ F → u f ≤ r' f := fun f hf => by
        by_cases q : U f
        · rw [r'in f q]
          exact hu f hf
        · rw [r'out f q]
          omega
      have neIn : Lin ≠ [] := by
        obtain ⟨x, hx, c⟩ := T.crossed f0 T.o0
        have ux : U x.2 := by
          rcases c with c | c
          · exact T.down _ _ c.1 T.o0.1
          · exact (T.shut x hx).mp (T.down _ _ c.1 T.o0.1)
        have : x ∈ Lin := (memIn x).mpr ⟨hx, ux⟩
        exact List.ne_nil_of_mem this
      have fitIn : fits F W r' u Lin := by
        intro f hf
        rw [endU_eq]
        by_cases q : U f
        · rw [r'in f q]
          have h1 := hfit f hf
          rw [endU_eq, msum_erase hz] at h1
          have h2 : 0 ≤ d W z f := by
            unfold d
            rw [if_neg fun ha => T.na (T.down _ _ ha q)]
            split <;> omega
          have h3 : ((L.erase z).map fun m => d W m f).sum = (Lin.map fun m => d W m f).sum := by
            have gen : ∀ l : List (Mv N), (∀ x, x ∈ l → (U x.1 ↔ U x.2)) → (l.map fun m => d W m f).sum = ((l.filter fun x => decide (U x.2)).map fun m => d W m f).sum := by
              intro l
              induction l with
              | nil => exact fun _ => rfl
              | cons x l ihl =>
                intro hl
                have hx := hl x List.mem_cons_self
                have ih' := ihl fun y hy => hl y (List.mem_cons_of_mem _ hy)
                by_cases ux : U x.2
                · rw [List.filter_cons, if_pos (decide_eq_true ux), List.map_cons, List.map_cons, List.sum_cons, List.sum_cons, ih']
                · rw [List.filter_cons, if_neg (by simpa using ux), List.map_cons, List.sum_cons, ih']
                  have : d W x f = 0 := by
                    unfold d
                    rw [if_neg fun hb => ux (T.down _ _ hb q), if_neg fun ha => ux (hx.mp (T.down _ _ ha q))]
                    rfl
                  omega
            exact gen _ T.shut
          omega
        · rw [r'out f q]
          have gen : ∀ l : List (Mv N), (l.map fun m => d W m f).sum ≤ l.length := by
            intro l
            induction l with
            | nil => exact Int.le_refl _
            | cons x l ihl =>
              have := d_le W x f
              rw [List.map_cons, List.sum_cons, List.length_cons]
              omega
          have := gen Lin
          omega
      have nbIn : NB F W r' u Lin := by
        intro V B
        have outU : ∀ f, out W V f → U f := fun f of => Classical.byContradiction fun q => by
          have h1 := B.full f of
          rw [r'out f q] at h1
          omega
        have sub : ∀ x, V x → U x := fun x hx => by
          obtain ⟨f, hf, of⟩ := has_out hF B.down _ x (Nat.le_refl _) hx (B.inF x hx)
          exact T.down _ _ hf (outU f of)
        refine hnb V ⟨B.some_, B.inF, B.down, fun x hx => ?_, fun f of => ?_, fun f of => ?_⟩
        · rcases mem_or_erase (m := z) hx with rfl | q
          · constructor
            · exact fun ha => absurd (sub _ ha) T.na
            · intro hb
              exfalso
              obtain ⟨g, hg, og⟩ := has_out hF B.down _ _ (Nat.le_refl _) hb (B.inF _ hb)
              have h1 := B.full g og
              rw [r'in g (outU g og)] at h1
              have ha : g ∈ W x.1 := Classical.byContradiction fun ha => by
                have := hgo g ⟨hg, ha⟩
                omega
              exact T.na (T.down _ _ ha (outU g og))
          · by_cases ux : U x.2
            · exact B.shut x ((memIn x).mpr ⟨q, ux⟩)
            · exact ⟨fun ha => absurd ((T.shut x q).mp (sub _ ha)) ux, fun hb => absurd (sub _ hb) ux⟩
        · have h1 := B.full f of
          rw [r'in f (outU f of)] at h1
          exact h1
        · obtain ⟨x, hx, c⟩ := B.crossed f of
          exact ⟨x, inL x hx, c⟩
      obtain ⟨x, hx, xgo', xnb⟩ := ih Lin.length (by omega) Lin r' u rfl hu' fitIn nbIn neIn
      have hxe := ((memIn x).mp hx).1
      have hxL := inL x hx
      have ub1 : U x.2 := ((memIn x).mp hx).2
      have ua1 : U x.1 := (T.shut x hxe).mpr ub1
      have nezx : z ≠ x := fun e => T.na (by rw [e]; exact ua1)
      by_cases xgo : canGo W r u x
      · -- it has a trap of its own
        exfalso
        obtain ⟨U', f1, T'⟩ := traps x hxL xgo
        have hze : z ∈ L.erase x := (List.mem_erase_of_ne nezx).mpr hz
        have hzU := T'.shut z hze
        by_cases q : U' z.2
        · -- both together
          have qa : U' z.1 := hzU.mpr q
          let Z : N → Prop := fun y => U y ∨ U' y
          have dnZ : ∀ y f, f ∈ W y → Z f → Z y := fun y f hf h => h.elim (fun a => .inl (T.down _ _ hf a)) fun a => .inr (T'.down _ _ hf a)
          have inZ : ∀ y, Z y → y ∈ F := fun y h => h.elim (T.inF y) (T'.inF y)
          have shZ : ∀ y, y ∈ L → (Z y.1 ↔ Z y.2) := fun y hy => by
            rcases mem_or_erase (m := z) hy with rfl | hyz
            · exact ⟨fun _ => .inr q, fun _ => .inr qa⟩
            · rcases mem_or_erase (m := x) hy with rfl | hyx
              · exact ⟨fun _ => .inl ub1, fun _ => .inl ua1⟩
              · have a := T.shut y hyz
                have b := T'.shut y hyx
                exact ⟨fun h => h.elim (fun h => .inl (a.mp h)) fun h => .inr (b.mp h), fun h => h.elim (fun h => .inl (a.mpr h)) fun h => .inr (b.mpr h)⟩
          have outZ : ∀ f, out W Z f → out W U f ∨ out W U' f := fun f of => by
            rcases of.1 with h | h
            · exact .inl ⟨h, fun g hg ug => of.2 g hg (.inl ug)⟩
            · exact .inr ⟨h, fun g hg ug => of.2 g hg (.inr ug)⟩
          have ex := T.exact hF hfit hz
          have ex' := T'.exact hF hfit hxL
          have exZ : ∀ f, out W Z f → endU W u L f = r f := fun f of => (outZ f of).elim (ex f) (ex' f)
          have hs := S_end hF dnZ inZ L u
          rw [msum_zero fun y hy => cin_shut (shZ y hy)] at hs
          have h1 : S F W Z r ≤ S F W Z (endU W u L) := S_le fun f of _ => Int.le_of_eq (exZ f of).symm
          have each : ∀ f, out W Z f → f ∈ F → u f = r f := S_each (fun f _ hf => hu f hf) (by omega)
          refine hnb Z ⟨⟨z.2, .inr q⟩, inZ, dnZ, shZ, fun f of => Int.le_of_eq (each f of (inZ f of.1)).symm, fun f of => ?_⟩
          rcases outZ f of with o | o
          · obtain ⟨y, hy, c⟩ := T.crossed f o
            exact ⟨y, List.mem_of_mem_erase hy, c⟩
          · obtain ⟨y, hy, c⟩ := T'.crossed f o
            exact ⟨y, List.mem_of_mem_erase hy, c⟩
        · -- what they share
          have qa : ¬ U' z.1 := fun h => q (hzU.mp h)
          let X : N → Prop := fun y => U y ∧ U' y
          have dnX : ∀ y f, f ∈ W y → X f → X y := fun y f hf h => ⟨T.down _ _ hf h.1, T'.down _ _ hf h.2⟩
          have outX : ∀ f, out W X f → out W U f ∨ out W U' f := fun f of => by
            by_cases h1 : out W U f
            · exact .inl h1
            · refine .inr ⟨of.1.2, fun g' hg' ug' => Classical.byContradiction fun ne' => ?_⟩
              refine h1 ⟨of.1.1, fun g hg ug => Classical.byContradiction fun ne => ?_⟩
              rcases hF.ch f g g' hg hg' with h | h
              · exact ne' (of.2 g' hg' ⟨T.down _ _ h ug, ug'⟩)
              · exact ne (of.2 g hg ⟨ug, T'.down _ _ h ug'⟩)
          have toIn : ∀ y, y ∈ Lin.erase x ↔ y ∈ (L.erase z).erase x ∧ U y.2 := fun y => by
            show y ∈ ((L.erase z).filter _).erase x ↔ _
            rw [List.erase_filter, List.mem_filter, decide_eq_true_iff]
          have toX : ∀ y, y ∈ (L.erase z).erase x → y ∈ L.erase x := fun y hy => by
            rw [List.erase_comm] at hy
            exact List.mem_of_mem_erase hy
          refine xnb X ⟨⟨x.2, ub1, T'.yb⟩, fun y hy => T.inF y hy.1, dnX, fun y hy => ?_, fun f of => ?_, fun f of => ?_⟩
          · have h1 := (toIn y).mp hy
            have a := T.shut y (List.mem_of_mem_erase h1.1)
            have b := T'.shut y (toX y h1.1)
            exact ⟨fun h => ⟨a.mp h.1, b.mp h.2⟩, fun h => ⟨a.mpr h.1, b.mpr h.2⟩⟩
          · show r' f ≤ _
            rw [r'in f of.1.1]
            have ha : f ∉ W x.1 := fun h => T'.na (T'.down _ _ h of.1.2)
            have hd : 0 ≤ d W x f := by
              unfold d
              rw [if_neg ha]
              split <;> omega
            rcases outX f of with o | o
            · have ne : f ≠ f0 := fun e => q (T'.down _ _ T.e0.1 (by rw [← e]; exact of.1.2))
              have := T.full f o ne
              unfold after
              omega
            · by_cases e : f = f1
              · have h1 := T'.e0
                rw [← e] at h1
                have h2 := T'.one
                rw [← e] at h2
                unfold after d
                rw [if_pos h1.1, if_neg h1.2]
                omega
              · have := T'.full f o e
                unfold after
                omega
          · have ha : f ∉ W x.1 := fun h => T'.na (T'.down _ _ h of.1.2)
            rcases outX f of with o | o
            · have ne : f ≠ f0 := fun e => q (T'.down _ _ T.e0.1 (by rw [← e]; exact of.1.2))
              have full := T.full f o ne
              obtain ⟨y, hy, c⟩ := T.crossed f o
              have uy : U y.2 := by
                rcases c with c | c
                · exact T.down _ _ c.1 o.1
                · exact (T.shut y hy).mp (T.down _ _ c.1 o.1)
              refine ⟨y, (toIn y).mpr ⟨(List.mem_erase_of_ne fun e => ?_).mpr hy, uy⟩, c⟩
              subst e
              rcases c with c | c
              · have h1 := xgo' f c
                have h2 : r' f = r f := r'in f o.1
                omega
              · exact ha c.1
            · obtain ⟨y, hy, c⟩ := T'.crossed f o
              have uy' : U' y.1 ∧ U' y.2 := by
                rcases c with c | c
                · have h := T'.down _ _ c.1 o.1
                  exact ⟨(T'.shut y hy).mpr h, h⟩
                · have h := T'.down _ _ c.1 o.1
                  exact ⟨h, (T'.shut y hy).mp h⟩
              have ne : y ≠ z := fun e => q (by rw [← e]; exact uy'.2)
              have hy2 : y ∈ (L.erase x).erase z := (List.mem_erase_of_ne ne).mpr hy
              rw [List.erase_comm] at hy2
              have uy : U y.2 := by
                rcases c with c | c
                · exact T.down _ _ c.1 of.1.1
                · exact (T.shut y (List.mem_of_mem_erase hy2)).mp (T.down _ _ c.1 of.1.1)
              exact ⟨y, (toIn y).mpr ⟨hy2, uy⟩, c⟩
      · -- it is barred from outside
        have ⟨g, eg, fullg⟩ : ∃ g, ent W x g ∧ r g ≤ u g := Classical.byContradiction fun h => xgo fun f ef => by
          have : ¬ r f ≤ u f := fun z => h ⟨f, ef, z⟩
          omega
        have gF : g ∈ F := hF.inF _ _ eg.1
        have ng : ¬ U g := fun h => by
          have h1 := xgo' g eg
          have h2 : r' g = r g := r'in g h
          omega
        obtain ⟨fi, hfi, oi⟩ := has_out hF T.down _ _ (Nat.le_refl _) ub1 (T.inF _ ub1)
        have gfi : g ∈ W fi := by
          rcases hF.ch _ fi g hfi eg.1 with h | h
          · exact absurd (T.down _ _ h oi.1) ng
          · exact h
        have efi : ent W x fi := ⟨hfi, fun h => eg.2 (hF.tr _ _ _ h gfi)⟩
        have e : fi = f0 := Classical.byContradiction fun ne => by
          have h1 := xgo' fi efi
          have h2 : r' fi = r fi := r'in fi oi.1
          have h3 := T.full fi oi ne
          omega
        subst e
        exact ⟨g, ⟨gF, fullg, x, hxL, eg⟩, hF.tr _ _ _ T.e0.1 gfi⟩
    obtain ⟨U, B⟩ := flow hF hu hfit hne (fun g => g ∈ F ∧ r g ≤ u g ∧ ∃ x, x ∈ L ∧ ent W x g) (fun _ h => h) fun m hm => by
      by_cases hgo : canGo W r u m
      · exact claim m hm hgo
      · have ⟨g, eg, fullg⟩ : ∃ g, ent W m g ∧ r g ≤ u g := Classical.byContradiction fun h => hgo fun f ef => by
          have : ¬ r f ≤ u f := fun z => h ⟨f, ef, z⟩
          omega
        exact ⟨g, ⟨hF.inF _ _ eg.1, fullg, m, hm, eg⟩, eg.1⟩
    exact hnb U B
end
end RR
end
section
set_option autoImplicit false
set_option linter.all false
namespace RR
section
variable {N : Type} [DecidableEq N] {F : List N} {W : N → List N} {r u : N → Int} {L : List (Mv N)}

def goes (W : N → List N) (r : N → Int) : (N → Int) → List (Mv N) → Prop
  | _, [] => True
  | u, m :: ms => canGo W r u m ∧ goes W r (after W u m) ms

theorem Blk.congr {L' : List (Mv N)} {U : N → Prop} (B : Blk F W r u L U) (h : ∀ m, m ∈ L ↔ m ∈ L') : Blk F W r u L' U :=
  ⟨B.some_, B.inF, B.down, fun m hm => B.shut m ((h m).mpr hm), B.full, fun f of => by
    obtain ⟨m, hm, c⟩ := B.crossed f of
    exact ⟨m, (h m).mp hm, c⟩⟩
theorem Blk.room {r' u' : N → Int} {U : N → Prop} (B : Blk F W r u L U) (h : ∀ f, f ∈ F → r f = r' f ∧ u f = u' f) : Blk F W r' u' L U :=
  ⟨B.some_, B.inF, B.down, B.shut, fun f of => by
    have h1 := h f (B.inF f of.1)
    have h2 := B.full f of
    omega, B.crossed⟩

/-- a ring bars every order -/
theorem ring_bars (hF : Forest F W) {U : N → Prop} : ∀ (O : List (Mv N)) (u : N → Int), Blk F W r u O U → ¬ goes W r u O
  | [], u, B, _ => by
    obtain ⟨x, hx⟩ := B.some_
    obtain ⟨f, _, of⟩ := has_out hF B.down _ x (Nat.le_refl _) hx (B.inF x hx)
    obtain ⟨m, hm, _⟩ := B.crossed f of
    cases hm
  | m :: O, u, B, g => by
    have nent : ∀ f, out W U f → ¬ ent W m f := fun f of e => by
      have h1 := g.1 f e
      have h2 := B.full f of
      omega
    have nleft : ∀ f, out W U f → f ∈ W m.1 → f ∈ W m.2 := fun f of ha => Classical.byContradiction fun hb => by
      have ua : U m.1 := B.down _ _ ha of.1
      have ub : U m.2 := (B.shut m List.mem_cons_self).mp ua
      obtain ⟨k, hk, ok⟩ := has_out hF B.down _ _ (Nat.le_refl _) ub (B.inF _ ub)
      refine nent k ok ⟨hk, fun hka => ?_⟩
      have e := out_uniq hF hka ha ok of
      rw [e] at hk
      exact hb hk
    have same : ∀ f, out W U f → (f ∈ W m.1 ↔ f ∈ W m.2) := fun f of => ⟨nleft f of, fun hb => Classical.byContradiction fun ha => nent f of ⟨hb, ha⟩⟩
    refine ring_bars hF O (after W u m) ⟨B.some_, B.inF, B.down, fun x hx => B.shut x (List.mem_cons_of_mem _ hx), fun f of => ?_, fun f of => ?_⟩ g.2
    · have h1 := B.full f of
      have h2 := same f of
      unfold after d
      by_cases q : f ∈ W m.1
      · rw [if_pos q, if_pos (h2.mp q)]
        omega
      · rw [if_neg q, if_neg fun z => q (h2.mpr z)]
        omega
    · obtain ⟨x, hx, c⟩ := B.crossed f of
      rcases List.mem_cons.mp hx with rfl | hx
      · exfalso
        have h2 := same f of
        rcases c with c | c
        · exact c.2 (h2.mpr c.1)
        · exact c.2 (h2.mp c.1)
      · exact ⟨x, hx, c⟩

theorem after_le {m : Mv N} (hu : ∀ f, f ∈ F → u f ≤ r f) (g : canGo W r u m) : ∀ f, f ∈ F → after W u m f ≤ r f := fun f hf => by
  have h1 := hu f hf
  unfold after d
  by_cases hb : f ∈ W m.2
  · by_cases ha : f ∈ W m.1
    · rw [if_pos hb, if_pos ha]
      omega
    · have := g f ⟨hb, ha⟩
      rw [if_pos hb, if_neg ha]
      omega
  · rw [if_neg hb]
    split <;> omega
theorem goes_fits : ∀ (O : List (Mv N)) (u : N → Int), (∀ f, f ∈ F → u f ≤ r f) → goes W r u O → fits F W r u O
  | [], u, hu, _ => hu
  | m :: O, u, hu, g => goes_fits O (after W u m) (after_le hu g.1) g.2
theorem endU_perm {O : List (Mv N)} (h : O.Perm L) (f : N) : endU W u O f = endU W u L f := by
  rw [endU_eq, endU_eq]
  have : ∀ {a b : List (Mv N)}, a.Perm b → (a.map fun m => d W m f).sum = (b.map fun m => d W m f).sum := by
    intro a b h
    induction h with
    | nil => rfl
    | cons x _ ih => simp only [List.map_cons, List.sum_cons, ih]
    | swap x y l =>
      simp only [List.map_cons, List.sum_cons]
      omega
    | trans _ _ h1 h2 => exact h1.trans h2
  rw [this h]
theorem goes_append : ∀ (A B : List (Mv N)) (u : N → Int), goes W r u (A ++ B) ↔ goes W r u A ∧ goes W r (endU W u A) B
  | [], B, u => by simp [goes, endU]
  | m :: A, B, u => by
    rw [List.cons_append]
    simp only [goes, endU]
    rw [goes_append A B, and_assoc]
theorem endU_append : ∀ (A B : List (Mv N)) (u : N → Int), endU W u (A ++ B) = endU W (endU W u A) B
  | [], B, u => rfl
  | m :: A, B, u => by
    rw [List.cons_append, endU, endU, endU_append A B]

/-- (O1), one half -/
theorem order_needs (hF : Forest F W) (hu : ∀ f, f ∈ F → u f ≤ r f) {O : List (Mv N)} (p : O.Perm L) (g : goes W r u O) : fits F W r u L ∧ NB F W r u L := by
  refine ⟨fun f hf => ?_, fun U B => ?_⟩
  · rw [← endU_perm p f]
    exact goes_fits O u hu g f hf
  · exact ring_bars hF O u (B.congr fun m => p.mem_iff.symm) g

theorem fits_after {m : Mv N} (hm : m ∈ L) (hfit : fits F W r u L) : fits F W r (after W u m) (L.erase m) := fun f hf => by
  have h := hfit f hf
  have p : (m :: L.erase m).Perm L := (List.perm_cons_erase hm).symm
  rw [← endU_perm p f] at h
  exact h

/-- a move that fills no folder is let -/
theorem calm_let (hF : Forest F W) (hu : ∀ f, f ∈ F → u f ≤ r f) (hnb : NB F W r u L) {m : Mv N} (hm : m ∈ L) (h : ∀ f, ent W m f → u f + 1 < r f) : canGo W r u m ∧ NB F W r (after W u m) (L.erase m) := by
  have g : canGo W r u m := fun f e => by
    have := h f e
    omega
  refine ⟨g, fun U B => ?_⟩
  obtain ⟨f0, T⟩ := trap hF hu hnb hm g B
  have h1 := h f0 T.e0
  have h2 := T.one
  omega

/-- (O1), the other half -/
theorem order_there (hF : Forest F W) : ∀ (n : Nat) (L : List (Mv N)) (u : N → Int), L.length = n → (∀ f, f ∈ F → u f ≤ r f) → fits F W r u L → NB F W r u L → ∃ O : List (Mv N), O.Perm L ∧ goes W r u O
  | 0, L, u, hn, _, _, _ => by
    have e : L = [] := List.length_eq_zero_iff.mp hn
    subst e
    exact ⟨[], .refl _, trivial⟩
  | n + 1, L, u, hn, hu, hfit, hnb => by
    have hne : L ≠ [] := fun e => by
      rw [e] at hn
      simp at hn
    obtain ⟨m, hm, g, nb⟩ := let_move hF _ L r u rfl hu hfit hnb hne
    have hl : (L.erase m).length = n := by
      rw [List.length_erase_of_mem hm]
      omega
    obtain ⟨O, p, go⟩ := order_there hF n (L.erase m) (after W u m) hl (after_le hu g) (fits_after hm hfit) nb
    exact ⟨m :: O, ((List.perm_cons m).mpr p).trans (List.perm_cons_erase hm).symm, g, go⟩

/-! ### rings by arrows -/
inductive Reach (T : N → N → Prop) (s : N) : N → Prop
  | refl : Reach T s s
  | step {x y : N} : Reach T s x → T x y → Reach T s y

/-- o: outside; par: the parent -/
structure Rows (F : List N) (W : N → List N) (o : N) (par : N → N) : Prop where
  no : o ∉ F
  Wo : W o = []
  Wc : ∀ n, n ∈ F → W n = n :: W (par n)
  pin : ∀ n, n ∈ F → par n = o ∨ par n ∈ F

def Arr (F : List N) (o : N) (par : N → N) (loose : N → Prop) (L : List (Mv N)) (x y : N) : Prop :=
  (y ∈ F ∧ par y = x ∧ x ≠ o) ∨ (x ∈ F ∧ loose x ∧ par x = y) ∨ ∃ m, m ∈ L ∧ ((x = m.1 ∧ y = m.2) ∨ (x = m.2 ∧ y = m.1))

theorem ring_iff (hF : Forest F W) {o : N} {par : N → N} (R : Rows F W o par) {loose : N → Prop} (hl : ∀ n, n ∈ F → (loose n ↔ (u n < r n ∨ ¬ ∃ m, m ∈ L ∧ crosses W m n)))
    (hL : ∀ m, m ∈ L → (m.1 = o ∨ m.1 ∈ F) ∧ (m.2 = o ∨ m.2 ∈ F)) : (∃ x, x ∈ F ∧ ¬ Reach (fun x y => Arr F o par loose L y x) o x) ↔ ¬ NB F W r u L := by
  constructor
  · rintro ⟨x, hx, nx⟩ nb
    let U : N → Prop := fun x => x ∈ F ∧ ¬ Reach (fun x y => Arr F o par loose L y x) o x
    have arr : ∀ x y, U x → Arr F o par loose L x y → (y = o ∨ y ∈ F) → U y := fun x y ux a hy => by
      have ny : ¬ Reach (fun x y => Arr F o par loose L y x) o y := fun h => ux.2 (h.step a)
      rcases hy with rfl | hy
      · exact absurd Reach.refl ny
      · exact ⟨hy, ny⟩
    have down1 : ∀ n, n ∈ F → U (par n) → U n := fun n hn up => arr _ _ up (.inl ⟨hn, rfl, fun e => R.no (by rw [← e]; exact up.1)⟩) (.inr hn)
    have down : ∀ (k : Nat) (x f : N), (W x).length ≤ k → f ∈ W x → U f → U x := by
      intro k
      induction k with
      | zero =>
        intro x f hk hf _
        have := List.length_pos_of_mem hf
        omega
      | succ k ih =>
        intro x f hk hf uf
        have hx : x ∈ F := hF.dom _ _ hf
        rw [R.Wc x hx] at hf hk
        rcases List.mem_cons.mp hf with rfl | hf
        · exact uf
        · rw [List.length_cons] at hk
          exact down1 x hx (ih (par x) f (by omega) hf uf)
    refine nb U ⟨⟨x, hx, nx⟩, fun x h => h.1, fun x f => down _ x f (Nat.le_refl _), fun m hm => ?_, fun f of => ?_, fun f of => ?_⟩
    · have h := hL m hm
      exact ⟨fun q => arr _ _ q (.inr (.inr ⟨m, hm, .inl ⟨rfl, rfl⟩⟩)) h.2, fun q => arr _ _ q (.inr (.inr ⟨m, hm, .inr ⟨rfl, rfl⟩⟩)) h.1⟩
    all_goals
      have nl : ¬ loose f := fun lf => by
        have up := arr f (par f) of.1 (.inr (.inl ⟨of.1.1, lf, rfl⟩)) (R.pin f of.1.1)
        have e := of.2 (par f) (by
          rw [R.Wc f of.1.1]
          exact List.mem_cons_of_mem _ (hF.self _ up.1)) up
        have := hF.self _ up.1
        have c := congrArg List.length (R.Wc f of.1.1)
        rw [e, List.length_cons] at c
        omega
      rw [hl f of.1.1] at nl
    · exact Int.not_lt.mp fun h => nl (.inl h)
    · exact Classical.byContradiction fun h => nl (.inr h)
  · intro h
    have ⟨U, B⟩ : ∃ U, Blk F W r u L U := Classical.byContradiction fun z => h fun U B => z ⟨U, B⟩
    obtain ⟨x, hx⟩ := B.some_
    refine ⟨x, B.inF x hx, fun re => ?_⟩
    -- no spot of U comes to o
    have key : ∀ y, Reach (fun x y => Arr F o par loose L y x) o y → ¬ U y := by
      intro y hy
      induction hy with
      | refl => exact fun h => R.no (B.inF _ h)
      | step _ a ih =>
        rename_i y z _
        intro uz
        -- an arrow from z to y
        refine ih ?_
        rcases a with ⟨hyF, e, _⟩ | ⟨hz, lz, e⟩ | ⟨m, hm, c⟩
        · refine B.down y z ?_ uz
          rw [R.Wc y hyF, e]
          exact List.mem_cons_of_mem _ (hF.self _ (B.inF _ uz))
        · -- z is loose, so not outermost
          have nout : ¬ out W U z := fun oz => by
            rcases (hl z hz).mp lz with h | h
            · have := B.full z oz
              omega
            · exact h (B.crossed z oz)
          have ⟨g, hg, ug, ne⟩ : ∃ g, g ∈ W z ∧ U g ∧ g ≠ z := Classical.byContradiction fun q => nout ⟨uz, fun g hg ug => Classical.byContradiction fun ne => q ⟨g, hg, ug, ne⟩⟩
          rw [R.Wc z hz, e] at hg
          rcases List.mem_cons.mp hg with q | hg
          · exact absurd q ne
          · exact B.down _ _ hg ug
        · rcases c with ⟨rfl, rfl⟩ | ⟨rfl, rfl⟩
          · exact (B.shut m hm).mp uz
          · exact (B.shut m hm).mpr uz
    exact key x re hx
end
end RR
end
section
set_option linter.all false
set_option maxRecDepth 100000
set_option autoImplicit false
set_option maxHeartbeats 1000000
/-! More rules: tuples whose object is known (their methods), lists of moves, order of moves. -/
namespace RW
open PySem PySem.Spec PyProof.Rows L2
section
variable {X : Cx}
def rSlF (K : PySem.W.Frag) : V → Option Int → Option Int → Hp → VK → Prop := fun x lo hi H Q => ∃ a xs, x = .ref a ∧ SqT K H a xs ∧
  ¬ (HT.sIx xs.length 0 lo = 0 ∧ HT.sIx xs.length xs.length hi = xs.length) ∧ ∀ p o, H p = none → o.dict = none → Q (.ref p) (upd H p (.frz o (.tup (cutV xs lo hi))))
theorem sl_tupF : SlR X (rSlF X.K) := by
  intro pins s σ H x v vl vu lo hi sl Q I rx hs pl pu h
  obtain ⟨a, xs, rfl, hx, hw, q⟩ := h
  cases rx
  obtain ⟨its, r, ht, hz⟩ := I.tuple hx
  have hlen : its.toArray.size = xs.length := by rw [List.size_toArray]; exact r.length.symm
  refine ⟨"tuple", _, PyProof.Rows.slot_tuple_getitem.lookup, ht.typeIs, ?_⟩
  refine HT.getItem_tuple_cut ht hs pl pu (by rw [hlen]; exact hw) ?_ (by rw [hlen]; exact hz)
  rw [hlen]
  have r2 := (r.drop (HT.sIx xs.length 0 lo)).take (HT.sIx xs.length xs.length hi - HT.sIx xs.length 0 lo)
  have I2 : Inv X pins σ (upd H s.heap.objs.size (.frz { cls := .type "tuple", data := .seq (List.take (HT.sIx xs.length xs.length hi - HT.sIx xs.length 0 lo) (List.drop (HT.sIx xs.length 0 lo) its.toArray.toList)).toArray } (.tup (cutV xs lo hi))))
      { s with heap := s.heap.push { cls := .type "tuple", data := .seq (List.take (HT.sIx xs.length xs.length hi - HT.sIx xs.length 0 lo) (List.drop (HT.sIx xs.length 0 lo) its.toArray.toList)).toArray } } :=
    I.laid (t' := s.toks) (fun b ob q => Heap.get?_push_of_some _ q) (Nat.le_refl _) (show ObjOk X.prog X.w _ _ _ (.frz _ (.tup _)) from ⟨Heap.get?_push_size _ rfl, Nat.le_trans (cutV_length xs lo hi) hz, _, r2, IsTup.new _ _⟩)
  exact ⟨.ref s.heap.objs.size, _, I2, rfl, q _ _ (I.hok.fresh (Nat.le_refl _)) rfl⟩
def tBMT (r : V → List V → Hp → VK → Prop) (to : TE) (t : TA) : TE := fun σ H Q => to σ H fun x H1 => Fz H1 x ∧ t σ H1 fun xs H2 => r x xs H2 Q
variable {o e : Expr} {es : List Expr} {to : TE} {t : TA} {name : Str} {apos cpos : Pos} {id : String} {r : V → List V → Hp → VK → Prop}
theorem pe_bmT (pa : PlainAttrs "tuple") (slot : Slot "tuple" name id) (hty : typeOf (.builtin id) = pure (.type "method_descriptor")) (hm : MtR X id r) (ho : PE X o to) (ha : PA X (e :: es) t)
    (hbase : attributeBase o name X.env (eval o X.env) = eval o X.env := by rfl)
    (hfew : ((backTo cpos (starEach (e :: es) X.env)).all (fun x => !x.1) && (backToKw cpos (keywordEach [] X.env)).all (fun x => x.1.isSome)
      && decide ((e :: es).length + ([] : List Keyword).length + (if ([] : List Keyword).isEmpty then 0 else 1) < 30)) = true := by rfl)
    (hline : (apos.endLine == cpos.line) = true := by rfl) (hs : starEach (e :: es) X.env = (false, eval e X.env) :: starEach es X.env := by rfl) (hplain : (backTo cpos (starEach es X.env)).any (·.1) = false := by rfl) :
    PE X (.Call (.Attribute o name apos) (e :: es) [] cpos) (tBMT r to t) := by
  refine ⟨fun pins s σ H Q I h => ?_⟩
  refine wpAny_Call_method_late hbase hfew hline rfl (thn (ho.run pins s σ H _ I h) fun v s1 ⟨x, H1, I1, r1, fz, q1⟩ => ?_)
  obtain ⟨a, ob, xs, rfl, hf, hd⟩ := fz
  cases r1
  obtain ⟨its, _, ht, _⟩ := I1.tuple (.inl (.inr ⟨ob, hf⟩))
  refine ⟨"tuple", id, pa, slot, hty, ht.typeIs, fun b eb => ?_, ?_⟩
  · cases eb
    exact ⟨ob, (I1.hok _ _ hf).1, hd⟩
  have hA := ha.run cpos pins s1 σ H1 _ I1 q1
  rw [hs] at hA ⊢
  refine Calls.callWith_builtin (by show (false || (backTo cpos (starEach es X.env)).any (·.1)) = false; rw [hplain] <;> rfl) (Calls.evalArgs_plain ?_)
  exact thn hA fun us s2 ⟨vs, H2, I2, r2, q2⟩ => hm pins s2 σ H2 (.ref a) vs _ us Q I2 rfl r2 q2
end
/-! ### lists and tuples of moves -/
theorem eqv_mv (m n : Str × Str) : PyData.eqv (dMv m) (dMv n) = decide (m = n) := by
  obtain ⟨a, b⟩ := m
  obtain ⟨c, d⟩ := n
  simp only [dMv, PyData.eqv, PyData.eqvAll, Bool.and_true]
  rw [Bool.eq_iff_iff]
  simp
theorem plain_mvs (ms : List (Str × Str)) : PyData.plainAll (ms.map dMv) = true := by
  induction ms with
  | nil => rfl
  | cons m ms ih =>
    rw [List.map_cons]
    unfold PyData.plainAll
    rw [ih]
    rfl
theorem depth_mvs (ms : List (Str × Str)) : PyData.depthAll (ms.map dMv) ≤ 3 := by
  induction ms with
  | nil => decide
  | cons m ms ih =>
    rw [List.map_cons]
    have : (dMv m).depth ≤ 2 := by simp [dMv, PyData.depth, PyData.depthAll]
    unfold PyData.depthAll
    omega
theorem place_mv {ms : List (Str × Str)} {m : Str × Str} (h : m ∈ ms) : ∃ j, PySem.SeqAt.dataPlace (ms.map dMv) (dMv m) = some j ∧ ms.eraseIdx j = ms.erase m := by
  induction ms with
  | nil => cases h
  | cons a ms ih =>
    unfold PySem.SeqAt.dataPlace
    rw [List.map_cons, List.findIdx?_cons, eqv_mv]
    by_cases e : a = m
    · refine ⟨0, by rw [decide_eq_true e]; rfl, ?_⟩
      rw [e, List.erase_cons_head]
      rfl
    · obtain ⟨j, h1, h2⟩ := ih ((List.mem_cons.mp h).resolve_left fun z => e z.symm)
      refine ⟨j + 1, ?_, ?_⟩
      · rw [decide_eq_false e]
        unfold PySem.SeqAt.dataPlace at h1
        rw [h1]
        rfl
      · rw [List.erase_cons_tail (by simpa using e), ← h2]
        rfl
theorem countP_mv (ms : List (Str × Str)) (m : Str × Str) : (ms.map dMv).countP (fun y => PyData.eqv y (dMv m)) = ms.count m := by
  rw [List.countP_map, List.count]
  congr 1
  funext n
  show PyData.eqv (dMv n) (dMv m) = _
  rw [eqv_mv]
  rw [Bool.eq_iff_iff]
  simp
section
variable {X : Cx}
/-- xs.remove(m) -/
def rRemD : V → List V → Hp → VK → Prop := fun x xs H Q => ∃ (a : Addr) (vs : List V) (ms : List (Str × Str)) (m : Str × Str) (v : V), x = V.ref a ∧ xs = [v] ∧ H a = some (.lst vs) ∧ ImA H vs (ms.map dMv) ∧ Im H v (dMv m) ∧ m ∈ ms ∧
  ∀ vs', ImA (upd H a (.lst vs')) vs' ((ms.erase m).map dMv) → Q .non (upd H a (.lst vs'))
theorem mt_removeD (hu : X.A.units + 65 < cLine) : MtM X "list.remove" rRemD := by
  intro pins s σ H x xs v us Q I rx rv h
  obtain ⟨a, vs, ms, m, u, rfl, rfl, hH, iv, iu, hm, q⟩ := h
  cases rx
  obtain ⟨uv, rfl, ru⟩ := rv.one
  obtain ⟨z, its, n, r, hl, e⟩ := I.lstM hH
  obtain ⟨j, h1, h2⟩ := place_mv hm
  have := depth_mvs ms
  refine PySem.SeqAt.remove_list_data (vs := its.toArray) ⟨_, e, rfl, n, rfl⟩ (show ReadsAll s.heap its.toArray.toList _ [] from by simpa using ImA.reads I iv r) (Im.reads I iu ru) (plain_mvs ms) rfl (by omega) h1 (by rw [List.size_toArray]; omega) ?_
  refine ⟨.non, _, I.lset (its' := its.eraseIdx j) (ys := vs.eraseIdx j) hH e ?_ (r.eraseIdx j) ?_, rfl, q _ ?_⟩
  · show its.toArray.eraseIdxIfInBounds j = (its.eraseIdx j).toArray
    rw [List.eraseIdxIfInBounds_toArray]
  · have := len_erase vs j
    omega
  · have em : ∀ (l : List (Str × Str)) (j : Nat), (l.map dMv).eraseIdx j = (l.eraseIdx j).map dMv := by
      intro l
      induction l with
      | nil => exact fun _ => rfl
      | cons a l ih =>
        intro j
        cases j with
        | zero => rfl
        | succ j =>
          show dMv a :: (l.map dMv).eraseIdx j = _
          rw [ih]
          rfl
    rw [← h2, ← em]
    exact (iv.mono (.lst hH)).eraseIdx j
/-- t.count(m) -/
def rCountT (K : PySem.W.Frag) : V → List V → Hp → VK → Prop := fun x xs H Q => ∃ (ms : List (Str × Str)) (m : Str × Str) (v : V), xs = [v] ∧ Im H x (dMvs ms) ∧ Im H v (dMv m) ∧ Q (.int ((ms.count m : Nat) : Int)) H
theorem mt_countD (hu : X.A.units + 65 < cLine) : MtR X "tuple.count" (rCountT X.K) := by
  intro pins s σ H x xs v us Q I rx rv h
  obtain ⟨ms, m, u, rfl, iv, iu, q⟩ := h
  obtain ⟨a, xs, rfl, hT, hA⟩ := iv.tinv
  cases rx
  obtain ⟨uv, rfl, ru⟩ := rv.one
  obtain ⟨its, r, ht, hz⟩ := I.tuple (.inl hT)
  have := depth_mvs ms
  refine PySem.SeqAt.count_tuple_data (vs := its.toArray) ht (show ReadsAll s.heap its.toArray.toList _ [] from by simpa using ImA.reads I hA r) (Im.reads I iu ru) (plain_mvs ms) rfl (by omega) ?_
  rw [countP_mv]
  exact ⟨.int _, H, I.tok _, ⟨_, rfl⟩, q⟩
/-- m < n -/
def mvLt (m n : Str × Str) : Bool := PySem.W.dataLt (dMv m) (dMv n)
def rLtM : R2 := fun x y H Q => ∃ m n, Im H x (dMv m) ∧ Im H y (dMv n) ∧ Q (.bl (mvLt m n)) H
theorem op_ltM (hu : X.A.units + 65 < cLine) : OpR X (compareOp .Lt) rLtM := by
  intro pins s σ H x y v u Q I rx ry h
  obtain ⟨m, n, im, in_, q⟩ := h
  refine PySem.W.lt_data (Im.reads I im rx) (Im.reads I in_ ry) rfl (fun z => nomatch z) ?_ ⟨.bl _, H, I, rfl, q⟩
  have : (dMv m).depth ≤ 2 := by simp [dMv, PyData.depth, PyData.depthAll]
  omega
end
/-! ### readings over data -/
section
variable {K : PySem.W.Frag} {H : Hp} {v u : V} {Q : VK}
theorem eqv_strs (x : Str) (l : List Str) : inV (.str x) (l.map .str) = decide (x ∈ l) := by
  unfold inV
  rw [List.any_map, Bool.eq_iff_iff, List.any_eq_true, decide_eq_true_eq]
  constructor
  · rintro ⟨y, hy, e⟩
    have : y = x := by simpa [eqV] using e
    rw [← this]
    exact hy
  · intro h
    exact ⟨x, h, by simp [eqV]⟩
theorem r_inT {x : Str} {l : List Str} {neg : Bool} (i : Im H v (dStrs l)) (q : Q (.bl (if neg then !decide (x ∈ l) else decide (x ∈ l))) H) : rIn K neg (.str x) v H Q := by
  obtain ⟨a, xs, rfl, hT, hA⟩ := i.tinv
  have e := hA.strs
  subst e
  refine ⟨a, _, rfl, .inr (.inl hT), rfl, flat_strs l, ?_⟩
  rw [eqv_strs]
  exact q
theorem r_inL {x : Str} {l : List Str} {neg : Bool} {a : Addr} (i : H a = some (.lst (l.map .str))) (q : Q (.bl (if neg then !decide (x ∈ l) else decide (x ∈ l))) H) : rIn K neg (.str x) (.ref a) H Q := by
  refine ⟨a, _, rfl, .inl (.inl (.inl i)), rfl, flat_strs l, ?_⟩
  rw [eqv_strs]
  exact q
theorem atI_nat {α : Type} (xs : List α) (i : Nat) (h : i < xs.length) : atI xs (i : Int) = xs[i]? := by
  unfold atI ixN
  rw [if_pos (Int.natCast_nonneg i), if_pos (by omega)]
  rfl
theorem r_ixT {ds : List PyData} {i : Nat} {k : Int} {d : PyData} (iv : Im H v (.tuple ds)) (ek : k = (i : Int)) (e : ds[i]? = some d) (q : ∀ y, Im H y d → Q y H) : rIxT K v (.int k) H Q := by
  subst ek
  obtain ⟨a, xs, rfl, hT, hA⟩ := iv.tinv
  obtain ⟨y, ey, iy⟩ := hA.get e
  refine ⟨a, xs, i, y, rfl, rfl, .inl hT, ?_, q y iy⟩
  rw [atI_nat _ _ (List.getElem?_eq_some_iff.mp ey).1]
  exact ey
theorem r_catA {ds es : List PyData} (iv : Im H v (.tuple ds)) (iu : Im H u (.tuple es)) (hl : ds.length + es.length ≤ 1000) (q : ∀ y H', Same H H' → Im H' y (.tuple (ds ++ es)) → Q y H') : rCatA K v u H Q := by
  obtain ⟨a, xs, rfl, hT, hA⟩ := iv.tinv
  obtain ⟨b, ys, rfl, hT2, hB⟩ := iu.tinv
  have l1 := hA.len
  have l2 := hB.len
  refine ⟨a, b, xs, ys, rfl, rfl, .inl hT, .inl hT2, by rw [l1, l2]; exact Nat.le_of_lt (small1000 hl), fun e => ?_, fun _ e => ?_, fun _ _ p np => ?_⟩
  · refine q _ _ (Same.refl _) ?_
    have : ds = [] := List.length_eq_zero_iff.mp (by rw [← l1, e]; rfl)
    rw [this]
    exact iu
  · refine q _ _ (Same.refl _) ?_
    have : es = [] := List.length_eq_zero_iff.mp (by rw [← l2, e]; rfl)
    rw [this, List.append_nil]
    exact iv
  · exact q _ _ (Same.new np) (.tup (.inl upd_same) ((hA.app hB).mono (.new np)))
end
end RW
end
section
set_option linter.all false
set_option autoImplicit false
/-! Moves in a tree: counts, uses after a move. -/
namespace RW
open PySem
def Spot (T : List Row) (x : Str) : Prop := x = E' ∨ x ∈ names T
def MvOk (T : List Row) (m : Str × Str) : Prop := Spot T m.1 ∧ Spot T m.2
def cnt (T : List Row) (s : List Int) (x : Str) : Int := (((names T).zip s).lookup x).getD 0
def stbyL (l : List (Str × Int)) (m : Str × Str) : List Int := l.map fun d => d.2 + (if d.1 = m.2 then 1 else 0) - (if d.1 = m.1 then 1 else 0)
/-- the stand after a move -/
def stby (T : List Row) (s : List Int) (m : Str × Str) : List Int := stbyL ((names T).zip s) m
theorem names_len (T : List Row) : (names T).length = T.length := List.length_map _
theorem stby_len {T : List Row} {s : List Int} (h : T.length = s.length) (m : Str × Str) : T.length = (stby T s m).length := by
  unfold stby stbyL
  rw [List.length_map, List.length_zip, names_len]
  omega
theorem zip_stby : ∀ (l : List Str) (s : List Int) (m : Str × Str), l.length = s.length → l.zip (stbyL (l.zip s) m) = (l.zip s).map fun d => (d.1, d.2 + (if d.1 = m.2 then 1 else 0) - (if d.1 = m.1 then 1 else 0))
  | [], _, _, _ => rfl
  | a :: l, b :: s, m, h => by
    unfold stbyL
    rw [List.zip_cons_cons, List.map_cons, List.zip_cons_cons, List.map_cons]
    congr 1
    exact zip_stby l s m (by simpa using h)
theorem lookup_mapV {l : List (Str × Int)} {g : Str → Int → Int} (x : Str) : (l.map fun d => (d.1, g d.1 d.2)).lookup x = (l.lookup x).map (g x) := by
  induction l with
  | nil => rfl
  | cons a l ih =>
    rw [List.map_cons, List.lookup_cons, List.lookup_cons]
    by_cases e : x = a.1
    · have z : (x == a.1) = true := by simpa using e
      rw [z, e]
      rfl
    · have z : (x == a.1) = false := by simpa using e
      rw [z]
      exact ih
theorem zip_look {l : List Str} {s : List Int} (h : l.length = s.length) {x : Str} (hx : x ∈ l) : ∃ i, (l.zip s).lookup x = some i := by
  induction l generalizing s with
  | nil => cases hx
  | cons a l ih =>
    cases s with
    | nil => cases h
    | cons b s =>
      rw [List.zip_cons_cons, List.lookup_cons]
      by_cases e : x = a
      · have z : (x == a) = true := by simpa using e
        rw [z]
        exact ⟨b, rfl⟩
      · have z : (x == a) = false := by simpa using e
        rw [z]
        exact ih (by simpa using h) ((List.mem_cons.mp hx).resolve_left e)
theorem cnt_stby {T : List Row} {s : List Int} (h : T.length = s.length) (m : Str × Str) {x : Str} (hx : x ∈ names T) : cnt T (stby T s m) x = cnt T s x + (if x = m.2 then 1 else 0) - (if x = m.1 then 1 else 0) := by
  have hl : (names T).length = s.length := by rw [names_len]; exact h
  unfold cnt stby
  rw [zip_stby _ _ _ hl]
  obtain ⟨i, e⟩ := zip_look hl hx
  have := lookup_mapV (l := (names T).zip s) (g := fun x i => i + (if x = m.2 then 1 else 0) - (if x = m.1 then 1 else 0)) x
  rw [this, e]
  rfl
theorem cnt_at {T : List Row} {s : List Int} (nd : (names T).Nodup) {j : Nat} {x : Str} {i : Int} (hj : (names T)[j]? = some x) (hi : s[j]? = some i) : cnt T s x = i := by
  unfold cnt
  have gen : ∀ (l : List Str) (s : List Int) (j : Nat), l.Nodup → l[j]? = some x → s[j]? = some i → (l.zip s).lookup x = some i := by
    intro l
    induction l with
    | nil => intro s j _ h
             cases h
    | cons a l ih =>
      intro s j nd h1 h2
      cases s with
      | nil => cases h2
      | cons b s =>
        rw [List.zip_cons_cons, List.lookup_cons]
        cases j with
        | zero =>
          cases h1
          cases h2
          simp
        | succ j =>
          have hm : x ∈ l := List.mem_of_getElem? h1
          have e : x ≠ a := fun e => (List.nodup_cons.mp nd).1 (by rw [← e]; exact hm)
          have z : (x == a) = false := by simpa using e
          rw [z]
          exact ih s j (List.nodup_cons.mp nd).2 h1 h2
  rw [gen _ s j nd hj hi]
  rfl
theorem one_sum {l : List Str} (nd : l.Nodup) (y : Str) (c : Prop) [Decidable c] : (l.map fun x => if x = y ∧ c then (1 : Int) else 0).sum = if y ∈ l ∧ c then 1 else 0 := by
  induction l with
  | nil => simp
  | cons a l ih =>
    rw [List.map_cons, List.sum_cons, ih (List.nodup_cons.mp nd).2]
    have hn := (List.nodup_cons.mp nd).1
    by_cases e : a = y
    · subst e
      by_cases hc : c
      · simp [hc, hn]
      · simp [hc]
    · by_cases hc : c
      · have e' : ¬ y = a := fun z => e z.symm
        simp [e, e', hc]
      · simp [hc]
/-- the uses after a move -/
theorem use_stby {T : List Row} (ok : TreeOk T) {s : List Int} (h : T.length = s.length) (m : Str × Str) (f : Str) : use T (stby T s m) f = RR.after (ways T) (use T s) m f := by
  have hl : (names T).length = s.length := by rw [names_len]; exact h
  unfold use stby RR.after RR.d useN
  rw [zip_stby _ _ _ hl, List.map_map]
  have gen : ∀ (l : List (Str × Int)), (l.map (((fun d : Str × Int => if f ∈ ways T d.1 then d.2 else 0)) ∘ fun d => (d.1, d.2 + (if d.1 = m.2 then 1 else 0) - (if d.1 = m.1 then 1 else 0)))).sum =
      (l.map fun d => if f ∈ ways T d.1 then d.2 else 0).sum + (((l.map (·.1)).map fun x => if x = m.2 ∧ f ∈ ways T m.2 then (1 : Int) else 0).sum - ((l.map (·.1)).map fun x => if x = m.1 ∧ f ∈ ways T m.1 then (1 : Int) else 0).sum) := by
    intro l
    induction l with
    | nil => rfl
    | cons a l ih =>
      simp only [List.map_cons, List.sum_cons, Function.comp] at ih ⊢
      rw [ih]
      have e1 : (if f ∈ ways T a.1 then a.2 + (if a.1 = m.2 then 1 else 0) - (if a.1 = m.1 then 1 else 0) else 0) = (if f ∈ ways T a.1 then a.2 else 0) + (if a.1 = m.2 ∧ f ∈ ways T m.2 then (1 : Int) else 0) - (if a.1 = m.1 ∧ f ∈ ways T m.1 then (1 : Int) else 0) := by
        by_cases hf : f ∈ ways T a.1
        · rw [if_pos hf, if_pos hf]
          congr 1
          · congr 1
            by_cases e : a.1 = m.2
            · rw [if_pos e, if_pos ⟨e, by rw [← e]; exact hf⟩]
            · rw [if_neg e, if_neg fun z => e z.1]
          · by_cases e : a.1 = m.1
            · rw [if_pos e, if_pos ⟨e, by rw [← e]; exact hf⟩]
            · rw [if_neg e, if_neg fun z => e z.1]
        · rw [if_neg hf, if_neg hf, if_neg fun z => hf (by rw [z.1]; exact z.2), if_neg fun z => hf (by rw [z.1]; exact z.2)]
          rfl
      rw [e1]
      omega
  rw [gen, zip_fst hl, one_sum ok.nd, one_sum ok.nd]
  have e : ∀ y : Str, (if y ∈ names T ∧ f ∈ ways T y then (1 : Int) else 0) = if f ∈ ways T y then 1 else 0 := fun y => by
    by_cases hf : f ∈ ways T y
    · rw [if_pos hf, if_pos ⟨TreeOk.ways_dom hf, hf⟩]
    · rw [if_neg hf, if_neg fun z => hf z.2]
  rw [e, e]
theorem TreeOk.forest {T : List Row} (ok : TreeOk T) : RR.Forest (names T) (ways T) where
  nd := ok.nd
  self := fun x hx => ok.ways_self hx
  inF := fun x f hf => ok.ways_in hf
  dom := fun x f hf => TreeOk.ways_dom hf
  tr := fun x f g hf hg => ok.ways_tr hf hg
  ch := fun x f g hf hg => ok.ways_ch hf hg
  lt := fun f g hg ne => ok.ways_lt hg ne
theorem TreeOk.rows {T : List Row} (ok : TreeOk T) : RR.Rows (names T) (ways T) E' (RW.par T) where
  no := ok.noE
  Wo := ok.ways_E
  Wc := fun n hn => ok.ways_cons hn
  pin := fun n hn => ok.pin hn
end RW
end
section
set_option linter.all false
set_option maxRecDepth 100000
set_option autoImplicit false
set_option maxHeartbeats 1000000
/-! entered_in, left_in, crossed_in, can_go, stand_by. -/
namespace RW
open PySem PySem.Spec PyProof.Rows L2
abbrev s_entered_in : Stmt := topS 9
abbrev N_entered_in : List Str := ["tree", "move", "ways", "source", "target", "folder"]
theorem sc_entered_in : FnScope N_entered_in ["tree", "move"] (defScope s_entered_in) := ⟨rfl, rfl, rfl, by decide +kernel, rfl, by decide +kernel, by decide +kernel⟩
abbrev s_left_in : Stmt := topS 10
abbrev N_left_in : List Str := ["tree", "move", "source", "target"]
theorem sc_left_in : FnScope N_left_in ["tree", "move"] (defScope s_left_in) := ⟨rfl, rfl, rfl, by decide +kernel, rfl, by decide +kernel, by decide +kernel⟩
abbrev s_crossed_in : Stmt := topS 11
abbrev N_crossed_in : List Str := ["tree", "move"]
theorem sc_crossed_in : FnScope N_crossed_in ["tree", "move"] (defScope s_crossed_in) := ⟨rfl, rfl, rfl, by decide +kernel, rfl, by decide +kernel, by decide +kernel⟩
abbrev s_can_go : Stmt := topS 12
abbrev N_can_go : List Str := ["tree", "stand", "move", "source", "frees", "folder"]
theorem sc_can_go : FnScope N_can_go ["tree", "stand", "move"] (defScope s_can_go) := ⟨rfl, rfl, rfl, by decide +kernel, rfl, by decide +kernel, by decide +kernel⟩
abbrev s_stand_by : Stmt := topS 13
abbrev N_stand_by : List Str := ["tree", "stand", "move", "source", "target", "late", "name", "many"]
theorem sc_stand_by : FnScope N_stand_by ["tree", "stand", "move"] (defScope s_stand_by) := ⟨rfl, rfl, rfl, by decide +kernel, rfl, by decide +kernel, by decide +kernel⟩

section
variable {P : Program} {w : World} {K : PySem.W.Frag} {mg : Str → Option Value} {base : Heap}
def sp_entered_in : Sp := fun vs H Q _ => ∃ (T : List Row) (m : Str × Str) (v u : V), vs = [v, u] ∧ Im H v (dTree T) ∧ Im H u (dMv m) ∧ TreeOk T ∧ MvOk T m ∧
  ∀ v' H' ys, Same H H' → Im H' v' (dStrs ys) → ys.Nodup → (∀ y, y ∈ ys ↔ RR.ent (ways T) m y) → Q v' H'
theorem WaysD.spot {T : List Row} {gd : Gd} (h : WaysD T gd) {x : Str} (hx : Spot T x) : gd.lookup x = some (dStrs (ways T x)) := h x hx
theorem ok_entered_in (Tx : Txt mg) (F_ways_by : OkF P w K mg base "ways_by" ["tree"] 2 sp_ways_by) (hf : Has K mg "entered_in" s_entered_in) : OkF P w K mg base "entered_in" ["tree", "move"] 3 sp_entered_in := by
  refine Has.ok hf sc_entered_in (fun _ _ _ _ _ _ us hl => match us, hl with | [_, _], _ => rfl) (fun vs H Q E h => ?_) (fun f cdv A outer s H vs Q E hr h => ?_)
  · obtain ⟨T, m, v, u, rfl, _⟩ := h
    rfl
  · obtain ⟨T, m, v, u, rfl, iv, iu, ok, hm, q⟩ := h
    have hu := hu_of hr
    refine ⟨_, (pss_cons (ps_set (i := 2) sc_entered_in.nd rfl (.inr rfl) (pe_c F_ways_by (hr.mono (by decide)) (pa_cons (pv 0) pa_nil)))
  (pss_cons (ps_asg (pv 1) (pg_tup rfl (pgs_cons (pg_name (i := 3) sc_entered_in.nd rfl (.inr rfl)) (pgs_cons (pg_name (i := 4) sc_entered_in.nd rfl (.inl rfl)) pgs_nil))))
  (pss_one (ps_ret (pe_callTy cr_tupF (by rfl) Tx.b_tuple bb_tuple (pa_cons (pe_ssetS Tx hr (pe_lc (own := [("folder", 5)]) (g := (gName 5)) rfl sc_entered_in.nd (pi_tup (pe_dget hu (pv 2) (pv 4) (fun _ _ => rfl))) (blkOk_by (own := [("folder", 5)]) (N := N_entered_in) (sc := defScope s_entered_in) (by decide +kernel)) (fun _ _ _ _ _ => (pg_name (i := 5) sc_entered_in.nd rfl (.inl rfl))) (fun _ _ _ _ _ => pts_one (pt_cmpR (show OpR _ _ (rIn K true) from op_notIn_seq) (pv 5) (pe_dget hu (pv 2) (pv 3) (fun _ _ => rfl)) (by with_unfolding_all rfl))) (fun _ _ _ _ _ => (pv 5)))) pa_nil)))))), ?_⟩
    refine ⟨v, rfl, T, v, rfl, iv, ok, fun pw H1 gw s1 nw dw wd => ?_⟩
    refine ⟨u, rfl, g_tup2 (iu.mono (.same s1)) fun a b ia ib => ?_⟩
    rw [ia.sinv, ib.sinv]
    refine ⟨_, rfl, _, rfl, r_get dw (wd.spot hm.2) fun v3 i3 => ?_⟩
    refine lcT (ds := ways T m.2) (enc := PyData.str) i3 (Nat.le_trans (ok.ways_len _) (Nat.le_trans ok.len (by decide))) (fun f => !decide (f ∈ ways T m.1)) PyData.str ?_ ?_
    · intro f x H3 Qt Qf _ s3 ix ht hf
      rw [ix.sinv]
      refine ⟨rfl, _, rfl, _, rfl, _, rfl, r_get (dw.same s3) (wd.spot hm.1) fun v4 i4 => r_inT i4 ?_⟩
      by_cases hd : f ∈ ways T m.1
      · refine ⟨_, rfl, ?_⟩
        rw [decide_eq_true hd]
        exact hf (by rw [decide_eq_true hd]; rfl) _ (Same.refl _)
      · refine ⟨_, rfl, ?_⟩
        rw [decide_eq_false hd]
        exact ⟨_, rfl, ht (by rw [decide_eq_false hd]; rfl) _ _ (Same.refl _) (.str f)⟩
    · intro D H3 acc nD s3 e i3
      have e2 := i3.strs
      subst e2
      refine ⟨D, _, rfl, .inl (.inl (.inl e)), ?_, fun p ys H4 s4 np nd mem e4 => ?_⟩
      · refine Nat.lt_of_le_of_lt (List.length_filter_le _ _) ?_
        exact Nat.lt_of_le_of_lt (Nat.le_trans (ok.ways_len _) ok.len) (by decide)
      · refine r_tupF e4 (ImA.ofStrs ys) fun l H5 s5 nl fz i5 => q _ _ ys (((s1.trans s3).trans s4).trans s5) i5 nd fun y => ?_
        rw [mem y, List.mem_filter]
        simp [RR.ent]
def sp_left_in : Sp := fun vs H Q _ => ∃ (T : List Row) (m : Str × Str) (v u : V), vs = [v, u] ∧ Im H v (dTree T) ∧ Im H u (dMv m) ∧ TreeOk T ∧ MvOk T m ∧
  ∀ v' H' ys, Same H H' → Im H' v' (dStrs ys) → ys.Nodup → (∀ y, y ∈ ys ↔ RR.ent (ways T) (m.2, m.1) y) → Q v' H'
theorem ok_left_in (F_entered_in : OkF P w K mg base "entered_in" ["tree", "move"] 3 sp_entered_in) (hf : Has K mg "left_in" s_left_in) : OkF P w K mg base "left_in" ["tree", "move"] 4 sp_left_in := by
  refine Has.ok hf sc_left_in (fun _ _ _ _ _ _ us hl => match us, hl with | [_, _], _ => rfl) (fun vs H Q E h => ?_) (fun f cdv A outer s H vs Q E hr h => ?_)
  · obtain ⟨T, m, v, u, rfl, _⟩ := h
    rfl
  · obtain ⟨T, m, v, u, rfl, iv, iu, ok, hm, q⟩ := h
    refine ⟨_, (pss_cons (ps_asg (pv 1) (pg_tup rfl (pgs_cons (pg_name (i := 2) sc_left_in.nd rfl (.inl rfl)) (pgs_cons (pg_name (i := 3) sc_left_in.nd rfl (.inl rfl)) pgs_nil))))
  (pss_one (ps_ret (pe_c F_entered_in (hr.mono (by decide)) (pa_cons (pv 0) (pa_cons (pe_tup (pa_cons (pv 3) (pa_cons (pv 2) pa_nil))) pa_nil)))))), ?_⟩
    refine ⟨u, rfl, g_tup2 iu fun a b ia ib => ?_⟩
    rw [ia.sinv, ib.sinv]
    refine ⟨v, rfl, _, rfl, _, rfl, r_tup (.cons (.str m.2) (.cons (.str m.1) .nil)) (by show 2 ≤ 1000; decide) fun t nt it => ?_⟩
    have s1 : Same H (upd H t (.tup [.str m.2, .str m.1])) := Same.new nt
    exact ⟨T, (m.2, m.1), v, _, rfl, iv.mono (.same s1), it, ok, ⟨hm.2, hm.1⟩, fun v' H' ys s2 i2 nd mem => q v' H' ys (s1.trans s2) i2 nd mem⟩
def sp_crossed_in : Sp := fun vs H Q _ => ∃ (T : List Row) (m : Str × Str) (v u : V), vs = [v, u] ∧ Im H v (dTree T) ∧ Im H u (dMv m) ∧ TreeOk T ∧ MvOk T m ∧
  ∀ v' H' ys, Same H H' → Im H' v' (dStrs ys) → ys.Nodup → (∀ y, y ∈ ys ↔ RR.crosses (ways T) m y) → Q v' H'
theorem ent_len {T : List Row} (ok : TreeOk T) {m : Str × Str} {ys : List Str} (nd : ys.Nodup) (mem : ∀ y, y ∈ ys ↔ RR.ent (ways T) m y) : ys.length ≤ 20 :=
  Nat.le_trans (nodup_len nd fun y hy => ((mem y).mp hy).1) (Nat.le_trans (ok.ways_len _) ok.len)
theorem ok_crossed_in (Tx : Txt mg) (F_entered_in : OkF P w K mg base "entered_in" ["tree", "move"] 3 sp_entered_in) (F_left_in : OkF P w K mg base "left_in" ["tree", "move"] 4 sp_left_in) (hf : Has K mg "crossed_in" s_crossed_in) :
    OkF P w K mg base "crossed_in" ["tree", "move"] 5 sp_crossed_in := by
  refine Has.ok hf sc_crossed_in (fun _ _ _ _ _ _ us hl => match us, hl with | [_, _], _ => rfl) (fun vs H Q E h => ?_) (fun f cdv A outer s H vs Q E hr h => ?_)
  · obtain ⟨T, m, v, u, rfl, _⟩ := h
    rfl
  · obtain ⟨T, m, v, u, rfl, iv, iu, ok, hm, q⟩ := h
    refine ⟨_, (pss_one (ps_ret (pe_callTy cr_tupF (by rfl) Tx.b_tuple bb_tuple (pa_cons (pe_ssetS Tx hr (pe_op op_catA (pe_c F_entered_in (hr.mono (by decide)) (pa_cons (pv 0) (pa_cons (pv 1) pa_nil))) (pe_c F_left_in (hr.mono (by decide)) (pa_cons (pv 0) (pa_cons (pv 1) pa_nil))))) pa_nil)))), ?_⟩
    refine ⟨v, rfl, u, rfl, T, m, v, u, rfl, iv, iu, ok, hm, fun v1 H1 y1 s1 i1 n1 m1 => ?_⟩
    refine ⟨v, rfl, u, rfl, T, m, v, u, rfl, iv.mono (.same s1), iu.mono (.same s1), ok, hm, fun v2 H2 y2 s2 i2 n2 m2 => ?_⟩
    have l1 := ent_len ok n1 m1
    have l2 := ent_len ok n2 m2
    refine r_catA (i1.mono (.same s2)) i2 (by rw [List.length_map, List.length_map]; omega) fun v3 H3 s3 i3 => ?_
    rw [← List.map_append] at i3
    obtain ⟨a, xs, rfl, hT, hA⟩ := i3.tinv
    have e := hA.strs
    subst e
    refine ⟨a, _, rfl, .inr (.inl hT), by rw [List.length_append]; omega, fun p ys H4 s4 np nd mem e4 => ?_⟩
    refine r_tupF e4 (ImA.ofStrs ys) fun l H5 s5 nl fz i5 => q _ _ ys ((((s1.trans s2).trans s3).trans s4).trans s5) i5 nd fun y => ?_
    rw [mem y, List.mem_append, m1 y, m2 y]
    rfl
def sp_can_go : Sp := fun vs H Q _ => ∃ (T : List Row) (s : List Int) (m : Str × Str) (v u x : V), vs = [v, u, x] ∧ Im H v (dTree T) ∧ Im H u (dInts s) ∧ Im H x (dMv m) ∧ T.length = s.length ∧ TreeOk T ∧ MvOk T m ∧ (m.1 = E' ∨ 1 ≤ cnt T s m.1) ∧
  ∀ b H', Same H H' → (b = true ↔ RR.canGo (ways T) (room T) (use T s) m) → Q (.bl b) H'
theorem ImA.bools {H : Hp} {vs : List V} {xs : List Bool} (h : ImA H vs (xs.map .bool)) : vs = xs.map .bl := by
  induction xs generalizing vs with
  | nil => cases h; rfl
  | cons x xs ih =>
    cases h with
    | cons h1 h2 => rw [List.map_cons, ih h2, h1.binv]
theorem first_pos {l : List Str} {x : Str} (h : x ∈ l) : ∃ j : Nat, l[j]? = some x ∧ ∀ m : Nat, m < j → l[m]? ≠ some x := by
  induction l with
  | nil => cases h
  | cons a l ih =>
    by_cases e : a = x
    · exact ⟨0, by rw [e]; rfl, fun m hm => absurd hm (Nat.not_lt_zero _)⟩
    · obtain ⟨j, h1, h2⟩ := ih ((List.mem_cons.mp h).resolve_left fun z => e z.symm)
      refine ⟨j + 1, h1, fun m hm => ?_⟩
      cases m with
      | zero => exact fun z => e (Option.some.inj z)
      | succ m => exact h2 m (by omega)
theorem ok_can_go (Tx : Txt mg) (F_names_in : OkF P w K mg base "names_in" ["tree"] 1 sp_names_in) (F_frees_by : OkF P w K mg base "frees_by" ["tree", "counts"] 4 sp_frees_by) (F_entered_in : OkF P w K mg base "entered_in" ["tree", "move"] 3 sp_entered_in)
    (hf : Has K mg "can_go" s_can_go) : OkF P w K mg base "can_go" ["tree", "stand", "move"] 5 sp_can_go := by
  refine Has.ok hf sc_can_go (fun _ _ _ _ _ _ us hl => match us, hl with | [_, _, _], _ => rfl) (fun vs H Q E h => ?_) (fun f cdv A outer s H vs Q E hr h => ?_)
  · obtain ⟨T, s, m, v, u, x, rfl, _⟩ := h
    rfl
  · obtain ⟨T, s, m, v, u, x, rfl, iv, iu, ix, hl, ok, hm, hc, q⟩ := h
    have hu := hu_of hr
    have hz : T.length ≤ 1000 := Nat.le_trans ok.len (by decide)
    refine ⟨_, (pss_cons (ps_set (i := 3) sc_can_go.nd rfl (.inl rfl) (pe_ix (show IxR _ (rIxT K) from ix_tup) (pv 2) pe_int (fun _ _ => rfl)))
  (pss_cons (ps_if (PW.pt (pw_and (pt_cmpR op_ne (pv 3) pe_str (nomark _)) (pw_and1 (pt_cmpR op_eq (pe_ix (show IxR _ (rIxT K) from ix_tup) (pv 1) (pe_bmT PySem.F.plainAttrs_tuple PySem.F.slot_tuple_index PySem.F.type_tuple_index mt_tup_index (pe_c F_names_in (hr.mono (by decide)) (pa_cons (pv 0) pa_nil)) (pa_cons (pv 3) pa_nil)) (fun _ _ => rfl)) pe_int (nomark _))))) (pss_one (ps_ret pe_bl)) pss_nil)
  (pss_cons (ps_set (i := 4) sc_can_go.nd rfl (.inr rfl) (pe_c F_frees_by (hr.mono (by decide)) (pa_cons (pv 0) (pa_cons (pv 1) pa_nil))))
  (pss_one (ps_ret (pe_callB (cr_all rfl) (by rfl) Tx.b_all bb_all (pa_cons (pe_lc (own := [("folder", 5)]) (g := (gName 5)) (tt := tYes) rfl sc_can_go.nd (pi_tup (pe_c F_entered_in (hr.mono (by decide)) (pa_cons (pv 0) (pa_cons (pv 2) pa_nil)))) (blkOk_by (own := [("folder", 5)]) (N := N_can_go) (sc := defScope s_can_go) (by decide +kernel)) (fun _ _ _ _ _ => (pg_name (i := 5) sc_can_go.nd rfl (.inl rfl))) (fun _ _ _ _ _ => pts_nil) (fun _ _ _ _ _ => (pe_cmpR op_gt (pe_dget hu (pv 4) (pv 5) (fun _ _ => rfl)) pe_int (nomark _)))) pa_nil))))))), ?_⟩
    refine ⟨x, rfl, r_ixT (i := 0) ix rfl rfl fun y iy => ?_⟩
    rw [iy.sinv]
    refine ⟨_, rfl, rfl, _, rfl, ?_⟩
    by_cases e : m.1 = E'
    case' pos =>
      have z : (!decide (V.str m.1 = V.str (Str.ofString ""))) = false := by
        rw [e]
        simp
      rw [z]
      have s1 := Same.refl H
      refine iteF (iteF ?_)
    case' neg =>
      have z : (!decide (V.str m.1 = V.str (Str.ofString ""))) = true := by
        have : ¬ (V.str m.1 = V.str (Str.ofString "")) := fun h => e (V.str.inj h)
        simp [this]
      rw [z]
      have hin : m.1 ∈ names T := hm.1.resolve_left e
      obtain ⟨j, ej, no⟩ := first_pos hin
      have hj : j < (names T).length := (List.getElem?_eq_some_iff.mp ej).1
      rw [names_len, hl] at hj
      have hc1 := hc.resolve_left e
      rw [cnt_at ok.nd ej (List.getElem?_eq_getElem hj)] at hc1
      refine iteT ⟨_, rfl, v, rfl, T, v, rfl, iv, hz, fun v1 H1 s1 fz i1 => ⟨fz, _, rfl, ?_⟩⟩
      obtain ⟨a1, xs1, rfl, hT1, hA1⟩ := i1.tinv
      have e1 := hA1.strs
      subst e1
      refine ⟨a1, names T, m.1, j, rfl, rfl, .inl hT1, ej, no, ?_⟩
      refine r_ixT (i := j) (iu.mono (.same s1)) rfl (d := .int s[j]) (by rw [List.getElem?_map, List.getElem?_eq_getElem hj]; rfl) fun y2 i2 => ?_
      rw [i2.iinv]
      refine ⟨rfl, _, rfl, ?_⟩
      have z2 : decide (V.int s[j] = V.int 0) = false := by
        rw [decide_eq_false_iff_not]
        intro h
        have := V.int.inj h
        omega
      rw [z2]
      refine iteF ?_
    all_goals
      refine ⟨v, rfl, u, rfl, T, s, v, u, rfl, iv.mono (.same s1), iu.mono (.same s1), hl, ok, fun pf H2 s2 nf df => ?_⟩
      refine ⟨v, rfl, x, rfl, T, m, v, x, rfl, iv.mono (.same (s1.trans s2)), ix.mono (.same (s1.trans s2)), ok, hm, fun v3 H3 ys s3 i3 nd mem => ?_⟩
      have hys := ent_len ok nd mem
      refine lcT (ds := ys) (enc := PyData.str) i3 (by omega) (fun _ => true) (fun f => .bool (decide (0 < room T f - use T s f))) ?_ ?_
      · intro f x4 H4 Qt Qf hf s4 ix4 ht _
        rw [ix4.sinv]
        have hfn : f ∈ names T := ok.ways_in ((mem f).mp hf).1
        refine ⟨rfl, _, rfl, _, rfl, r_get ((df.same s3).same s4) (gInts_look hfn) fun v5 i5 => ?_⟩
        rw [i5.iinv]
        exact ⟨_, _, rfl, rfl, ht rfl _ _ (Same.refl _) (.bl _)⟩
      · intro D H4 acc nD s4 e4 i4
        rw [filter_true] at i4
        have eb : acc = (ys.map fun f => decide (0 < room T f - use T s f)).map V.bl := by
          have ee : (ys.map fun f => PyData.bool (decide (0 < room T f - use T s f))) = (ys.map fun f => decide (0 < room T f - use T s f)).map .bool := by rw [List.map_map]; rfl
          rw [ee] at i4
          exact ImA.bools i4
        subst eb
        refine ⟨D, _, rfl, .inl (.inl e4), q _ _ (((s1.trans s2).trans s3).trans s4) ?_⟩
        rw [List.all_map, List.all_eq_true]
        constructor
        · intro h f hf
          have h1 := h f ((mem f).mpr hf)
          have h2 : 0 < room T f - use T s f := of_decide_eq_true h1
          omega
        · intro h f hf
          have h1 := h f ((mem f).mp hf)
          exact decide_eq_true (by omega)
def sp_stand_by : Sp := fun vs H Q _ => ∃ (T : List Row) (s : List Int) (m : Str × Str) (v u x : V), vs = [v, u, x] ∧ Im H v (dTree T) ∧ Im H u (dInts s) ∧ Im H x (dMv m) ∧ T.length = s.length ∧ TreeOk T ∧
  ∀ v' H', Same H H' → Im H' v' (dInts (stby T s m)) → Q v' H'
theorem ok_stand_by (Tx : Txt mg) (F_names_in : OkF P w K mg base "names_in" ["tree"] 1 sp_names_in) (hf : Has K mg "stand_by" s_stand_by) : OkF P w K mg base "stand_by" ["tree", "stand", "move"] 2 sp_stand_by := by
  refine Has.ok hf sc_stand_by (fun _ _ _ _ _ _ us hl => match us, hl with | [_, _, _], _ => rfl) (fun vs H Q E h => ?_) (fun f cdv A outer s H vs Q E hr h => ?_)
  · obtain ⟨T, s, m, v, u, x, rfl, _⟩ := h
    rfl
  · obtain ⟨T, s, m, v, u, x, rfl, iv, iu, ix, hl, ok, q⟩ := h
    have hz : T.length ≤ 1000 := Nat.le_trans ok.len (by decide)
    have hl' : (names T).length = s.length := by rw [names_len]; exact hl
    refine ⟨_, (pss_cons (ps_asg (pv 2) (pg_tup rfl (pgs_cons (pg_name (i := 3) sc_stand_by.nd rfl (.inl rfl)) (pgs_cons (pg_name (i := 4) sc_stand_by.nd rfl (.inl rfl)) pgs_nil))))
  (pss_cons (ps_set (i := 5) sc_stand_by.nd rfl (.inl rfl) (pe_lst pa_nil))
  (pss_cons (ps_for PassesOwn.never rfl (RZ.pi_zipA (by rfl) Tx.b_zip (pa_cons (pe_c F_names_in (hr.mono (by decide)) (pa_cons (pv 0) pa_nil)) (pa_cons (pv 1) pa_nil))) (pg_tup rfl (pgs_cons (pg_name (i := 6) sc_stand_by.nd rfl (.inl rfl)) (pgs_cons (pg_name (i := 7) sc_stand_by.nd rfl (.inl rfl)) pgs_nil))) (pss_one (ps_expr (pe_bm PySem.F.plainAttrs_list PySem.F.slot_list_append PySem.F.type_list_append mt_append (pv 5) (pa_cons (pe_op op_sub (pe_op op_add (pv 7) (pe_ifExp (pt_cmpR op_eq (pv 6) (pv 4) (nomark _)) pe_int pe_int)) (pe_ifExp (pt_cmpR op_eq (pv 6) (pv 3) (nomark _)) pe_int pe_int)) pa_nil)))))
  (pss_one (ps_ret (pe_callTy cr_tupF (by rfl) Tx.b_tuple bb_tuple (pa_cons (pv 5) pa_nil))))))), ?_⟩
    refine ⟨x, rfl, g_tup2 ix fun a b ia ib => ?_⟩
    rw [ia.sinv, ib.sinv]
    refine ⟨Nat.zero_le _, fun L nL => ?_⟩
    have sL : Same H (upd H L (.lst [])) := Same.new nL
    refine ⟨v, rfl, T, v, rfl, iv.mono (.same sL), hz, fun v1 H1 s1 _ i1 => ?_⟩
    have s01 := sL.trans s1
    have eL : H1 L = some (.lst []) := s1 _ _ upd_same
    refine ⟨u, rfl, forZ (as := names T) (ea := PyData.str) (bs := s) (eb := PyData.int) i1 (iu.mono (.same s01)) hl' (fun i σ H' => ∃ y6 y7, σ = [some v, some u, some x, some (.str m.1), some (.str m.2), some (.ref L), y6, y7] ∧ Same H H' ∧ KT H1 H' ∧ H' L = some (.lst ((stbyL (((names T).zip s).take i) m).map .int)))
      ⟨none, none, rfl, s01, KT.refl _, eL⟩ (fun i σ H' h => by
        obtain ⟨_, _, _, _, k, _⟩ := h
        exact k) ?_ ?_⟩
    · rintro i ⟨nm, ct⟩ t x1 y1 σ H' e ⟨y6, y7, rfl, sm, kt, el⟩ nt it
      refine g_tup2 it fun a b ia ib => ?_
      rw [ia.sinv, ib.iinv]
      have sT : Same H' (upd H' t (.tup [x1, y1])) := Same.new nt
      have eT := sT _ _ el
      generalize upd H' t (.tup [x1, y1]) = H2 at sT eT
      have hlen : ((stbyL (((names T).zip s).take i) m).map V.int).length ≤ 1000 := by
        unfold stbyL
        rw [List.length_map, List.length_map, List.length_take, List.length_zip, names_len]
        omega
      have fin : ∀ c1 c2 : Int, c1 = (if nm = m.2 then 1 else 0) → c2 = (if nm = m.1 then 1 else 0) → ∃ y6 y7, [some v, some u, some x, some (V.str m.1), some (.str m.2), some (.ref L), some (.str nm), some (.int ct)] = [some v, some u, some x, some (V.str m.1), some (.str m.2), some (.ref L), y6, y7] ∧
          Same H (upd H2 L (.lst ((stbyL (((names T).zip s).take i) m).map V.int ++ [.int (ct + c1 - c2)]))) ∧ KT H1 (upd H2 L (.lst ((stbyL (((names T).zip s).take i) m).map V.int ++ [.int (ct + c1 - c2)]))) ∧
          upd H2 L (.lst ((stbyL (((names T).zip s).take i) m).map V.int ++ [.int (ct + c1 - c2)])) L = some (.lst ((stbyL (((names T).zip s).take (i + 1)) m).map .int)) := by
        intro c1 c2 h1 h2
        refine ⟨_, _, rfl, Same.mut (sm.trans sT) nL, (kt.trans (.same sT)).trans (.lst eT), ?_⟩
        rw [upd_same, List.take_add_one, e, h1, h2]
        unfold stbyL
        rw [List.map_append, List.map_append]
        rfl
      refine ⟨_, rfl, .inl ⟨rfl, _, .inl (.inl eT)⟩, ?_⟩
      refine ⟨_, rfl, ?_⟩
      refine ⟨_, rfl, _, rfl, rfl, _, rfl, ?_⟩
      have d1 : decide (V.str nm = V.str m.2) = decide (nm = m.2) := by rw [Bool.eq_iff_iff]; simp
      have d2 : decide (V.str nm = V.str m.1) = decide (nm = m.1) := by rw [Bool.eq_iff_iff]; simp
      rw [d1]
      by_cases h1 : nm = m.2
      all_goals
        first | rw [decide_eq_true h1] | rw [decide_eq_false h1]
        first | refine iteT ?_ | refine iteF ?_
        refine ⟨_, _, rfl, rfl, _, rfl, _, rfl, rfl, _, rfl, ?_⟩
        rw [d2]
        by_cases h2 : nm = m.1
        all_goals
          first | rw [decide_eq_true h2] | rw [decide_eq_false h2]
          first | refine iteT ?_ | refine iteF ?_
          refine ⟨_, _, rfl, rfl, _, _, _, rfl, rfl, eT, ?_, ?_⟩
          · exact small1000 hlen
          · exact fin _ _ (by simp [h1]) (by simp [h2])
    · rintro σ H' ⟨y6, y7, rfl, sm, kt, el⟩
      have et : ((names T).zip s).take (names T).length = (names T).zip s := List.take_of_length_le (by rw [List.length_zip]; omega)
      rw [et] at el
      refine ⟨_, rfl, r_tupF el (ImA.ofInts _) fun l H5 s5 nl fz i5 => q _ _ (sm.trans s5) i5⟩
end
end RW
end
section
set_option linter.all false
set_option maxRecDepth 100000
set_option autoImplicit false
set_option maxHeartbeats 4000000
/-! enumerate(a tuple); isinstance; the signs of a text. -/
namespace RW
open PySem PySem.Spec PyProof.Rows L2
open AutoSeq1 (wpAny_loadPart')
theorem new_enumT (l : Addr) (items : Array Value) (n : Nat) (dd : Option Addr) (sls : Array (Option Value)) :
    Meets (Builtin.«enumerate.__new__» ⟨[.type "enumerate", .ref l], []⟩) (fun _ R s =>
      s.heap.get? l = some { cls := .type "tuple", dict := dd, data := .seq items n, slots := sls } ∧
        R (.ok (.ret (.ref (s.heap.objs.size + 1)))) { s with heap := (s.heap.push { cls := .type "tuple_iterator", data := .fields #[.ref l, .int 0 0] }).push { cls := .type "enumerate", data := .fields #[.none, .bool false, .ref s.heap.objs.size, rawInt 0, .none, .none] } }) :=
  .of_wp fun P w A R s h => by
    obtain ⟨hl, h⟩ := h
    have sub := sub_enumerate
    have hT : s.heap.IsTuple l items := ⟨_, hl, rfl, n, rfl⟩
    have hz : (s.heap.push { cls := .type "tuple_iterator", data := .fields #[.ref l, .int 0 0] }).objs.size = s.heap.objs.size + 1 := Heap.size_push ..
    rw [← hz] at h
    obtain ⟨hp, gs, dr, tk, os⟩ := s
    wp_walk using wpAny_loadPart' hl
    refine wpAny_stack_any fun st => wpAny_pure ?_
    split
    · rename_i c _ _ _ _ _
      cases (c == Value.type "enumerate")
      all_goals
        wp_walk using wpAny_loadPart' hl, wpAny_pyIter_tuple hT
        exact ⟨_, rfl, h⟩
    · wp_walk using wpAny_loadPart' hl, wpAny_pyIter_tuple hT
      exact ⟨_, rfl, h⟩
section
variable {P : Program} {w : World} {A : Around} {E : Value → Shared → Prop} {s : Shared}
theorem call_enumT {l : Addr} {items : Array Value} {Q : Value → Shared → Prop} (ht : IsTup s.heap l items)
    (h : ∀ h', IsEnum h' (s.heap.objs.size + 1) s.heap.objs.size 0 .none → h'.IsTupleIter s.heap.objs.size l 0 → (∀ b o, s.heap.get? b = some o → h'.get? b = some o) → Q (.ref (s.heap.objs.size + 1)) { s with heap := h' }) :
    wpAny (model P w) A (call (.type "enumerate") [.ref l]) Q E s := by
  obtain ⟨⟨c, dd, dt, sl⟩, hl, hc, n, hd⟩ := ht
  simp only at hc hd
  subst hc hd
  refine callType_new F.called_enumerate (by decide) (F.typeCall_enumerate_1 _) (F.newCall_enumerate_1 _) (fun obj => F.args_object_init_2 obj _) F.entry_enumerate_new (new_enumT l items n dd sl) ⟨hl, ?_⟩
  have hz : (s.heap.push { cls := .type "tuple_iterator", data := .fields #[.ref l, .int 0 0] }).objs.size = s.heap.objs.size + 1 := Heap.size_push ..
  generalize hh : (s.heap.push { cls := .type "tuple_iterator", data := .fields #[.ref l, .int 0 0] }) = h1 at hz
  have e1 : h1.get? s.heap.objs.size = some { cls := .type "tuple_iterator", data := .fields #[.ref l, .int 0 0] } := by
    rw [← hh]
    exact Heap.get?_push_size _ rfl
  have old : ∀ b o, s.heap.get? b = some o → h1.get? b = some o := fun b o e => by
    rw [← hh]
    exact Heap.get?_push_of_some _ e
  clear hh
  have he : IsEnum (h1.push { cls := .type "enumerate", data := .fields #[.none, .bool false, .ref s.heap.objs.size, rawInt 0, .none, .none] }) (s.heap.objs.size + 1) s.heap.objs.size 0 .none := by
    have := Heap.get?_push_size h1 (o := { cls := .type "enumerate", data := .fields #[.none, .bool false, .ref s.heap.objs.size, rawInt 0, .none, .none] }) rfl
    rw [hz] at this
    exact this
  exact ⟨⟨_, he, rfl⟩, h _ he ⟨_, Heap.get?_push_of_some _ e1, rfl, rfl⟩ fun b o x => Heap.get?_push_of_some _ (old b o x)⟩
end
/-- the tuple at a at each turn, each item in a new pair -/
def IteT (K : PySem.W.Frag) (a : Addr) : It where
  go := fun i H => ∃ (xs : List V) (x : V), SqT K H a xs ∧ xs[i]? = some x
  yld := fun i H v H' => ∃ T x, v = .ref T ∧ H T = none ∧ H' = upd H T (.tup [.int (i : Nat), x]) ∧ ∀ xs, SqT K H a xs → xs[i]? = some x
  stop := fun i H => ∃ xs : List V, SqT K H a xs ∧ xs.length = i
theorem enumT_turn {P : Program} {w : World} {K : PySem.W.Frag} {elts : List Expr} {kk : Nat} {tpos : Pos} (a e it : Addr) (hai : a ≠ it) :
    Turn P w K (.Tuple elts kk tpos) (IteT K a) [e, it] e (fun i h => ((∃ old, IsEnum h e it ((i : Nat) : Int) old) ∧ e ≠ it) ∧ h.IsTupleIter it a i) where
  mem := List.mem_cons_self
  obj := by
    rintro i h ⟨⟨⟨old, he⟩, _⟩, ⟨o, ho, hc, hd⟩⟩ b hb
    rcases List.mem_cons.mp hb with rfl | hb
    · exact ⟨_, he, fun v q => nomatch q⟩
    · rw [List.mem_singleton.mp hb]
      exact ⟨o, ho, fun v q => by rw [hd] at q; cases q⟩
  keep := by
    rintro i h h' ⟨⟨⟨old, he⟩, hne⟩, hi⟩ k
    exact ⟨⟨⟨old, k e (by simp) _ he⟩, hne⟩, hi.at fun o q => k it (by simp) o q⟩
  item := by
    intro X hP hw hK hc i pins s σ H E I hf st hg
    subst hP hw hK
    obtain ⟨⟨⟨old, he⟩, hne⟩, hit⟩ := st
    obtain ⟨xs, x, hq, hx⟩ := hg
    obtain ⟨its, rv, p, hz⟩ := I.tuple hq
    obtain ⟨u, hu, ru⟩ := rv.get hx
    have lt1 : e < s.heap.objs.size := Heap.lt_size he
    have lt2 : it < s.heap.objs.size := by
      obtain ⟨_, q, _⟩ := hit
      exact Heap.lt_size q
    have hil : i < its.toArray.size := by simpa using (List.getElem?_eq_some_iff.mp hu).1
    have hea : e ≠ a := fun z => by
      obtain ⟨o, ho, hcl, _⟩ := p
      rw [← z] at ho
      have e3 := Option.some.inj (he.symm.trans ho)
      rw [← e3] at hcl
      have e4 : (Value.type "enumerate") = .type "tuple" := hcl
      injection e4 with e4
      exact absurd e4 (by decide)
    refine wpAny_pyNext_enum_itemD (Draws.tuple (A := X.A.in1) (I.ok.hd hc) it a hai its.toArray) he ⟨hit, p⟩ hil hne (by simp [hne, hea]) fun y h' tk hy ho hst hT hsz hk => ?_
    have ey : y = u := by
      have e2 : its.toArray[i]? = some u := by simpa using hu
      rw [e2] at hy
      exact (Option.some.inj hy).symm
    subst ey
    refine ⟨_, rfl, wpAny_letOwnedTupleGo_enum (s := { s with heap := h', toks := tk + 1 }) ho fun h2 he2 sb => ?_⟩
    have hT2 : h2.get? s.heap.objs.size = some { cls := .type "tuple", data := .seq #[.int i tk, y] } := (sb.2 _ (Nat.ne_of_gt lt1)).trans hT
    have new : ObjOk X.prog X.w (upd H s.heap.objs.size (.tup [.int (i : Nat), x])) h2 s.heap.objs.size (.tup [.int (i : Nat), x]) :=
      ⟨by show 2 ≤ sizeLine; decide, [.int i tk, y], .cons ⟨_, rfl⟩ (.cons ru .nil), ⟨_, hT2, rfl, _, rfl⟩⟩
    have I1 : Inv X pins σ (upd H s.heap.objs.size (.tup [.int (i : Nat), x])) { s with heap := h2, toks := tk + 1 } :=
      I.turnedNew (ch := [e, it]) (fun b ob hb q => (sb.2 b (fun z => hb (by simp [z]))).trans (hk b ob (fun z => hb (by simp [z])) (fun z => hb (by simp [z])) q)) hf (Nat.le_refl _) new
    refine ⟨.ref s.heap.objs.size, _, I1, rfl, ⟨_, x, rfl, I.hok.fresh (Nat.le_refl _), rfl, fun ys hy => by rw [I.tuple_inj hy hq]; exact hx⟩, ⟨⟨⟨y, ?_⟩, hne⟩, hst.1.at fun o q => (sb.2 it (Ne.symm hne)).trans q⟩, fun b hb => ?_⟩
    · rw [show (((i + 1 : Nat)) : Int) = (i : Int) + 1 by omega]
      exact he2
    · have hb' : b < s.heap.objs.size := by
        rcases List.mem_cons.mp hb with rfl | hb
        · exact lt1
        · rw [List.mem_singleton.mp hb]
          exact lt2
      rw [upd_ne (Nat.ne_of_lt hb')]
      exact (hf b hb).1
  done := by
    intro X hP hw hK hc i pins s σ H E I hf st hg
    subst hP hw hK
    obtain ⟨⟨⟨old, he⟩, hne⟩, hit⟩ := st
    obtain ⟨xs, hq, hx⟩ := hg
    obtain ⟨its, rv, p, hz⟩ := I.tuple hq
    obtain ⟨f0, f1, f2, f3, f4, f5⟩ := hf it (by simp)
    have hl := rv.length
    have hn : its.toArray.size = i := by
      rw [List.size_toArray]
      omega
    exact wpAny_pyNext_enum_endD (Draws.tuple (A := X.A.in1) (I.ok.hd hc) it a hai its.toArray) he (by rw [hn]; exact ⟨hit, p⟩) fun h' eb => ⟨rfl, I.turned (t' := s.toks) (fun b o hb q => eb b o hb q) f0 f1 f3 f4 f5⟩
  self := fun A i s Q E st h => let ⟨⟨⟨_, he⟩, _⟩, _⟩ := st; wpAny_pyIter_enum he h
def iEnumT (K : PySem.W.Frag) (ta : TA) : TI := fun σ H R => ta σ H fun vs H1 => ∃ a xs, vs = [.ref a] ∧ SqT K H1 a xs ∧ R (IteT K a) H1
theorem pi_enumT {X : Cx} {e : Expr} {ta : TA} {p pos tpos : Pos} {elts : List Expr} {kk : Nat} (hg : Gl X "enumerate") (hm : X.mg "enumerate" = none) (ha : PA X [e] ta) (hs : starEach [e] X.env = [(false, eval e X.env)] := by rfl) :
    PI X (.Tuple elts kk tpos) (.Call (.Name "enumerate" p) [e] [] pos) (iEnumT X.K ta) := by
  refine ⟨fun pins s σ H R I h => ?_⟩
  refine Call_ (ld_blt I hg hm boot_enumerate (PyProof.Rows.callWith_type1 (thn (ha.run pos pins s σ H _ I h) fun us s1 ⟨vs, H1, I1, r1, q1⟩ => ?_) hs rfl))
  obtain ⟨a, xs, rfl, hq, q⟩ := q1
  rw [Vals.ref1 r1]
  obtain ⟨its, rv, p', hz⟩ := I1.tuple hq
  have lta : a < s1.heap.objs.size := by
    obtain ⟨o, ho, _⟩ := p'
    exact Heap.lt_size ho
  refine call_enumT p' fun h' he hit hk => wpAny_pyIter_enum he ?_
  have I2 : Inv X pins σ H1 { s1 with heap := h' } := I1.kept (t' := s1.toks) hk
  refine ⟨s1.heap.objs.size + 1, [s1.heap.objs.size + 1, s1.heap.objs.size], _, _, H1, rfl, I2, enumT_turn a (s1.heap.objs.size + 1) s1.heap.objs.size (Nat.ne_of_lt lta), ⟨⟨⟨.none, he⟩, Nat.succ_ne_self _⟩, hit⟩, fun b hb => ?_, q⟩
  have hle : s1.heap.objs.size ≤ b := by
    rcases List.mem_cons.mp hb with rfl | hb
    · exact Nat.le_add_right _ _
    · rw [List.mem_singleton.mp hb]
      exact Nat.le_refl _
  exact I1.fpOk hle (I1.hok.fresh hle)
theorem walk_enumT {K : PySem.W.Frag} {a : Addr} {xs : List V} : Walk (IteT K a) xs.length (fun H => SqT K H a xs) (YPair (fun i => some (.int (i : Nat))) (fun i => xs[i]?)) := by
  refine ⟨fun i _ hi q => ⟨xs, xs[i], q, by simp [hi]⟩, fun _ q => ⟨xs, q, rfl⟩, fun i H v H' _ q y => ?_⟩
  obtain ⟨T, x, h1, h2, h3, h4⟩ := y
  exact ⟨T, .int (i : Nat), x, h1, h2, h3, rfl, h4 xs q⟩
/-- for k, x in enumerate(t) -/
theorem forE {α : Type} {K : PySem.W.Frag} {g : TG} {tb : TS} {E : L2.Ends} {σ : L2.St} {H1 : Hp} {v : V} {ds : List α} {enc : α → PyData} (h : Im H1 v (.tuple (ds.map enc))) (Pv : Nat → L2.St → Hp → Prop) (h0 : Pv 0 σ H1) (hk : ∀ i σ H, Pv i σ H → KT H1 H)
    (hs : ∀ (i : Nat) d T x σ H, ds[i]? = some d → Pv i σ H → H T = none → Im (upd H T (.tup [.int (i : Nat), x])) (.ref T) (.tuple [.int (i : Nat), enc d]) → g (.ref T) σ (upd H T (.tup [.int (i : Nat), x])) fun σ2 H2 => tb { E with nx := Pv (i + 1), ct := Pv (i + 1), bk := E.nx } σ2 H2)
    (hd : ∀ σ H, Pv ds.length σ H → E.nx σ H) : ∃ a xs, [v] = [V.ref a] ∧ SqT K H1 a xs ∧ ForR (IteT K a) g tb E σ H1 := by
  obtain ⟨a, xs, rfl, hT, hA⟩ := h.tinv
  have hl : xs.length = ds.length := by rw [hA.len, List.length_map]
  refine ⟨a, xs, rfl, .inl hT, for_it walk_enumT Pv h0 (fun i σ H _ p => .inl (hk i σ H p _ _ hT)) ?_ (by rw [hl]; exact hd)⟩
  rintro i x σ' H H' hi p ⟨T, x1, y1, rfl, nT, rfl, ex, ey⟩
  cases ex
  have e : ds[i]? = some (ds[i]'(by omega)) := List.getElem?_eq_getElem (by omega)
  refine hs i _ T y1 σ' H e p nT ?_
  exact .tup (.inl upd_same) (.cons (.int _) (.cons ((get_enc (hA.mono (hk _ _ _ p)) e ey).mono (.new nT)) .nil))
/-! ### isinstance -/
def tyN : PyData → String
  | .none => "NoneType"
  | .bool _ => "bool"
  | .int _ => "int"
  | .str _ => "str"
  | .list _ => "list"
  | .tuple _ => "tuple"
  | .dict _ => "dict"
theorem Im.ty {K : PySem.W.Frag} {H : Hp} {v : V} {d : PyData} (h : Im H v d) : TyX K H v (.type (tyN d)) := by
  cases h with
  | non => exact .base .non
  | bl b => exact .base (.bl b)
  | int i => exact .base (.int i)
  | str x => exact .base (.str x)
  | tup h1 h2 =>
    rcases h1 with h1 | ⟨o, h1⟩
    · exact .base (.tup h1)
    · exact .fTuple h1
def tIsi (K : PySem.W.Frag) (T : String) (te : TE) : TE := fun σ H Q => te σ H fun x H1 => ∃ (d : PyData) (b : Bool), Im H1 x d ∧ kitB (tyN d) T = some b ∧ Q (.bl b) H1
section
variable {X : Cx} {e : Expr} {te : TE} {p q pos : Pos}
theorem pe_isi {T : Str} {N : String} (hb : bootBuiltins T = some (.type N)) (hg2 : Gl X T) (hm : X.mg T = none) (hn : T ≠ "__name__") (hd : (T == ("__debug__" : Str)) = false) (Tx : Txt X.mg) (he : PE X e te) (hg : Gl X "isinstance")
    (h1 : starEach [e, .Name T q] X.env = (false, eval e X.env) :: starEach [.Name T q] X.env) : PE X (.Call (.Name "isinstance" p) [e, .Name T q] [] pos) (tIsi X.K N te) := by
  refine pe_imp (pe_callB call_isi hg Tx.b_isinstance bb_isinstance (pa_cons (pe_mono he) (pa_cons (pe_bltn (v := .ty N) hg2 hm hb rfl hn hd) pa_nil) h1) (he := h1)) fun σ H Q h => ?_
  refine ⟨_, h, ?_⟩
  rintro x H1 ⟨d, b, i, k, q⟩
  exact ⟨x, .ty N, .type (tyN d), .type N, b, rfl, .ty N, i.ty, k, q⟩
theorem pe_isi_int (Tx : Txt X.mg) (he : PE X e te) (hg : Gl X "isinstance" := by rfl) (hg2 : Gl X "int" := by rfl) (h1 : starEach [e, .Name "int" q] X.env = (false, eval e X.env) :: starEach [.Name "int" q] X.env := by rfl) :
    PE X (.Call (.Name "isinstance" p) [e, .Name "int" q] [] pos) (tIsi X.K "int" te) := pe_isi bb_int hg2 Tx.b_int (by decide) (by decide) Tx he hg h1
theorem pe_isi_bool (Tx : Txt X.mg) (he : PE X e te) (hg : Gl X "isinstance" := by rfl) (hg2 : Gl X "bool" := by rfl) (h1 : starEach [e, .Name "bool" q] X.env = (false, eval e X.env) :: starEach [.Name "bool" q] X.env := by rfl) :
    PE X (.Call (.Name "isinstance" p) [e, .Name "bool" q] [] pos) (tIsi X.K "bool" te) := pe_isi bb_bool hg2 Tx.b_bool (by decide) (by decide) Tx he hg h1
theorem pe_isi_str (Tx : Txt X.mg) (he : PE X e te) (hg : Gl X "isinstance" := by rfl) (hg2 : Gl X "str" := by rfl) (h1 : starEach [e, .Name "str" q] X.env = (false, eval e X.env) :: starEach [.Name "str" q] X.env := by rfl) :
    PE X (.Call (.Name "isinstance" p) [e, .Name "str" q] [] pos) (tIsi X.K "str" te) := pe_isi bb_str hg2 Tx.b_str (by decide) (by decide) Tx he hg h1
theorem pe_isi_tuple (Tx : Txt X.mg) (he : PE X e te) (hg : Gl X "isinstance" := by rfl) (hg2 : Gl X "tuple" := by rfl) (h1 : starEach [e, .Name "tuple" q] X.env = (false, eval e X.env) :: starEach [.Name "tuple" q] X.env := by rfl) :
    PE X (.Call (.Name "isinstance" p) [e, .Name "tuple" q] [] pos) (tIsi X.K "tuple" te) := pe_isi bb_tuple hg2 Tx.b_tuple (by decide) (by decide) Tx he hg h1
end
theorem kb_ii : kitB "int" "int" = some true := by decide +kernel
theorem kb_ib : kitB "int" "bool" = some false := by decide +kernel
theorem kb_ss : kitB "str" "str" = some true := by decide +kernel
theorem kb_tt : kitB "tuple" "tuple" = some true := by decide +kernel
/-! ### signs of a text -/
theorem lcS {g : TG} {tt : TT} {te : TE} {vs : List Nat} {σ : L2.St} {H1 : Hp} {z : Str} {Q : Addr → Hp → Prop} (hz : z.cps.size ≤ 1000) (f : Nat → PyData)
    (hs : ∀ c H (Qt : VK) (Qf : Hp → Prop), c ∈ z.cps.toList → Same H1 H → (∀ y H4, Same H H4 → Im H4 y (f c) → Qt y H4) → LcT g tt te vs σ (.str ⟨#[c]⟩) H Qt Qf)
    (hd : ∀ D H acc, H1 D = none → Same H1 H → H D = some (.lst acc) → ImA H acc (z.cps.toList.map f) → Q D H) :
    ∃ x, V.str z = .str x ∧ LcR (Its x) g tt te vs σ H1 Q := by
  refine ⟨z, rfl, fun D nD => ?_⟩
  refine lc_data walk_str z.cps.toList (by simp) (by simpa using hz) nD (fun H s => trivial) (fun _ => true) f (fun i H x H' _ _ y => by rw [y.1]; exact Same.refl _) ?_ (fun H acc s e i => hd D H acc nD s e (by rw [filter_true] at i; exact i))
  rintro i c x H H' Qt Qf e s ⟨rfl, c', ec, rfl⟩ ht hf
  have e2 : z.cps[i]? = some c := by simpa using e
  rw [e2] at ec
  cases ec
  exact hs c _ Qt Qf (List.mem_of_getElem? e) s (fun y H4 s4 i4 => ht rfl y H4 s4 i4)
theorem iteP {c : Bool} {A B : Prop} (h : c = true) (a : A) : if c = true then A else B := by
  rw [if_pos h]
  exact a
theorem iteN {c : Bool} {A B : Prop} (h : c = false) (b : B) : if c = true then A else B := by
  rw [if_neg (by rw [h]; decide)]
  exact b
theorem tCi {v : V} {σ : L2.St} {H : Hp} {Q : VK} (h : Q v H) : tC v σ H Q := h
end RW
end
section
set_option linter.all false
set_option maxRecDepth 100000
set_option autoImplicit false
set_option maxHeartbeats 1000000
/-! The kinds. -/
namespace RW
open PySem PySem.Spec PyProof.Rows L2
abbrev s_is_integer : Stmt := topS 17
abbrev N_is_integer : List Str := ["thing"]
theorem sc_is_integer : FnScope N_is_integer ["thing"] (defScope s_is_integer) := ⟨rfl, rfl, rfl, by decide +kernel, rfl, by decide +kernel, by decide +kernel⟩
abbrev s_is_number : Stmt := topS 18
abbrev N_is_number : List Str := ["thing"]
theorem sc_is_number : FnScope N_is_number ["thing"] (defScope s_is_number) := ⟨rfl, rfl, rfl, by decide +kernel, rfl, by decide +kernel, by decide +kernel⟩
abbrev s_is_name : Stmt := topS 19
abbrev N_is_name : List Str := ["thing", "sign"]
theorem sc_is_name : FnScope N_is_name ["thing"] (defScope s_is_name) := ⟨rfl, rfl, rfl, by decide +kernel, rfl, by decide +kernel, by decide +kernel⟩
abbrev s_is_spot : Stmt := topS 20
abbrev N_is_spot : List Str := ["thing"]
theorem sc_is_spot : FnScope N_is_spot ["thing"] (defScope s_is_spot) := ⟨rfl, rfl, rfl, by decide +kernel, rfl, by decide +kernel, by decide +kernel⟩
abbrev s_is_pair : Stmt := topS 21
abbrev N_is_pair : List Str := ["thing"]
theorem sc_is_pair : FnScope N_is_pair ["thing"] (defScope s_is_pair) := ⟨rfl, rfl, rfl, by decide +kernel, rfl, by decide +kernel, by decide +kernel⟩
abbrev s_is_triple : Stmt := topS 22
abbrev N_is_triple : List Str := ["thing"]
theorem sc_is_triple : FnScope N_is_triple ["thing"] (defScope s_is_triple) := ⟨rfl, rfl, rfl, by decide +kernel, rfl, by decide +kernel, by decide +kernel⟩
abbrev s_is_folder : Stmt := topS 23
abbrev N_is_folder : List Str := ["thing"]
theorem sc_is_folder : FnScope N_is_folder ["thing"] (defScope s_is_folder) := ⟨rfl, rfl, rfl, by decide +kernel, rfl, by decide +kernel, by decide +kernel⟩
abbrev s_is_move : Stmt := topS 24
abbrev N_is_move : List Str := ["thing"]
theorem sc_is_move : FnScope N_is_move ["thing"] (defScope s_is_move) := ⟨rfl, rfl, rfl, by decide +kernel, rfl, by decide +kernel, by decide +kernel⟩
abbrev s_is_move_of : Stmt := topS 30
abbrev N_is_move_of : List Str := ["tree", "thing", "parents", "spot"]
theorem sc_is_move_of : FnScope N_is_move_of ["tree", "thing"] (defScope s_is_move_of) := ⟨rfl, rfl, rfl, by decide +kernel, rfl, by decide +kernel, by decide +kernel⟩

/-- what a name is -/
def NameOk (x : Str) : Prop := 1 ≤ x.length ∧ x.length ≤ 8 ∧ ∀ c, c ∈ x.cps.toList → c ∈ ("abcdefghijklmnopqrstuvwxyz" : Str).cps.toList
section
variable {P : Program} {w : World} {K : PySem.W.Frag} {mg : Str → Option Value} {base : Heap}
def sp_is_integer : Sp := fun vs H Q _ => ∃ i : Int, vs = [.int i] ∧ ∀ H', Same H H' → Q (.bl true) H'
theorem ok_is_integer (Tx : Txt mg) (hf : Has K mg "is_integer" s_is_integer) : OkF P w K mg base "is_integer" ["thing"] 1 sp_is_integer := by
  refine Has.ok hf sc_is_integer (fun _ _ _ _ _ _ us hl => match us, hl with | [_], _ => rfl) (fun vs H Q E h => ?_) (fun f cdv A outer s H vs Q E hr h => ?_)
  · obtain ⟨i, rfl, _⟩ := h
    rfl
  · obtain ⟨i, rfl, q⟩ := h
    refine ⟨_, (pss_one (ps_ret (pe_and (pe_isi_int Tx (pv 0)) (pe_one (pe_not (pe_isi_bool Tx (pv 0))))))), ?_⟩
    refine ⟨_, rfl, .int i, _, .int i, kb_ii, _, rfl, ?_⟩
    refine iteT ⟨_, rfl, .int i, _, .int i, kb_ib, _, rfl, q _ (Same.refl _)⟩
def sp_is_number : Sp := fun vs H Q _ => ∃ i : Int, vs = [.int i] ∧ 0 ≤ i ∧ ∀ H', Same H H' → Q (.bl true) H'
theorem ok_is_number (Tx : Txt mg) (F_is_integer : OkF P w K mg base "is_integer" ["thing"] 1 sp_is_integer) (hf : Has K mg "is_number" s_is_number) : OkF P w K mg base "is_number" ["thing"] 2 sp_is_number := by
  refine Has.ok hf sc_is_number (fun _ _ _ _ _ _ us hl => match us, hl with | [_], _ => rfl) (fun vs H Q E h => ?_) (fun f cdv A outer s H vs Q E hr h => ?_)
  · obtain ⟨i, rfl, _⟩ := h
    rfl
  · obtain ⟨i, rfl, hi, q⟩ := h
    refine ⟨_, (pss_one (ps_ret (pe_and (pe_c F_is_integer (hr.mono (by decide)) (pa_cons (pv 0) pa_nil)) (pe_one (pe_cmpR op_ge (pv 0) pe_int (nomark _)))))), ?_⟩
    refine ⟨_, rfl, i, rfl, fun H1 s1 => ⟨_, rfl, iteT ⟨_, rfl, _, _, rfl, rfl, ?_⟩⟩⟩
    show Q (.bl (decide (0 ≤ i))) H1
    rw [decide_eq_true hi]
    exact q _ s1
def sp_is_name : Sp := fun vs H Q _ => ∃ x : Str, vs = [.str x] ∧ ((x = E' ∧ ∀ H', Same H H' → Q (.bl false) H') ∨ (NameOk x ∧ ∀ H', Same H H' → Q (.bl true) H'))
theorem ok_is_name (Tx : Txt mg) (hf : Has K mg "is_name" s_is_name) : OkF P w K mg base "is_name" ["thing"] 1 sp_is_name := by
  refine Has.ok hf sc_is_name (fun _ _ _ _ _ _ us hl => match us, hl with | [_], _ => rfl) (fun vs H Q E h => ?_) (fun f cdv A outer s H vs Q E hr h => ?_)
  · obtain ⟨x, rfl, _⟩ := h
    rfl
  · obtain ⟨x, rfl, q⟩ := h
    refine ⟨_, (pss_one (ps_ret (pe_and (pe_isi_str Tx (pv 0)) (pe_and (pe_chain op_le op_le pe_int (pe_callB call_len_str (by rfl) Tx.b_len PySem.boot_len (pa_cons (pv 0) pa_nil)) (pe_gi Tx.g_MOST_LETTERS)) (pe_one (pe_callB (cr_all rfl) (by rfl) Tx.b_all bb_all (pa_cons (pe_lc (own := [("sign", 1)]) (g := (gName 1)) (tt := tYes) rfl sc_is_name.nd (pi_str (pv 0)) (blkOk_by (own := [("sign", 1)]) (N := N_is_name) (sc := defScope s_is_name) (by decide +kernel)) (fun _ _ _ _ _ => (pg_name (i := 1) sc_is_name.nd rfl (.inl rfl))) (fun _ _ _ _ _ => pts_nil) (fun _ _ _ _ _ => (pe_cmpR op_in_sign (pv 1) (pe_gs Tx.g_LETTERS) (by with_unfolding_all rfl)))) pa_nil))))))), ?_⟩
    refine ⟨_, rfl, .str x, _, .str x, kb_ss, _, rfl, iteT ?_⟩
    rcases q with ⟨rfl, q⟩ | ⟨⟨h1, h2, h3⟩, q⟩
    · refine ⟨_, rfl, _, rfl, by decide, _, _, rfl, rfl, _, rfl, ?_⟩
      refine iteN (by decide) ⟨_, rfl, iteF (q _ (Same.refl _))⟩
    · have hl : x.length ≤ sizeLine := Nat.le_of_lt (small1000 (by omega))
      refine ⟨_, rfl, _, rfl, hl, _, _, rfl, rfl, _, rfl, ?_⟩
      refine iteP (decide_eq_true (by omega)) ⟨_, _, rfl, rfl, _, rfl, iteP (decide_eq_true (by omega)) ?_⟩
      refine ⟨_, rfl, lcS (Nat.le_trans h2 (by decide)) (fun _ => .bool true) ?_ ?_⟩
      · intro c H3 Qt Qf hc s3 ht
        refine ⟨rfl, _, rfl, c, _, rfl, rfl, ?_⟩
        rw [decide_eq_true (h3 c hc)]
        exact ht _ _ (Same.refl _) (.bl true)
      · intro D H3 acc nD s3 e i3
        have ee : (x.cps.toList.map fun _ => PyData.bool true) = (x.cps.toList.map fun _ => true).map .bool := by
          rw [List.map_map]
          rfl
        rw [ee] at i3
        have e2 := i3.bools
        subst e2
        refine ⟨D, _, rfl, .inl (.inl e), ?_⟩
        have e3 : (x.cps.toList.map fun _ => true).all id = true := by
          rw [List.all_eq_true]
          intro b hb
          obtain ⟨_, _, rfl⟩ := List.mem_map.mp hb
          rfl
        rw [e3]
        exact q _ s3
def sp_is_spot : Sp := fun vs H Q _ => ∃ x : Str, vs = [.str x] ∧ (x = E' ∨ NameOk x) ∧ ∀ H', Same H H' → Q (.bl true) H'
theorem ok_is_spot (Tx : Txt mg) (F_is_name : OkF P w K mg base "is_name" ["thing"] 1 sp_is_name) (hf : Has K mg "is_spot" s_is_spot) : OkF P w K mg base "is_spot" ["thing"] 2 sp_is_spot := by
  refine Has.ok hf sc_is_spot (fun _ _ _ _ _ _ us hl => match us, hl with | [_], _ => rfl) (fun vs H Q E h => ?_) (fun f cdv A outer s H vs Q E hr h => ?_)
  · obtain ⟨x, rfl, _⟩ := h
    rfl
  · obtain ⟨x, rfl, hx, q⟩ := h
    refine ⟨_, (pss_one (ps_ret (pe_or (pe_c F_is_name (hr.mono (by decide)) (pa_cons (pv 0) pa_nil)) (pe_one (pe_and (pe_isi_str Tx (pv 0)) (pe_one (pe_cmpR op_eq (pv 0) pe_str (nomark _)))))))), ?_⟩
    rcases hx with rfl | hx
    · refine ⟨_, rfl, _, rfl, .inl ⟨rfl, fun H1 s1 => ⟨_, rfl, iteF ?_⟩⟩⟩
      refine ⟨_, rfl, .str _, _, .str _, kb_ss, _, rfl, iteT ?_⟩
      exact ⟨_, rfl, rfl, q _ s1⟩
    · exact ⟨_, rfl, _, rfl, .inr ⟨hx, fun H1 s1 => ⟨_, rfl, iteT (q _ s1)⟩⟩⟩
def sp_is_pair : Sp := fun vs H Q _ => ∃ (v : V) (ds : List PyData), vs = [v] ∧ Im H v (.tuple ds) ∧ ds.length = 2 ∧ ∀ H', Same H H' → Q (.bl true) H'
theorem ok_is_pair (Tx : Txt mg) (hf : Has K mg "is_pair" s_is_pair) : OkF P w K mg base "is_pair" ["thing"] 1 sp_is_pair := by
  refine Has.ok hf sc_is_pair (fun _ _ _ _ _ _ us hl => match us, hl with | [_], _ => rfl) (fun vs H Q E h => ?_) (fun f cdv A outer s H vs Q E hr h => ?_)
  · obtain ⟨v, ds, rfl, _⟩ := h
    rfl
  · obtain ⟨v, ds, rfl, iv, hl, q⟩ := h
    refine ⟨_, (pss_one (ps_ret (pe_and (pe_isi_tuple Tx (pv 0)) (pe_one (pe_cmpR op_eq (pe_callB call_len_seq (by rfl) Tx.b_len PySem.boot_len (pa_cons (pv 0) pa_nil)) pe_int (nomark _)))))), ?_⟩
    refine ⟨_, rfl, _, _, iv, kb_tt, _, rfl, iteT ?_⟩
    obtain ⟨a, xs, rfl, hT, hA⟩ := iv.tinv
    refine ⟨_, rfl, a, xs, rfl, .inr (.inl hT), rfl, ?_⟩
    have e : xs.length = 2 := by rw [hA.len, hl]
    rw [e]
    exact q _ (Same.refl _)
def sp_is_triple : Sp := fun vs H Q _ => ∃ (v : V) (ds : List PyData), vs = [v] ∧ Im H v (.tuple ds) ∧ ds.length = 3 ∧ ∀ H', Same H H' → Q (.bl true) H'
theorem ok_is_triple (Tx : Txt mg) (hf : Has K mg "is_triple" s_is_triple) : OkF P w K mg base "is_triple" ["thing"] 1 sp_is_triple := by
  refine Has.ok hf sc_is_triple (fun _ _ _ _ _ _ us hl => match us, hl with | [_], _ => rfl) (fun vs H Q E h => ?_) (fun f cdv A outer s H vs Q E hr h => ?_)
  · obtain ⟨v, ds, rfl, _⟩ := h
    rfl
  · obtain ⟨v, ds, rfl, iv, hl, q⟩ := h
    refine ⟨_, (pss_one (ps_ret (pe_and (pe_isi_tuple Tx (pv 0)) (pe_one (pe_cmpR op_eq (pe_callB call_len_seq (by rfl) Tx.b_len PySem.boot_len (pa_cons (pv 0) pa_nil)) pe_int (nomark _)))))), ?_⟩
    refine ⟨_, rfl, _, _, iv, kb_tt, _, rfl, iteT ?_⟩
    obtain ⟨a, xs, rfl, hT, hA⟩ := iv.tinv
    refine ⟨_, rfl, a, xs, rfl, .inr (.inl hT), rfl, ?_⟩
    have e : xs.length = 3 := by rw [hA.len, hl]
    rw [e]
    exact q _ (Same.refl _)
/-- a row as such -/
def RowOk (r : Row) : Prop := NameOk r.1 ∧ (r.2.1 = E' ∨ NameOk r.2.1) ∧ r.1 ≠ r.2.1 ∧ 0 ≤ r.2.2
def sp_is_folder : Sp := fun vs H Q _ => ∃ (v : V) (r : Row), vs = [v] ∧ Im H v (dRow r) ∧ RowOk r ∧ ∀ H', Same H H' → Q (.bl true) H'
theorem ok_is_folder (Tx : Txt mg) (F_is_triple : OkF P w K mg base "is_triple" ["thing"] 1 sp_is_triple) (F_is_name : OkF P w K mg base "is_name" ["thing"] 1 sp_is_name) (F_is_spot : OkF P w K mg base "is_spot" ["thing"] 2 sp_is_spot)
    (F_is_number : OkF P w K mg base "is_number" ["thing"] 2 sp_is_number) (hf : Has K mg "is_folder" s_is_folder) : OkF P w K mg base "is_folder" ["thing"] 3 sp_is_folder := by
  refine Has.ok hf sc_is_folder (fun _ _ _ _ _ _ us hl => match us, hl with | [_], _ => rfl) (fun vs H Q E h => ?_) (fun f cdv A outer s H vs Q E hr h => ?_)
  · obtain ⟨v, r, rfl, _⟩ := h
    rfl
  · obtain ⟨v, r, rfl, iv, ⟨k1, k2, k3, k4⟩, q⟩ := h
    refine ⟨_, (pss_cons (ps_if (PW.pt (pw_or (pt_not (pt_val (pe_c F_is_triple (hr.mono (by decide)) (pa_cons (pv 0) pa_nil)))) (pw_or (pt_not (pt_val (pe_c F_is_name (hr.mono (by decide)) (pa_cons (pe_ix (show IxR _ (rIxT K) from ix_tup) (pv 0) pe_int (fun _ _ => rfl)) pa_nil)))) (pw_or1 (pt_not (pt_val (pe_c F_is_spot (hr.mono (by decide)) (pa_cons (pe_ix (show IxR _ (rIxT K) from ix_tup) (pv 0) pe_int (fun _ _ => rfl)) pa_nil)))))))) (pss_one (ps_ret pe_bl)) pss_nil)
  (pss_one (ps_ret (pe_and (pe_cmpR op_ne (pe_ix (show IxR _ (rIxT K) from ix_tup) (pv 0) pe_int (fun _ _ => rfl)) (pe_ix (show IxR _ (rIxT K) from ix_tup) (pv 0) pe_int (fun _ _ => rfl)) (nomark _)) (pe_one (pe_c F_is_number (hr.mono (by decide)) (pa_cons (pe_ix (show IxR _ (rIxT K) from ix_tup) (pv 0) pe_int (fun _ _ => rfl)) pa_nil))))))), ?_⟩
    refine ⟨v, rfl, v, _, rfl, iv, rfl, fun H1 s1 => ⟨_, rfl, iteF ?_⟩⟩
    refine ⟨v, rfl, r_ixT (i := 0) (iv.mono (.same s1)) rfl rfl fun y iy => ?_⟩
    rw [iy.sinv]
    refine ⟨_, rfl, .inr ⟨k1, fun H2 s2 => ⟨_, rfl, iteF ?_⟩⟩⟩
    have s02 := s1.trans s2
    refine ⟨v, rfl, r_ixT (i := 1) (iv.mono (.same s02)) rfl rfl fun y iy => ?_⟩
    rw [iy.sinv]
    refine ⟨_, rfl, k2, fun H3 s3 => ⟨_, rfl, iteF ?_⟩⟩
    have s03 := s02.trans s3
    refine ⟨v, rfl, tCi (r_ixT (i := 0) (iv.mono (.same s03)) rfl rfl fun y iy => ?_)⟩
    refine ⟨v, rfl, tCi (r_ixT (i := 1) (iv.mono (.same s03)) rfl rfl fun z iz => ?_)⟩
    rw [iy.sinv, iz.sinv]
    have ne : ¬ (V.str r.1 = V.str r.2.1) := fun z => k3 (V.str.inj z)
    refine ⟨rfl, _, rfl, iteP (by rw [decide_eq_false ne]; rfl) ?_⟩
    refine ⟨v, rfl, r_ixT (i := 2) (iv.mono (.same s03)) rfl rfl fun y iy => ?_⟩
    rw [iy.iinv]
    exact ⟨_, rfl, k4, fun H4 s4 => q _ (s03.trans s4)⟩
def MvN (m : Str × Str) : Prop := (m.1 = E' ∨ NameOk m.1) ∧ (m.2 = E' ∨ NameOk m.2) ∧ m.1 ≠ m.2
def sp_is_move : Sp := fun vs H Q _ => ∃ (v : V) (m : Str × Str), vs = [v] ∧ Im H v (dMv m) ∧ MvN m ∧ ∀ H', Same H H' → Q (.bl true) H'
theorem ok_is_move (Tx : Txt mg) (F_is_pair : OkF P w K mg base "is_pair" ["thing"] 1 sp_is_pair) (F_is_spot : OkF P w K mg base "is_spot" ["thing"] 2 sp_is_spot) (hf : Has K mg "is_move" s_is_move) : OkF P w K mg base "is_move" ["thing"] 3 sp_is_move := by
  refine Has.ok hf sc_is_move (fun _ _ _ _ _ _ us hl => match us, hl with | [_], _ => rfl) (fun vs H Q E h => ?_) (fun f cdv A outer s H vs Q E hr h => ?_)
  · obtain ⟨v, m, rfl, _⟩ := h
    rfl
  · obtain ⟨v, m, rfl, iv, ⟨k1, k2, k3⟩, q⟩ := h
    refine ⟨_, (pss_one (ps_ret (pe_and (pe_c F_is_pair (hr.mono (by decide)) (pa_cons (pv 0) pa_nil)) (pe_and (pe_c F_is_spot (hr.mono (by decide)) (pa_cons (pe_ix (show IxR _ (rIxT K) from ix_tup) (pv 0) pe_int (fun _ _ => rfl)) pa_nil)) (pe_and (pe_c F_is_spot (hr.mono (by decide)) (pa_cons (pe_ix (show IxR _ (rIxT K) from ix_tup) (pv 0) pe_int (fun _ _ => rfl)) pa_nil)) (pe_one (pe_cmpR op_ne (pe_ix (show IxR _ (rIxT K) from ix_tup) (pv 0) pe_int (fun _ _ => rfl)) (pe_ix (show IxR _ (rIxT K) from ix_tup) (pv 0) pe_int (fun _ _ => rfl)) (nomark _)))))))), ?_⟩
    refine ⟨v, rfl, v, _, rfl, iv, rfl, fun H1 s1 => ⟨_, rfl, iteT ?_⟩⟩
    refine ⟨v, rfl, r_ixT (i := 0) (iv.mono (.same s1)) rfl rfl fun y iy => ?_⟩
    rw [iy.sinv]
    refine ⟨_, rfl, k1, fun H2 s2 => ⟨_, rfl, iteT ?_⟩⟩
    have s02 := s1.trans s2
    refine ⟨v, rfl, r_ixT (i := 1) (iv.mono (.same s02)) rfl rfl fun y iy => ?_⟩
    rw [iy.sinv]
    refine ⟨_, rfl, k2, fun H3 s3 => ⟨_, rfl, iteT ?_⟩⟩
    have s03 := s02.trans s3
    refine ⟨v, rfl, tCi (r_ixT (i := 0) (iv.mono (.same s03)) rfl rfl fun y iy => ?_)⟩
    refine ⟨v, rfl, tCi (r_ixT (i := 1) (iv.mono (.same s03)) rfl rfl fun z iz => ?_)⟩
    rw [iy.sinv, iz.sinv]
    have ne : ¬ (V.str m.1 = V.str m.2) := fun z => k3 (V.str.inj z)
    refine ⟨rfl, ?_⟩
    rw [decide_eq_false ne]
    exact q _ s03
def sp_is_move_of : Sp := fun vs H Q _ => ∃ (T : List Row) (v u : V) (m : Str × Str), vs = [v, u] ∧ Im H v (dTree T) ∧ Im H u (dMv m) ∧ TreeOk T ∧ MvOk T m ∧ MvN m ∧ ∀ H', Same H H' → Q (.bl true) H'
theorem ok_is_move_of (Tx : Txt mg) (F_is_move : OkF P w K mg base "is_move" ["thing"] 3 sp_is_move) (F_parents_by : OkF P w K mg base "parents_by" ["tree"] 1 sp_parents_by) (hf : Has K mg "is_move_of" s_is_move_of) : OkF P w K mg base "is_move_of" ["tree", "thing"] 4 sp_is_move_of := by
  refine Has.ok hf sc_is_move_of (fun _ _ _ _ _ _ us hl => match us, hl with | [_, _], _ => rfl) (fun vs H Q E h => ?_) (fun f cdv A outer s H vs Q E hr h => ?_)
  · obtain ⟨T, v, u, m, rfl, _⟩ := h
    rfl
  · obtain ⟨T, v, u, m, rfl, iv, iu, ok, hm, hn, q⟩ := h
    have hu := hu_of hr
    refine ⟨_, (pss_cons (ps_if (pt_not (pt_val (pe_c F_is_move (hr.mono (by decide)) (pa_cons (pv 1) pa_nil)))) (pss_one (ps_ret pe_bl)) pss_nil)
  (pss_cons (ps_set (i := 2) sc_is_move_of.nd rfl (.inr rfl) (pe_c F_parents_by (hr.mono (by decide)) (pa_cons (pv 0) pa_nil)))
  (pss_one (ps_ret (pe_callB (cr_all rfl) (by rfl) Tx.b_all bb_all (pa_cons (pe_lc (own := [("spot", 3)]) (g := (gName 3)) (tt := tYes) rfl sc_is_move_of.nd (pi_tup (pv 1)) (blkOk_by (own := [("spot", 3)]) (N := N_is_move_of) (sc := defScope s_is_move_of) (by decide +kernel)) (fun _ _ _ _ _ => (pg_name (i := 3) sc_is_move_of.nd rfl (.inl rfl))) (fun _ _ _ _ _ => pts_nil) (fun _ _ _ _ _ => (pe_or (pe_cmpR op_eq (pv 3) pe_str (nomark _)) (pe_one (pe_cmp (pc_din hu (pv 3) (pv 2)) rfl))))) pa_nil)))))), ?_⟩
    refine ⟨u, rfl, u, m, rfl, iu, hn, fun H1 s1 => ⟨_, rfl, iteF ?_⟩⟩
    refine ⟨v, rfl, T, v, rfl, iv.mono (.same s1), Nat.le_trans ok.len (by decide), ok.nd, fun p H2 s2 np dp => ?_⟩
    have s02 := s1.trans s2
    refine ⟨u, rfl, lcT (ds := [m.1, m.2]) (enc := PyData.str) (show Im H2 u (dMv m) from iu.mono (.same s02)) (by show 2 ≤ 1000; decide) (fun _ => true) (fun _ => .bool true) ?_ ?_⟩
    · intro x y H3 Qt Qf hx s3 ix ht _
      rw [ix.sinv]
      have hsp : Spot T x := by
        rcases List.mem_cons.mp hx with rfl | hx
        · exact hm.1
        · rw [List.mem_singleton.mp hx]
          exact hm.2
      refine ⟨rfl, _, rfl, rfl, _, rfl, ?_⟩
      rcases hsp with e | hin
      · exact iteP (by rw [e]; exact decide_eq_true rfl) (ht rfl _ _ (Same.refl _) (.bl true))
      · refine iteN (decide_eq_false fun z => ok.noE ((V.str.inj z : x = E') ▸ hin)) ?_
        refine ⟨_, rfl, _, rfl, r_in (dp.same s3) (fun miss => ?_) fun d v' _ _ => ht rfl _ _ (Same.refl _) (.bl true)⟩
        obtain ⟨r, hr1, hr2⟩ := names_row hin
        have z := look_map T (·.1) (fun r => PyData.str r.2.1) ok.nd hr1
        rw [hr2, miss] at z
        cases z
    · intro D H3 acc nD s3 e i3
      have e2 : acc = [V.bl true, V.bl true] := by
        have : ImA H3 acc ([true, true].map .bool) := i3
        exact this.bools
      subst e2
      exact ⟨D, [true, true], rfl, .inl (.inl e), q _ (s02.trans s3)⟩
end
end RW
end
section
set_option linter.all false
set_option maxRecDepth 100000
set_option autoImplicit false
set_option maxHeartbeats 1000000
/-! d.update(e), xs.count(x) of texts. -/
namespace RW
open PySem PySem.Spec PyProof.Rows L2
section
variable {X : Cx}
def rUpdK : V → List V → Hp → VK → Prop := fun x xs H Q => ∃ (a b : Addr) (kvs ws : List (Key × V)), x = V.ref a ∧ xs = [V.ref b] ∧ a ≠ b ∧ H a = some (.dK kvs) ∧ H b = some (.dK ws) ∧ kvs.length + ws.length ≤ 1000 ∧ Q .non (upd H a (.dK (mergeK kvs ws)))
theorem mergeK_len : ∀ (ws kvs : List (Key × V)), (mergeK kvs ws).length ≤ kvs.length + ws.length
  | [], kvs => Nat.le_refl _
  | w :: ws, kvs => by
    have h1 := mergeK_len ws (putK kvs w.1 w.2)
    have h2 := length_putK kvs w.1 w.2
    show (mergeK (putK kvs w.1 w.2) ws).length ≤ _
    rw [List.length_cons]
    omega
theorem mt_update : MtR X "dict.update" rUpdK := by
  intro pins s σ H x xs v us Q I rx rv h
  obtain ⟨a, b, kvs, ws, rfl, rfl, ne, ha, hb, hl, q⟩ := h
  cases rx
  rw [Vals.ref1 rv]
  obtain ⟨z, hd, vs, rel, dd⟩ := dk_of I.hok ha
  obtain ⟨z2, hd2, vs2, rel2, dd2⟩ := dk_of I.hok hb
  have hz : 1000 ≤ sizeLine := Nat.le_of_lt (small1000 (Nat.le_refl _))
  refine call_meetsIn PySem.F.slot_dict_update dd.typeIs PySem.F.entry_dict_update (PySem.F.args_dict_update_2 _ _) (meets_dict_update (mixKind X.prog X.w) a b ne hd2)
    ⟨vs, vs2, dd, dd2, by rw [← rel.length, ← rel2.length]; omega, fun h' dd' _ hs => ?_⟩
  have he : ∃ q, h'.get? a = some q := by
    obtain ⟨q, _, _, hq, _⟩ := dd'
    exact ⟨q, hq⟩
  have hm := mergeK_len ws kvs
  exact ⟨.non, _, d_write I (by rw [ha]; exact True.intro) hs he (dk_new (by omega) hd (KV.merge rel2 rel) dd'), rfl, q⟩
end
def gmerge (gd ge : Gd) : Gd := ge.foldl (fun a e => gput a e.1 e.2) gd
theorem KvI.merge {H : Hp} : ∀ {ws : List (Key × V)} {ge : Gd} {kvs : List (Key × V)} {gd : Gd}, KvI H ws ge → KvI H kvs gd → KvI H (mergeK kvs ws) (gmerge gd ge)
  | _, _, _, _, .nil, h => h
  | _, _, kvs, gd, .cons (a := w) (b := e) h1 h2, h => by
    show KvI H (mergeK (putK kvs w.1 w.2) _) (gmerge (gput gd e.1 e.2) _)
    refine KvI.merge h2 ?_
    rw [h1.1]
    exact h.put h1.2
theorem gmerge_keys : ∀ (ge gd : Gd) (k : Str), ((gmerge gd ge).lookup k).isSome = true ↔ (gd.lookup k).isSome = true ∨ (ge.lookup k).isSome = true
  | [], gd, k => by simp [gmerge]
  | e :: ge, gd, k => by
    show ((gmerge (gput gd e.1 e.2) ge).lookup k).isSome = true ↔ _
    rw [gmerge_keys ge, gput_look, List.lookup_cons]
    by_cases h : k = e.1
    · have z : (k == e.1) = true := by simpa using h
      rw [if_pos h, z]
      simp
    · have z : (k == e.1) = false := by simpa using h
      rw [if_neg h, z]
/-- list.count of texts -/
theorem plain_strs (l : List Str) : PyData.plainAll (l.map .str) = true := by
  induction l with
  | nil => rfl
  | cons m ms ih =>
    rw [List.map_cons]
    unfold PyData.plainAll
    rw [ih]
    rfl
theorem depth_strs (l : List Str) : PyData.depthAll (l.map .str) ≤ 3 := by
  induction l with
  | nil => decide
  | cons m ms ih =>
    rw [List.map_cons]
    have : (PyData.str m).depth ≤ 2 := by simp [PyData.depth]
    unfold PyData.depthAll
    omega
def rCountL : V → List V → Hp → VK → Prop := fun x xs H Q => ∃ (a : Addr) (l : List Str) (y : Str), x = V.ref a ∧ xs = [V.str y] ∧ H a = some (.lst (l.map .str)) ∧ Q (.int ((l.count y : Nat) : Int)) H
theorem mt_lcountS {X : Cx} (hu : X.A.units + 65 < cLine) : MtR X "list.count" rCountL := by
  intro pins s σ H x xs v us Q I rx rv h
  obtain ⟨a, l, y, rfl, rfl, hH, q⟩ := h
  cases rx
  obtain ⟨uv, rfl, ru⟩ := rv.one
  obtain ⟨z, its, n, r, hl, e⟩ := I.lstM hH
  have := depth_strs l
  refine PySem.SeqAt.count_list_data (vs := its.toArray) ⟨_, e, rfl, n, rfl⟩ (show ReadsAll s.heap its.toArray.toList (l.map .str) [] from by simpa using ImA.reads I (ImA.ofStrs l) r) (Im.reads I (.str y) ru) (plain_strs l) rfl (by omega) ?_
  have ec : (l.map PyData.str).countP (fun z => PyData.eqv z (.str y)) = l.count y := by
    rw [List.countP_map, List.count]
    congr 1
  rw [ec]
  exact ⟨.int _, H, I.tok _, ⟨_, rfl⟩, q⟩
section
variable {X : Cx} {o e : Expr} {es : List Expr} {to : TE} {t : TA} {name : Str} {apos cpos : Pos} {T id : String} {r : V → List V → Hp → VK → Prop}
theorem pe_bmK (K : PySem.W.Frag) (hK : X.K = K) (pa : PlainAttrs T) (slot : Slot T name id) (hty : typeOf (.builtin id) = pure (.type "method_descriptor")) (hm : MtR X id r) (ho : PE X o to) (ha : PA X (e :: es) t)
    (hbase : attributeBase o name X.env (eval o X.env) = eval o X.env := by rfl)
    (hfew : ((backTo cpos (starEach (e :: es) X.env)).all (fun x => !x.1) && (backToKw cpos (keywordEach [] X.env)).all (fun x => x.1.isSome)
      && decide ((e :: es).length + ([] : List Keyword).length + (if ([] : List Keyword).isEmpty then 0 else 1) < 30)) = true := by rfl)
    (hline : (apos.endLine == cpos.line) = true := by rfl) (hs : starEach (e :: es) X.env = (false, eval e X.env) :: starEach es X.env := by rfl) (hplain : (backTo cpos (starEach es X.env)).any (·.1) = false := by rfl) :
    PE X (.Call (.Attribute o name apos) (e :: es) [] cpos) (tBM K T r to t) := by
  subst hK
  exact pe_bm pa slot hty hm ho ha hbase hfew hline hs hplain
end
end RW
end
section
set_option linter.all false
set_option maxRecDepth 100000
set_option autoImplicit false
set_option maxHeartbeats 1000000
/-! first_unparented, first_ringed, tree_fault, stand_fault. -/
namespace RW
open PySem PySem.Spec PyProof.Rows L2
abbrev s_first_unparented : Stmt := topS 27
abbrev N_first_unparented : List Str := ["tree", "parents", "k", "name"]
theorem sc_first_unparented : FnScope N_first_unparented ["tree"] (defScope s_first_unparented) := ⟨rfl, rfl, rfl, by decide +kernel, rfl, by decide +kernel, by decide +kernel⟩
abbrev s_first_ringed : Stmt := topS 26
abbrev N_first_ringed : List Str := ["tree", "parents", "ended", "k", "name", "way", "here"]
theorem sc_first_ringed : FnScope N_first_ringed ["tree"] (defScope s_first_ringed) := ⟨rfl, rfl, rfl, by decide +kernel, rfl, by decide +kernel, by decide +kernel⟩
abbrev s_tree_fault : Stmt := topS 28
abbrev N_tree_fault : List Str := ["thing", "k", "folder"]
theorem sc_tree_fault : FnScope N_tree_fault ["thing"] (defScope s_tree_fault) := ⟨rfl, rfl, rfl, by decide +kernel, rfl, by decide +kernel, by decide +kernel⟩
abbrev s_stand_fault : Stmt := topS 29
abbrev N_stand_fault : List Str := ["tree", "thing", "k", "count", "frees", "over", "folder"]
theorem sc_stand_fault : FnScope N_stand_fault ["tree", "thing"] (defScope s_stand_fault) := ⟨rfl, rfl, rfl, by decide +kernel, rfl, by decide +kernel, by decide +kernel⟩

/-- a tree that tree_fault passes -/
structure TreeFit (T : List Row) : Prop where
  ok : TreeOk T
  row : ∀ r, r ∈ T → RowOk r
  asc : ∀ (k : Nat) a b, T[k]? = some a → T[k + 1]? = some b → a.1.cps.toList < b.1.cps.toList
/-- the keys of a dict lie in l -/
def KeysIn (l : List Str) (gd : Gd) : Prop := (gd.map (·.1)).Nodup ∧ ∀ k, (gd.lookup k).isSome = true → k ∈ l
theorem KeysIn.len {l : List Str} {gd : Gd} (h : KeysIn l gd) : gd.length ≤ l.length := by
  have := nodup_len h.1 fun x hx => h.2 x (look_isSome.mpr hx)
  rw [List.length_map] at this
  exact this
theorem KeysIn.put {l : List Str} {gd : Gd} (h : KeysIn l gd) {k : Str} {d : PyData} (hk : k ∈ l) : KeysIn l (gput gd k d) := by
  refine ⟨?_, fun j hj => ?_⟩
  · rw [gput_keys]
    split
    · exact h.1
    · rename_i hn
      rw [List.nodup_append]
      refine ⟨h.1, by simp, fun a ha b hb => ?_⟩
      rw [List.mem_singleton] at hb
      rw [hb]
      exact fun e => hn (by rw [← e]; exact ha)
  · rw [gput_look] at hj
    split at hj
    · rename_i e
      rw [e]
      exact hk
    · exact h.2 j hj
theorem KeysIn.merge {l : List Str} : ∀ {ge gd : Gd}, KeysIn l gd → (∀ e, e ∈ ge → e.1 ∈ l) → KeysIn l (gmerge gd ge)
  | [], _, h, _ => h
  | e :: ge, gd, h, g => by
    show KeysIn l (gmerge (gput gd e.1 e.2) ge)
    exact KeysIn.merge (h.put (g e List.mem_cons_self)) fun e' he' => g e' (List.mem_cons_of_mem _ he')
theorem par_look {T : List Row} (ok : TreeOk T) {x : Str} (hx : x ∈ names T) : (T.map fun r => (r.1, PyData.str r.2.1)).lookup x = some (.str (par T x)) := by
  obtain ⟨r, hr1, hr2⟩ := names_row hx
  rw [← hr2, look_map T (·.1) (fun r => .str r.2.1) ok.nd hr1, par_row ok.nd hr1]
section
variable {P : Program} {w : World} {K : PySem.W.Frag} {mg : Str → Option Value} {base : Heap}
def sp_first_unparented : Sp := fun vs H Q _ => ∃ (T : List Row) (v : V), vs = [v] ∧ Im H v (dTree T) ∧ TreeOk T ∧ ∀ H', Same H H' → Q .non H'
theorem ok_first_unparented (Tx : Txt mg) (F_parents_by : OkF P w K mg base "parents_by" ["tree"] 1 sp_parents_by) (F_names_in : OkF P w K mg base "names_in" ["tree"] 1 sp_names_in) (hf : Has K mg "first_unparented" s_first_unparented) :
    OkF P w K mg base "first_unparented" ["tree"] 2 sp_first_unparented := by
  refine Has.ok hf sc_first_unparented (fun _ _ _ _ _ _ us hl => match us, hl with | [_], _ => rfl) (fun vs H Q E h => ?_) (fun f cdv A outer s H vs Q E hr h => ?_)
  · obtain ⟨T, v, rfl, _⟩ := h
    rfl
  · obtain ⟨T, v, rfl, iv, ok, q⟩ := h
    have hu := hu_of hr
    have hz : T.length ≤ 1000 := Nat.le_trans ok.len (by decide)
    refine ⟨_, (pss_cons (ps_set (i := 1) sc_first_unparented.nd rfl (.inl rfl) (pe_c F_parents_by (hr.mono (by decide)) (pa_cons (pv 0) pa_nil)))
  (pss_cons (ps_for PassesOwn.never rfl (pi_enumT (by rfl) Tx.b_enumerate (pa_cons (pe_c F_names_in (hr.mono (by decide)) (pa_cons (pv 0) pa_nil)) pa_nil)) (pg_tup rfl (pgs_cons (pg_name (i := 2) sc_first_unparented.nd rfl (.inl rfl)) (pgs_cons (pg_name (i := 3) sc_first_unparented.nd rfl (.inl rfl)) pgs_nil))) (pss_one (ps_if (PW.pt (pw_and (pt_cmpR op_ne (pe_dget hu (pv 1) (pv 3) (fun _ _ => rfl)) pe_str (nomark _)) (pw_and1 (pt_cmp (pc_dnotin hu (pe_dget hu (pv 1) (pv 3) (fun _ _ => rfl)) (pv 1)))))) (pss_one (ps_ret (pv 2))) pss_nil)))
  (pss_one (ps_ret pe_non)))), ?_⟩
    refine ⟨v, rfl, T, v, rfl, iv, hz, ok.nd, fun p H1 s1 np dp => ?_⟩
    refine ⟨v, rfl, T, v, rfl, iv.mono (.same s1), hz, fun v2 H2 s2 _ i2 => ?_⟩
    refine forE (ds := names T) (enc := PyData.str) i2 (fun i σ H' => ∃ y2 y3, σ = [some v, some (.ref p), y2, y3] ∧ Same H2 H') ⟨none, none, rfl, Same.refl _⟩ (fun i σ H' h => by
      obtain ⟨_, _, _, k⟩ := h
      exact .same k) ?_ ?_
    · rintro i nm t x σ H' e ⟨y2, y3, rfl, sm⟩ nt ix
      have hnm : nm ∈ names T := List.mem_of_getElem? e
      have sT : Same H' (upd H' t (.tup [.int (i : Nat), x])) := Same.new nt
      refine g_tup2 ix fun a b ia ib => ?_
      rw [ia.iinv, ib.sinv]
      have dp' := (dp.same s2).same (sm.trans sT)
      refine ⟨_, rfl, _, rfl, r_get dp' (par_look ok hnm) fun v3 i3 => ?_⟩
      rw [i3.sinv]
      refine ⟨rfl, _, rfl, ?_⟩
      rcases ok.pin hnm with e1 | e1
      · refine iteN (by rw [e1]; decide) ?_
        refine iteF ?_
        exact ⟨_, _, rfl, sm.trans sT⟩
      · refine iteP ?_ ?_
        · have ne : ¬ (V.str (par T nm) = V.str (Str.ofString "")) := fun z => ok.noE ((V.str.inj z : par T nm = E') ▸ e1)
          rw [decide_eq_false ne]
          rfl
        · refine ⟨_, rfl, _, rfl, r_get dp' (par_look ok hnm) fun v4 i4 => ?_⟩
          rw [i4.sinv]
          refine ⟨_, rfl, r_in dp' (fun miss => ?_) fun d v' _ _ => ?_⟩
          · rw [par_look ok e1] at miss
            cases miss
          · refine ⟨_, rfl, iteF ?_⟩
            exact ⟨_, _, rfl, sm.trans sT⟩
    · rintro σ H' ⟨y2, y3, rfl, sm⟩
      exact q _ ((s1.trans s2).trans sm)
def sp_first_ringed : Sp := fun vs H Q _ => ∃ (T : List Row) (v : V), vs = [v] ∧ Im H v (dTree T) ∧ TreeOk T ∧ ∀ H', Same H H' → Q .non H'
theorem ok_first_ringed (Tx : Txt mg) (F_parents_by : OkF P w K mg base "parents_by" ["tree"] 1 sp_parents_by) (F_names_in : OkF P w K mg base "names_in" ["tree"] 1 sp_names_in) (hf : Has K mg "first_ringed" s_first_ringed) :
    OkF P w K mg base "first_ringed" ["tree"] 2 sp_first_ringed := by
  refine Has.ok hf sc_first_ringed (fun _ _ _ _ _ _ us hl => match us, hl with | [_], _ => rfl) (fun vs H Q E h => ?_) (fun f cdv A outer s H vs Q E hr h => ?_)
  · obtain ⟨T, v, rfl, _⟩ := h
    rfl
  · obtain ⟨T, v, rfl, iv, ok, q⟩ := h
    have hu := hu_of hr
    have hz : T.length ≤ 1000 := Nat.le_trans ok.len (by decide)
    refine ⟨_, (pss_cons (ps_set (i := 1) sc_first_ringed.nd rfl (.inl rfl) (pe_c F_parents_by (hr.mono (by decide)) (pa_cons (pv 0) pa_nil)))
  (pss_cons (ps_set (i := 2) sc_first_ringed.nd rfl (.inl rfl) (pe_disp (pps_cons pe_str pe_bl pps_nil) (by rfl) (by rfl) (fun z => by cases z) (by decide)))
  (pss_cons (ps_for PassesOwn.never rfl (pi_enumT (by rfl) Tx.b_enumerate (pa_cons (pe_c F_names_in (hr.mono (by decide)) (pa_cons (pv 0) pa_nil)) pa_nil)) (pg_tup rfl (pgs_cons (pg_name (i := 3) sc_first_ringed.nd rfl (.inl rfl)) (pgs_cons (pg_name (i := 4) sc_first_ringed.nd rfl (.inl rfl)) pgs_nil))) (pss_cons (ps_set (i := 5) sc_first_ringed.nd rfl (.inl rfl) pe_dnewK)
  (pss_cons (ps_set (i := 6) sc_first_ringed.nd rfl (.inl rfl) (pv 4))
  (pss_cons (ps_while PassesOwn.never (PW.pt (pw_and (pt_cmp (pc_dnotin hu (pv 6) (pv 2))) (pw_and1 (pt_cmp (pc_dnotin hu (pv 6) (pv 5)))))) (pss_cons (ps_dput hu (pv 5) (pv 6) pe_bl rfl)
  (pss_one (ps_set (i := 6) sc_first_ringed.nd rfl (.inl rfl) (pe_dget hu (pv 1) (pv 6) (fun _ _ => rfl))))))
  (pss_cons (ps_if (pt_cmp (pc_dnotin hu (pv 6) (pv 2))) (pss_one (ps_ret (pv 3))) pss_nil)
  (pss_one (ps_expr (pe_bm PySem.F.plainAttrs_dict PySem.F.slot_dict_update PySem.F.type_dict_update mt_update (pv 2) (pa_cons (pv 5) pa_nil)))))))))
  (pss_one (ps_ret pe_non))))), ?_⟩
    refine ⟨v, rfl, T, v, rfl, iv, hz, ok.nd, fun p H1 s1 np dp => ?_⟩
    intro pe ne
    refine ⟨upd_same, [(.inr E', .bl true)], rfl, (by show 1 ≤ 15; decide), ?_⟩
    generalize hA : upd (upd H1 pe (.dK [])) pe (.dK (mergeK [] [((.inr E' : Key), V.bl true)])) = HA
    have sA : Same H1 HA := by
      rw [← hA]
      exact Same.mut (Same.new ne) ne
    have dA : DL HA pe [(E', .bool true)] := by
      rw [← hA]
      exact ⟨_, upd_same, .cons ⟨rfl, .bl true⟩ .nil⟩
    have kA : KeysIn (E' :: names T) [(E', .bool true)] := ⟨by simp, fun k hk => by
      have : k ∈ ([(E', PyData.bool true)] : Gd).map (·.1) := look_isSome.mp hk
      rw [List.mem_singleton.mp this]
      exact List.mem_cons_self⟩
    clear hA
    have npe : p ≠ pe := by
      obtain ⟨_, h1, _⟩ := dp
      exact ne_of_none h1 ne
    have neH : H pe = none := s1.free ne
    refine ⟨v, rfl, T, v, rfl, iv.mono (.same (s1.trans sA)), hz, fun v2 H2 s2 _ i2 => ?_⟩
    refine forE (ds := names T) (enc := PyData.str) i2 (fun i σ H' => ∃ y3 y4 y5 y6 gd, σ = [some v, some (.ref p), some (.ref pe), y3, y4, y5, y6] ∧ Same H H' ∧ KT H2 H' ∧ DL H' p (T.map fun r => (r.1, .str r.2.1)) ∧ DL H' pe gd ∧ KeysIn (E' :: names T) gd ∧ (gd.lookup E').isSome = true)
      ⟨none, none, none, none, _, rfl, (s1.trans sA).trans s2, KT.refl _, (dp.same sA).same s2, dA.same s2, kA, by simp⟩ (fun i σ H' h => by
      obtain ⟨_, _, _, _, _, _, _, k, _⟩ := h
      exact k) ?_ ?_
    · rintro i nm t x σ H' e ⟨y3, y4, y5, y6, gd, rfl, sm, kt, e1, e2, kin, hE⟩ nt ix
      have hnm : nm ∈ names T := List.mem_of_getElem? e
      have sT : Same H' (upd H' t (.tup [.int (i : Nat), x])) := Same.new nt
      refine g_tup2 ix fun a b ia ib => ?_
      rw [ia.iinv, ib.sinv]
      generalize upd H' t (.tup [.int (i : Nat), x]) = HB at sT
      replace e1 := e1.same sT
      replace e2 := e2.same sT
      replace sm := sm.trans sT
      replace kt := kt.trans (.same sT)
      -- way = {}; here = name
      intro pw nw
      have npw : p ≠ pw := by
        obtain ⟨_, h1, _⟩ := e1
        exact ne_of_none h1 nw
      have nepw : pe ≠ pw := by
        obtain ⟨_, h1, _⟩ := e2
        exact ne_of_none h1 nw
      have nwH : H pw = none := sm.free nw
      refine ⟨_, rfl, ?_⟩
      let Inv : Nat → L2.St → Hp → Prop := fun m σ' H'' => ∃ (here : Str) (gw : Gd), σ' = [some v, some (.ref p), some (.ref pe), some (.int (i : Nat)), some (.str nm), some (.ref pw), some (.str here)] ∧ Same H H'' ∧ KT H2 H'' ∧ DL H'' p (T.map fun r => (r.1, .str r.2.1)) ∧ DL H'' pe gd ∧ DL H'' pw gw ∧
        (gw.map (·.1)).Nodup ∧ (∀ k, (gw.lookup k).isSome = true → k ∈ names T ∧ (ways T here).length < (ways T k).length) ∧ (here = E' ∨ here ∈ names T) ∧ m = (ways T here).length
      refine ⟨Inv, ⟨(ways T nm).length, nm, [], rfl, Same.mut sm nwH, kt.trans (.new nw), e1.other npw (.new nw), e2.other nepw (.new nw), ⟨[], upd_same, .nil⟩, by simp, (fun k hk => by cases hk), .inr hnm, rfl⟩, ?_⟩
      rintro m σ' H3 ⟨here, gw, rfl, sm3, kt3, f1, f2, f3, nd3, hk3, hin, rfl⟩
      have hnw : gw.lookup here = none := by
        cases z : gw.lookup here with
        | none => rfl
        | some d => exact absurd (hk3 here (by rw [z]; rfl)).2 (Nat.lt_irrefl _)
      have hkin : KeysIn (names T) gw := ⟨nd3, fun k hk => (hk3 k hk).1⟩
      have hlw : gw.length ≤ 20 := by
        have := hkin.len
        rw [names_len] at this
        exact Nat.le_trans this ok.len
      refine ⟨_, rfl, _, rfl, r_in f2 (fun miss => ?_) (fun d v' there iv' => ?_)⟩
      · -- not yet ended
        refine ⟨_, rfl, iteT ?_⟩
        refine ⟨_, rfl, _, rfl, r_in f3 (fun _ => ?_) (fun d v' there _ => by rw [hnw] at there; cases there)⟩
        refine ⟨_, rfl, iteT ⟨fun σ'' H'' => ∃ m', m' < (ways T here).length ∧ Inv m' σ'' H'', fun _ _ h => h, ?_⟩⟩
        have hne : here ≠ E' := fun z => by
          rw [z] at miss
          rw [miss] at hE
          cases hE
        have hn : here ∈ names T := hin.resolve_left hne
        have hw := ok.ways_cons hn
        refine ⟨_, rfl, _, rfl, r_put f3 (by omega) (.bl true) fun kvs kvs' hk dl' => ?_⟩
        have kk : KT H3 (upd H3 pw (.dK kvs')) := .dk hk
        have g1 := f1.other npw kk
        refine ⟨_, rfl, _, rfl, r_get g1 (par_look ok hn) fun v3 i3 => ?_⟩
        rw [i3.sinv]
        refine ⟨(ways T (par T here)).length, by rw [hw, List.length_cons]; exact Nat.lt_succ_self _, par T here, gput gw here (.bool true), rfl, Same.mut sm3 nwH, kt3.trans kk, g1, f2.other nepw kk, dl', ?_, fun k hk => ?_, ok.pin hn, rfl⟩
        · exact (hkin.put hn).1
        · rw [gput_look] at hk
          by_cases ek : k = here
          · rw [ek, hw, List.length_cons]
            exact ⟨hn, Nat.lt_succ_self _⟩
          · rw [if_neg ek] at hk
            have := hk3 k hk
            rw [hw, List.length_cons] at this
            exact ⟨this.1, by omega⟩
      · -- ended
        refine ⟨_, rfl, iteF (iteF ?_)⟩
        refine ⟨_, rfl, _, rfl, r_in f2 (fun miss => by rw [there] at miss; cases miss) (fun _ _ _ _ => ?_)⟩
        refine ⟨_, rfl, iteF ?_⟩
        obtain ⟨ke, he, ie⟩ := id f2
        obtain ⟨kw, hw, iw⟩ := id f3
        have l1 := kin.len
        rw [List.length_cons, names_len] at l1
        have l2 := ok.len
        have kk : KT H3 (upd H3 pe (.dK (mergeK ke kw))) := .dk he
        refine ⟨_, rfl, .inr (.inr (.inl ⟨rfl, .inl ⟨_, he⟩⟩)), _, rfl, pe, pw, ke, kw, rfl, rfl, nepw, he, hw, by rw [ie.len, iw.len]; omega, ?_⟩
        have gm : KeysIn (E' :: names T) (gmerge gd gw) := kin.merge fun e' he' => List.mem_cons_of_mem _ (hkin.2 _ (look_isSome.mpr (List.mem_map_of_mem he')))
        exact ⟨_, _, _, _, gmerge gd gw, rfl, Same.mut sm3 neH, kt3.trans kk, f1.other npe kk, ⟨_, upd_same, (KvI.merge iw ie).mono kk⟩, gm, (gmerge_keys gw gd E').mpr (.inl hE)⟩
    · rintro σ H' ⟨y3, y4, y5, y6, gd, rfl, sm, _⟩
      exact q _ sm
def sp_tree_fault : Sp := fun vs H Q _ => ∃ (T : List Row) (v : V), vs = [v] ∧ Im H v (dTree T) ∧ TreeFit T ∧ ∀ H', Same H H' → Q .non H'
theorem ok_tree_fault (Tx : Txt mg) (F_is_folder : OkF P w K mg base "is_folder" ["thing"] 3 sp_is_folder) (F_first_unparented : OkF P w K mg base "first_unparented" ["tree"] 2 sp_first_unparented)
    (F_first_ringed : OkF P w K mg base "first_ringed" ["tree"] 2 sp_first_ringed) (hf : Has K mg "tree_fault" s_tree_fault) : OkF P w K mg base "tree_fault" ["thing"] 4 sp_tree_fault := by
  refine Has.ok hf sc_tree_fault (fun _ _ _ _ _ _ us hl => match us, hl with | [_], _ => rfl) (fun vs H Q E h => ?_) (fun f cdv A outer s H vs Q E hr h => ?_)
  · obtain ⟨T, v, rfl, _⟩ := h
    rfl
  · obtain ⟨T, v, rfl, iv, fit, q⟩ := h
    have ok := fit.ok
    have hu := hu_of hr
    refine ⟨_, (pss_cons (ps_if (PW.pt (pw_or (pt_not (pt_val (pe_isi_tuple Tx (pv 0)))) (pw_or1 (pt_cmpR op_eq (pe_callB call_len_seq (by rfl) Tx.b_len PySem.boot_len (pa_cons (pv 0) pa_nil)) pe_int (nomark _))))) (pss_one (ps_ret (pe_tup (pa_cons pe_str (pa_cons (pe_un un_neg pe_int) pa_nil))))) pss_nil)
  (pss_cons (ps_for PassesOwn.never rfl (pi_enumT (by rfl) Tx.b_enumerate (pa_cons (pv 0) pa_nil)) (pg_tup rfl (pgs_cons (pg_name (i := 1) sc_tree_fault.nd rfl (.inl rfl)) (pgs_cons (pg_name (i := 2) sc_tree_fault.nd rfl (.inl rfl)) pgs_nil))) (pss_one (ps_if (PW.pt (pw_or (pt_not (pt_val (pe_c F_is_folder (hr.mono (by decide)) (pa_cons (pv 2) pa_nil)))) (pw_or1 (PW.pt (pw_and (pt_cmpR op_gt (pv 1) pe_int (nomark _)) (pw_and1 (pt_cmpR op_le_str (pe_ix (show IxR _ (rIxT K) from ix_tup) (pv 2) pe_int (fun _ _ => rfl)) (pe_ix (show IxR _ (rIxT K) from ix_tup) (pe_ix (show IxR _ (rIxT K) from ix_tup) (pv 0) (pe_op op_sub (pv 1) pe_int) (fun _ _ => rfl)) pe_int (fun _ _ => rfl)) (nomark _)))))))) (pss_one (ps_ret (pe_tup (pa_cons pe_str (pa_cons (pv 1) pa_nil))))) pss_nil)))
  (pss_cons (ps_set (i := 1) sc_tree_fault.nd rfl (.inl rfl) (pe_c F_first_unparented (hr.mono (by decide)) (pa_cons (pv 0) pa_nil)))
  (pss_cons (ps_if (pt_cmp (pc_notN (pv 1))) (pss_one (ps_ret (pe_tup (pa_cons pe_str (pa_cons (pv 1) pa_nil))))) pss_nil)
  (pss_cons (ps_set (i := 1) sc_tree_fault.nd rfl (.inl rfl) (pe_c F_first_ringed (hr.mono (by decide)) (pa_cons (pv 0) pa_nil)))
  (pss_one (ps_ret (pe_ifExp (pt_cmp (pc_notN (pv 1))) (pe_tup (pa_cons pe_str (pa_cons (pv 1) pa_nil))) pe_non)))))))), ?_⟩
    refine ⟨_, rfl, _, _, iv, kb_tt, _, rfl, iteF ?_⟩
    obtain ⟨a, xs, ea, hT, hA⟩ := id iv.tinv
    refine ⟨_, rfl, a, xs, by rw [ea], .inr (.inl hT), rfl, _, rfl, ?_⟩
    have hlen : xs.length = T.length := by rw [hA.len, List.length_map]
    have hne : T.length ≠ 0 := fun z => ok.ne (List.length_eq_zero_iff.mp z)
    refine iteN (decide_eq_false fun z => ?_) ?_
    · have := V.int.inj z
      omega
    refine ⟨v, rfl, forE (ds := T) (enc := dRow) iv (fun i σ H' => ∃ y1 y2, σ = [some v, y1, y2] ∧ Same H H') ⟨none, none, rfl, Same.refl _⟩ (fun i σ H' h => by
      obtain ⟨_, _, _, k⟩ := h
      exact .same k) ?_ ?_⟩
    · rintro i r t x σ H' e ⟨y1, y2, rfl, sm⟩ nt ix
      have hr : r ∈ T := List.mem_of_getElem? e
      have sT : Same H' (upd H' t (.tup [.int (i : Nat), x])) := Same.new nt
      refine g_tup2 ix fun a b ia ib => ?_
      rw [ia.iinv]
      generalize upd H' t (.tup [.int (i : Nat), x]) = HB at sT ib
      refine ⟨b, rfl, b, r, rfl, ib, fit.row r hr, fun H3 s3 => ⟨_, rfl, iteF ?_⟩⟩
      have s03 := (sm.trans sT).trans s3
      refine ⟨_, rfl, _, _, rfl, rfl, _, rfl, ?_⟩
      by_cases hi : 0 < i
      · refine iteP (decide_eq_true (by omega)) ?_
        have hi1 : i - 1 < T.length := by
          have := (List.getElem?_eq_some_iff.mp e).1
          omega
        have hprev : T[i - 1]? = some T[i - 1] := List.getElem?_eq_getElem hi1
        refine ⟨b, rfl, tCi (r_ixT (i := 0) (ib.mono (.same s3)) rfl rfl fun y iy => ?_)⟩
        rw [iy.sinv]
        refine ⟨v, rfl, _, rfl, _, _, rfl, rfl, ?_⟩
        refine r_ixT (i := i - 1) (d := dRow T[i - 1]) (iv.mono (.same s03)) (by omega) (by rw [List.getElem?_map, hprev]; rfl) fun z iz => ?_
        refine tCi (r_ixT (i := 0) iz rfl rfl fun z2 iz2 => ?_)
        rw [iz2.sinv]
        refine ⟨_, _, rfl, rfl, _, rfl, iteN ?_ ⟨_, _, rfl, s03⟩⟩
        have := fit.asc (i - 1) _ r hprev (by rw [Nat.sub_add_cancel hi]; exact e)
        rw [decide_eq_true this]
        rfl
      · refine iteN (decide_eq_false (by omega)) ?_
        exact iteF ⟨_, _, rfl, s03⟩
    · rintro σ H' ⟨y1, y2, rfl, sm⟩
      refine ⟨v, rfl, T, v, rfl, iv.mono (.same sm), ok, fun H1 s1 => ?_⟩
      refine ⟨_, rfl, _, rfl, iteF ?_⟩
      refine ⟨v, rfl, T, v, rfl, iv.mono (.same (sm.trans s1)), ok, fun H2 s2 => ?_⟩
      refine ⟨_, rfl, _, rfl, iteF ?_⟩
      exact q _ ((sm.trans s1).trans s2)
def sp_stand_fault : Sp := fun vs H Q _ => ∃ (T : List Row) (s : List Int) (v u : V), vs = [v, u] ∧ Im H v (dTree T) ∧ Im H u (dInts s) ∧ TreeOk T ∧ T.length = s.length ∧ (∀ i, i ∈ s → 0 ≤ i) ∧ (∀ f, f ∈ names T → use T s f ≤ room T f) ∧ ∀ H', Same H H' → Q .non H'
theorem ok_stand_fault (Tx : Txt mg) (F_is_number : OkF P w K mg base "is_number" ["thing"] 2 sp_is_number) (F_frees_by : OkF P w K mg base "frees_by" ["tree", "counts"] 4 sp_frees_by) (F_names_in : OkF P w K mg base "names_in" ["tree"] 1 sp_names_in)
    (hf : Has K mg "stand_fault" s_stand_fault) : OkF P w K mg base "stand_fault" ["tree", "thing"] 5 sp_stand_fault := by
  refine Has.ok hf sc_stand_fault (fun _ _ _ _ _ _ us hl => match us, hl with | [_, _], _ => rfl) (fun vs H Q E h => ?_) (fun f cdv A outer s H vs Q E hr h => ?_)
  · obtain ⟨T, s, v, u, rfl, _⟩ := h
    rfl
  · obtain ⟨T, s, v, u, rfl, iv, iu, ok, hl, hpos, hfit, q⟩ := h
    have hu := hu_of hr
    have hz : T.length ≤ 1000 := Nat.le_trans ok.len (by decide)
    refine ⟨_, (pss_cons (ps_if (PW.pt (pw_or (pt_not (pt_val (pe_isi_tuple Tx (pv 1)))) (pw_or1 (pt_cmpR op_ne (pe_callB call_len_seq (by rfl) Tx.b_len PySem.boot_len (pa_cons (pv 1) pa_nil)) (pe_callB call_len_seq (by rfl) Tx.b_len PySem.boot_len (pa_cons (pv 0) pa_nil)) (nomark _))))) (pss_one (ps_ret (pe_tup (pa_cons pe_str (pa_cons (pe_un un_neg pe_int) pa_nil))))) pss_nil)
  (pss_cons (ps_for PassesOwn.never rfl (pi_enumT (by rfl) Tx.b_enumerate (pa_cons (pv 1) pa_nil)) (pg_tup rfl (pgs_cons (pg_name (i := 2) sc_stand_fault.nd rfl (.inl rfl)) (pgs_cons (pg_name (i := 3) sc_stand_fault.nd rfl (.inl rfl)) pgs_nil))) (pss_one (ps_if (pt_not (pt_val (pe_c F_is_number (hr.mono (by decide)) (pa_cons (pv 3) pa_nil)))) (pss_one (ps_ret (pe_tup (pa_cons pe_str (pa_cons (pv 2) pa_nil))))) pss_nil)))
  (pss_cons (ps_set (i := 4) sc_stand_fault.nd rfl (.inr rfl) (pe_c F_frees_by (hr.mono (by decide)) (pa_cons (pv 0) (pa_cons (pv 1) pa_nil))))
  (pss_cons (ps_setLc (i := 5) (own := [("folder", 6)]) (g := (gName 6)) rfl sc_stand_fault.nd rfl rfl (sw_true rfl rfl rfl (by decide +kernel)) (pi_tup (pe_c F_names_in (hr.mono (by decide)) (pa_cons (pv 0) pa_nil))) (blkOk_by (own := [("folder", 6)]) (N := N_stand_fault) (sc := defScope s_stand_fault) (by decide +kernel)) (fun _ _ _ _ _ => (pg_name (i := 6) sc_stand_fault.nd rfl (.inl rfl))) (fun _ _ _ _ _ => pts_one (pt_cmpR op_lt (pe_dget hu (pv 4) (pv 6) (fun _ _ => rfl)) pe_int (nomark _))) (fun _ _ _ _ _ => (pv 6)))
  (pss_one (ps_ret (pe_ifExp (pt_cmpR op_gt (pe_callB call_len_seq (by rfl) Tx.b_len PySem.boot_len (pa_cons (pv 5) pa_nil)) pe_int (nomark _)) (pe_tup (pa_cons pe_str (pa_cons (pe_ix (show IxR _ (rIxL K) from ix_list) (pv 5) pe_int (fun _ _ => rfl)) pa_nil))) pe_non))))))), ?_⟩
    refine ⟨_, rfl, _, _, iu, kb_tt, _, rfl, iteF ?_⟩
    obtain ⟨a, xs, ea, hT, hA⟩ := id iv.tinv
    obtain ⟨b, ys, eb, hT2, hB⟩ := id iu.tinv
    have l1 : xs.length = T.length := by rw [hA.len, List.length_map]
    have l2 : ys.length = s.length := by rw [hB.len, List.length_map]
    refine ⟨_, rfl, b, ys, by rw [eb], .inr (.inl hT2), _, rfl, a, xs, by rw [ea], .inr (.inl hT), rfl, _, rfl, ?_⟩
    have e0 : (!decide (V.int (ys.length : Int) = V.int (xs.length : Int))) = false := by
      rw [l1, l2, hl, decide_eq_true rfl]
      rfl
    refine iteN e0 ?_
    refine ⟨u, rfl, forE (ds := s) (enc := PyData.int) iu (fun i σ H' => ∃ y2 y3, σ = [some v, some u, y2, y3, none, none, none] ∧ Same H H') ⟨none, none, rfl, Same.refl _⟩ (fun i σ H' h => by
      obtain ⟨_, _, _, k⟩ := h
      exact .same k) ?_ ?_⟩
    · rintro i c t x σ H' e ⟨y1, y2, rfl, sm⟩ nt ix
      have sT : Same H' (upd H' t (.tup [.int (i : Nat), x])) := Same.new nt
      refine g_tup2 ix fun a b ia ib => ?_
      rw [ia.iinv, ib.iinv]
      refine ⟨_, rfl, c, rfl, hpos c (List.mem_of_getElem? e), fun H3 s3 => ⟨_, rfl, iteF ?_⟩⟩
      exact ⟨_, _, rfl, (sm.trans sT).trans s3⟩
    · rintro σ H' ⟨y2, y3, rfl, sm⟩
      refine ⟨v, rfl, u, rfl, T, s, v, u, rfl, iv.mono (.same sm), iu.mono (.same sm), hl, ok, fun pf H2 s2 nf df => ?_⟩
      refine ⟨v, rfl, T, v, rfl, iv.mono (.same (sm.trans s2)), hz, fun v3 H3 s3 _ i3 => ?_⟩
      refine lcT (ds := names T) (enc := PyData.str) i3 (by rw [names_len]; exact hz) (fun _ => false) (fun n => .str n) ?_ ?_
      · intro n y H4 Qt Qf hn s4 iy ht hf'
        rw [iy.sinv]
        refine ⟨rfl, _, rfl, _, rfl, r_get ((df.same s3).same s4) (gInts_look hn) fun v5 i5 => ?_⟩
        rw [i5.iinv]
        have := hfit n hn
        exact ⟨_, _, rfl, rfl, _, rfl, iteN (decide_eq_false (by omega)) (hf' rfl _ (Same.refl _))⟩
      · intro D H4 acc nD s4 e4 i4
        have ef : (names T).filter (fun _ => false) = [] := by simp
        rw [ef] at i4
        cases i4
        refine ⟨_, rfl, D, [], rfl, .inl (.inl (.inl e4)), _, _, rfl, rfl, _, rfl, iteF ?_⟩
        exact q _ (((sm.trans s2).trans s3).trans s4)
end
end RW
end
section
set_option linter.all false
set_option maxRecDepth 100000
set_option autoImplicit false
set_option maxHeartbeats 1000000
/-! Defs whose last parameter has a default. -/
namespace RW
open PySem PySem.Spec PyProof.Rows L2
def HasD (K : PySem.W.Frag) (mg : Str → Option Value) (x : Str) (st : Stmt) (d : V) : Prop := ∃ (f : Addr) (fd : FuncData), mg x = some (.ref f) ∧ FunD K x x (defArgs st) (defBody st) (defScope st) [d] [] f fd
def OkD (P : Program) (w : World) (K : PySem.W.Frag) (mg : Str → Option Value) (base : Heap) (x : Str) (ps : List Str) (d : V) (k : Nat) (sp : Sp) : Prop :=
  ∃ (f : Addr) (fd : FuncData), mg x = some (.ref f) ∧ PySem.W.keepIn K (.ref f) = true ∧ (∃ ds, Vals [d] ds ∧ Binds K fd ps ds) ∧ (∃ ds, Vals ([] : List V) ds ∧ Binds K fd ps ds) ∧ FnOk P w K mg base CX0 k f fd ps sp
section
variable {P : Program} {w : World} {K : PySem.W.Frag} {mg : Str → Option Value} {base : Heap} {x : Str} {ps : List Str} {d : V} {k : Nat} {sp : Sp}
theorem OkD.full (h : OkD P w K mg base x ps d k sp) : OkF P w K mg base x ps k sp := by
  obtain ⟨f, fd, hm, hk, _, ⟨ds, r, hb⟩, F⟩ := h
  cases r
  exact ⟨f, fd, hm, hk, hb, F⟩
theorem HasD.ok {st : Stmt} {N : List Str} (F : HasD K mg x st d) (S : FnScope N ps (defScope st)) (n : Nat) (hn : n + 1 = ps.length)
    (h0 : ∀ (T : Addr) (kV doc pm : Value) (an : Option Addr) (cdv ct : Value) (us its : List Value), us.length = n → its.length = [d].length →
      ∃ j, bindArgs (PySem.W.fnOf x x (defArgs st) (defBody st) (defScope st) (.ref T) kV doc pm an cdv ct) ⟨us, []⟩ = seqItems? (.ref T) >>= j ∧ j (some its.toArray) = pure (ps.zip (us ++ its.drop 0)))
    (h1 : ∀ (T : Addr) (kV doc pm : Value) (an : Option Addr) (cdv ct : Value) (us its : List Value), us.length = n + 1 → its.length = [d].length →
      ∃ j, bindArgs (PySem.W.fnOf x x (defArgs st) (defBody st) (defScope st) (.ref T) kV doc pm an cdv ct) ⟨us, []⟩ = seqItems? (.ref T) >>= j ∧ j (some its.toArray) = pure (ps.zip (us ++ its.drop 1)))
    (len : ∀ vs H Q E, sp vs H Q E → vs.length = ps.length)
    (hbody : ∀ (f : Addr) (cdv : Value) (A : Around) (outer : List Env) (s : Shared) (H : Hp) (vs : List V) (Q : VK) (E : XK), Room k (A.deeper (envOfC x (defScope st) s.heap.objs.size f cdv)) → sp vs H Q E →
      ∃ t, PSs (cxOf CX0 P w K mg base N x (defScope st) f cdv A outer s H E) (defBody st) t ∧ t { nx := fun _ H' => Q .non H', rt := Q } (start N vs) H) : OkD P w K mg base x ps d (k + 1) sp := by
  obtain ⟨f, fd, hm, F⟩ := F
  exact ⟨f, fd, hm, F.kp, F.binds1 n 0 (by simp) (by simpa using hn) h0, F.binds1 (n + 1) 1 (by simp) (by simpa using hn) h1, F.ok S len fun cdv A outer s H vs Q E hr h => hbody f cdv A outer s H vs Q E hr h⟩
end
section
variable {X : Cx} {x : Str} {ps : List Str} {k : Nat} {sp : Sp} {e : Expr} {es : List Expr} {p pos : Pos} {t : TA} {d : V}
theorem pe_cd (F : OkD X.prog X.w X.K X.mg X.base x ps d k sp) (hr : Room k X.A) (ha : PA X (e :: es) t) (hg : Gl X x := by rfl) (hdb : (x == ("__debug__" : Str)) = false := by decide)
    (he : starEach (e :: es) X.env = (false, eval e X.env) :: starEach es X.env := by rfl) (hpl : (backTo pos (starEach es X.env)).any (·.1) = false := by rfl) : PE X (.Call (.Name x p) (e :: es) [] pos) (tCall sp [d] E0 t) := by
  obtain ⟨f, fd, hm, hk, ⟨ds, r, hb⟩, _, F⟩ := F
  exact pe_call F hr hg hm hk hb r pass0 ha hdb he hpl
end
end RW
end
section
set_option linter.all false
set_option maxRecDepth 100000
set_option autoImplicit false
set_option maxHeartbeats 1000000
/-! moves_fault, lot_fault, held_by, asked_fault, want.. -/
namespace RW
open PySem PySem.Spec PyProof.Rows L2
abbrev s_moves_fault : Stmt := topS 31
abbrev N_moves_fault : List Str := ["tree", "thing", "k", "move"]
theorem sc_moves_fault : FnScope N_moves_fault ["tree", "thing"] (defScope s_moves_fault) := ⟨rfl, rfl, rfl, by decide +kernel, rfl, by decide +kernel, by decide +kernel⟩
abbrev s_lot_fault : Stmt := topS 32
abbrev N_lot_fault : List Str := ["tree", "stand", "thing", "fault", "counts", "sources", "over", "source", "target", "folder"]
theorem sc_lot_fault : FnScope N_lot_fault ["tree", "stand", "thing"] (defScope s_lot_fault) := ⟨rfl, rfl, rfl, by decide +kernel, rfl, by decide +kernel, by decide +kernel⟩
abbrev s_held_by : Stmt := topS 34
abbrev N_held_by : List Str := ["tree", "stand", "asked", "held", "move", "folder"]
theorem sc_held_by : FnScope N_held_by ["tree", "stand", "asked"] (defScope s_held_by) := ⟨rfl, rfl, rfl, by decide +kernel, rfl, by decide +kernel, by decide +kernel⟩
abbrev s_asked_fault : Stmt := topS 35
abbrev N_asked_fault : List Str := ["tree", "stand", "lot", "thing", "k", "move", "held", "rooms", "over", "folder"]
theorem sc_asked_fault : FnScope N_asked_fault ["tree", "stand", "lot", "thing"] (defScope s_asked_fault) := ⟨rfl, rfl, rfl, by decide +kernel, rfl, by decide +kernel, by decide +kernel⟩
abbrev s_want : Stmt := topS 41
abbrev N_want : List Str := ["is_right", "word", "at"]
theorem sc_want : FnScope N_want ["is_right", "word", "at"] (defScope s_want) := ⟨rfl, rfl, rfl, by decide +kernel, rfl, by decide +kernel, by decide +kernel⟩
abbrev s_want_tree : Stmt := topS 42
abbrev N_want_tree : List Str := ["tree"]
theorem sc_want_tree : FnScope N_want_tree ["tree"] (defScope s_want_tree) := ⟨rfl, rfl, rfl, by decide +kernel, rfl, by decide +kernel, by decide +kernel⟩
abbrev s_want_stand : Stmt := topS 43
abbrev N_want_stand : List Str := ["tree", "stand"]
theorem sc_want_stand : FnScope N_want_stand ["tree", "stand"] (defScope s_want_stand) := ⟨rfl, rfl, rfl, by decide +kernel, rfl, by decide +kernel, by decide +kernel⟩
abbrev s_want_lot : Stmt := topS 44
abbrev N_want_lot : List Str := ["tree", "stand", "lot"]
theorem sc_want_lot : FnScope N_want_lot ["tree", "stand", "lot"] (defScope s_want_lot) := ⟨rfl, rfl, rfl, by decide +kernel, rfl, by decide +kernel, by decide +kernel⟩
abbrev s_want_case : Stmt := topS 45
abbrev N_want_case : List Str := ["tree", "stand"]
theorem sc_want_case : FnScope N_want_case ["tree", "stand"] (defScope s_want_case) := ⟨rfl, rfl, rfl, by decide +kernel, rfl, by decide +kernel, by decide +kernel⟩
abbrev s_want_lots : Stmt := topS 46
abbrev N_want_lots : List Str := ["tree", "stand", "lot"]
theorem sc_want_lots : FnScope N_want_lots ["tree", "stand", "lot"] (defScope s_want_lots) := ⟨rfl, rfl, rfl, by decide +kernel, rfl, by decide +kernel, by decide +kernel⟩
abbrev s_want_asked : Stmt := topS 69
abbrev N_want_asked : List Str := ["tree", "stand", "lot", "asked"]
theorem sc_want_asked : FnScope N_want_asked ["tree", "stand", "lot", "asked"] (defScope s_want_asked) := ⟨rfl, rfl, rfl, by decide +kernel, rfl, by decide +kernel, by decide +kernel⟩

/-- moves in their order -/
def MvSorted (L : List (Str × Str)) : Prop := ∀ (k : Nat) a b, L[k]? = some a → L[k + 1]? = some b → mvLt b a = false
structure MovesOk (T : List Row) (L : List (Str × Str)) : Prop where
  mv : ∀ m, m ∈ L → MvOk T m
  nm : ∀ m, m ∈ L → MvN m
  asc : MvSorted L
  few : L.length ≤ 60
/-- a lot that lot_fault passes -/
structure LotOk (T : List Row) (s : List Int) (L : List (Str × Str)) : Prop where
  mo : MovesOk T L
  files : ∀ x, x ∈ names T → ((L.map (·.1)).count x : Int) ≤ cnt T s x
def gainN (T : List Row) (A : List (Str × Str)) (f : Str) : Int := (A.map fun m => if f ∈ ways T m.2 ∧ f ∉ ways T m.1 then (1 : Int) else 0).sum
/-- what a folder holds: its files and the places that are asked -/
def held (T : List Row) (s : List Int) (A : List (Str × Str)) (f : Str) : Int := use T s f + gainN T A f
structure AskOk (T : List Row) (s : List Int) (L A : List (Str × Str)) : Prop where
  mo : MovesOk T A
  sub : ∀ m, A.count m ≤ L.count m
  fit : ∀ f, f ∈ names T → held T s A f ≤ room T f
section
variable {P : Program} {w : World} {K : PySem.W.Frag} {mg : Str → Option Value} {base : Heap}
def sp_moves_fault : Sp := fun vs H Q _ => ∃ (T : List Row) (L : List (Str × Str)) (v u : V), vs = [v, u] ∧ Im H v (dTree T) ∧ Im H u (dMvs L) ∧ TreeOk T ∧ MovesOk T L ∧ ∀ H', Same H H' → Q .non H'
theorem ok_moves_fault (Tx : Txt mg) (F_is_move_of : OkF P w K mg base "is_move_of" ["tree", "thing"] 4 sp_is_move_of) (hf : Has K mg "moves_fault" s_moves_fault) : OkF P w K mg base "moves_fault" ["tree", "thing"] 5 sp_moves_fault := by
  refine Has.ok hf sc_moves_fault (fun _ _ _ _ _ _ us hl => match us, hl with | [_, _], _ => rfl) (fun vs H Q E h => ?_) (fun f cdv A outer s H vs Q E hr h => ?_)
  · obtain ⟨T, L, v, u, rfl, _⟩ := h
    rfl
  · obtain ⟨T, L, v, u, rfl, iv, iu, ok, mo, q⟩ := h
    have hu := hu_of hr
    have hu65 : (A.deeper (envOfC "moves_fault" (defScope s_moves_fault) s.heap.objs.size f cdv)).units + 65 < cLine := by
      have := hr.un
      omega
    refine ⟨_, (pss_cons (ps_if (pt_not (pt_val (pe_isi_tuple Tx (pv 1)))) (pss_one (ps_ret (pe_tup (pa_cons pe_str (pa_cons (pe_un un_neg pe_int) pa_nil))))) pss_nil)
  (pss_cons (ps_for PassesOwn.never rfl (pi_enumT (by rfl) Tx.b_enumerate (pa_cons (pv 1) pa_nil)) (pg_tup rfl (pgs_cons (pg_name (i := 2) sc_moves_fault.nd rfl (.inl rfl)) (pgs_cons (pg_name (i := 3) sc_moves_fault.nd rfl (.inl rfl)) pgs_nil))) (pss_one (ps_if (PW.pt (pw_or (pt_not (pt_val (pe_c F_is_move_of (hr.mono (by decide)) (pa_cons (pv 0) (pa_cons (pv 3) pa_nil))))) (pw_or1 (PW.pt (pw_and (pt_cmpR op_gt (pv 2) pe_int (nomark _)) (pw_and1 (pt_cmpR (op_ltM hu65) (pv 3) (pe_ix (show IxR _ (rIxT K) from ix_tup) (pv 1) (pe_op op_sub (pv 2) pe_int) (fun _ _ => rfl)) (nomark _)))))))) (pss_one (ps_ret (pe_tup (pa_cons pe_str (pa_cons (pv 2) pa_nil))))) pss_nil)))
  (pss_one (ps_ret pe_non)))), ?_⟩
    refine ⟨_, rfl, _, _, iu, kb_tt, _, rfl, iteF ?_⟩
    refine ⟨u, rfl, forE (ds := L) (enc := dMv) iu (fun i σ H' => ∃ y1 y2, σ = [some v, some u, y1, y2] ∧ Same H H') ⟨none, none, rfl, Same.refl _⟩ (fun i σ H' h => by
      obtain ⟨_, _, _, k⟩ := h
      exact .same k) ?_ ?_⟩
    · rintro i m t x σ H' e ⟨y1, y2, rfl, sm⟩ nt ix
      have hm : m ∈ L := List.mem_of_getElem? e
      have sT : Same H' (upd H' t (.tup [.int (i : Nat), x])) := Same.new nt
      refine g_tup2 ix fun a b ia ib => ?_
      rw [ia.iinv]
      generalize upd H' t (.tup [.int (i : Nat), x]) = HB at sT ib
      have sB := sm.trans sT
      refine ⟨v, rfl, b, rfl, T, v, b, m, rfl, iv.mono (.same sB), ib, ok, mo.mv m hm, mo.nm m hm, fun H3 s3 => ⟨_, rfl, iteF ?_⟩⟩
      have s03 := sB.trans s3
      refine ⟨_, rfl, _, _, rfl, rfl, _, rfl, ?_⟩
      by_cases hi : 0 < i
      · refine iteP (decide_eq_true (by omega)) ?_
        have hi1 : i - 1 < L.length := by
          have := (List.getElem?_eq_some_iff.mp e).1
          omega
        have hprev : L[i - 1]? = some L[i - 1] := List.getElem?_eq_getElem hi1
        refine ⟨b, rfl, u, rfl, _, rfl, _, _, rfl, rfl, ?_⟩
        refine r_ixT (i := i - 1) (d := dMv L[i - 1]) (iu.mono (.same s03)) (by omega) (by rw [List.getElem?_map, hprev]; rfl) fun z iz => ?_
        refine ⟨m, L[i - 1], ib.mono (.same s3), iz, _, rfl, iteN ?_ ⟨_, _, rfl, s03⟩⟩
        exact mo.asc (i - 1) _ m hprev (by rw [Nat.sub_add_cancel hi]; exact e)
      · refine iteN (decide_eq_false (by omega)) ?_
        exact iteF ⟨_, _, rfl, s03⟩
    · rintro σ H' ⟨y1, y2, rfl, sm⟩
      exact q _ sm
theorem counts_look {T : List Row} {s : List Int} (hl : T.length = s.length) {x : Str} (hx : x ∈ names T) : (((names T).zip s).map fun d => (d.1, PyData.int d.2)).lookup x = some (.int (cnt T s x)) := by
  have hl' : (names T).length = s.length := by rw [names_len]; exact hl
  obtain ⟨i, e⟩ := zip_look hl' hx
  unfold cnt
  rw [e]
  have gen : ∀ l : List (Str × Int), l.lookup x = some i → (l.map fun d => (d.1, PyData.int d.2)).lookup x = some (.int i) := by
    intro l
    induction l with
    | nil => intro h; cases h
    | cons a l ih =>
      rw [List.map_cons, List.lookup_cons, List.lookup_cons]
      by_cases e : x = a.1
      · have z : (x == a.1) = true := by simpa using e
        rw [z]
        intro h
        cases h
        rfl
      · have z : (x == a.1) = false := by simpa using e
        rw [z]
        exact ih
  exact gen _ e
def sp_lot_fault : Sp := fun vs H Q _ => ∃ (T : List Row) (s : List Int) (L : List (Str × Str)) (v u x : V), vs = [v, u, x] ∧ Im H v (dTree T) ∧ Im H u (dInts s) ∧ Im H x (dMvs L) ∧ TreeOk T ∧ T.length = s.length ∧ LotOk T s L ∧ ∀ H', Same H H' → Q .non H'
theorem ok_lot_fault (Tx : Txt mg) (F_moves_fault : OkF P w K mg base "moves_fault" ["tree", "thing"] 5 sp_moves_fault) (F_counts_by : OkF P w K mg base "counts_by" ["tree", "counts"] 2 sp_counts_by) (F_names_in : OkF P w K mg base "names_in" ["tree"] 1 sp_names_in)
    (hf : Has K mg "lot_fault" s_lot_fault) : OkF P w K mg base "lot_fault" ["tree", "stand", "thing"] 6 sp_lot_fault := by
  refine Has.ok hf sc_lot_fault (fun _ _ _ _ _ _ us hl => match us, hl with | [_, _, _], _ => rfl) (fun vs H Q E h => ?_) (fun f cdv A outer sh H vs Q E hr h => ?_)
  · obtain ⟨T, s, L, v, u, x, rfl, _⟩ := h
    rfl
  · obtain ⟨T, s, L, v, u, x, rfl, iv, iu, ix, ok, hl, lo, q⟩ := h
    have hu := hu_of hr
    have hu65 : (A.deeper (envOfC "lot_fault" (defScope s_lot_fault) sh.heap.objs.size f cdv)).units + 65 < cLine := by
      have := hr.un
      omega
    have hz : T.length ≤ 1000 := Nat.le_trans ok.len (by decide)
    refine ⟨_, (pss_cons (ps_set (i := 3) sc_lot_fault.nd rfl (.inl rfl) (pe_c F_moves_fault (hr.mono (by decide)) (pa_cons (pv 0) (pa_cons (pv 2) pa_nil))))
  (pss_cons (ps_if (pt_cmp (pc_notN (pv 3))) (pss_one (ps_ret (pv 3))) pss_nil)
  (pss_cons (ps_set (i := 4) sc_lot_fault.nd rfl (.inr rfl) (pe_c F_counts_by (hr.mono (by decide)) (pa_cons (pv 0) (pa_cons (pv 1) pa_nil))))
  (pss_cons (ps_set (i := 5) sc_lot_fault.nd rfl (.inr rfl) (pe_lc (own := [("source", 7), ("target", 8)]) (g := (gTup K 2 (gCons (gName 7) (gCons (gName 8) gNil)))) (tt := tYes) rfl sc_lot_fault.nd (pi_tup (pv 2)) (blkOk_by (own := [("source", 7), ("target", 8)]) (N := N_lot_fault) (sc := defScope s_lot_fault) (by decide +kernel)) (fun _ _ _ _ _ => (pg_tup rfl (pgs_cons (pg_name (i := 7) sc_lot_fault.nd rfl (.inl rfl)) (pgs_cons (pg_name (i := 8) sc_lot_fault.nd rfl (.inl rfl)) pgs_nil)))) (fun _ _ _ _ _ => pts_nil) (fun _ _ _ _ _ => (pv 7))))
  (pss_cons (ps_setLc (i := 6) (own := [("folder", 9)]) (g := (gName 9)) rfl sc_lot_fault.nd rfl rfl (sw_true rfl rfl rfl (by decide +kernel)) (pi_tup (pe_c F_names_in (hr.mono (by decide)) (pa_cons (pv 0) pa_nil))) (blkOk_by (own := [("folder", 9)]) (N := N_lot_fault) (sc := defScope s_lot_fault) (by decide +kernel)) (fun _ _ _ _ _ => (pg_name (i := 9) sc_lot_fault.nd rfl (.inl rfl))) (fun _ _ _ _ _ => pts_one (pt_cmpR op_gt (pe_bmK K rfl PySem.F.plainAttrs_list PySem.F.slot_list_count PySem.F.type_list_count (mt_lcountS hu65) (pv 5) (pa_cons (pv 9) pa_nil)) (pe_dget hu (pv 4) (pv 9) (fun _ _ => rfl)) (nomark _))) (fun _ _ _ _ _ => (pv 9)))
  (pss_one (ps_ret (pe_ifExp (pt_cmpR op_gt (pe_callB call_len_seq (by rfl) Tx.b_len PySem.boot_len (pa_cons (pv 6) pa_nil)) pe_int (nomark _)) (pe_tup (pa_cons pe_str (pa_cons (pe_ix (show IxR _ (rIxL K) from ix_list) (pv 6) pe_int (fun _ _ => rfl)) pa_nil))) pe_non)))))))), ?_⟩
    refine ⟨v, rfl, x, rfl, T, L, v, x, rfl, iv, ix, ok, lo.mo, fun H1 s1 => ?_⟩
    refine ⟨_, rfl, _, rfl, iteF ?_⟩
    refine ⟨v, rfl, u, rfl, T, s, v, u, rfl, iv.mono (.same s1), iu.mono (.same s1), hl, hz, ok.nd, fun pc H2 s2 np dc => ?_⟩
    have s02 := s1.trans s2
    refine ⟨x, rfl, lcT (ds := L) (enc := dMv) (ix.mono (.same s02)) (Nat.le_trans lo.mo.few (by decide)) (fun _ => true) (fun m => .str m.1) ?_ ?_⟩
    · intro m y H3 Qt Qf hm s3 iy ht _
      exact g_tup2 iy fun a b ia ib => ⟨rfl, _, rfl, ht rfl _ _ (Same.refl _) ia⟩
    · intro D H3 acc nD s3 e i3
      rw [filter_true] at i3
      have ee : (L.map fun m => PyData.str m.1) = (L.map (·.1)).map .str := by
        rw [List.map_map]
        rfl
      rw [ee] at i3
      have e2 := i3.strs
      subst e2
      refine ⟨v, rfl, T, v, rfl, iv.mono (.same (s02.trans s3)), hz, fun v3 H4 s4 _ i4 => ?_⟩
      have e4 := s4 _ _ e
      refine lcT (ds := names T) (enc := PyData.str) i4 (by rw [names_len]; exact hz) (fun _ => false) (fun n => .str n) ?_ ?_
      · intro n y H5 Qt Qf hn s5 iy ht hf'
        rw [iy.sinv]
        refine ⟨rfl, _, rfl, .inl ⟨rfl, _, .inl (.inl (s5 _ _ e4))⟩, _, rfl, D, L.map (·.1), n, rfl, rfl, s5 _ _ e4, ?_⟩
        refine ⟨_, rfl, _, rfl, r_get (((dc.same s3).same s4).same s5) (counts_look hl hn) fun v5 i5 => ?_⟩
        rw [i5.iinv]
        have := lo.files n hn
        exact ⟨_, _, rfl, rfl, _, rfl, iteN (decide_eq_false (by omega)) (hf' rfl _ (Same.refl _))⟩
      · intro D2 H5 acc nD2 s5 e5 i5
        have ef : (names T).filter (fun _ => false) = [] := by simp
        rw [ef] at i5
        cases i5
        refine ⟨_, rfl, D2, [], rfl, .inl (.inl (.inl e5)), _, _, rfl, rfl, _, rfl, iteF ?_⟩
        exact q _ (((s02.trans s3).trans s4).trans s5)
def sp_want : Sp := fun vs H Q _ => ∃ a b : V, vs = [.bl true, a, b] ∧ ∀ H', Same H H' → Q .non H'
theorem ok_want (hf : HasD K mg "want" s_want (.int (-1))) : OkD P w K mg base "want" ["is_right", "word", "at"] (.int (-1)) 1 sp_want := by
  refine HasD.ok hf sc_want 2 rfl (fun _ _ _ _ _ _ _ us its h1 h2 => match us, its, h1, h2 with | [_, _], [_], _, _ => ⟨_, rfl, rfl⟩) (fun _ _ _ _ _ _ _ us its h1 h2 => match us, its, h1, h2 with | [_, _, _], [_], _, _ => ⟨_, rfl, rfl⟩) (fun vs H Q E h => ?_) (fun f cdv A outer s H vs Q E hr h => ?_)
  · obtain ⟨a, b, rfl, _⟩ := h
    rfl
  · obtain ⟨a, b, rfl, q⟩ := h
    refine ⟨_, (pss_one (ps_if (pt_not (pt_val (pv 0))) (pss_one ps_never) pss_nil)), ?_⟩
    exact ⟨_, rfl, _, rfl, iteF (q _ (Same.refl _))⟩
end
end RW
end
section
set_option linter.all false
set_option maxRecDepth 100000
set_option autoImplicit false
set_option maxHeartbeats 1000000
/-! held_by, asked_fault, want_.. -/
namespace RW
open PySem PySem.Spec PyProof.Rows L2
section
variable {P : Program} {w : World} {K : PySem.W.Frag} {mg : Str → Option Value} {base : Heap}
def sp_held_by : Sp := fun vs H Q _ => ∃ (T : List Row) (s : List Int) (A : List (Str × Str)) (v u x : V), vs = [v, u, x] ∧ Im H v (dTree T) ∧ Im H u (dInts s) ∧ Im H x (dMvs A) ∧ T.length = s.length ∧ TreeOk T ∧ (∀ m, m ∈ A → MvOk T m) ∧
  ∀ p H', Same H H' → H p = none → DL H' p (gInts T (held T s A)) → Q (.ref p) H'
theorem ok_held_by (Tx : Txt mg) (F_uses_by : OkF P w K mg base "uses_by" ["tree", "counts"] 3 sp_uses_by) (F_entered_in : OkF P w K mg base "entered_in" ["tree", "move"] 3 sp_entered_in) (hf : Has K mg "held_by" s_held_by) :
    OkF P w K mg base "held_by" ["tree", "stand", "asked"] 4 sp_held_by := by
  refine Has.ok hf sc_held_by (fun _ _ _ _ _ _ us hl => match us, hl with | [_, _, _], _ => rfl) (fun vs H Q E h => ?_) (fun f cdv A outer sh H vs Q E hr h => ?_)
  · obtain ⟨T, s, A, v, u, x, rfl, _⟩ := h
    rfl
  · obtain ⟨T, s, L, v, u, x, rfl, iv, iu, ix, hl, ok, hm, q⟩ := h
    have hu := hu_of hr
    have hz : T.length ≤ 1000 := Nat.le_trans ok.len (by decide)
    refine ⟨_, (pss_cons (ps_set (i := 3) sc_held_by.nd rfl (.inl rfl) (pe_c F_uses_by (hr.mono (by decide)) (pa_cons (pv 0) (pa_cons (pv 1) pa_nil))))
  (pss_cons (ps_for PassesOwn.never rfl (pi_tup (pv 2)) (pg_name (i := 4) sc_held_by.nd rfl (.inl rfl)) (pss_one (ps_for PassesOwn.never rfl (pi_tup (pe_c F_entered_in (hr.mono (by decide)) (pa_cons (pv 0) (pa_cons (pv 4) pa_nil)))) (pg_name (i := 5) sc_held_by.nd rfl (.inl rfl)) (pss_one (ps_dput hu (pv 3) (pv 5) (pe_op op_add (pe_dget hu (pv 3) (pv 5) (fun _ _ => rfl)) pe_int) rfl)))))
  (pss_one (ps_ret (pv 3))))), ?_⟩
    refine ⟨v, rfl, u, rfl, T, s, v, u, rfl, iv, iu, hl, ok, fun p H1 s1 np dp => ?_⟩
    refine ⟨x, rfl, forT (ds := L) (enc := dMv) (ix.mono (.same s1)) (fun i σ H' => ∃ y4 y5, σ = [some v, some u, some x, some (.ref p), y4, y5] ∧ Same H H' ∧ KT H1 H' ∧ DL H' p (gInts T (held T s (L.take i)))) ⟨none, none, rfl, s1, KT.refl _, ?_⟩ (fun i σ H' h => by
      obtain ⟨_, _, _, _, k, _⟩ := h
      exact k) ?_ ?_⟩
    · have e : held T s (L.take 0) = use T s := by
        funext f
        unfold held gainN
        rw [List.take_zero, List.map_nil, List.sum_nil, Int.add_zero]
      rw [e]
      exact dp
    · rintro i m y σ H' e ⟨y4, y5, rfl, sm, kt, dl⟩ iy
      have hmi : m ∈ L := List.mem_of_getElem? e
      refine ⟨v, rfl, y, rfl, T, m, v, y, rfl, iv.mono (.same sm), iy, ok, hm m hmi, fun v3 H3 ys s3 i3 nd mem => ?_⟩
      refine forT (ds := ys) (enc := PyData.str) i3 (fun j σ' H4 => ∃ z5, σ' = [some v, some u, some x, some (.ref p), some y, z5] ∧ Same H H4 ∧ KT H1 H4 ∧ KT H3 H4 ∧ DL H4 p (gInts T fun f => held T s (L.take i) f + if f ∈ ys.take j then 1 else 0))
        ⟨_, rfl, sm.trans s3, kt.trans (.same s3), KT.refl _, ?_⟩ (fun j σ' H4 h => by
          obtain ⟨_, _, _, _, k, _⟩ := h
          exact k) ?_ ?_
      · have ee : (fun f => held T s (L.take i) f + if f ∈ ys.take 0 then 1 else 0) = held T s (L.take i) := by
          funext f
          rw [List.take_zero, if_neg (fun h => nomatch h), Int.add_zero]
        rw [ee]
        exact dl.same s3
      · rintro j fo x' σ' H4 ej ⟨z5, rfl, sm4, kt4, kt4', dl4⟩ ix'
        rw [ix'.sinv]
        have hfo : fo ∈ ys := List.mem_of_getElem? ej
        have hfn : fo ∈ names T := ok.ways_in ((mem fo).mp hfo).1
        have hnot : fo ∉ ys.take j := fun hmm => by
          have hj : j < ys.length := (List.getElem?_eq_some_iff.mp ej).1
          rw [← List.take_append_drop j ys, List.nodup_append] at nd
          refine nd.2.2 fo hmm fo ?_ rfl
          rw [List.drop_eq_getElem_cons hj, (List.getElem?_eq_some_iff.mp ej).2]
          exact List.mem_cons_self
        refine ⟨_, rfl, _, rfl, r_get dl4 (gInts_look hfn) fun v7 i7 => ?_⟩
        rw [i7.iinv]
        refine ⟨_, _, rfl, rfl, ?_⟩
        refine ⟨_, rfl, _, rfl, r_put dl4 (by rw [gInts_len]; exact hz) (.int _) fun kvs kvs' hk dl' => ?_⟩
        refine ⟨_, rfl, Same.mut sm4 np, kt4.trans (.dk hk), kt4'.trans (.dk hk), ?_⟩
        have hg : gput (gInts T fun f => held T s (L.take i) f + if f ∈ ys.take j then 1 else 0) fo (.int (held T s (L.take i) fo + (if fo ∈ ys.take j then 1 else 0) + 1)) = gInts T fun f => held T s (L.take i) f + if f ∈ ys.take (j + 1) then 1 else 0 := by
          unfold gInts
          rw [gput_map hfn]
          refine List.map_congr_left fun n _ => ?_
          have et : ys.take (j + 1) = ys.take j ++ [fo] := by rw [List.take_add_one, ej]; rfl
          by_cases e1 : n = fo
          · rw [if_pos e1, e1, if_neg hnot, et]
            dsimp only
            rw [if_pos (List.mem_append_right _ List.mem_cons_self), Int.add_zero]
          · rw [if_neg e1, et]
            have : n ∈ ys.take j ++ [fo] ↔ n ∈ ys.take j := by
              rw [List.mem_append, List.mem_singleton]
              exact ⟨fun h => h.resolve_right e1, .inl⟩
            simp only [this]
        rw [← hg]
        exact dl'
      · rintro σ' H4 ⟨z5, rfl, sm4, kt4, kt4', dl4⟩
        refine ⟨_, _, rfl, sm4, kt4, ?_⟩
        have ee : (fun f => held T s (L.take i) f + if f ∈ ys.take ys.length then 1 else 0) = held T s (L.take (i + 1)) := by
          funext f
          rw [List.take_length, List.take_add_one, e]
          unfold held gainN
          rw [List.map_append, List.sum_append]
          have e1 : (f ∈ ys) ↔ (f ∈ ways T m.2 ∧ f ∉ ways T m.1) := mem f
          simp only [e1]
          show _ = _ + (_ + ([if f ∈ ways T m.2 ∧ f ∉ ways T m.1 then (1 : Int) else 0] : List Int).sum)
          simp only [List.sum_cons, List.sum_nil]
          omega
        rw [ee] at dl4
        exact dl4
    · rintro σ H' ⟨y4, y5, rfl, sm, kt, dl⟩
      rw [List.take_length] at dl
      exact ⟨_, rfl, q p H' sm np dl⟩
def sp_asked_fault : Sp := fun vs H Q _ => ∃ (T : List Row) (s : List Int) (L A : List (Str × Str)) (v u x y : V), vs = [v, u, x, y] ∧ Im H v (dTree T) ∧ Im H u (dInts s) ∧ Im H x (dMvs L) ∧ Fz H x ∧ Im H y (dMvs A) ∧ TreeOk T ∧ T.length = s.length ∧ AskOk T s L A ∧ ∀ H', Same H H' → Q .non H'
theorem sIx_some (n k : Nat) (h : k ≤ n) : HT.sIx n n (some (k : Int)) = k := by
  rw [HT.sIx_nat]
  omega
theorem take_count {α : Type} [BEq α] [LawfulBEq α] {A : List α} {i : Nat} {m : α} (e : A[i]? = some m) : (A.take i).count m + 1 ≤ A.count m := by
  have hi : i < A.length := (List.getElem?_eq_some_iff.mp e).1
  have em : A[i] = m := (List.getElem?_eq_some_iff.mp e).2
  have h : A.count m = (A.take i).count m + (A.drop i).count m := by rw [← List.count_append, List.take_append_drop]
  rw [List.drop_eq_getElem_cons hi, em, List.count_cons_self] at h
  omega
theorem ok_asked_fault (Tx : Txt mg) (F_is_move_of : OkF P w K mg base "is_move_of" ["tree", "thing"] 4 sp_is_move_of) (F_held_by : OkF P w K mg base "held_by" ["tree", "stand", "asked"] 4 sp_held_by) (F_rooms_by : OkF P w K mg base "rooms_by" ["tree"] 1 sp_rooms_by)
    (F_names_in : OkF P w K mg base "names_in" ["tree"] 1 sp_names_in) (hf : Has K mg "asked_fault" s_asked_fault) : OkF P w K mg base "asked_fault" ["tree", "stand", "lot", "thing"] 5 sp_asked_fault := by
  refine Has.ok hf sc_asked_fault (fun _ _ _ _ _ _ us hl => match us, hl with | [_, _, _, _], _ => rfl) (fun vs H Q E h => ?_) (fun f cdv A outer sh H vs Q E hr h => ?_)
  · obtain ⟨T, s, L, A, v, u, x, y, rfl, _⟩ := h
    rfl
  · obtain ⟨T, s, L, B, v, u, x, y, rfl, iv, iu, ix, fx, iy, ok, hl, ao, q⟩ := h
    have hu := hu_of hr
    have hu65 : (A.deeper (envOfC "asked_fault" (defScope s_asked_fault) sh.heap.objs.size f cdv)).units + 65 < cLine := by
      have := hr.un
      omega
    have hz : T.length ≤ 1000 := Nat.le_trans ok.len (by decide)
    refine ⟨_, (pss_cons (ps_if (pt_not (pt_val (pe_isi_tuple Tx (pv 3)))) (pss_one (ps_ret (pe_tup (pa_cons pe_str (pa_cons (pe_un un_neg pe_int) pa_nil))))) pss_nil)
  (pss_cons (ps_for PassesOwn.never rfl (pi_enumT (by rfl) Tx.b_enumerate (pa_cons (pv 3) pa_nil)) (pg_tup rfl (pgs_cons (pg_name (i := 4) sc_asked_fault.nd rfl (.inl rfl)) (pgs_cons (pg_name (i := 5) sc_asked_fault.nd rfl (.inl rfl)) pgs_nil))) (pss_cons (ps_if (PW.pt (pw_or (pt_not (pt_val (pe_c F_is_move_of (hr.mono (by decide)) (pa_cons (pv 0) (pa_cons (pv 5) pa_nil))))) (pw_or1 (pt_cmpR op_ge (pe_bmT PySem.F.plainAttrs_tuple PySem.F.slot_tuple_count PySem.F.type_tuple_count (mt_countD hu65) (pe_slice (show SlR _ (rSlF K) from sl_tupF) (pv 3) po_none (po_some (pv 4))) (pa_cons (pv 5) pa_nil)) (pe_bmT PySem.F.plainAttrs_tuple PySem.F.slot_tuple_count PySem.F.type_tuple_count (mt_countD hu65) (pv 2) (pa_cons (pv 5) pa_nil)) (nomark _))))) (pss_one (ps_ret (pe_tup (pa_cons pe_str (pa_cons (pv 4) pa_nil))))) pss_nil)
  (pss_one (ps_if (PW.pt (pw_and (pt_cmpR op_gt (pv 4) pe_int (nomark _)) (pw_and1 (pt_cmpR (op_ltM hu65) (pv 5) (pe_ix (show IxR _ (rIxT K) from ix_tup) (pv 3) (pe_op op_sub (pv 4) pe_int) (fun _ _ => rfl)) (nomark _))))) (pss_one (ps_ret (pe_tup (pa_cons pe_str (pa_cons (pv 4) pa_nil))))) pss_nil))))
  (pss_cons (ps_asg (pe_tup (pa_cons (pe_c F_held_by (hr.mono (by decide)) (pa_cons (pv 0) (pa_cons (pv 1) (pa_cons (pv 3) pa_nil)))) (pa_cons (pe_c F_rooms_by (hr.mono (by decide)) (pa_cons (pv 0) pa_nil)) pa_nil))) (pg_tup rfl (pgs_cons (pg_name (i := 6) sc_asked_fault.nd rfl (.inr rfl)) (pgs_cons (pg_name (i := 7) sc_asked_fault.nd rfl (.inr rfl)) pgs_nil))))
  (pss_cons (ps_setLc (i := 8) (own := [("folder", 9)]) (g := (gName 9)) rfl sc_asked_fault.nd rfl rfl (sw_true rfl rfl rfl (by decide +kernel)) (pi_tup (pe_c F_names_in (hr.mono (by decide)) (pa_cons (pv 0) pa_nil))) (blkOk_by (own := [("folder", 9)]) (N := N_asked_fault) (sc := defScope s_asked_fault) (by decide +kernel)) (fun _ _ _ _ _ => (pg_name (i := 9) sc_asked_fault.nd rfl (.inl rfl))) (fun _ _ _ _ _ => pts_one (pt_cmpR op_gt (pe_dget hu (pv 6) (pv 9) (fun _ _ => rfl)) (pe_dget hu (pv 7) (pv 9) (fun _ _ => rfl)) (nomark _))) (fun _ _ _ _ _ => (pv 9)))
  (pss_one (ps_ret (pe_ifExp (pt_cmpR op_gt (pe_callB call_len_seq (by rfl) Tx.b_len PySem.boot_len (pa_cons (pv 8) pa_nil)) pe_int (nomark _)) (pe_tup (pa_cons pe_str (pa_cons (pe_ix (show IxR _ (rIxL K) from ix_list) (pv 8) pe_int (fun _ _ => rfl)) pa_nil))) pe_non))))))), ?_⟩
    refine ⟨_, rfl, _, _, iy, kb_tt, _, rfl, iteF ?_⟩
    refine ⟨y, rfl, forE (ds := B) (enc := dMv) iy (fun i σ H' => ∃ y4 y5, σ = [some v, some u, some x, some y, y4, y5, none, none, none, none] ∧ Same H H') ⟨none, none, rfl, Same.refl _⟩ (fun i σ H' h => by
      obtain ⟨_, _, _, k⟩ := h
      exact .same k) ?_ ?_⟩
    · rintro i m t z σ H' e ⟨y4, y5, rfl, sm⟩ nt im
      have hm : m ∈ B := List.mem_of_getElem? e
      have hi : i < B.length := (List.getElem?_eq_some_iff.mp e).1
      have sT : Same H' (upd H' t (.tup [.int (i : Nat), z])) := Same.new nt
      refine g_tup2 im fun a b ia ib => ?_
      rw [ia.iinv]
      generalize upd H' t (.tup [.int (i : Nat), z]) = HB at sT ib
      have sB := sm.trans sT
      refine ⟨v, rfl, b, rfl, T, v, b, m, rfl, iv.mono (.same sB), ib, ok, ao.mo.mv m hm, ao.mo.nm m hm, fun H3 s3 => ⟨_, rfl, iteF ?_⟩⟩
      have s03 := sB.trans s3
      obtain ⟨ay, xs, rfl, hT, hA⟩ := id iy.tinv
      have lx : xs.length = B.length := by rw [hA.len, List.length_map]
      refine ⟨_, rfl, _, rfl, _, rfl, ay, xs, rfl, .inl (hT.sm s03), ?_, fun p o np hd => ?_⟩
      · rintro ⟨_, h2⟩
        rw [sIx_some _ _ (by omega)] at h2
        omega
      have s4 : Same H3 (upd H3 p (.frz o (.tup (cutV xs none (some (i : Int)))))) := Same.new np
      have i4 : Im (upd H3 p (.frz o (.tup (cutV xs none (some (i : Int)))))) (.ref p) (dMvs (B.take i)) := by
        refine .tup (.inr ⟨o, upd_same⟩) ?_
        have e1 : cutV xs none (some (i : Int)) = xs.take i := by
          unfold cutV
          rw [sIx_some _ _ (by omega)]
          rfl
        have ia := ((hA.mono (.same s03)).mono (.same s4)).take i
        rw [← e1, ← List.map_take] at ia
        exact ia
      have f4 : Fz (upd H3 p (.frz o (.tup (cutV xs none (some (i : Int)))))) (.ref p) := ⟨p, o, _, rfl, upd_same, hd⟩
      generalize upd H3 p (.frz o (.tup (cutV xs none (some (i : Int))))) = H4 at s4 i4 f4
      have s04 := s03.trans s4
      have ib4 := (ib.mono (.same s3)).mono (.same s4)
      refine ⟨f4, b, rfl, B.take i, m, b, rfl, i4, ib4, ?_⟩
      refine ⟨_, rfl, fx.sm s04, b, rfl, L, m, b, rfl, ix.mono (.same s04), ib4, _, _, rfl, rfl, _, rfl, ?_⟩
      have c1 := take_count e
      have c2 := ao.sub m
      refine iteN (decide_eq_false (by omega)) ?_
      refine ⟨_, rfl, _, _, rfl, rfl, _, rfl, ?_⟩
      by_cases h0 : 0 < i
      · refine iteP (decide_eq_true (by omega)) ?_
        have hi1 : i - 1 < B.length := by omega
        have hprev : B[i - 1]? = some B[i - 1] := List.getElem?_eq_getElem hi1
        refine ⟨b, rfl, _, rfl, _, rfl, _, _, rfl, rfl, ?_⟩
        refine r_ixT (i := i - 1) (d := dMv B[i - 1]) (iy.mono (.same s04)) (by omega) (by rw [List.getElem?_map, hprev]; rfl) fun z iz => ?_
        refine ⟨m, B[i - 1], ib4, iz, _, rfl, iteN ?_ ⟨_, _, rfl, s04⟩⟩
        exact ao.mo.asc (i - 1) _ m hprev (by rw [Nat.sub_add_cancel h0]; exact e)
      · refine iteN (decide_eq_false (by omega)) ?_
        exact iteF ⟨_, _, rfl, s04⟩
    · rintro σ H' ⟨y4, y5, rfl, sm⟩
      refine ⟨v, rfl, u, rfl, y, rfl, T, s, B, v, u, y, rfl, iv.mono (.same sm), iu.mono (.same sm), iy.mono (.same sm), hl, ok, ao.mo.mv, fun ph H1 s1 nh dh => ?_⟩
      have s01 := sm.trans s1
      refine ⟨v, rfl, T, v, rfl, iv.mono (.same s01), hz, ok.nd, fun pr H2 s2 nr dr => ?_⟩
      rw [rooms_gd ok] at dr
      have s02 := s01.trans s2
      refine ⟨by show 2 ≤ sizeLine; decide, fun t nt => g_pair ?_⟩
      have sT : Same H2 (upd H2 t (.tup [.ref ph, .ref pr])) := Same.new nt
      generalize upd H2 t (.tup [.ref ph, .ref pr]) = H3 at sT
      have s03 := s02.trans sT
      refine ⟨v, rfl, T, v, rfl, iv.mono (.same s03), hz, fun v4 H4 s4 _ i4 => ?_⟩
      refine lcT (ds := names T) (enc := PyData.str) i4 (by rw [names_len]; exact hz) (fun _ => false) (fun n => .str n) ?_ ?_
      · intro n z H5 Qt Qf hn s5 iz ht hf'
        rw [iz.sinv]
        refine ⟨rfl, _, rfl, _, rfl, r_get ((((dh.same s2).same sT).same s4).same s5) (gInts_look hn) fun v5 i5 => ?_⟩
        rw [i5.iinv]
        refine ⟨_, rfl, _, rfl, r_get (((dr.same sT).same s4).same s5) (gInts_look hn) fun v6 i6 => ?_⟩
        rw [i6.iinv]
        have := ao.fit n hn
        exact ⟨_, _, rfl, rfl, _, rfl, iteN (decide_eq_false (by omega)) (hf' rfl _ (Same.refl _))⟩
      · intro D H5 acc nD s5 e5 i5
        have ef : (names T).filter (fun _ => false) = [] := by simp
        rw [ef] at i5
        cases i5
        refine ⟨_, rfl, D, [], rfl, .inl (.inl (.inl e5)), _, _, rfl, rfl, _, rfl, iteF ?_⟩
        exact q _ ((s03.trans s4).trans s5)
def sp_want_tree : Sp := fun vs H Q _ => ∃ (T : List Row) (v : V), vs = [v] ∧ Im H v (dTree T) ∧ TreeFit T ∧ ∀ H', Same H H' → Q .non H'
theorem ok_want_tree (Tx : Txt mg) (F_want : OkD P w K mg base "want" ["is_right", "word", "at"] (.int (-1)) 1 sp_want) (F_tree_fault : OkF P w K mg base "tree_fault" ["thing"] 4 sp_tree_fault) (hf : Has K mg "want_tree" s_want_tree) :
    OkF P w K mg base "want_tree" ["tree"] 5 sp_want_tree := by
  refine Has.ok hf sc_want_tree (fun _ _ _ _ _ _ us hl => match us, hl with | [_], _ => rfl) (fun vs H Q E h => ?_) (fun f cdv A outer sh H vs Q E hr h => ?_)
  · obtain ⟨T, v, rfl, _⟩ := h
    rfl
  · obtain ⟨T, v, rfl, iv, fit, q⟩ := h
    refine ⟨_, (pss_one (ps_expr (pe_cd F_want (hr.mono (by decide)) (pa_cons (pe_cmp (pc_isN (pe_c F_tree_fault (hr.mono (by decide)) (pa_cons (pv 0) pa_nil))) rfl) (pa_cons pe_str pa_nil))))), ?_⟩
    refine ⟨v, rfl, T, v, rfl, iv, fit, fun H1 s1 => ⟨_, _, rfl, fun H2 s2 => q _ (s1.trans s2)⟩⟩
def StandOk (T : List Row) (s : List Int) : Prop := T.length = s.length ∧ (∀ i, i ∈ s → 0 ≤ i) ∧ ∀ f, f ∈ names T → use T s f ≤ room T f
def sp_want_stand : Sp := fun vs H Q _ => ∃ (T : List Row) (s : List Int) (v u : V), vs = [v, u] ∧ Im H v (dTree T) ∧ Im H u (dInts s) ∧ TreeOk T ∧ StandOk T s ∧ ∀ H', Same H H' → Q .non H'
theorem ok_want_stand (Tx : Txt mg) (F_want : OkD P w K mg base "want" ["is_right", "word", "at"] (.int (-1)) 1 sp_want) (F_stand_fault : OkF P w K mg base "stand_fault" ["tree", "thing"] 5 sp_stand_fault) (hf : Has K mg "want_stand" s_want_stand) :
    OkF P w K mg base "want_stand" ["tree", "stand"] 6 sp_want_stand := by
  refine Has.ok hf sc_want_stand (fun _ _ _ _ _ _ us hl => match us, hl with | [_, _], _ => rfl) (fun vs H Q E h => ?_) (fun f cdv A outer sh H vs Q E hr h => ?_)
  · obtain ⟨T, s, v, u, rfl, _⟩ := h
    rfl
  · obtain ⟨T, s, v, u, rfl, iv, iu, ok, ⟨k1, k2, k3⟩, q⟩ := h
    refine ⟨_, (pss_one (ps_expr (pe_cd F_want (hr.mono (by decide)) (pa_cons (pe_cmp (pc_isN (pe_c F_stand_fault (hr.mono (by decide)) (pa_cons (pv 0) (pa_cons (pv 1) pa_nil)))) rfl) (pa_cons pe_str pa_nil))))), ?_⟩
    refine ⟨v, rfl, u, rfl, T, s, v, u, rfl, iv, iu, ok, k1, k2, k3, fun H1 s1 => ⟨_, _, rfl, fun H2 s2 => q _ (s1.trans s2)⟩⟩
def sp_want_lot : Sp := fun vs H Q _ => ∃ (T : List Row) (s : List Int) (L : List (Str × Str)) (v u x : V), vs = [v, u, x] ∧ Im H v (dTree T) ∧ Im H u (dInts s) ∧ Im H x (dMvs L) ∧ TreeOk T ∧ T.length = s.length ∧ LotOk T s L ∧ ∀ H', Same H H' → Q .non H'
theorem ok_want_lot (Tx : Txt mg) (F_want : OkD P w K mg base "want" ["is_right", "word", "at"] (.int (-1)) 1 sp_want) (F_lot_fault : OkF P w K mg base "lot_fault" ["tree", "stand", "thing"] 6 sp_lot_fault) (hf : Has K mg "want_lot" s_want_lot) :
    OkF P w K mg base "want_lot" ["tree", "stand", "lot"] 7 sp_want_lot := by
  refine Has.ok hf sc_want_lot (fun _ _ _ _ _ _ us hl => match us, hl with | [_, _, _], _ => rfl) (fun vs H Q E h => ?_) (fun f cdv A outer sh H vs Q E hr h => ?_)
  · obtain ⟨T, s, L, v, u, x, rfl, _⟩ := h
    rfl
  · obtain ⟨T, s, L, v, u, x, rfl, iv, iu, ix, ok, hl, lo, q⟩ := h
    refine ⟨_, (pss_one (ps_expr (pe_cd F_want (hr.mono (by decide)) (pa_cons (pe_cmp (pc_isN (pe_c F_lot_fault (hr.mono (by decide)) (pa_cons (pv 0) (pa_cons (pv 1) (pa_cons (pv 2) pa_nil))))) rfl) (pa_cons pe_str pa_nil))))), ?_⟩
    refine ⟨v, rfl, u, rfl, x, rfl, T, s, L, v, u, x, rfl, iv, iu, ix, ok, hl, lo, fun H1 s1 => ⟨_, _, rfl, fun H2 s2 => q _ (s1.trans s2)⟩⟩
def sp_want_case : Sp := fun vs H Q _ => ∃ (T : List Row) (s : List Int) (v u : V), vs = [v, u] ∧ Im H v (dTree T) ∧ Im H u (dInts s) ∧ TreeFit T ∧ StandOk T s ∧ ∀ H', Same H H' → Q .non H'
theorem ok_want_case (Tx : Txt mg) (F_want_tree : OkF P w K mg base "want_tree" ["tree"] 5 sp_want_tree) (F_want_stand : OkF P w K mg base "want_stand" ["tree", "stand"] 6 sp_want_stand) (hf : Has K mg "want_case" s_want_case) :
    OkF P w K mg base "want_case" ["tree", "stand"] 7 sp_want_case := by
  refine Has.ok hf sc_want_case (fun _ _ _ _ _ _ us hl => match us, hl with | [_, _], _ => rfl) (fun vs H Q E h => ?_) (fun f cdv A outer sh H vs Q E hr h => ?_)
  · obtain ⟨T, s, v, u, rfl, _⟩ := h
    rfl
  · obtain ⟨T, s, v, u, rfl, iv, iu, fit, so, q⟩ := h
    refine ⟨_, (pss_cons (ps_expr (pe_c F_want_tree (hr.mono (by decide)) (pa_cons (pv 0) pa_nil)))
  (pss_one (ps_expr (pe_c F_want_stand (hr.mono (by decide)) (pa_cons (pv 0) (pa_cons (pv 1) pa_nil)))))), ?_⟩
    refine ⟨v, rfl, T, v, rfl, iv, fit, fun H1 s1 => ⟨v, rfl, u, rfl, T, s, v, u, rfl, iv.mono (.same s1), iu.mono (.same s1), fit.ok, so, fun H2 s2 => q _ (s1.trans s2)⟩⟩
def sp_want_lots : Sp := fun vs H Q _ => ∃ (T : List Row) (s : List Int) (L : List (Str × Str)) (v u x : V), vs = [v, u, x] ∧ Im H v (dTree T) ∧ Im H u (dInts s) ∧ Im H x (dMvs L) ∧ TreeFit T ∧ StandOk T s ∧ LotOk T s L ∧ ∀ H', Same H H' → Q .non H'
theorem ok_want_lots (Tx : Txt mg) (F_want_case : OkF P w K mg base "want_case" ["tree", "stand"] 7 sp_want_case) (F_want_lot : OkF P w K mg base "want_lot" ["tree", "stand", "lot"] 7 sp_want_lot) (hf : Has K mg "want_lots" s_want_lots) :
    OkF P w K mg base "want_lots" ["tree", "stand", "lot"] 8 sp_want_lots := by
  refine Has.ok hf sc_want_lots (fun _ _ _ _ _ _ us hl => match us, hl with | [_, _, _], _ => rfl) (fun vs H Q E h => ?_) (fun f cdv A outer sh H vs Q E hr h => ?_)
  · obtain ⟨T, s, L, v, u, x, rfl, _⟩ := h
    rfl
  · obtain ⟨T, s, L, v, u, x, rfl, iv, iu, ix, fit, so, lo, q⟩ := h
    refine ⟨_, (pss_cons (ps_expr (pe_c F_want_case (hr.mono (by decide)) (pa_cons (pv 0) (pa_cons (pv 1) pa_nil))))
  (pss_one (ps_expr (pe_c F_want_lot (hr.mono (by decide)) (pa_cons (pv 0) (pa_cons (pv 1) (pa_cons (pv 2) pa_nil))))))), ?_⟩
    refine ⟨v, rfl, u, rfl, T, s, v, u, rfl, iv, iu, fit, so, fun H1 s1 => ⟨v, rfl, u, rfl, x, rfl, T, s, L, v, u, x, rfl, iv.mono (.same s1), iu.mono (.same s1), ix.mono (.same s1), fit.ok, so.1, lo, fun H2 s2 => q _ (s1.trans s2)⟩⟩
/-- what can_finish and finishing ask -/
structure CaseOk (T : List Row) (s : List Int) (L A : List (Str × Str)) : Prop where
  fit : TreeFit T
  so : StandOk T s
  lo : LotOk T s L
  ao : AskOk T s L A
def sp_want_asked : Sp := fun vs H Q _ => ∃ (T : List Row) (s : List Int) (L A : List (Str × Str)) (v u x y : V), vs = [v, u, x, y] ∧ Im H v (dTree T) ∧ Im H u (dInts s) ∧ Im H x (dMvs L) ∧ Fz H x ∧ Im H y (dMvs A) ∧ CaseOk T s L A ∧ ∀ H', Same H H' → Q .non H'
theorem ok_want_asked (Tx : Txt mg) (F_want_lots : OkF P w K mg base "want_lots" ["tree", "stand", "lot"] 8 sp_want_lots) (F_want : OkD P w K mg base "want" ["is_right", "word", "at"] (.int (-1)) 1 sp_want)
    (F_asked_fault : OkF P w K mg base "asked_fault" ["tree", "stand", "lot", "thing"] 5 sp_asked_fault) (hf : Has K mg "want_asked" s_want_asked) : OkF P w K mg base "want_asked" ["tree", "stand", "lot", "asked"] 9 sp_want_asked := by
  refine Has.ok hf sc_want_asked (fun _ _ _ _ _ _ us hl => match us, hl with | [_, _, _, _], _ => rfl) (fun vs H Q E h => ?_) (fun f cdv A outer sh H vs Q E hr h => ?_)
  · obtain ⟨T, s, L, A, v, u, x, y, rfl, _⟩ := h
    rfl
  · obtain ⟨T, s, L, A, v, u, x, y, rfl, iv, iu, ix, fx, iy, co, q⟩ := h
    refine ⟨_, (pss_cons (ps_expr (pe_c F_want_lots (hr.mono (by decide)) (pa_cons (pv 0) (pa_cons (pv 1) (pa_cons (pv 2) pa_nil)))))
  (pss_one (ps_expr (pe_cd F_want (hr.mono (by decide)) (pa_cons (pe_cmp (pc_isN (pe_c F_asked_fault (hr.mono (by decide)) (pa_cons (pv 0) (pa_cons (pv 1) (pa_cons (pv 2) (pa_cons (pv 3) pa_nil)))))) rfl) (pa_cons pe_str pa_nil)))))), ?_⟩
    refine ⟨v, rfl, u, rfl, x, rfl, T, s, L, v, u, x, rfl, iv, iu, ix, co.fit, co.so, co.lo, fun H1 s1 => ?_⟩
    exact ⟨v, rfl, u, rfl, x, rfl, y, rfl, T, s, L, A, v, u, x, y, rfl, iv.mono (.same s1), iu.mono (.same s1), ix.mono (.same s1), fx.sm s1, iy.mono (.same s1), co.fit.ok, co.so.1, co.ao, fun H2 s2 => ⟨_, _, rfl, fun H3 s3 => q _ ((s1.trans s2).trans s3)⟩⟩
end
end RW
end
section
set_option linter.all false
set_option maxRecDepth 100000
set_option autoImplicit false
set_option maxHeartbeats 1000000
/-! {k: v, **e}. -/
namespace RW
open PySem PySem.Spec PyProof.Rows L2
section
variable {P : Program} {w : World} {κ : Type} [DecidableEq κ] {knd : KeyKind P w κ} {A : Around} {E : Value → Shared → Prop} {s : Shared}
theorem put_pairs {d : Addr} {kvs : List (κ × Value)} {k : κ} {key v : Value} {Q : Unit → Shared → Prop} (hkey : knd.is k key = true) (hm : s.heap.DictOf knd d kvs)
    (hQ : ∀ h', h'.DictOf knd d (stored kvs k v) → Heap.SameBut d s.heap h' → Q () { s with heap := h' }) (hsz : kvs.length ≤ sizeLine) : wpAny (model P w) A (dictPut d (knd.hash k) key v) Q E s := by
  obtain ⟨o, es, ep, ho, hc, hd, hk, hp, hn⟩ := hm
  have hes : es.size ≤ sizeLine := by
    have e1 := hp.length
    have e2 : es.toList.length = es.size := by simp
    omega
  unfold dictPut
  refine wpAny_bind (wpAny_dictFind_of hkey ho hd hk ?_)
  have hidx : (es.findIdx? fun e => knd.is k e.key) = kvs.findIdx? fun kv => decide (kv.1 = k) := by
    rw [← hp.findIdx k]
    obtain ⟨l⟩ := es
    simp
  cases hi : es.findIdx? fun e => knd.is k e.key with
  | some i =>
    have ha : (kvs.any fun x => decide (x.1 = k)) = true := any_of_findIdx_some (hidx ▸ hi)
    refine wpAny_updateDict ho hd (hQ _ ⟨_, _, ep, Heap.get?_update_self _ ho (Obj.isFreed_of_dict (Obj.data_mapDict hd _)), hc.mapDict _, Obj.data_mapDict hd _, hk.modify _ _, ?_, ?_⟩ (Heap.SameBut.update ..))
    · rw [stored, if_pos ha]
      have hl : (es.toList.findIdx? fun e => knd.is k e.key) = some i := by
        rw [← hi]
        obtain ⟨l⟩ := es
        simp
      have z := hp.modify hn hl v
      obtain ⟨l⟩ := es
      simpa using z
    · rw [stored, if_pos ha, keys_map_store]
      exact hn
  | none =>
    have hnot : k ∉ kvs.map (·.1) := not_mem_of_findIdx_none (hidx ▸ hi)
    have hany : ¬ (kvs.any fun kv => decide (kv.1 = k)) = true := fun z => by
      obtain ⟨kv, hkv, he⟩ := List.any_eq_true.mp z
      exact hnot (List.mem_map.mpr ⟨kv, hkv, of_decide_eq_true he⟩)
    refine wpAny_updateDictKeys (hz := hes) ho hd (hQ _ ⟨_, _, ep + 1, Heap.get?_update_self _ ho (Obj.isFreed_of_dict (Obj.data_mapDictKeys hd _)), hc.mapDictKeys _, Obj.data_mapDictKeys hd _, hk.push hkey _, ?_, ?_⟩ (Heap.SameBut.update ..))
    · rw [stored, if_neg hany]
      have z := hp.append hkey (knd.hash k) v
      obtain ⟨l⟩ := es
      simpa using z
    · rw [stored, if_neg hany, List.map_append, List.nodup_append]
      refine ⟨hn, List.nodup_cons.mpr ⟨List.not_mem_nil, List.nodup_nil⟩, fun a ha b hb e => ?_⟩
      rw [List.map_cons, List.map_nil, List.mem_singleton] at hb
      exact hnot ((show a = k from e.trans hb) ▸ ha)
theorem merge_map {d a : Addr} {kv0 : κ × Value} {kvs more : List (κ × Value)} {Q : Unit → Shared → Prop} (hda : d ≠ a) (haS : (a == sysModules) = false) (hd : s.heap.DictOf knd d (kv0 :: kvs)) (ha : s.heap.DictOf knd a more)
    (hsz : (kv0 :: kvs).length + more.length ≤ sizeLine) (hQ : ∀ h', h'.DictOf knd d (merged (kv0 :: kvs) more) → Heap.SameBut d s.heap h' → Q () { s with heap := h' }) : wpAny (model P w) A (mergeMapping d (.ref a) false) Q E s := by
  obtain ⟨od, esd, epd, hod, hcd, hdd, hkd, hpd, hnd⟩ := id hd
  obtain ⟨oo, eso, epo, hoo, hco, hdo', hko, hpo, hno⟩ := id ha
  have hlen : more.length = eso.size := by
    rw [← hpo.length]
    simp
  have hne : esd.isEmpty = false := by
    have z := hpd.length
    cases e : esd.isEmpty with
    | false => rfl
    | true =>
      rw [Array.isEmpty_iff.mp e] at z
      simp at z
  unfold mergeMapping
  refine wpAny_bind (wpAny_isInstance ha.typeIs isSubtype_dict_dict ?_)
  simp only [if_true]
  refine wpAny_bind (wpAny_specialOf ha.typeIs PySem.F.slot_dict_iter.lookup (wpAny_bind (wpAny_pure ?_)))
  simp only [beq_self_eq_true]
  refine wp_if_neg (by rw [haS]; decide) ?_
  refine wpAny_bind (wpAny_dictEntries hod hdd ?_)
  refine wp_if_neg (by rw [hne]; decide) ?_
  refine wpAny_bind (wpAny_dictEntries hoo hdo' (wpAny_bind (wpAny_dictEpoch hoo hdo' ?_)))
  refine wpAny_bind ?_
  refine wpAny_forIn_list _ (fun rest _ s' => ∃ h' i, s' = { s with heap := h' } ∧ rest = (List.range eso.size).drop i ∧ i ≤ eso.size ∧ h'.DictOf knd d (merged (kv0 :: kvs) (more.take i)) ∧ h'.get? a = some oo ∧ Heap.SameBut d s.heap h') _ ?_ ?_ _ _ ⟨s.heap, 0, rfl, rfl, Nat.zero_le _, by simpa [merged] using hd, hoo, Heap.SameBut.refl _ _⟩
  · rintro x rest b s' ⟨h', i, rfl, hr, hi, hd', hoo', hs'⟩
    have hlt : i < eso.size := by
      refine Nat.lt_of_not_le fun hge => ?_
      rw [List.drop_eq_nil_of_le (by simpa using hge)] at hr
      cases hr
    rw [List.drop_eq_getElem_cons (by simpa using hlt), List.getElem_range] at hr
    injection hr with h1 h2
    subst h1
    refine wpAny_bind (wpAny_dictEntries hoo' hdo' ?_)
    rw [Array.getElem?_eq_getElem hlt]
    have hlt2 : x < more.length := by omega
    obtain ⟨kv, hkv⟩ : ∃ kv, more[x]? = some kv := ⟨more[x], List.getElem?_eq_getElem hlt2⟩
    obtain ⟨k, v⟩ := kv
    obtain ⟨hkey, hval⟩ := hpo.get? (e := eso[x]) (by simp [hlt]) hkv
    obtain ⟨k', hkey', hhash⟩ := hko eso[x] (Array.getElem_mem hlt)
    obtain rfl : k' = k := knd.inj _ _ _ hkey' hkey
    dsimp only
    rw [hhash, hval]
    have hmx : (merged (kv0 :: kvs) (more.take x)).length ≤ sizeLine := by
      have e1 := merged_length_le (kv0 :: kvs) (more.take x)
      have e2 : (more.take x).length ≤ more.length := by rw [List.length_take]; omega
      omega
    refine wpAny_bind (wpAny_holding (wp_if_neg (by decide) (put_pairs hkey hd' (fun h2' hd2 hs2 => ?_) hmx)))
    have hoo2 : h2'.get? a = some oo := (hs2.2 a (Ne.symm hda)).trans hoo'
    refine wpAny_bind (wpAny_dictEpoch hoo2 hdo' ?_)
    refine wp_if_neg (by simp) ?_
    exact wpAny_pure ⟨h2', x + 1, rfl, h2, hlt, by rw [merged_take_succ _ more x (k', v) hkv]; exact hd2, hoo2, hs'.trans hs2⟩
  · rintro b s' ⟨h', i, rfl, hr, hi, hd', hoo', hs'⟩
    have hin : i = eso.size := by
      refine Nat.le_antisymm hi (Nat.le_of_not_lt fun hlt => ?_)
      rw [List.drop_eq_getElem_cons (by simpa using hlt)] at hr
      cases hr
    rw [hin, ← hlen, List.take_length] at hd'
    exact wpAny_pure (hQ h' hd' hs')
end
def tDispS (tk tv te : TE) : TE := fun σ H Q => ∀ p, H p = none → tk σ (upd H p (.dK [])) fun x H1 => tv σ H1 fun y H2 => ∃ key, x = kV key ∧ H2 p = some (.dK []) ∧ te σ (upd H2 p (.dK [(key, y)])) fun z H3 =>
  ∃ (b : Addr) (ws : List (Key × V)), z = .ref b ∧ p ≠ b ∧ H3 p = some (.dK [(key, y)]) ∧ H3 b = some (.dK ws) ∧ ws.length ≤ 900 ∧ Q (.ref p) (upd H3 p (.dK (mergeK [(key, y)] ws)))
theorem pe_dispS {X : Cx} {k v e : Expr} {pos : Pos} {tk tv te : TE} (hk : PE X k tk) (hv : PE X v tv) (he : PE X e te) : PE X (.Dict [some k, none] [v, e] pos) (tDispS tk tv te) := by
  refine ⟨fun pins s σ H Q I q => ?_⟩
  have hn := I.hok.fresh (Nat.le_refl s.heap.objs.size)
  have I1 := I.laid (a := s.heap.objs.size) (o := .dK []) (h' := s.heap.push { cls := .type "dict", data := .dict #[] }) (t' := s.toks) (fun _ _ q => Heap.get?_push_of_some _ q) (Nat.le_refl _) (dk_empty s.heap I.big)
  rw [arm_eval_Dict]
  refine wpAny_bind (wpAny_standAt ?_)
  show wpAny _ _ (dictDisplay [(some (eval k X.env), do let x ← eval v X.env; standAt pos; pure x), (none, do let x ← eval e X.env; standAt pos; pure x)]) _ _ s
  unfold dictDisplay
  simp only [List.forIn_cons, List.forIn_nil, List.nil_append, List.length_cons, List.length_nil, pure_bind, bind_assoc]
  refine wpAny_bind (wp_if_neg (by decide) (wpAny_pure ?_))
  dsimp only
  refine wpAny_bind (wpAny_bind (wp_if_neg (by simp) ?_))
  refine wpAny_bind (wpAny_subDict (knd := mixKind X.prog X.w) (by simp) (evalPairs_cons (thn (hk.run pins _ σ _ _ I1 (q _ hn)) fun ku s2 ⟨x, H2, I2, rx, q2⟩ =>
    wpAny_bind (thn (hv.run pins s2 σ H2 _ I2 q2) fun vu s3 ⟨y, H3, I3, ry, key, ex, e3, q3⟩ => wpAny_bind (wpAny_standAt (wpAny_pure (evalPairs_nil ?_)))))))
  subst ex
  obtain ⟨z, hd, vs0, r0, dd⟩ := dk_of I3.hok e3
  cases r0
  refine ⟨[(key, vu)], ⟨kV_is rx, rfl, trivial⟩, dd, fun h' dd' hs => wpAny_pure ?_⟩
  dsimp only
  have he' : ∃ q, h'.get? s.heap.objs.size = some q := by
    obtain ⟨q, _, _, hq, _⟩ := dd'
    exact ⟨q, hq⟩
  have I4 := d_write (t' := s3.toks + 1) I3 (by rw [e3]; exact True.intro) hs he' (dk_new (H' := upd H3 s.heap.objs.size (.dK [(key, y)])) (kvs := [(key, y)]) (vs := merged [] [(key, vu)]) (by show 1 ≤ sizeLine; decide) hd (.cons ⟨rfl, ry⟩ .nil) dd')
  refine wpAny_bind (wpAny_bind (wpAny_holding (wpAny_bind (thn (he.run pins _ σ _ _ I4 q3) fun eu s5 ⟨z5, H5, I5, r5, b, ws, ez, ne, e5, eb, hl, q5⟩ => wpAny_bind (wpAny_standAt (wpAny_pure ?_))))))
  subst ez
  obtain rfl : eu = Value.ref b := r5
  obtain ⟨z6, hd6, vs6, r6, dd6⟩ := dk_of I5.hok e5
  obtain ⟨z7, hd7, vs7, r7, dd7⟩ := dk_of I5.hok eb
  cases r6 with
  | cons r6 r6' =>
    cases r6'
    refine wpAny_bind (wpAny_onRaise (wpAny_tryCatch (wpAny_onRaise (wpAny_holding (merge_map ne hd7 dd6 dd7 ?_ fun h8 dd8 hs8 => ?_)))))
    · rw [← r7.length, sizeLine_eq]
      show 1 + ws.length ≤ _
      omega
    · refine wpAny_pure (wpAny_pure ?_)
      dsimp only
      refine wpAny_bind (wp_if_pos rfl (wpAny_pure (wpAny_pure ?_)))
      have he8 : ∃ q, h8.get? s.heap.objs.size = some q := by
        obtain ⟨q, _, _, hq, _⟩ := dd8
        exact ⟨q, hq⟩
      have hm := mergeK_len ws [(key, y)]
      have hz : (mergeK [(key, y)] ws).length ≤ sizeLine := by
        have e1 : ([(key, y)] : List (Key × V)).length = 1 := rfl
        rw [sizeLine_eq]
        omega
      exact ⟨.ref _, _, d_write (t' := s5.toks) I5 (by rw [e5]; exact True.intro) hs8 he8 (dk_new hz hd (KV.merge r7 (.cons r6 .nil)) dd8), rfl, q5⟩
end RW
end
section
set_option linter.all false
set_option maxRecDepth 100000
set_option autoImplicit false
set_option maxHeartbeats 1000000
/-! counts_at, misfits_at, crossed_by, loose_in. -/
namespace RW
open PySem PySem.Spec PyProof.Rows L2
abbrev s_counts_at : Stmt := topS 48
abbrev N_counts_at : List Str := ["tree", "stand", "lot", "move"]
theorem sc_counts_at : FnScope N_counts_at ["tree", "stand", "lot"] (defScope s_counts_at) := ⟨rfl, rfl, rfl, by decide +kernel, rfl, by decide +kernel, by decide +kernel⟩
abbrev s_misfits_at : Stmt := topS 49
abbrev N_misfits_at : List Str := ["tree", "stand", "lot", "frees", "folder"]
theorem sc_misfits_at : FnScope N_misfits_at ["tree", "stand", "lot"] (defScope s_misfits_at) := ⟨rfl, rfl, rfl, by decide +kernel, rfl, by decide +kernel, by decide +kernel⟩
abbrev s_crossed_by : Stmt := topS 51
abbrev N_crossed_by : List Str := ["tree", "moves", "found", "move", "folder"]
theorem sc_crossed_by : FnScope N_crossed_by ["tree", "moves"] (defScope s_crossed_by) := ⟨rfl, rfl, rfl, by decide +kernel, rfl, by decide +kernel, by decide +kernel⟩
abbrev s_loose_in : Stmt := topS 52
abbrev N_loose_in : List Str := ["tree", "stand", "moves", "widened", "free", "crossed", "name"]
theorem sc_loose_in : FnScope N_loose_in ["tree", "stand", "moves", "widened"] (defScope s_loose_in) := ⟨rfl, rfl, rfl, by decide +kernel, rfl, by decide +kernel, by decide +kernel⟩

theorem nodup_lenG {α : Type} [DecidableEq α] {l m : List α} (hn : l.Nodup) (h : ∀ x, x ∈ l → x ∈ m) : l.length ≤ m.length := by
  induction l generalizing m with
  | nil => exact Nat.zero_le _
  | cons a l ih =>
    rw [List.nodup_cons] at hn
    have hm : a ∈ m := h a List.mem_cons_self
    have h1 := ih (m := m.erase a) hn.2 fun x hx => by
      have ne : x ≠ a := fun e => hn.1 (by rw [← e]; exact hx)
      exact (List.mem_erase_of_ne ne).mpr (h x (List.mem_cons_of_mem _ hx))
    rw [List.length_erase_of_mem hm] at h1
    have h2 := List.length_pos_of_mem hm
    rw [List.length_cons]
    omega
def stbyAll (T : List Row) (s : List Int) (L : List (Str × Str)) : List Int := L.foldl (stby T) s
theorem stbyAll_len {T : List Row} : ∀ (L : List (Str × Str)) {s : List Int}, T.length = s.length → T.length = (stbyAll T s L).length
  | [], _, h => h
  | m :: L, s, h => stbyAll_len L (s := stby T s m) (stby_len h m)
theorem use_stbyAll {T : List Row} (ok : TreeOk T) : ∀ (L : List (Str × Str)) {s : List Int}, T.length = s.length → use T (stbyAll T s L) = RR.endU (ways T) (use T s) L
  | [], _, _ => rfl
  | m :: L, s, h => by
    show use T (stbyAll T (stby T s m) L) = _
    rw [use_stbyAll ok L (stby_len h m)]
    have e : use T (stby T s m) = RR.after (ways T) (use T s) m := funext fun f => use_stby ok h m f
    rw [e]
    rfl
theorem KvI.keysV {H : Hp} {kvs : List (Key × V)} {g : Gd} (h : KvI H kvs g) : (kvs.map fun kv => kV kv.1) = (g.map (·.1)).map V.str := by
  unfold KvI at h
  induction h with
  | nil => rfl
  | cons h1 _ ih =>
    rw [List.map_cons, List.map_cons, List.map_cons, ih, h1.1]
    rfl
theorem gInts_keys (T : List Row) (f : Str → Int) : (gInts T f).map (·.1) = names T := by
  unfold gInts
  rw [List.map_map]
  show (names T).map id = _
  rw [List.map_id]
section
variable {P : Program} {w : World} {K : PySem.W.Frag} {mg : Str → Option Value} {base : Heap}
def sp_counts_at : Sp := fun vs H Q _ => ∃ (T : List Row) (s : List Int) (L : List (Str × Str)) (v u x : V), vs = [v, u, x] ∧ Im H v (dTree T) ∧ Im H u (dInts s) ∧ Im H x (dMvs L) ∧ T.length = s.length ∧ TreeOk T ∧ ∀ v' H', Same H H' → Im H' v' (dInts (stbyAll T s L)) → Q v' H'
theorem ok_counts_at (F_stand_by : OkF P w K mg base "stand_by" ["tree", "stand", "move"] 2 sp_stand_by) (hf : Has K mg "counts_at" s_counts_at) : OkF P w K mg base "counts_at" ["tree", "stand", "lot"] 3 sp_counts_at := by
  refine Has.ok hf sc_counts_at (fun _ _ _ _ _ _ us hl => match us, hl with | [_, _, _], _ => rfl) (fun vs H Q E h => ?_) (fun f cdv A outer sh H vs Q E hr h => ?_)
  · obtain ⟨T, s, L, v, u, x, rfl, _⟩ := h
    rfl
  · obtain ⟨T, s, L, v, u, x, rfl, iv, iu, ix, hl, ok, q⟩ := h
    refine ⟨_, (pss_cons (ps_for PassesOwn.never rfl (pi_tup (pv 2)) (pg_name (i := 3) sc_counts_at.nd rfl (.inl rfl)) (pss_one (ps_set (i := 1) sc_counts_at.nd rfl (.inl rfl) (pe_c F_stand_by (hr.mono (by decide)) (pa_cons (pv 0) (pa_cons (pv 1) (pa_cons (pv 3) pa_nil)))))))
  (pss_one (ps_ret (pv 1)))), ?_⟩
    refine ⟨x, rfl, forT (ds := L) (enc := dMv) ix (fun i σ H' => ∃ u1 y, σ = [some v, some u1, some x, y] ∧ Same H H' ∧ Im H' u1 (dInts (stbyAll T s (L.take i)))) ⟨u, none, rfl, Same.refl _, iu⟩ (fun i σ H' h => by
      obtain ⟨_, _, _, k, _⟩ := h
      exact .same k) ?_ ?_⟩
    · rintro i m y σ H' e ⟨u1, y0, rfl, sm, i1⟩ iy
      refine ⟨v, rfl, u1, rfl, y, rfl, T, _, m, v, u1, y, rfl, iv.mono (.same sm), i1, iy, stbyAll_len _ hl, ok, fun v2 H2 s2 i2 => ?_⟩
      refine ⟨v2, _, rfl, sm.trans s2, ?_⟩
      have e2 : stbyAll T s (L.take (i + 1)) = stby T (stbyAll T s (L.take i)) m := by
        unfold stbyAll
        rw [List.take_add_one, e, List.foldl_append]
        rfl
      rw [e2]
      exact i2
    · rintro σ H' ⟨u1, y0, rfl, sm, i1⟩
      rw [List.take_length] at i1
      exact ⟨_, rfl, q _ _ sm i1⟩
def sp_misfits_at : Sp := fun vs H Q _ => ∃ (T : List Row) (s : List Int) (L : List (Str × Str)) (v u x : V), vs = [v, u, x] ∧ Im H v (dTree T) ∧ Im H u (dInts s) ∧ Im H x (dMvs L) ∧ T.length = s.length ∧ TreeOk T ∧
  ∀ v' H' ys, Same H H' → Im H' v' (dStrs ys) → (∀ y, y ∈ ys ↔ y ∈ names T ∧ room T y < RR.endU (ways T) (use T s) L y) → Q v' H'
theorem ok_misfits_at (Tx : Txt mg) (F_frees_by : OkF P w K mg base "frees_by" ["tree", "counts"] 4 sp_frees_by) (F_counts_at : OkF P w K mg base "counts_at" ["tree", "stand", "lot"] 3 sp_counts_at) (hf : Has K mg "misfits_at" s_misfits_at) :
    OkF P w K mg base "misfits_at" ["tree", "stand", "lot"] 5 sp_misfits_at := by
  refine Has.ok hf sc_misfits_at (fun _ _ _ _ _ _ us hl => match us, hl with | [_, _, _], _ => rfl) (fun vs H Q E h => ?_) (fun f cdv A outer sh H vs Q E hr h => ?_)
  · obtain ⟨T, s, L, v, u, x, rfl, _⟩ := h
    rfl
  · obtain ⟨T, s, L, v, u, x, rfl, iv, iu, ix, hl, ok, q⟩ := h
    have hu := hu_of hr
    have hz : T.length ≤ 1000 := Nat.le_trans ok.len (by decide)
    refine ⟨_, (pss_cons (ps_set (i := 3) sc_misfits_at.nd rfl (.inr rfl) (pe_c F_frees_by (hr.mono (by decide)) (pa_cons (pv 0) (pa_cons (pe_c F_counts_at (hr.mono (by decide)) (pa_cons (pv 0) (pa_cons (pv 1) (pa_cons (pv 2) pa_nil)))) pa_nil))))
  (pss_one (ps_ret (pe_callTy cr_tupF (by rfl) Tx.b_tuple bb_tuple (pa_cons (pe_ssetS Tx hr (pe_lc (own := [("folder", 4)]) (g := (gName 4)) rfl sc_misfits_at.nd (pi_list (pe_callTy (call_listD rfl) (by rfl) Tx.b_list bb_list (pa_cons (pv 3) pa_nil))) (blkOk_by (own := [("folder", 4)]) (N := N_misfits_at) (sc := defScope s_misfits_at) (by decide +kernel)) (fun _ _ _ _ _ => (pg_name (i := 4) sc_misfits_at.nd rfl (.inl rfl))) (fun _ _ _ _ _ => pts_one (pt_cmpR op_lt (pe_dget hu (pv 3) (pv 4) (fun _ _ => rfl)) pe_int (nomark _))) (fun _ _ _ _ _ => (pv 4)))) pa_nil))))), ?_⟩
    refine ⟨v, rfl, v, rfl, u, rfl, x, rfl, T, s, L, v, u, x, rfl, iv, iu, ix, hl, ok, fun v1 H1 s1 i1 => ?_⟩
    refine ⟨T, _, v, v1, rfl, iv.mono (.same s1), i1, stbyAll_len L hl, ok, fun pf H2 s2 nf df => ?_⟩
    rw [use_stbyAll ok L hl] at df
    have s02 := s1.trans s2
    obtain ⟨kvs, hp, ki⟩ := id df
    refine ⟨_, rfl, pf, kvs, rfl, .inl hp, fun l nl => ?_⟩
    rw [ki.keysV, gInts_keys]
    have sl : Same H2 (upd H2 l (.lst ((names T).map V.str))) := Same.new nl
    have el : upd H2 l (.lst ((names T).map V.str)) l = some (.lst ((names T).map V.str)) := upd_same
    generalize upd H2 l (.lst ((names T).map V.str)) = H3 at sl el
    refine lcL (ds := names T) (enc := PyData.str) el (ImA.ofStrs _) (by rw [names_len]; exact hz) (fun f => decide (room T f < RR.endU (ways T) (use T s) L f)) PyData.str ?_ ?_
    · intro f y H4 Qt Qf hfn s4 iy ht hf'
      rw [iy.sinv]
      refine ⟨rfl, _, rfl, _, rfl, r_get ((df.same sl).same s4) (gInts_look hfn) fun v5 i5 => ?_⟩
      rw [i5.iinv]
      refine ⟨_, _, rfl, rfl, _, rfl, ?_⟩
      by_cases hd : room T f < RR.endU (ways T) (use T s) L f
      · exact iteP (decide_eq_true (by omega)) ⟨_, rfl, ht (decide_eq_true hd) _ _ (Same.refl _) (.str f)⟩
      · exact iteN (decide_eq_false (by omega)) (hf' (decide_eq_false hd) _ (Same.refl _))
    · intro D H4 acc nD s4 e4 i4
      have e2 := i4.strs
      subst e2
      refine ⟨D, _, rfl, .inl (.inl (.inl e4)), ?_, fun p ys H5 s5 np nd mem e5 => ?_⟩
      · refine Nat.lt_of_le_of_lt (List.length_filter_le _ _) ?_
        rw [names_len]
        exact Nat.lt_of_le_of_lt ok.len (by decide)
      · refine r_tupF e5 (ImA.ofStrs ys) fun l H6 s6 nl fz i6 => q _ _ ys ((((s02.trans sl).trans s4).trans s5).trans s6) i6 fun y => ?_
        rw [mem y, List.mem_filter]
        simp
def sp_crossed_by : Sp := fun vs H Q _ => ∃ (T : List Row) (L : List (Str × Str)) (v u : V), vs = [v, u] ∧ Im H v (dTree T) ∧ Im H u (dMvs L) ∧ TreeOk T ∧ (∀ m, m ∈ L → MvOk T m) ∧ L.length ≤ 60 ∧
  ∀ p H' gd, Same H H' → H p = none → DL H' p gd → KeysIn (names T) gd → (∀ f, (gd.lookup f).isSome = true ↔ ∃ m, m ∈ L ∧ RR.crosses (ways T) m f) → Q (.ref p) H'
theorem crosses_in {T : List Row} (ok : TreeOk T) {m : Str × Str} {f : Str} (h : RR.crosses (ways T) m f) : f ∈ names T := by
  rcases h with h | h
  · exact ok.ways_in h.1
  · exact ok.ways_in h.1
theorem ok_crossed_by (Tx : Txt mg) (F_crossed_in : OkF P w K mg base "crossed_in" ["tree", "move"] 5 sp_crossed_in) (hf : Has K mg "crossed_by" s_crossed_by) : OkF P w K mg base "crossed_by" ["tree", "moves"] 6 sp_crossed_by := by
  refine Has.ok hf sc_crossed_by (fun _ _ _ _ _ _ us hl => match us, hl with | [_, _], _ => rfl) (fun vs H Q E h => ?_) (fun f cdv A outer sh H vs Q E hr h => ?_)
  · obtain ⟨T, L, v, u, rfl, _⟩ := h
    rfl
  · obtain ⟨T, L, v, u, rfl, iv, iu, ok, hm, few, q⟩ := h
    have hu := hu_of hr
    refine ⟨_, (pss_cons (ps_set (i := 2) sc_crossed_by.nd rfl (.inl rfl) pe_dnewK)
  (pss_cons (ps_for PassesOwn.never rfl (pi_list (pe_ssetM Tx hr (pv 1))) (pg_name (i := 3) sc_crossed_by.nd rfl (.inl rfl)) (pss_one (ps_for PassesOwn.never rfl (pi_tup (pe_c F_crossed_in (hr.mono (by decide)) (pa_cons (pv 0) (pa_cons (pv 3) pa_nil)))) (pg_name (i := 4) sc_crossed_by.nd rfl (.inl rfl)) (pss_one (ps_dput hu (pv 2) (pv 4) pe_bl rfl)))))
  (pss_one (ps_ret (pv 2))))), ?_⟩
    intro p np
    have s1 : Same H (upd H p (.dK [])) := Same.new np
    have d1 : DL (upd H p (.dK [])) p [] := ⟨[], upd_same, .nil⟩
    generalize upd H p (.dK []) = H1 at s1 d1
    obtain ⟨a, xs, rfl, hT, hA⟩ := id iu.tinv
    refine ⟨_, rfl, a, xs, L, rfl, .inr (.inl (hT.sm s1)), hA.mono (.same s1), by omega, fun l ys' ms H2 s2 nl nd mem el il => ?_⟩
    have hlen : ms.length ≤ 60 := by
      refine Nat.le_trans ?_ few
      exact nodup_lenG nd fun m h => (mem m).mp h
    refine forL (ds := ms) (enc := dMv) el il (fun i σ H' => ∃ y3 y4 gd, σ = [some v, some (.ref a), some (.ref p), y3, y4] ∧ Same H H' ∧ KT H2 H' ∧ H' l = some (.lst ys') ∧ DL H' p gd ∧ KeysIn (names T) gd ∧ ∀ f, (gd.lookup f).isSome = true ↔ ∃ m, m ∈ ms.take i ∧ RR.crosses (ways T) m f)
      ⟨none, none, [], rfl, s1.trans s2, KT.refl _, el, d1.same s2, ⟨by simp, fun k hk => by cases hk⟩, fun f => by simp⟩ (fun i σ H' h => by
        obtain ⟨_, _, _, _, _, k, k2, _⟩ := h
        exact ⟨k, k2⟩) ?_ ?_
    · rintro i m y σ H' e ⟨y3, y4, gd, rfl, sm, kt, el', dl, kin, hk⟩ iy
      have hmi : m ∈ L := (mem m).mp (List.mem_of_getElem? e)
      refine ⟨v, rfl, y, rfl, T, m, v, y, rfl, iv.mono (.same sm), iy, ok, hm m hmi, fun v3 H3 zs s3 i3 nd3 mem3 => ?_⟩
      have npl : p ≠ l := by
        obtain ⟨_, h1, _⟩ := d1
        exact ne_of_none h1 nl
      refine forT (ds := zs) (enc := PyData.str) i3 (fun j σ' H4 => ∃ z4 gd', σ' = [some v, some (.ref a), some (.ref p), some y, z4] ∧ Same H H4 ∧ KT H2 H4 ∧ KT H3 H4 ∧ H4 l = some (.lst ys') ∧ DL H4 p gd' ∧ KeysIn (names T) gd' ∧ ∀ f, (gd'.lookup f).isSome = true ↔ (∃ m, m ∈ ms.take i ∧ RR.crosses (ways T) m f) ∨ f ∈ zs.take j)
        ⟨_, gd, rfl, sm.trans s3, kt.trans (.same s3), KT.refl _, s3 _ _ el', dl.same s3, kin, fun f => by rw [hk f]; simp⟩ (fun j σ' H4 h => by
          obtain ⟨_, _, _, _, _, k, _⟩ := h
          exact k) ?_ ?_
      · rintro j fo x' σ' H4 ej ⟨z4, gd', rfl, sm4, kt4, kt4', el4, dl4, kin4, hk4⟩ ix'
        rw [ix'.sinv]
        have hfo : fo ∈ names T := crosses_in ok ((mem3 fo).mp (List.mem_of_getElem? ej))
        have l4 := kin4.len
        rw [names_len] at l4
        refine ⟨_, rfl, _, rfl, r_put dl4 (Nat.le_trans l4 (Nat.le_trans ok.len (by decide))) (.bl true) fun kvs kvs' hkk dl' => ?_⟩
        refine ⟨_, _, rfl, Same.mut sm4 np, kt4.trans (.dk hkk), kt4'.trans (.dk hkk), by rw [upd_ne npl.symm]; exact el4, dl', kin4.put hfo, fun f => ?_⟩
        rw [gput_look, List.take_add_one, ej]
        by_cases ef : f = fo
        · rw [if_pos ef, ef]
          simp
        · rw [if_neg ef, hk4 f]
          simp [ef]
      · rintro σ' H4 ⟨z4, gd', rfl, sm4, kt4, kt4', el4, dl4, kin4, hk4⟩
        refine ⟨_, _, gd', rfl, sm4, kt4, el4, dl4, kin4, fun f => ?_⟩
        rw [hk4 f, List.take_length, List.take_add_one, e, mem3 f]
        constructor
        · rintro (⟨m', h1, h2⟩ | h)
          · exact ⟨m', List.mem_append_left _ h1, h2⟩
          · exact ⟨m, List.mem_append_right _ (by simp), h⟩
        · rintro ⟨m', h1, h2⟩
          rcases List.mem_append.mp h1 with h1 | h1
          · exact .inl ⟨m', h1, h2⟩
          · have : m' = m := by simpa using h1
            rw [this] at h2
            exact .inr h2
    · rintro σ H' ⟨y3, y4, gd, rfl, sm, kt, el', dl, kin, hk⟩
      refine ⟨_, rfl, q p H' gd sm np dl kin fun f => ?_⟩
      rw [hk f, List.take_length]
      simp only [mem]
def sp_loose_in : Sp := fun vs H Q _ => ∃ (T : List Row) (s : List Int) (L : List (Str × Str)) (v u x : V) (a : Addr), vs = [v, u, x, .ref a] ∧ Im H v (dTree T) ∧ Im H u (dInts s) ∧ Im H x (dMvs L) ∧ (∀ H, SqT K H a []) ∧ T.length = s.length ∧ TreeOk T ∧ (∀ m, m ∈ L → MvOk T m) ∧ L.length ≤ 60 ∧
  ∀ p H' gd, Same H H' → H p = none → DL H' p gd → KeysIn (names T) gd → (∀ f, f ∈ names T → ((gd.lookup f).isSome = true ↔ (use T s f < room T f ∨ ¬ ∃ m, m ∈ L ∧ RR.crosses (ways T) m f))) → Q (.ref p) H'
theorem ok_loose_in (Tx : Txt mg) {d : V} (F_frees_by : OkF P w K mg base "frees_by" ["tree", "counts"] 4 sp_frees_by) (F_crossed_by : OkF P w K mg base "crossed_by" ["tree", "moves"] 6 sp_crossed_by) (hf : HasD K mg "loose_in" s_loose_in d) :
    OkD P w K mg base "loose_in" ["tree", "stand", "moves", "widened"] d 7 (sp_loose_in (K := K)) := by
  refine HasD.ok hf sc_loose_in 3 rfl (fun _ _ _ _ _ _ _ us its h1 h2 => match us, its, h1, h2 with | [_, _, _], [_], _, _ => ⟨_, rfl, rfl⟩) (fun _ _ _ _ _ _ _ us its h1 h2 => match us, its, h1, h2 with | [_, _, _, _], [_], _, _ => ⟨_, rfl, rfl⟩) (fun vs H Q E h => ?_) (fun f cdv A outer sh H vs Q E hr h => ?_)
  · obtain ⟨T, s, L, v, u, x, a, rfl, _⟩ := h
    rfl
  · obtain ⟨T, s, L, v, u, x, a, rfl, iv, iu, ix, ha, hl, ok, hm, few, q⟩ := h
    have hu := hu_of hr
    have hz : T.length ≤ 1000 := Nat.le_trans ok.len (by decide)
    refine ⟨_, (pss_cons (ps_asg (pe_tup (pa_cons (pe_c F_frees_by (hr.mono (by decide)) (pa_cons (pv 0) (pa_cons (pv 1) pa_nil))) (pa_cons (pe_c F_crossed_by (hr.mono (by decide)) (pa_cons (pv 0) (pa_cons (pv 2) pa_nil))) pa_nil))) (pg_tup rfl (pgs_cons (pg_name (i := 4) sc_loose_in.nd rfl (.inr rfl)) (pgs_cons (pg_name (i := 5) sc_loose_in.nd rfl (.inr rfl)) pgs_nil))))
  (pss_one (ps_ret (pe_dc (own := [("name", 6)]) (g := (gName 6)) rfl sc_loose_in.nd (pi_keys (pe_frz (pv 4))) (blkOk_by (own := [("name", 6)]) (N := N_loose_in) (sc := defScope s_loose_in) (by decide +kernel)) (fun _ _ _ _ _ => (pg_name (i := 6) sc_loose_in.nd rfl (.inl rfl))) (fun _ _ _ _ _ => pts_one (PW.pt (pw_or (pt_cmpR op_gt (pe_dget hu (pv 4) (pv 6) (fun _ _ => rfl)) pe_int (nomark _)) (pw_or (pt_cmp (pc_dnotin hu (pv 6) (pv 5))) (pw_or1 (pt_cmpR (show OpR _ _ (rIn K false) from op_in_seq) (pv 6) (pv 3) (by with_unfolding_all rfl))))))) (fun _ _ _ _ _ => (pv 6)) (fun _ _ _ _ _ => pe_bl))))), ?_⟩
    refine ⟨v, rfl, u, rfl, T, s, v, u, rfl, iv, iu, hl, ok, fun pf H1 s1 nf df => ?_⟩
    refine ⟨v, rfl, x, rfl, T, L, v, x, rfl, iv.mono (.same s1), ix.mono (.same s1), ok, hm, few, fun pc H2 gc s2 nc dc kc hc => ?_⟩
    have s02 := s1.trans s2
    refine ⟨by show 2 ≤ sizeLine; decide, fun t nt => g_pair ?_⟩
    have sT : Same H2 (upd H2 t (.tup [.ref pf, .ref pc])) := Same.new nt
    generalize upd H2 t (.tup [.ref pf, .ref pc]) = H3 at sT
    have df3 := (df.same s2).same sT
    have dc3 := dc.same sT
    have npc : pc ≠ pf := fun e => by
      obtain ⟨_, h1, _⟩ := df
      rw [e, h1] at nc
      cases nc
    refine ⟨_, rfl, dcK df3 (by rw [gInts_len]; exact hz) (fun d => decide (use T s d.1 < room T d.1 ∨ ¬ (gc.lookup d.1).isSome = true)) (fun d => d.1) (fun _ => .bool true) ?_ ?_ ?_⟩
    · have : ((gInts T fun f => room T f - use T s f).map (·.1)).Nodup := by
        rw [gInts_keys]
        exact ok.nd
      exact List.Nodup.sublist (List.Sublist.map _ (List.filter_sublist)) this
    · rintro ⟨n, dn⟩ H4 Qt Qf hd sx ht hf' ⟨kvs, o, hp4, ki⟩
      obtain ⟨n', hn, e⟩ := List.mem_map.mp hd
      cases e
      obtain ⟨v4, ev4, iv4⟩ := ki.get (gInts_look (f := fun f => room T f - use T s f) hn)
      have hg : DGet H4 pf (.str n) (some v4) := .inl ⟨kvs, .inr n, .inr ⟨o, hp4⟩, rfl, ev4.symm⟩
      refine ⟨rfl, _, rfl, _, rfl, pf, v4, rfl, hg, ?_⟩
      rw [iv4.iinv]
      refine ⟨_, _, rfl, rfl, _, rfl, ?_⟩
      have dc4 := sx.dl df3 dc3 npc
      by_cases h1 : use T s n < room T n
      · refine iteP (decide_eq_true (by omega)) (iteT ⟨_, rfl, ?_⟩)
        exact ht _ iv4 hg (decide_eq_true (.inl h1)) _ _ (Same.refl _) (.bl true)
      · refine iteN (decide_eq_false (by omega)) ?_
        refine ⟨_, rfl, _, rfl, r_in dc4 (fun miss => ?_) (fun d v' there _ => ?_)⟩
        · refine ⟨_, rfl, iteT (iteT ⟨_, rfl, ?_⟩)⟩
          exact ht _ iv4 hg (decide_eq_true (.inr (by
            show ¬ (gc.lookup n).isSome = true
            rw [miss]
            decide))) _ _ (Same.refl _) (.bl true)
        · refine ⟨_, rfl, iteF ?_⟩
          refine ⟨_, rfl, _, rfl, a, [], rfl, .inr (ha _), rfl, rfl, _, rfl, iteF (hf' ?_ _ (Same.refl _))⟩
          refine decide_eq_false fun z => ?_
          rcases z with z | z
          · exact h1 z
          · exact z (by
              show (gc.lookup n).isSome = true
              rw [there]
              rfl)
    · intro D H4 nD sx dl
      have hks : ((gInts T fun f => room T f - use T s f).filter fun d => decide (use T s d.1 < room T d.1 ∨ ¬ (gc.lookup d.1).isSome = true)).map (·.1) = (names T).filter fun n => decide (use T s n < room T n ∨ ¬ (gc.lookup n).isSome = true) := by
        unfold gInts
        rw [List.filter_map, List.map_map]
        show ((names T).filter _).map id = _
        rw [List.map_id]
        rfl
      have hmem : ∀ f, ((((gInts T fun f => room T f - use T s f).filter fun d => decide (use T s d.1 < room T d.1 ∨ ¬ (gc.lookup d.1).isSome = true)).map fun d => (d.1, PyData.bool true)).lookup f).isSome = true ↔ f ∈ names T ∧ (use T s f < room T f ∨ ¬ (gc.lookup f).isSome = true) := fun f => by
        rw [look_isSome, List.map_map]
        show f ∈ List.map (fun e : Str × PyData => e.1) _ ↔ _
        rw [hks, List.mem_filter, decide_eq_true_eq]
      refine q D H4 _ (sx.old (s02.trans sT) nf) ?_ dl ⟨?_, fun k hk => ((hmem k).mp hk).1⟩ fun f hf => ?_
      · exact (s02.trans sT).free nD
      · rw [List.map_map]
        show (List.map (fun e : Str × PyData => e.1) _).Nodup
        rw [hks]
        exact List.Nodup.sublist List.filter_sublist ok.nd
      · rw [hmem f, hc f]
        exact ⟨fun h => h.2, fun h => ⟨hf, h⟩⟩
end
end RW
end
section
set_option linter.all false
set_option maxRecDepth 100000
set_option autoImplicit false
set_option maxHeartbeats 1000000
/-! Dicts of lists of texts. -/
namespace RW
open PySem PySem.Spec PyProof.Rows L2
structure TB (H : Hp) (p : Addr) (ks : List Str) (ad : Str → Addr) (c : Str → List Str) : Prop where
  at_ : H p = some (.dK (ks.map fun k => (.inr k, .ref (ad k))))
  nd : ks.Nodup
  ls : ∀ k, k ∈ ks → H (ad k) = some (.lst ((c k).map .str))
  inj : ∀ j k, j ∈ ks → k ∈ ks → ad j = ad k → j = k
theorem val_tb (ad : Str → Addr) {ks : List Str} {k : Str} : valV (ks.map fun k => ((.inr k : Key), V.ref (ad k))) (.inr k) = if k ∈ ks then some (.ref (ad k)) else none := by
  induction ks with
  | nil => rfl
  | cons a ks ih =>
    rw [List.map_cons]
    by_cases e : k = a
    · subst e
      rw [valV_pos rfl, if_pos List.mem_cons_self]
    · rw [valV_neg fun z => e (Sum.inr.inj z).symm, ih]
      by_cases h : k ∈ ks
      · rw [if_pos h, if_pos (List.mem_cons_of_mem _ h)]
      · rw [if_neg h, if_neg fun z => (List.mem_cons.mp z).elim e h]
namespace TB
variable {H H' : Hp} {p : Addr} {ks : List Str} {ad : Str → Addr} {c : Str → List Str}
theorem same (h : TB H p ks ad c) (s : Same H H') : TB H' p ks ad c := ⟨s _ _ h.at_, h.nd, fun k hk => s _ _ (h.ls k hk), h.inj⟩
theorem nep (h : TB H p ks ad c) {k : Str} (hk : k ∈ ks) : ad k ≠ p := ne_of (h.ls k hk) h.at_ (fun z => nomatch z)
theorem get (h : TB H p ks ad c) {k : Str} (hk : k ∈ ks) : DGet H p (.str k) (some (.ref (ad k))) := by
  have z := DGet.k (k := (.inr k : Key)) h.at_
  rw [val_tb, if_pos hk] at z
  exact z
/-- an item more at k -/
theorem app (h : TB H p ks ad c) {k : Str} (hk : k ∈ ks) (y : Str) : TB (upd H (ad k) (.lst ((c k).map .str ++ [.str y]))) p ks ad fun j => if j = k then c k ++ [y] else c j where
  at_ := (upd_ne (h.nep hk).symm).trans h.at_
  nd := h.nd
  ls := fun j hj => by
    by_cases e : j = k
    · rw [if_pos e, e, upd_same, List.map_append]
      rfl
    · rw [if_neg e, upd_ne fun z => e (h.inj j k hj hk z)]
      exact h.ls j hj
  inj := h.inj
/-- something else changes -/
theorem other (h : TB H p ks ad c) {q : Addr} {o : HO} (n1 : p ≠ q) (n2 : ∀ k, k ∈ ks → ad k ≠ q) : TB (upd H q o) p ks ad c :=
  ⟨(upd_ne n1).trans h.at_, h.nd, fun k hk => (upd_ne (n2 k hk)).trans (h.ls k hk), h.inj⟩
/-- a key more -/
theorem add (h : TB H p ks ad c) {k : Str} (hk : k ∉ ks) {l : Addr} (nl : H l = none) (e : ∀ j, j ∈ ks → c j = []) :
    TB (upd (upd H l (.lst [])) p (.dK (putK (ks.map fun k => ((.inr k : Key), V.ref (ad k))) (.inr k) (.ref l)))) p (ks ++ [k]) (fun j => if j = k then l else ad j) fun _ => [] := by
  have pl : p ≠ l := ne_of_none h.at_ nl
  have hv : valV (ks.map fun k => ((.inr k : Key), V.ref (ad k))) (.inr k) = none := by
    rw [val_tb, if_neg hk]
  refine ⟨?_, ?_, fun j hj => ?_, fun i j hi hj z => ?_⟩
  · rw [upd_same, putK_new _ hv, List.map_append, List.map_cons, List.map_nil, if_pos rfl]
    congr 2
    refine congrArg (· ++ [_]) (List.map_congr_left fun j hj => ?_)
    have : j ≠ k := fun z => hk (by rw [← z]; exact hj)
    rw [if_neg this]
  · rw [List.nodup_append]
    refine ⟨h.nd, by simp, fun a ha b hb z => ?_⟩
    rw [List.mem_singleton.mp hb] at z
    exact hk (by rw [← z]; exact ha)
  · by_cases ej : j = k
    · rw [if_pos ej, upd_ne pl.symm, upd_same]
      rfl
    · have hj' : j ∈ ks := by
        rcases List.mem_append.mp hj with hj | hj
        · exact hj
        · exact absurd (List.mem_singleton.mp hj) ej
      have q := h.ls j hj'
      rw [if_neg ej, upd_ne (h.nep hj'), upd_ne (ne_of_none q nl), q, e j hj']
  · have old : ∀ {j}, j ∈ ks ++ [k] → j ≠ k → j ∈ ks := fun {j} hj ne => by
      rcases List.mem_append.mp hj with hj | hj
      · exact hj
      · exact absurd (List.mem_singleton.mp hj) ne
    by_cases ei : i = k
    · by_cases ej : j = k
      · rw [ei, ej]
      · rw [if_pos ei, if_neg ej] at z
        exact absurd z.symm (ne_of_none (h.ls j (old hj ej)) nl)
    · by_cases ej : j = k
      · rw [if_neg ei, if_pos ej] at z
        exact absurd z (ne_of_none (h.ls i (old hi ei)) nl)
      · rw [if_neg ei, if_neg ej] at z
        exact h.inj i j (old hi ei) (old hj ej) z
end TB
/-- {k: [] for ..} -/
theorem dc_new {J : It} {n : Nat} {G : Hp → Prop} {Y : Nat → Hp → V → Hp → Prop} {g : TG} {tt : TT} {tk tv : TE} {vs : List Nat} {σ : L2.St} {H1 : Hp} {D : Addr} {Qd : Hp → Prop}
    (w : Walk J n G Y) (ks : List Str) (hn : n = ks.length) (hz : ks.length ≤ 1000) (hnd : ks.Nodup) (hD : H1 D = none) (hG : ∀ H, Same H1 H → G H) (hY : ∀ i H x H', i < n → Same H1 H → Y i H x H' → Same H H')
    (hs : ∀ i k x H H' (Qt : V → V → Hp → Prop) (Qf : Hp → Prop), ks[i]? = some k → Same H1 H → Y i H x H' → (∀ H5, Same H' H5 → ∀ l, H5 l = none → Qt (.str k) (.ref l) (upd H5 l (.lst []))) →
      g x (wipe σ vs) H' fun σ2 H2 => wipe σ2 vs = wipe σ vs ∧ tt σ2 H2 fun b H3 => if b = true then tk σ2 H3 fun y H4 => tv σ2 H4 fun z H5 => Qt y z H5 else Qf H3)
    (hd : ∀ H ad, Same H1 H → TB H D ks ad (fun _ => []) → (∀ k, k ∈ ks → H1 (ad k) = none) → Qd H) :
    ∃ W : Nat → Nat → Hp → Prop, (∃ m, W 0 m (upd H1 D (.dK []))) ∧ ∀ i m H, W i m H →
      (J.stop i H ∧ Qd H) ∨ (J.go i H ∧ ∃ Nx : Hp → Prop, (∀ H', Nx H' → ∃ m', m' < m ∧ W (i + 1) m' H') ∧ ∀ x H', J.yld i H x H' → g x (wipe σ vs) H' fun σ2 H2 => wipe σ2 vs = wipe σ vs ∧ tt σ2 H2 fun b H3 =>
        if b = true then tk σ2 H3 fun y H4 => tv σ2 H4 fun z H5 => ∃ kvs k, y = kV k ∧ H5 D = some (.dK kvs) ∧ kvs.length < sizeLine ∧ Nx (upd H5 D (.dK (putK kvs k z))) else Nx H3) := by
  subst hn
  refine dc_it w (fun i H => Same H1 H ∧ ∃ ad, TB H D (ks.take i) ad (fun _ => []) ∧ ∀ k, k ∈ ks.take i → H1 (ad k) = none) ⟨Same.new hD, (fun _ => 0), ⟨upd_same, List.nodup_nil, (fun k hk => nomatch hk), (fun j k hj => nomatch hj)⟩, (fun k hk => nomatch hk)⟩ (fun i H _ h => hG H h.1) ?_ ?_
  · rintro i x H H' hi ⟨sm, ad, tb, fr⟩ y
    have e : ks[i]? = some ks[i] := List.getElem?_eq_getElem hi
    have sy := hY i H x H' hi sm y
    have et : ks.take (i + 1) = ks.take i ++ [ks[i]] := by rw [List.take_add_one, e]; rfl
    have hk : ks[i] ∉ ks.take i := fun hm => by
      have nd := hnd
      rw [← List.take_append_drop i ks, List.nodup_append] at nd
      refine nd.2.2 _ hm ks[i] ?_ rfl
      rw [List.drop_eq_getElem_cons hi]
      exact List.mem_cons_self
    refine hs i ks[i] x H H' (fun y z H5 => ∃ kvs k, y = kV k ∧ H5 D = some (.dK kvs) ∧ kvs.length < sizeLine ∧ _) _ e sm y fun H5 s5 l nl => ?_
    have tb5 := (tb.same sy).same s5
    have Dl : D ≠ l := ne_of_none tb5.at_ nl
    have hl : ((ks.take i).map fun k => ((.inr k : Key), V.ref (ad k))).length ≤ 1000 := by
      rw [List.length_map, List.length_take]
      omega
    refine ⟨_, .inr ks[i], rfl, (upd_ne Dl).trans tb5.at_, small1000 hl, Same.mut (((sm.trans sy).trans s5).trans (Same.new nl)) hD, (fun j => if j = ks[i] then l else ad j), ?_, ?_⟩
    · have z := tb5.add hk nl fun _ _ => rfl
      rw [← et] at z
      exact z
    · intro k hkk
      rw [et] at hkk
      have h1l : H1 l = none := ((sm.trans sy).trans s5).free nl
      dsimp only
      by_cases ek : k = ks[i]
      · rw [if_pos ek]
        exact h1l
      · rw [if_neg ek]
        refine fr k ?_
        rcases List.mem_append.mp hkk with h | h
        · exact h
        · exact absurd (List.mem_singleton.mp h) ek
  · rintro H ⟨sm, ad, tb, fr⟩
    rw [List.take_length] at tb fr
    exact hd H ad sm tb fr
/-! name = {k: v for ..} on one line, the name a local -/
section
variable {X : Cx}
theorem swD_true {kx vx : Expr} {gs : List Comprehension} {scope : Scope} {pos py : Pos} {y : Str} {l : Nat} {env : Env} (hk : env.scope.kind = .function) (hy : env.scope.names.lookup y = some .local) (hl : (py.line == pos.line) = true)
    (ha : (scope.names.any fun (n, k) => n == y && (k == .local || k == .cell)) = false) : swapsWith (.DictComp kx vx gs scope pos) (some (.Name y py)) l env = pure true := by
  have ky : env.kindOf y = some .local := hy
  have hb : env.blockKind = .function := by
    unfold Env.blockKind
    rw [hk]
    rfl
  unfold swapsWith
  simp only [hb, ky, ha, Expr.pos, hl]
  rfl
theorem ps_setDc {i : Nat} {y : Str} {py : Pos} {kx vx tg iter : Expr} {ifs : List Expr} {scope : Scope} {own : List (Str × Nat)} {pos spos : Pos} {wi : TI} {g : TG} {tt : TT} {tk tv : TE} (hc : X.calm = true) (hN : X.N.Nodup) (hy : X.N[i]? = some y) (hyl : X.env.scope.names.lookup y = some .local)
    (hsw : swapsWith (.DictComp kx vx [⟨tg, iter, ifs, 0⟩] scope pos) (some (.Name y py)) spos.line X.env = pure true) (hi : PI X tg iter wi) (ok : BlkOk X.N X.env.scope scope own)
    (hg : ∀ (s : Shared) (H : Hp) (C : Addr) (cl : List (Str × Addr)) (fp : List Addr), PG (X.blk s H scope (compEnvC scope cl C X.env) fp) tg g) (ht : ∀ (s : Shared) (H : Hp) (C : Addr) (cl : List (Str × Addr)) (fp : List Addr), PTs (X.blk s H scope (compEnvC scope cl C X.env) fp) ifs tt)
    (hk : ∀ (s : Shared) (H : Hp) (C : Addr) (cl : List (Str × Addr)) (fp : List Addr), PE (X.blk s H scope (compEnvC scope cl C X.env) fp) kx tk)
    (he : ∀ (s : Shared) (H : Hp) (C : Addr) (cl : List (Str × Addr)) (fp : List Addr), PE (X.blk s H scope (compEnvC scope cl C X.env) fp) vx tv) (hs : ∀ x, foldedSetIterable iter X.env x = pure x := by intro _; rfl) :
    PS X (.Assign [.Name y py] (.DictComp kx vx [⟨tg, iter, ifs, 0⟩] scope pos) spos) (tAsg (tDc wi g tt tk tv (own.map (·.2))) (gName i)) := by
  refine ⟨fun pins s σ H D I h => ?_⟩
  rw [exec_Assign_Name_used _ _ _ _ hsw]
  refine wpAny_bind (wpAny_standAt (wpAny_bind ?_))
  show wpAny _ X.A (do let _ ← comprehension (.DictComp kx vx [⟨tg, iter, ifs, 0⟩] scope pos) scope X.env (firstIterPos [⟨tg, iter, ifs, 0⟩] pos) newDict false (eval iter X.env) (some (assign (.Name y py) X.env))) _ _ s
  have h' : tDc wi g tt tk tv (own.map (·.2)) σ H (fun x H1 => gName i x σ H1 D.nx) := h
  refine wpAny_bind (thn (dc_core (Qf := fun _ s' => SP X pins D .next s') hc hN I hi ok hg ht hk he hs h' fun L C s' m H' I' q hn f => ?_) fun _ s' hq => wpAny_pure (wpAny_pure hq))
  show wpAny _ _ (assign (.Name y py) X.env (.ref L)) _ _ _
  refine wpAny_assign_Name (store_ok2 (v := V.ref L) I' hN hy (.inl hyl) rfl (fun s2 I2 ⟨a, sb, ha⟩ => ?_) (.inr hyl))
  obtain ⟨f0, f1, f2, f3, f4, f5⟩ := f
  have haC : C ≠ a := by
    rcases ha with z | z
    · rw [z]
      exact f1
    · exact fun e => f4 y a z e.symm
  exact ⟨m, hn.sameBut sb haC, fun h3 sb3 => ⟨_, H', I2.turned (t' := s2.toks) (fun b o hb e => (sb3.2 b hb).trans e) f0 f1 f3 f4 f5, q⟩⟩
end
theorem pa_starK {X : Cx} (K : PySem.W.Frag) (hK : X.K = K) {e : Expr} {es : List Expr} {te : TE} {t : TA} {p : Pos} (he : PE X e te) (hr : PA X es t) (hs : starEach (.Starred e p :: es) X.env = (true, eval e X.env) :: starEach es X.env := by rfl) :
    PA X (.Starred e p :: es) (StX.tStar K te t) := by
  subst hK
  exact StX.pa_star he hr hs
end RW
end
section
set_option linter.all false
set_option maxRecDepth 100000
set_option autoImplicit false
set_option maxHeartbeats 1000000
/-! arrows_by, turned_arrows, reached_by. -/
namespace RW
open PySem PySem.Spec PyProof.Rows L2
abbrev s_arrows_by : Stmt := topS 53
abbrev N_arrows_by : List Str := ["tree", "moves", "loose", "found", "name", "parent", "room", "source", "target"]
theorem sc_arrows_by : FnScope N_arrows_by ["tree", "moves", "loose"] (defScope s_arrows_by) := ⟨rfl, rfl, rfl, by decide +kernel, rfl, by decide +kernel, by decide +kernel⟩
abbrev s_turned_arrows : Stmt := topS 54
abbrev N_turned_arrows : List Str := ["table", "found", "spot", "late"]
theorem sc_turned_arrows : FnScope N_turned_arrows ["table"] (defScope s_turned_arrows) := ⟨rfl, rfl, rfl, by decide +kernel, rfl, by decide +kernel, by decide +kernel⟩
abbrev s_reached_by : Stmt := topS 55
abbrev N_reached_by : List Str := ["table", "start", "found", "tasks", "late"]
theorem sc_reached_by : FnScope N_reached_by ["table", "start"] (defScope s_reached_by) := ⟨rfl, rfl, rfl, by decide +kernel, rfl, by decide +kernel, by decide +kernel⟩

def Loo (gl : Gd) (n : Str) : Prop := (gl.lookup n).isSome = true
/-- the arrows of the rows -/
def A1 (gl : Gd) (R : List Row) (x y : Str) : Prop := ∃ r, r ∈ R ∧ ((r.2.1 ≠ E' ∧ x = r.2.1 ∧ y = r.1) ∨ (Loo gl r.1 ∧ x = r.1 ∧ y = r.2.1))
def A2 (L : List (Str × Str)) (x y : Str) : Prop := ∃ m, m ∈ L ∧ ((x = m.1 ∧ y = m.2) ∨ (x = m.2 ∧ y = m.1))
theorem A1_arr {T : List Row} (ok : TreeOk T) {gl : Gd} {L : List (Str × Str)} {x y : Str} : (A1 gl T x y ∨ A2 L x y) ↔ RR.Arr (names T) E' (par T) (Loo gl) L x y := by
  constructor
  · rintro (⟨r, hr, ⟨h1, rfl, rfl⟩ | ⟨h1, rfl, rfl⟩⟩ | ⟨m, hm, h⟩)
    · exact .inl ⟨List.mem_map_of_mem hr, par_row ok.nd hr, h1⟩
    · exact .inr (.inl ⟨List.mem_map_of_mem hr, h1, par_row ok.nd hr⟩)
    · exact .inr (.inr ⟨m, hm, h⟩)
  · rintro (⟨hy, e, ne⟩ | ⟨hx, hl, e⟩ | ⟨m, hm, h⟩)
    · obtain ⟨r, hr, rfl⟩ := names_row hy
      rw [par_row ok.nd hr] at e
      exact .inl ⟨r, hr, .inl ⟨by rw [e]; exact ne, e.symm, rfl⟩⟩
    · obtain ⟨r, hr, rfl⟩ := names_row hx
      rw [par_row ok.nd hr] at e
      exact .inl ⟨r, hr, .inr ⟨hl, rfl, e.symm⟩⟩
    · exact .inr ⟨m, hm, h⟩
section
variable {P : Program} {w : World} {K : PySem.W.Frag} {mg : Str → Option Value} {base : Heap}
def sp_arrows_by : Sp := fun vs H Q _ => ∃ (T : List Row) (L : List (Str × Str)) (v u : V) (pl : Addr) (gl : Gd), vs = [v, u, .ref pl] ∧ Im H v (dTree T) ∧ Im H u (dMvs L) ∧ DL H pl gl ∧ TreeOk T ∧ (∀ m, m ∈ L → MvOk T m) ∧ L.length ≤ 60 ∧
  ∀ p H' ad c, Same H H' → H p = none → TB H' p (E' :: names T) ad c → (∀ k, k ∈ E' :: names T → H (ad k) = none) → (∀ x y, x ∈ E' :: names T → (y ∈ c x ↔ RR.Arr (names T) E' (par T) (Loo gl) L x y)) → (∀ x, (c x).length ≤ 160) → Q (.ref p) H'
theorem ok_arrows_by (Tx : Txt mg) (hf : Has K mg "arrows_by" s_arrows_by) : OkF P w K mg base "arrows_by" ["tree", "moves", "loose"] 1 sp_arrows_by := by
  refine Has.ok hf sc_arrows_by (fun _ _ _ _ _ _ us hl => match us, hl with | [_, _, _], _ => rfl) (fun vs H Q E h => ?_) (fun f cdv A outer sh H vs Q E hr h => ?_)
  · obtain ⟨T, L, v, u, pl, gl, rfl, _⟩ := h
    rfl
  · obtain ⟨T, L, v, u, pl, gl, rfl, iv, iu, dl, ok, hm, few, q⟩ := h
    have hu := hu_of hr
    have hz : T.length ≤ 1000 := Nat.le_trans ok.len (by decide)
    refine ⟨_, (pss_cons (ps_set (i := 3) sc_arrows_by.nd rfl (.inl rfl) (pe_dispS pe_str (pe_lst pa_nil) (pe_dc (own := [("name", 4), ("parent", 5), ("room", 6)]) (g := (gTup K 3 (gCons (gName 4) (gCons (gName 5) (gCons (gName 6) gNil))))) (tt := tYes) rfl sc_arrows_by.nd (pi_tup (pv 0)) (blkOk_by (own := [("name", 4), ("parent", 5), ("room", 6)]) (N := N_arrows_by) (sc := defScope s_arrows_by) (by decide +kernel)) (fun _ _ _ _ _ => (pg_tup rfl (pgs_cons (pg_name (i := 4) sc_arrows_by.nd rfl (.inl rfl)) (pgs_cons (pg_name (i := 5) sc_arrows_by.nd rfl (.inl rfl)) (pgs_cons (pg_name (i := 6) sc_arrows_by.nd rfl (.inl rfl)) pgs_nil))))) (fun _ _ _ _ _ => pts_nil) (fun _ _ _ _ _ => (pv 4)) (fun _ _ _ _ _ => (pe_lst pa_nil)))))
  (pss_cons (ps_for PassesOwn.never rfl (pi_tup (pv 0)) (pg_tup rfl (pgs_cons (pg_name (i := 4) sc_arrows_by.nd rfl (.inl rfl)) (pgs_cons (pg_name (i := 5) sc_arrows_by.nd rfl (.inl rfl)) (pgs_cons (pg_name (i := 6) sc_arrows_by.nd rfl (.inl rfl)) pgs_nil)))) (pss_cons (ps_if (pt_cmpR op_ne (pv 5) pe_str (nomark _)) (pss_one (ps_expr (pe_bm PySem.F.plainAttrs_list PySem.F.slot_list_append PySem.F.type_list_append mt_append (pe_dget hu (pv 3) (pv 5) (fun _ _ => rfl)) (pa_cons (pv 4) pa_nil)))) pss_nil)
  (pss_one (ps_if (pt_cmp (pc_din hu (pv 4) (pv 2))) (pss_one (ps_expr (pe_bm PySem.F.plainAttrs_list PySem.F.slot_list_append PySem.F.type_list_append mt_append (pe_dget hu (pv 3) (pv 4) (fun _ _ => rfl)) (pa_cons (pv 5) pa_nil)))) pss_nil))))
  (pss_cons (ps_for PassesOwn.never rfl (pi_list (pe_ssetM Tx hr (pv 1))) (pg_tup rfl (pgs_cons (pg_name (i := 7) sc_arrows_by.nd rfl (.inl rfl)) (pgs_cons (pg_name (i := 8) sc_arrows_by.nd rfl (.inl rfl)) pgs_nil))) (pss_cons (ps_expr (pe_bm PySem.F.plainAttrs_list PySem.F.slot_list_append PySem.F.type_list_append mt_append (pe_dget hu (pv 3) (pv 7) (fun _ _ => rfl)) (pa_cons (pv 8) pa_nil)))
  (pss_one (ps_expr (pe_bm PySem.F.plainAttrs_list PySem.F.slot_list_append PySem.F.type_list_append mt_append (pe_dget hu (pv 3) (pv 8) (fun _ _ => rfl)) (pa_cons (pv 7) pa_nil))))))
  (pss_one (ps_ret (pv 3)))))), ?_⟩
    intro p np
    refine ⟨Nat.zero_le _, fun l nl => ?_⟩
    have pnl : p ≠ l := ne_of_none upd_same nl
    have nlH : H l = none := by
      rw [upd_ne pnl.symm] at nl
      exact nl
    refine ⟨.inr E', rfl, (upd_ne pnl).trans upd_same, ?_⟩
    generalize hA : upd (upd (upd H p (.dK [])) l (.lst [])) p (.dK [((.inr E' : Key), V.ref l)]) = HA
    have sA : Same H HA := by
      rw [← hA]
      exact Same.mut ((Same.new np).trans (Same.new nl)) np
    have eA : HA p = some (.dK [((.inr E' : Key), V.ref l)]) := by
      rw [← hA]
      exact upd_same
    have lA : HA l = some (.lst []) := by
      rw [← hA, upd_ne pnl.symm]
      exact upd_same
    clear hA
    obtain ⟨a, xs, rfl, hT, hA⟩ := id iv.tinv
    have hTA := hT.sm sA
    have hxl : xs.length = T.length := by rw [hA.len, List.length_map]
    refine ⟨_, rfl, a, rfl, ⟨xs, .inl hTA⟩, fun D nD => ?_⟩
    refine dc_new walk_tup (names T) (by rw [names_len]; exact hxl) (by rw [names_len]; exact hz) ok.nd nD (fun H1 s1 => .inl (hTA.sm s1)) (fun i H1 x H2 _ _ y => by rw [y.1]; exact Same.refl _) ?_ ?_
    · rintro i k x H1 H2 Qt Qf e s1 ⟨rfl, ex⟩ ht
      have hr : ∃ r, T[i]? = some r ∧ r.1 = k := by
        unfold names at e
        rw [List.getElem?_map] at e
        cases z : T[i]? with
        | none =>
          rw [z] at e
          cases e
        | some r =>
          rw [z] at e
          exact ⟨r, rfl, Option.some.inj e⟩
      obtain ⟨r, er, rfl⟩ := hr
      have ix := get_enc (enc := dRow) ((hA.mono (.same sA)).mono (.same s1)) er ex
      exact g_tup3 ix fun a b c ia ib ic => ⟨rfl, _, rfl, Nat.zero_le _, fun l2 nl2 => by rw [ia.sinv]; exact ht _ (Same.refl _) l2 nl2⟩
    · intro H1 ad s1 tb fr
      have e1 := s1 _ _ eA
      have l1 := s1 _ _ lA
      have pD : p ≠ D := ne_of_none eA nD
      refine ⟨D, _, rfl, pD, e1, tb.at_, by rw [List.length_map, names_len]; exact Nat.le_trans ok.len (by decide), ?_⟩
      have hmk : mergeK [((.inr E' : Key), V.ref l)] ((names T).map fun k => ((.inr k : Key), V.ref (ad k))) = (E' :: names T).map fun k => ((.inr k : Key), V.ref (if k = E' then l else ad k)) := by
        rw [mergeK_new]
        · rw [List.map_cons, if_pos rfl]
          refine congrArg (_ :: ·) (List.map_congr_left fun k hk => ?_)
          rw [if_neg fun z => ok.noE (by rw [← z]; exact hk)]
        · rw [List.map_append, List.map_map]
          show ([(Sum.inr E' : Key)] ++ (names T).map (fun k => (Sum.inr k : Key))).Nodup
          refine List.nodup_cons.mpr ⟨fun hmm => ?_, List.pairwise_map.mpr (ok.nd.imp fun h z => h (Sum.inr.inj z))⟩
          obtain ⟨k, hk, ek⟩ := List.mem_map.mp hmm
          exact ok.noE (by rw [← Sum.inr.inj ek]; exact hk)
      rw [hmk]
      generalize hB : upd H1 p (.dK ((E' :: names T).map fun k => ((.inr k : Key), V.ref (if k = E' then l else ad k)))) = HB
      have s0B : Same H HB := by
        rw [← hB]
        exact Same.mut (sA.trans s1) np
      have lad : ∀ k, k ∈ names T → ad k ≠ l := fun k hk => fun z => by
        have := fr k hk
        rw [z, lA] at this
        cases this
      have tB : TB HB p (E' :: names T) (fun k => if k = E' then l else ad k) (fun _ => []) := by
        rw [← hB]
        refine ⟨upd_same, List.nodup_cons.mpr ⟨ok.noE, ok.nd⟩, fun k hk => ?_, fun j k hj hk z => ?_⟩
        · by_cases e : k = E'
          · rw [if_pos e, upd_ne pnl.symm]
            exact l1
          · have hk' := (List.mem_cons.mp hk).resolve_left e
            rw [if_neg e, upd_ne fun z => by
              have := fr k hk'
              rw [z, eA] at this
              cases this]
            exact tb.ls k hk'
        · by_cases ej : j = E'
          · by_cases ek : k = E'
            · rw [ej, ek]
            · rw [if_pos ej, if_neg ek] at z
              exact absurd z.symm (lad k ((List.mem_cons.mp hk).resolve_left ek))
          · by_cases ek : k = E'
            · rw [if_neg ej, if_pos ek] at z
              exact absurd z (lad j ((List.mem_cons.mp hj).resolve_left ej))
            · rw [if_neg ej, if_neg ek] at z
              exact tb.inj j k ((List.mem_cons.mp hj).resolve_left ej) ((List.mem_cons.mp hk).resolve_left ek) z
      have frB : ∀ k, k ∈ E' :: names T → H ((fun k => if k = E' then l else ad k) k) = none := fun k hk => by
        show H (if k = E' then l else ad k) = none
        by_cases e : k = E'
        · rw [if_pos e]
          exact nlH
        · rw [if_neg e]
          exact sA.free (fr k ((List.mem_cons.mp hk).resolve_left e))
      generalize (fun k => if k = E' then l else ad k) = ad2 at tB frB
      clear hB tb fr e1 l1 lad
      have npl : pl ≠ p := by
        obtain ⟨_, h1, _⟩ := dl
        exact ne_of_none h1 np
      have dlB := dl.same s0B
      have ivB := iv.mono (.same s0B)
      have iuB := iu.mono (.same s0B)
      clear hTA nD s1 sA eA lA pD hT hA hxl
      -- the rows
      refine ⟨_, rfl, forT (ds := T) (enc := dRow) ivB (fun i σ H' => ∃ y4 y5 y6 c, σ = [some (.ref a), some u, some (.ref pl), some (.ref p), y4, y5, y6, none, none] ∧ Same H H' ∧ KT HB H' ∧ DL H' pl gl ∧ TB H' p (E' :: names T) ad2 c ∧
          (∀ x y, x ∈ E' :: names T → (y ∈ c x ↔ A1 gl (T.take i) x y)) ∧ ∀ x, (c x).length ≤ 2 * i) ⟨none, none, none, _, rfl, s0B, KT.refl _, dlB, tB, (fun x y _ => ⟨(fun h => nomatch h), (fun h => by
            obtain ⟨r, hr, _⟩ := h
            cases hr)⟩), (fun x => Nat.le_refl _)⟩ (fun i σ H' h => by
          obtain ⟨_, _, _, _, _, _, k, _⟩ := h
          exact k) ?_ ?_⟩
      · rintro i r x σ H' e ⟨y4, y5, y6, c, rfl, sm, kt, d1, t1, hc, hlen⟩ ix
        have hr : r ∈ T := List.mem_of_getElem? e
        have hi : i < T.length := (List.getElem?_eq_some_iff.mp e).1
        have hn : r.1 ∈ names T := List.mem_map_of_mem hr
        refine g_tup3 ix fun a' b' c' ia ib ic => ?_
        rw [ia.sinv, ib.sinv]
        -- if parent != '': found[parent].append(name)
        have second : ∀ (c1 : Str → List Str) (H1 : Hp), Same H H1 → KT HB H1 → DL H1 pl gl → TB H1 p (E' :: names T) ad2 c1 → (∀ x y, x ∈ E' :: names T → (y ∈ c1 x ↔ A1 gl (T.take i) x y ∨ (r.2.1 ≠ E' ∧ x = r.2.1 ∧ y = r.1))) → (∀ x, (c1 x).length ≤ 2 * i + 1) →
            (Loo gl r.1 → ∃ H2, H2 = upd H1 (ad2 r.1) (.lst ((c1 r.1).map .str ++ [.str r.2.1])) ∧ ∃ c2, Same H H2 ∧ KT HB H2 ∧ DL H2 pl gl ∧ TB H2 p (E' :: names T) ad2 c2 ∧ (∀ x y, x ∈ E' :: names T → (y ∈ c2 x ↔ A1 gl (T.take (i + 1)) x y)) ∧ ∀ x, (c2 x).length ≤ 2 * (i + 1)) ∧
            (¬ Loo gl r.1 → (∀ x y, x ∈ E' :: names T → (y ∈ c1 x ↔ A1 gl (T.take (i + 1)) x y)) ∧ ∀ x, (c1 x).length ≤ 2 * (i + 1)) := by
          intro c1 H1 s1 k1 dd1 tt1 h1 hl1
          have hA : ∀ x y, A1 gl (T.take (i + 1)) x y ↔ A1 gl (T.take i) x y ∨ ((r.2.1 ≠ E' ∧ x = r.2.1 ∧ y = r.1) ∨ (Loo gl r.1 ∧ x = r.1 ∧ y = r.2.1)) := fun x y => by
            have et : T.take (i + 1) = T.take i ++ [r] := by rw [List.take_add_one, e]; rfl
            unfold A1
            rw [et]
            constructor
            · rintro ⟨r', hr', h⟩
              rcases List.mem_append.mp hr' with hr' | hr'
              · exact .inl ⟨r', hr', h⟩
              · rw [List.mem_singleton.mp hr'] at h
                exact .inr h
            · rintro (⟨r', hr', h⟩ | h)
              · exact ⟨r', List.mem_append_left _ hr', h⟩
              · exact ⟨r, List.mem_append_right _ List.mem_cons_self, h⟩
          refine ⟨fun hlo => ?_, fun hlo => ⟨fun x y hx => ?_, fun x => ?_⟩⟩
          · have hk : r.1 ∈ E' :: names T := List.mem_cons_of_mem _ hn
            refine ⟨_, rfl, _, Same.mut s1 (frB _ hk), k1.trans (.lst (tt1.ls _ hk)), ?_, tt1.app hk r.2.1, fun x y hx => ?_, fun x => ?_⟩
            · obtain ⟨_, hp, _⟩ := id dd1
              exact dd1.other (ne_of hp (tt1.ls _ hk) fun z => nomatch z) (.lst (tt1.ls _ hk))
            · rw [hA]
              by_cases ex : x = r.1
              · rw [if_pos ex, ex, List.mem_append, List.mem_singleton, h1 r.1 y hk]
                constructor
                · rintro ((h | h) | h)
                  · exact .inl h
                  · exact .inr (.inl h)
                  · exact .inr (.inr ⟨hlo, rfl, h⟩)
                · rintro (h | h | h)
                  · exact .inl (.inl h)
                  · exact .inl (.inr h)
                  · exact .inr h.2.2
              · rw [if_neg ex, h1 x y hx]
                constructor
                · rintro (h | h)
                  · exact .inl h
                  · exact .inr (.inl h)
                · rintro (h | h | h)
                  · exact .inl h
                  · exact .inr h
                  · exact absurd h.2.1 ex
            · have := hl1 x
              split
              · rename_i ex
                rw [List.length_append, ← ex]
                show _ + 1 ≤ _
                omega
              · omega
          · rw [hA, h1 x y hx]
            constructor
            · rintro (h | h)
              · exact .inl h
              · exact .inr (.inl h)
            · rintro (h | h | h)
              · exact .inl h
              · exact .inr h
              · exact absurd h.1 hlo
          · have := hl1 x
            omega
        have hpar : r.2.1 = E' ∨ r.2.1 ∈ names T := ok.par r hr
        refine ⟨_, rfl, rfl, _, rfl, ?_⟩
        by_cases hp : r.2.1 = E'
        case' neg =>
          have hkp : r.2.1 ∈ E' :: names T := List.mem_cons_of_mem _ (hpar.resolve_left hp)
          have ne : ¬ (V.str r.2.1 = V.str (Str.ofString "")) := fun z => hp (V.str.inj z)
          refine iteP (by rw [decide_eq_false ne]; rfl) ?_
          refine ⟨_, rfl, _, rfl, p, _, rfl, t1.get hkp, .inl ⟨rfl, _, .inl (.inl (t1.ls _ hkp))⟩, _, rfl, ad2 r.2.1, _, _, rfl, rfl, t1.ls _ hkp, ?_, ?_⟩
          · rw [List.length_map]
            have := hlen r.2.1
            have := ok.len
            exact small1000 (by omega)
          have sec := second _ _ (Same.mut sm (frB _ hkp)) (kt.trans (.lst (t1.ls _ hkp))) (by
            obtain ⟨_, hpp, _⟩ := id d1
            exact d1.other (ne_of hpp (t1.ls _ hkp) fun z => nomatch z) (.lst (t1.ls _ hkp))) (t1.app hkp r.1) (fun x y hx => by
              by_cases ex : x = r.2.1
              · rw [if_pos ex, ex, List.mem_append, List.mem_singleton, hc _ y hkp]
                exact ⟨fun h => h.elim .inl fun h => .inr ⟨hp, rfl, h⟩, fun h => h.elim .inl fun h => .inr h.2.2⟩
              · rw [if_neg ex, hc x y hx]
                exact ⟨.inl, fun h => h.elim id fun h => absurd h.2.1 ex⟩) (fun x => by
              have := hlen x
              split
              · rename_i ex
                rw [List.length_append, ← ex]
                show _ + 1 ≤ _
                omega
              · omega)
          have dl1 := d1.other (o := .lst ((c r.2.1).map .str ++ [.str r.1])) (by
            obtain ⟨_, hpp, _⟩ := id d1
            exact ne_of hpp (t1.ls _ hkp) fun z => nomatch z) (.lst (t1.ls _ hkp))
          have tt1 := t1.app hkp r.1
          have ss1 := Same.mut (o := .lst ((c r.2.1).map .str ++ [.str r.1])) sm (frB _ hkp)
          have kk1 := kt.trans (KT.lst (o := .lst ((c r.2.1).map .str ++ [.str r.1])) (t1.ls _ hkp))
          have hl2 : (if r.1 = r.2.1 then c r.2.1 ++ [r.1] else c r.1).length ≤ 1000 := by
            have h1 := hlen r.1
            have h2 := hlen r.2.1
            have := ok.len
            split
            · rw [List.length_append]
              show _ + 1 ≤ _
              omega
            · omega
        case' pos =>
          refine iteN (by rw [hp]; decide) ?_
          have sec := second c H' sm kt d1 t1 (fun x y hx => by
            rw [hc x y hx]
            exact ⟨.inl, fun h => h.elim id fun h => absurd hp h.1⟩) (fun x => Nat.le_succ_of_le (hlen x))
          have dl1 := d1
          have tt1 := t1
          have ss1 := sm
          have kk1 := kt
          have hl2 : (c r.1).length ≤ 1000 := by
            have h1 := hlen r.1
            have := ok.len
            omega
        all_goals
          refine ⟨_, rfl, _, rfl, r_in dl1 (fun miss => ?_) (fun d v' there _ => ?_)⟩
          · have nlo : ¬ Loo gl r.1 := fun z => by
              unfold Loo at z
              rw [miss] at z
              cases z
            refine ⟨_, rfl, iteF ?_⟩
            exact ⟨_, _, _, _, rfl, ss1, kk1, dl1, tt1, (sec.2 nlo).1, (sec.2 nlo).2⟩
          · have lo : Loo gl r.1 := by
              unfold Loo
              rw [there]
              rfl
            refine ⟨_, rfl, iteT ?_⟩
            have hk : r.1 ∈ E' :: names T := List.mem_cons_of_mem _ hn
            obtain ⟨H2, e2, c2, z1, z2, z3, z4, z5, z6⟩ := sec.1 lo
            refine ⟨_, rfl, _, rfl, p, _, rfl, tt1.get hk, .inl ⟨rfl, _, .inl (.inl (tt1.ls _ hk))⟩, _, rfl, ad2 r.1, _, _, rfl, rfl, tt1.ls _ hk, ?_, ?_⟩
            · rw [List.length_map]
              exact small1000 hl2
            · rw [← e2]
              exact ⟨_, _, _, c2, rfl, z1, z2, z3, z4, z5, z6⟩
      · rintro σ H' ⟨y4, y5, y6, c, rfl, sm, kt, d1, t1, hc, hlen⟩
        rw [List.take_length] at hc
        have hl40 := ok.len
        obtain ⟨au, xu, rfl, hU, hUA⟩ := id iu.tinv
        refine ⟨_, rfl, au, xu, L, rfl, .inr (.inl (hU.sm sm)), hUA.mono (.same sm), by omega, fun lm ys ms H2 s2 nlm nd mem el il => ?_⟩
        have hml : ms.length ≤ 60 := Nat.le_trans (nodup_lenG nd fun m h => (mem m).mp h) few
        have nlmH : H lm = none := sm.free nlm
        refine forL (ds := ms) (enc := dMv) el il (fun i σ H' => ∃ z4 z5 z6 z7 z8 c, σ = [some (.ref a), some (.ref au), some (.ref pl), some (.ref p), z4, z5, z6, z7, z8] ∧ Same H H' ∧ KT H2 H' ∧ H' lm = some (.lst ys) ∧ TB H' p (E' :: names T) ad2 c ∧
            (∀ x y, x ∈ E' :: names T → (y ∈ c x ↔ A1 gl T x y ∨ A2 (ms.take i) x y)) ∧ ∀ x, (c x).length ≤ 40 + 2 * i) ⟨_, _, _, none, none, c, rfl, sm.trans s2, KT.refl _, el, t1.same s2, (fun x y hx => by
              rw [hc x y hx]
              exact ⟨.inl, fun h => h.elim id fun h => by
                obtain ⟨m, hmm, _⟩ := h
                rw [List.take_zero] at hmm
                cases hmm⟩), (fun x => by
              have := hlen x
              omega)⟩ (fun i σ H' h => by
            obtain ⟨_, _, _, _, _, _, _, _, k, k2, _⟩ := h
            exact ⟨k, k2⟩) ?_ ?_
        · rintro i m x σ H3 e ⟨z4, z5, z6, z7, z8, c3, rfl, sm3, kt3, el3, t3, hc3, hl3⟩ ix
          have hmL : m ∈ L := (mem m).mp (List.mem_of_getElem? e)
          have hi : i < ms.length := (List.getElem?_eq_some_iff.mp e).1
          have spot : ∀ {x}, Spot T x → x ∈ E' :: names T := fun {x} h => h.elim (fun h => by rw [h]; exact List.mem_cons_self) fun h => List.mem_cons_of_mem _ h
          have k1 := spot (hm m hmL).1
          have k2 := spot (hm m hmL).2
          refine g_tup2 ix fun a' b' ia ib => ?_
          rw [ia.sinv, ib.sinv]
          refine ⟨_, rfl, _, rfl, p, _, rfl, t3.get k1, .inl ⟨rfl, _, .inl (.inl (t3.ls _ k1))⟩, _, rfl, ad2 m.1, _, _, rfl, rfl, t3.ls _ k1, ?_, ?_⟩
          · rw [List.length_map]
            have := hl3 m.1
            exact small1000 (by omega)
          have s4 := Same.mut (o := .lst ((c3 m.1).map .str ++ [.str m.2])) sm3 (frB _ k1)
          have kk4 := kt3.trans (KT.lst (o := .lst ((c3 m.1).map .str ++ [.str m.2])) (t3.ls _ k1))
          have t4 := t3.app k1 m.2
          have nadl : ∀ k, k ∈ E' :: names T → ad2 k ≠ lm := fun k hk z => by
            have h1 := t1.ls k hk
            rw [z, nlm] at h1
            cases h1
          have el4 : upd H3 (ad2 m.1) (.lst ((c3 m.1).map .str ++ [.str m.2])) lm = some (.lst ys) := (upd_ne (nadl _ k1).symm).trans el3
          have hl4 : ∀ x, ((fun j => if j = m.1 then c3 m.1 ++ [m.2] else c3 j) x).length ≤ 40 + 2 * i + 1 := fun x => by
            have := hl3 x
            dsimp only
            split
            · rename_i ex
              rw [List.length_append, ← ex]
              show _ + 1 ≤ _
              omega
            · omega
          have hc4 : ∀ x y, x ∈ E' :: names T → (y ∈ (fun j => if j = m.1 then c3 m.1 ++ [m.2] else c3 j) x ↔ (A1 gl T x y ∨ A2 (ms.take i) x y) ∨ (x = m.1 ∧ y = m.2)) := fun x y hx => by
            dsimp only
            by_cases ex : x = m.1
            · rw [if_pos ex, ex, List.mem_append, List.mem_singleton, hc3 _ y k1]
              exact ⟨fun h => h.elim .inl fun h => .inr ⟨rfl, h⟩, fun h => h.elim .inl fun h => .inr h.2⟩
            · rw [if_neg ex, hc3 x y hx]
              exact ⟨.inl, fun h => h.elim id fun h => absurd h.1 ex⟩
          generalize upd H3 (ad2 m.1) (.lst ((c3 m.1).map .str ++ [.str m.2])) = H4 at s4 kk4 t4 el4
          generalize (fun j => if j = m.1 then c3 m.1 ++ [m.2] else c3 j) = c4 at t4 hl4 hc4
          refine ⟨_, rfl, _, rfl, p, _, rfl, t4.get k2, .inl ⟨rfl, _, .inl (.inl (t4.ls _ k2))⟩, _, rfl, ad2 m.2, _, _, rfl, rfl, t4.ls _ k2, ?_, ?_⟩
          · rw [List.length_map]
            have := hl4 m.2
            exact small1000 (by omega)
          have hA : ∀ x y, A2 (ms.take (i + 1)) x y ↔ A2 (ms.take i) x y ∨ ((x = m.1 ∧ y = m.2) ∨ (x = m.2 ∧ y = m.1)) := fun x y => by
            have et : ms.take (i + 1) = ms.take i ++ [m] := by rw [List.take_add_one, e]; rfl
            unfold A2
            rw [et]
            constructor
            · rintro ⟨r', hr', h⟩
              rcases List.mem_append.mp hr' with hr' | hr'
              · exact .inl ⟨r', hr', h⟩
              · rw [List.mem_singleton.mp hr'] at h
                exact .inr h
            · rintro (⟨r', hr', h⟩ | h)
              · exact ⟨r', List.mem_append_left _ hr', h⟩
              · exact ⟨m, List.mem_append_right _ List.mem_cons_self, h⟩
          refine ⟨_, _, _, _, _, _, rfl, Same.mut s4 (frB _ k2), kk4.trans (.lst (t4.ls _ k2)), (upd_ne (nadl _ k2).symm).trans el4, t4.app k2 m.1, fun x y hx => ?_, fun x => ?_⟩
          · rw [hA]
            by_cases ex : x = m.2
            · rw [if_pos ex, ex, List.mem_append, List.mem_singleton, hc4 _ y k2]
              constructor
              · rintro (((h | h) | h) | h)
                · exact .inl h
                · exact .inr (.inl h)
                · exact .inr (.inr (.inl h))
                · exact .inr (.inr (.inr ⟨rfl, h⟩))
              · rintro (h | h | h | h)
                · exact .inl (.inl (.inl h))
                · exact .inl (.inl (.inr h))
                · exact .inl (.inr h)
                · exact .inr h.2
            · rw [if_neg ex, hc4 x y hx]
              constructor
              · rintro ((h | h) | h)
                · exact .inl h
                · exact .inr (.inl h)
                · exact .inr (.inr (.inl h))
              · rintro (h | h | h | h)
                · exact .inl (.inl h)
                · exact .inl (.inr h)
                · exact .inr h
                · exact absurd h.1 ex
          · have h1 := hl4 x
            split
            · rename_i ex
              rw [List.length_append, ← ex]
              show _ + 1 ≤ _
              omega
            · omega
        · rintro σ H3 ⟨z4, z5, z6, z7, z8, c3, rfl, sm3, kt3, el3, t3, hc3, hl3⟩
          rw [List.take_length] at hc3
          refine ⟨_, rfl, q p H3 ad2 c3 sm3 np t3 frB (fun x y hx => ?_) fun x => ?_⟩
          · rw [hc3 x y hx, ← A1_arr ok]
            have e2 : A2 ms x y ↔ A2 L x y := by
              unfold A2
              simp only [mem]
            rw [e2]
          · have := hl3 x
            omega
end
end RW
end
section
set_option linter.all false
set_option maxRecDepth 100000
set_option autoImplicit false
set_option maxHeartbeats 1000000
/-! turned_arrows, reached_by. -/
namespace RW
open PySem PySem.Spec PyProof.Rows L2
section
variable {P : Program} {w : World} {K : PySem.W.Frag} {mg : Str → Option Value} {base : Heap}
def sp_turned_arrows : Sp := fun vs H Q _ => ∃ (p : Addr) (ks : List Str) (ad : Str → Addr) (c : Str → List Str), vs = [.ref p] ∧ TB H p ks ad c ∧ (∀ k y, k ∈ ks → y ∈ c k → y ∈ ks) ∧ (∀ k, (c k).length ≤ 160) ∧ ks.length ≤ 21 ∧
  ∀ q H' ad' c', SameX p H H' → H q = none → TB H' q ks ad' c' → (∀ x y, x ∈ ks → (y ∈ c' x ↔ y ∈ ks ∧ x ∈ c y)) → Q (.ref q) H'
theorem ok_turned_arrows (hf : Has K mg "turned_arrows" s_turned_arrows) : OkF P w K mg base "turned_arrows" ["table"] 1 sp_turned_arrows := by
  refine Has.ok hf sc_turned_arrows (fun _ _ _ _ _ _ us hl => match us, hl with | [_], _ => rfl) (fun vs H Q E h => ?_) (fun f cdv A outer sh H vs Q E hr h => ?_)
  · obtain ⟨p, ks, ad, c, rfl, _⟩ := h
    rfl
  · obtain ⟨p, ks, ad, c, rfl, tb, cl, hc160, hks, q⟩ := h
    have hu := hu_of hr
    refine ⟨_, (pss_cons (ps_setDc (i := 1) (own := [("spot", 2)]) (g := (gName 2)) (tt := tYes) rfl sc_turned_arrows.nd rfl rfl (swD_true rfl rfl rfl (by decide +kernel)) (pi_keys (pe_frz (pv 0))) (blkOk_by (own := [("spot", 2)]) (N := N_turned_arrows) (sc := defScope s_turned_arrows) (by decide +kernel)) (fun _ _ _ _ _ => (pg_name (i := 2) sc_turned_arrows.nd rfl (.inl rfl))) (fun _ _ _ _ _ => pts_nil) (fun _ _ _ _ _ => (pv 2)) (fun _ _ _ _ _ => (pe_lst pa_nil)))
  (pss_cons (ps_for PassesOwn.never rfl (pi_keys (pv 0)) (pg_name (i := 2) sc_turned_arrows.nd rfl (.inl rfl)) (pss_one (ps_for PassesOwn.never rfl (pi_list (pe_dget hu (pv 0) (pv 2) (fun _ _ => rfl))) (pg_name (i := 3) sc_turned_arrows.nd rfl (.inl rfl)) (pss_one (ps_expr (pe_bm PySem.F.plainAttrs_list PySem.F.slot_list_append PySem.F.type_list_append mt_append (pe_dget hu (pv 1) (pv 3) (fun _ _ => rfl)) (pa_cons (pv 2) pa_nil)))))))
  (pss_one (ps_ret (pv 1))))), ?_⟩
    refine ⟨_, rfl, p, _, rfl, tb.at_, fun o => ⟨p, o, rfl, .inl ⟨_, upd_same, fun D nD => ?_⟩⟩⟩
    generalize hF : upd H p (.frz o (.dK (ks.map fun k => ((.inr k : Key), V.ref (ad k))))) = HF at nD
    have eF : HF p = some (.frz o (.dK (ks.map fun k => ((.inr k : Key), V.ref (ad k))))) := by
      rw [← hF]
      exact upd_same
    have sxF : SameX p H HF := fun b u ne e => by
      rw [← hF, upd_ne ne]
      exact e
    have lsF : ∀ k, k ∈ ks → HF (ad k) = some (.lst ((c k).map .str)) := fun k hk => sxF _ _ (tb.nep hk) (tb.ls k hk)
    have noF : ∀ q, HF q = none → H q = none := fun q hq => by
      have ne : q ≠ p := fun z => by
        rw [z, eF] at hq
        cases hq
      rw [← hF, upd_ne ne] at hq
      exact hq
    clear hF
    refine dc_new walk_keys ks (List.length_map _) (Nat.le_trans hks (by decide)) tb.nd nD (fun H1 s1 => s1 _ _ eF) (fun i H1 x H2 _ _ y => by rw [y.1]; exact Same.refl _) ?_ ?_
    · rintro i k x H1 H2 Qt Qf e s1 ⟨rfl, k', v', ex, rfl⟩ ht
      rw [List.getElem?_map, e] at ex
      cases ex
      exact ⟨rfl, _, rfl, Nat.zero_le _, fun l nl => ht _ (Same.refl _) l nl⟩
    · intro H1 ad2 s1 t2 fr
      have nDH : H D = none := noF D nD
      have ne2 : ∀ j k, j ∈ ks → k ∈ ks → ad2 j ≠ ad k := fun j k hj hk z => by
        have h1 := fr j hj
        rw [z, lsF k hk] at h1
        cases h1
      have pD : D ≠ p := fun z => by
        rw [z, eF] at nD
        cases nD
      have ne2p : ∀ j, j ∈ ks → ad2 j ≠ p := fun j hj z => by
        have h1 := fr j hj
        rw [z, eF] at h1
        cases h1
      have sx1 : SameX p H H1 := fun b u ne e => s1 _ _ (sxF b u ne e)
      refine ⟨_, rfl, p, o, rfl, .inl ⟨_, s1 _ _ eF, for_it walk_keys (fun j σ H' => ∃ y2 y3 c', σ = [some (.ref p), some (.ref D), y2, y3] ∧ SameX p H H' ∧ H' p = some (.frz o (.dK (ks.map fun k => ((.inr k : Key), V.ref (ad k))))) ∧ (∀ k, k ∈ ks → H' (ad k) = some (.lst ((c k).map .str))) ∧ TB H' D ks ad2 c' ∧
          (∀ x y, x ∈ ks → (y ∈ c' x ↔ y ∈ ks.take j ∧ x ∈ c y)) ∧ ∀ x, (c' x).length ≤ 160 * j) ⟨none, none, _, rfl, sx1, s1 _ _ eF, (fun k hk => s1 _ _ (lsF k hk)), t2, (fun x y _ => ⟨(fun h => nomatch h), (fun h => nomatch h.1)⟩), (fun x => Nat.zero_le _)⟩ (fun i σ H' _ h => by
        obtain ⟨_, _, _, _, _, k, _⟩ := h
        exact k) ?_ ?_⟩⟩
      · rintro j x σ H' H'' hj ⟨y2, y3, c1, rfl, sx, e1, l1, t1, h1, n1⟩ ⟨rfl, k', v', ex, rfl⟩
        have hj' : j < ks.length := by simpa using hj
        have ek : ks[j]? = some ks[j] := List.getElem?_eq_getElem hj'
        rw [List.getElem?_map, ek] at ex
        cases ex
        generalize hk : ks[j] = sp at ek
        have hsp : sp ∈ ks := List.mem_of_getElem? ek
        have hg : DGet H'' p (.str sp) (some (.ref (ad sp))) := by
          refine .inl ⟨_, .inr sp, .inr ⟨o, e1⟩, rfl, ?_⟩
          rw [val_tb, if_pos hsp]
        refine ⟨_, rfl, _, rfl, p, _, rfl, hg, ?_⟩
        refine forL (ds := c sp) (enc := PyData.str) (l1 sp hsp) (ImA.ofStrs _) (fun i σ' H3 => ∃ z3 c2, σ' = [some (.ref p), some (.ref D), some (.str sp), z3] ∧ KT H'' H3 ∧ SameX p H H3 ∧ H3 p = some (.frz o (.dK (ks.map fun k => ((.inr k : Key), V.ref (ad k))))) ∧ (∀ k, k ∈ ks → H3 (ad k) = some (.lst ((c k).map .str))) ∧ TB H3 D ks ad2 c2 ∧
          (∀ x y, x ∈ ks → (y ∈ c2 x ↔ (y ∈ ks.take j ∧ x ∈ c y) ∨ (y = sp ∧ x ∈ (c sp).take i))) ∧ ∀ x, (c2 x).length ≤ 160 * j + i) ⟨_, c1, rfl, KT.refl _, sx, e1, l1, t1, (fun x y hx => by
            rw [h1 x y hx]
            exact ⟨.inl, fun h => h.elim id fun h => nomatch h.2⟩), n1⟩ (fun i σ' H3 h => by
          obtain ⟨_, _, _, k, _, _, k2, _⟩ := h
          exact ⟨k, k2 sp hsp⟩) ?_ ?_
        · rintro i la x' σ' H3 ei ⟨z3, c2, rfl, kt3, sx3, e3, l3, t3, h3, n3⟩ ix
          rw [ix.sinv]
          have hi : i < (c sp).length := (List.getElem?_eq_some_iff.mp ei).1
          have hla : la ∈ ks := cl sp la hsp (List.mem_of_getElem? ei)
          have h160 := hc160 sp
          refine ⟨_, rfl, _, rfl, D, _, rfl, t3.get hla, .inl ⟨rfl, _, .inl (.inl (t3.ls _ hla))⟩, _, rfl, ad2 la, _, _, rfl, rfl, t3.ls _ hla, ?_, ?_⟩
          · rw [List.length_map, sizeLine_eq]
            have := n3 la
            omega
          refine ⟨_, _, rfl, kt3.trans (.lst (t3.ls _ hla)), fun b u ne e => ?_, (upd_ne (ne2p la hla).symm).trans e3, fun k hk => (upd_ne (ne2 la k hla hk).symm).trans (l3 k hk), t3.app hla sp, fun x y hx => ?_, fun x => ?_⟩
          · have : b ≠ ad2 la := fun z => by
              rw [z, noF _ (fr la hla)] at e
              cases e
            rw [upd_ne this]
            exact sx3 b u ne e
          · rw [List.take_add_one, ei]
            by_cases ex : x = la
            · rw [if_pos ex, ex, List.mem_append, List.mem_singleton, h3 _ y hla]
              constructor
              · rintro ((h | h) | h)
                · exact .inl h
                · exact .inr ⟨h.1, List.mem_append_left _ h.2⟩
                · exact .inr ⟨h, List.mem_append_right _ (by simp)⟩
              · rintro (h | ⟨rfl, h⟩)
                · exact .inl (.inl h)
                · exact .inr rfl
            · rw [if_neg ex, h3 x y hx]
              constructor
              · rintro (h | h)
                · exact .inl h
                · exact .inr ⟨h.1, List.mem_append_left _ h.2⟩
              · rintro (h | ⟨e, h⟩)
                · exact .inl h
                · rcases List.mem_append.mp h with h | h
                  · exact .inr ⟨e, h⟩
                  · exact absurd (by simpa using h) ex
          · have := n3 x
            split
            · rename_i ex
              rw [List.length_append, ← ex]
              show _ + 1 ≤ _
              omega
            · omega
        · rintro σ' H3 ⟨z3, c2, rfl, kt3, sx3, e3, l3, t3, h3, n3⟩
          refine ⟨_, _, c2, rfl, sx3, e3, l3, t3, fun x y hx => ?_, fun x => ?_⟩
          · rw [h3 x y hx, List.take_length, List.take_add_one, ek]
            constructor
            · rintro (h | ⟨rfl, h⟩)
              · exact ⟨List.mem_append_left _ h.1, h.2⟩
              · exact ⟨List.mem_append_right _ (by simp), h⟩
            · rintro ⟨ha, hb⟩
              rcases List.mem_append.mp ha with ha | ha
              · exact .inl ⟨ha, hb⟩
              · have e : y = sp := by simpa using ha
                exact .inr ⟨e, by rw [← e]; exact hb⟩
          · have h1 := n3 x
            have h2 := hc160 sp
            omega
      · rintro σ H' ⟨y2, y3, c1, rfl, sx, e1, l1, t1, h1, n1⟩
        rw [List.length_map] at h1
        refine ⟨_, rfl, q D H' ad2 c1 sx nDH t1 fun x y hx => ?_⟩
        rw [h1 x y hx, List.take_length]
def sp_reached_by : Sp := fun vs H Q _ => ∃ (p : Addr) (ks : List Str) (ad : Str → Addr) (c : Str → List Str) (st : Str), vs = [.ref p, .str st] ∧ TB H p ks ad c ∧ (∀ k y, k ∈ ks → y ∈ c k → y ∈ ks) ∧ ks.length ≤ 21 ∧ st ∈ ks ∧
  ∀ q H' gd, Same H H' → H q = none → DL H' q gd → KeysIn ks gd → (∀ x, (gd.lookup x).isSome = true ↔ RR.Reach (fun x y => x ∈ ks ∧ y ∈ c x) st x) → Q (.ref q) H'
theorem ok_reached_by (Tx : Txt mg) (hf : Has K mg "reached_by" s_reached_by) : OkF P w K mg base "reached_by" ["table", "start"] 1 sp_reached_by := by
  refine Has.ok hf sc_reached_by (fun _ _ _ _ _ _ us hl => match us, hl with | [_, _], _ => rfl) (fun vs H Q E h => ?_) (fun f cdv A outer sh H vs Q E hr h => ?_)
  · obtain ⟨p, ks, ad, c, st, rfl, _⟩ := h
    rfl
  · obtain ⟨p, ks, ad, c, st, rfl, tb, cl, hks, hst, q⟩ := h
    have hu := hu_of hr
    refine ⟨_, (pss_cons (ps_set (i := 2) sc_reached_by.nd rfl (.inl rfl) (pe_disp (pps_cons (pv 1) pe_bl pps_nil) (by rfl) (by rfl) (fun z => by cases z) (by decide)))
  (pss_cons (ps_set (i := 3) sc_reached_by.nd rfl (.inl rfl) (pe_lst (pa_cons (pv 1) pa_nil)))
  (pss_cons (ps_while PassesOwn.never (pt_cmpR op_gt (pe_callB call_len_seq (by rfl) Tx.b_len PySem.boot_len (pa_cons (pv 3) pa_nil)) pe_int (nomark _)) (pss_one (ps_for PassesOwn.never rfl (pi_list (pe_dget hu (pv 0) (pe_bm0 PySem.F.plainAttrs_list PySem.F.slot_list_pop PySem.F.type_list_pop mt_pop (pv 3)) (fun _ _ => rfl))) (pg_name (i := 4) sc_reached_by.nd rfl (.inl rfl)) (pss_one (ps_if (pt_cmp (pc_dnotin hu (pv 4) (pv 2))) (pss_cons (ps_dput hu (pv 2) (pv 4) pe_bl rfl)
  (pss_one (ps_expr (pe_bm PySem.F.plainAttrs_list PySem.F.slot_list_append PySem.F.type_list_append mt_append (pv 3) (pa_cons (pv 4) pa_nil))))) pss_nil)))))
  (pss_one (ps_ret (pv 2)))))), ?_⟩
    intro pf nf
    refine ⟨_, rfl, upd_same, [(.inr st, .bl true)], rfl, (by show 1 ≤ 15; decide), ?_⟩
    generalize hA : upd (upd H pf (.dK [])) pf (.dK (mergeK [] [((.inr st : Key), V.bl true)])) = HA
    have sA : Same H HA := by
      rw [← hA]
      exact Same.mut (Same.new nf) nf
    have dA : DL HA pf [(st, .bool true)] := by
      rw [← hA]
      exact ⟨_, upd_same, .cons ⟨rfl, .bl true⟩ .nil⟩
    have kA : KeysIn ks [(st, .bool true)] := ⟨by simp, fun k hk => by
      have : k ∈ ([(st, PyData.bool true)] : Gd).map (·.1) := look_isSome.mp hk
      rw [List.mem_singleton.mp this]
      exact hst⟩
    clear hA
    refine ⟨_, rfl, by show 1 ≤ sizeLine; decide, fun l nl => ?_⟩
    have sl : Same HA (upd HA l (.lst [.str st])) := Same.new nl
    have el : upd HA l (.lst [.str st]) l = some (.lst ([st].map .str)) := upd_same
    have dl := dA.same sl
    have nlH : H l = none := sA.free nl
    have pfl : pf ≠ l := by
      obtain ⟨_, h1, _⟩ := dA
      exact ne_of_none h1 nl
    have s0 := sA.trans sl
    generalize upd HA l (.lst [.str st]) = HB at sl el dl s0
    let R : Str → Prop := RR.Reach (fun x y => x ∈ ks ∧ y ∈ c x) st
    have adl : ∀ k, k ∈ ks → ad k ≠ l := fun k hk => ne_of_none (tb.ls k hk) nlH
    have adf : ∀ k, k ∈ ks → ad k ≠ pf := fun k hk => ne_of_none (tb.ls k hk) nf
    let Inv : Nat → L2.St → Hp → Prop := fun m σ' H' => ∃ (gd : Gd) (ts : List Str) (y4 : Option V), σ' = [some (.ref p), some (.str st), some (.ref pf), some (.ref l), y4] ∧ Same H H' ∧ DL H' pf gd ∧ KeysIn ks gd ∧ H' l = some (.lst (ts.map .str)) ∧
      (∀ x, (gd.lookup x).isSome = true → R x) ∧ (gd.lookup st).isSome = true ∧ (∀ t, t ∈ ts → (gd.lookup t).isSome = true) ∧ (∀ x, (gd.lookup x).isSome = true → x ∉ ts → ∀ y, y ∈ c x → (gd.lookup y).isSome = true) ∧ ts.length ≤ gd.length ∧ m = 2 * (ks.length - gd.length) + ts.length
    refine ⟨Inv, ⟨_, _, [st], none, rfl, s0, dl, kA, el, fun x hx => ?_, by simp, fun t ht => ?_, fun x hx hn => ?_, Nat.le_refl _, rfl⟩, ?_⟩
    · have : x ∈ ([(st, PyData.bool true)] : Gd).map (·.1) := look_isSome.mp hx
      rw [List.mem_singleton.mp this]
      exact .refl
    · rw [List.mem_singleton.mp ht]
      simp
    · exfalso
      have : x ∈ ([(st, PyData.bool true)] : Gd).map (·.1) := look_isSome.mp hx
      exact hn (by rw [List.mem_singleton.mp this]; exact List.mem_cons_self)
    · rintro m σ' H' ⟨gd, ts, y4, rfl, sm, dg, kg, et, hR, hs0, hts, hcl, htg, rfl⟩
      refine ⟨_, rfl, l, _, rfl, .inl (.inl (.inl et)), _, _, rfl, rfl, _, rfl, ?_⟩
      rw [List.length_map]
      by_cases h0 : ts = []
      · subst h0
        refine iteF ⟨_, rfl, q pf H' gd sm nf dg kg fun x => ⟨hR x, fun hx => ?_⟩⟩
        induction hx with
        | refl => exact hs0
        | step _ a ih => exact hcl _ ih (fun h => nomatch h) _ a.2
      · have hpos : 0 < ts.length := List.length_pos_iff.mpr h0
        refine iteP (decide_eq_true (by omega)) ⟨fun σ'' H'' => ∃ m', m' < 2 * (ks.length - gd.length) + ts.length ∧ Inv m' σ'' H'', fun _ _ h => h, ?_⟩
        obtain ⟨ts', sp, rfl⟩ : ∃ ts' sp, ts = ts' ++ [sp] := ⟨ts.dropLast, ts.getLast h0, (List.dropLast_concat_getLast h0).symm⟩
        have hspg : (gd.lookup sp).isSome = true := hts sp (List.mem_append_right _ List.mem_cons_self)
        have hsp : sp ∈ ks := kg.2 sp hspg
        refine ⟨_, rfl, _, rfl, .inl ⟨rfl, _, .inl (.inl et)⟩, l, _, .str sp, rfl, rfl, et, ?_, ?_⟩
        · rw [List.map_append, List.length_append]
          simp
        rw [List.map_append, List.map_cons, List.map_nil, List.dropLast_concat]
        rw [List.map_append] at et
        have s1 : Same H (upd H' l (.lst (ts'.map .str))) := Same.mut sm nlH
        have d1 : DL (upd H' l (.lst (ts'.map .str))) pf gd := dg.other pfl (.lst et)
        have e1 : upd H' l (.lst (ts'.map .str)) l = some (.lst (ts'.map .str)) := upd_same
        generalize upd H' l (.lst (ts'.map .str)) = H1 at s1 d1 e1
        have tb1 := tb.same s1
        refine ⟨p, _, rfl, tb1.get hsp, ?_⟩
        have hgl := kg.len
        refine forL (ds := c sp) (enc := PyData.str) (tb1.ls sp hsp) (ImA.ofStrs _) (fun i σ'' H2 => ∃ z4 gd' us, σ'' = [some (.ref p), some (.str st), some (.ref pf), some (.ref l), z4] ∧ Same H H2 ∧ KT H1 H2 ∧ DL H2 pf gd' ∧ KeysIn ks gd' ∧ H2 l = some (.lst ((ts' ++ us).map .str)) ∧
            (∀ x, (gd'.lookup x).isSome = true ↔ (gd.lookup x).isSome = true ∨ x ∈ us) ∧ (∀ x, x ∈ us → x ∈ c sp) ∧ (∀ x, x ∈ (c sp).take i → (gd'.lookup x).isSome = true) ∧ gd'.length = gd.length + us.length)
          ⟨_, gd, [], rfl, s1, KT.refl _, d1, kg, by rw [List.append_nil]; exact e1, (fun x => by simp), (fun x hx => nomatch hx), (fun x hx => nomatch hx), rfl⟩ (fun i σ'' H2 h => by
            obtain ⟨_, _, _, _, s2, k, _⟩ := h
            exact ⟨k, s2 _ _ (tb.ls sp hsp)⟩) ?_ ?_
        · rintro i la x' σ'' H2 ei ⟨z4, gd', us, rfl, s2, k2, d2, kg2, e2, hiff, hus, htk, hlen⟩ ix
          rw [ix.sinv]
          have hla : la ∈ c sp := List.mem_of_getElem? ei
          have hlk : la ∈ ks := cl sp la hsp hla
          have hgl2 := kg2.len
          refine ⟨_, rfl, _, rfl, r_in d2 (fun miss => ?_) (fun d v' there _ => ?_)⟩
          · refine ⟨_, rfl, iteT ?_⟩
            refine ⟨_, rfl, _, rfl, r_put d2 (by omega) (.bl true) fun kvs kvs' hk dl' => ?_⟩
            have e3 : upd H2 pf (.dK kvs') l = some (.lst ((ts' ++ us).map .str)) := (upd_ne pfl.symm).trans e2
            refine ⟨_, rfl, .inl ⟨rfl, _, .inl (.inl e3)⟩, _, rfl, l, _, _, rfl, rfl, e3, ?_, ?_⟩
            · rw [List.length_map, List.length_append, sizeLine_eq]
              rw [List.length_append] at htg
              omega
            have hnk : la ∉ gd'.map (·.1) := fun h => by
              have z := look_isSome.mpr h
              rw [miss] at z
              cases z
            refine ⟨_, gput gd' la (.bool true), us ++ [la], rfl, Same.mut (Same.mut s2 nf) nlH, (k2.trans (.dk hk)).trans (.lst e3), dl'.other pfl (.lst e3), kg2.put hlk, ?_, fun x => ?_, fun x hx => ?_, fun x hx => ?_, ?_⟩
            · rw [upd_same, ← List.append_assoc, List.map_append (l₂ := [la])]
              rfl
            · rw [gput_look, List.mem_append, List.mem_singleton]
              by_cases ex : x = la
              · rw [if_pos ex]
                simp [ex]
              · rw [if_neg ex, hiff x]
                simp [ex]
            · rcases List.mem_append.mp hx with hx | hx
              · exact hus x hx
              · rw [List.mem_singleton.mp hx]
                exact hla
            · rw [gput_look]
              split
              · rfl
              · rename_i ex
                rw [List.take_add_one, ei] at hx
                rcases List.mem_append.mp hx with hx | hx
                · exact htk x hx
                · exact absurd (by simpa using hx) ex
            · have hk2 := gput_keys gd' la (.bool true)
              rw [if_neg hnk] at hk2
              have := congrArg List.length hk2
              rw [List.length_map, List.length_append, List.length_map] at this
              rw [this, hlen, List.length_append]
              show gd.length + us.length + 1 = gd.length + (us.length + 1)
              omega
          · refine ⟨_, rfl, iteF ?_⟩
            refine ⟨_, gd', us, rfl, s2, k2, d2, kg2, e2, hiff, hus, fun x hx => ?_, hlen⟩
            rw [List.take_add_one, ei] at hx
            rcases List.mem_append.mp hx with hx | hx
            · exact htk x hx
            · have ex : x = la := by simpa using hx
              rw [ex, there]
              rfl
        · rintro σ'' H2 ⟨z4, gd', us, rfl, s2, k2, d2, kg2, e2, hiff, hus, htk, hlen⟩
          rw [List.take_length] at htk
          have hgl2 := kg2.len
          refine ⟨2 * (ks.length - gd'.length) + (ts' ++ us).length, ?_, gd', ts' ++ us, _, rfl, s2, d2, kg2, e2, fun x hx => ?_, (hiff st).mpr (.inl hs0), fun t ht => ?_, fun x hx hn y hy => ?_, (by
            rw [List.length_append] at htg ⊢
            omega), rfl⟩
          · rw [List.length_append, List.length_append]
            show _ < _ + (_ + 1)
            omega
          · rcases (hiff x).mp hx with h | h
            · exact hR x h
            · exact (hR sp hspg).step ⟨hsp, hus x h⟩
          · rcases List.mem_append.mp ht with h | h
            · exact (hiff t).mpr (.inl (hts t (List.mem_append_left _ h)))
            · exact (hiff t).mpr (.inr h)
          · by_cases ex : x = sp
            · rw [ex] at hy
              exact htk y hy
            · rcases (hiff x).mp hx with h | h
              · refine (hiff y).mpr (.inl (hcl x h (fun z => ?_) y hy))
                rcases List.mem_append.mp z with z | z
                · exact hn (List.mem_append_left _ z)
                · exact ex (List.mem_singleton.mp z)
              · exact absurd (List.mem_append_right _ h) hn
end
end RW
end
section
set_option linter.all false
set_option maxRecDepth 100000
set_option autoImplicit false
set_option maxHeartbeats 1000000
/-! outermost_of, greatest_by, greatest_in, has_ring_in. -/
namespace RW
open PySem PySem.Spec PyProof.Rows L2
abbrev s_outermost_of : Stmt := topS 56
abbrev N_outermost_of : List Str := ["tree", "some", "parents", "name"]
theorem sc_outermost_of : FnScope N_outermost_of ["tree", "some"] (defScope s_outermost_of) := ⟨rfl, rfl, rfl, by decide +kernel, rfl, by decide +kernel, by decide +kernel⟩
abbrev s_greatest_by : Stmt := topS 57
abbrev N_greatest_by : List Str := ["tree", "moves", "loose", "marked", "name", "parent", "room"]
theorem sc_greatest_by : FnScope N_greatest_by ["tree", "moves", "loose"] (defScope s_greatest_by) := ⟨rfl, rfl, rfl, by decide +kernel, rfl, by decide +kernel, by decide +kernel⟩
abbrev s_greatest_in : Stmt := topS 58
abbrev N_greatest_in : List Str := ["tree", "stand", "moves", "widened"]
theorem sc_greatest_in : FnScope N_greatest_in ["tree", "stand", "moves", "widened"] (defScope s_greatest_in) := ⟨rfl, rfl, rfl, by decide +kernel, rfl, by decide +kernel, by decide +kernel⟩
abbrev s_has_ring_in : Stmt := topS 59
abbrev N_has_ring_in : List Str := ["tree", "stand", "moves", "widened"]
theorem sc_has_ring_in : FnScope N_has_ring_in ["tree", "stand", "moves", "widened"] (defScope s_has_ring_in) := ⟨rfl, rfl, rfl, by decide +kernel, rfl, by decide +kernel, by decide +kernel⟩

section
variable {K : PySem.W.Frag} {g : TG} {tt : TT} {te : TE} {vs : List Nat} {σ : L2.St} {H1 : Hp} {p : Addr} {gd : Gd} {Q : Addr → Hp → Prop}
/-- [.. for k in d] -/
theorem lcK (h : DL H1 p gd) (hz : gd.length ≤ 1000) (pr : Str × PyData → Bool) (f : Str × PyData → PyData)
    (hs : ∀ d H (Qt : VK) (Qf : Hp → Prop), d ∈ gd → SameX p H1 H → (∀ v, DGet H p (.str d.1) (some v) → True) → (pr d = true → ∀ y H4, Same H H4 → Im H4 y (f d) → Qt y H4) → (pr d = false → ∀ H3, Same H H3 → Qf H3) → (∃ kvs o, H p = some (.frz o (.dK kvs)) ∧ KvI H kvs gd) → LcT g tt te vs σ (.str d.1) H Qt Qf)
    (hd : ∀ D H acc, H1 D = none → SameX p H1 H → H D = some (.lst acc) → ImA H acc ((gd.filter pr).map f) → Q D H) {Z : Addr → List (Key × V) → Obj → Addr → Obj → Prop} :
    ∃ d kvs, V.ref p = .ref d ∧ H1 d = some (.dK kvs) ∧ ∀ o, ∃ d' o', V.ref p = .ref d' ∧ ((∃ kvs', (upd H1 d (.frz o (.dK kvs))) d' = some (.frz o' (.dK kvs')) ∧ LcR (Itk d' o' kvs') g tt te vs σ (upd H1 d (.frz o (.dK kvs))) Q) ∨ Z d kvs o d' o') := by
  obtain ⟨kvs, hp, i⟩ := h
  refine ⟨p, kvs, rfl, hp, fun o => ⟨p, o, rfl, .inl ⟨kvs, upd_same, fun D nD => ?_⟩⟩⟩
  have kt : KT H1 (upd H1 p (.frz o (.dK kvs))) := .dk hp
  have sx : ∀ H, Same (upd H1 p (.frz o (.dK kvs))) H → SameX p H1 H := fun H s b u ne e => s b u (by rw [upd_ne ne]; exact e)
  have nD1 : H1 D = none := by
    have ne : D ≠ p := fun e => by
      rw [e, upd_same] at nD
      cases nD
    rw [upd_ne ne] at nD
    exact nD
  refine lc_data walk_keys gd i.len hz nD (fun H s => s _ _ upd_same) pr f (fun j H x H' _ _ y => by rw [y.1]; exact Same.refl _) ?_ (fun H acc s e ia => hd D H acc nD1 (sx H s) e ia)
  rintro j d x H H' Qt Qf e s ⟨rfl, k, v, ex, rfl⟩ ht hf
  obtain ⟨v', ev, iv⟩ := i.at e
  rw [ev] at ex
  cases ex
  exact hs d _ Qt Qf (List.mem_of_getElem? e) (sx _ s) (fun _ _ => trivial) ht hf ⟨kvs, o, s _ _ upd_same, i.mono (kt.trans (.same s))⟩
end
section
variable {P : Program} {w : World} {K : PySem.W.Frag} {mg : Str → Option Value} {base : Heap}
theorem par_keys (T : List Row) : (T.map fun r => (r.1, PyData.str r.2.1)).map (·.1) = names T := by
  rw [List.map_map]
  rfl
def sp_outermost_of : Sp := fun vs H Q _ => ∃ (T : List Row) (v : V) (ps : Addr) (gs : Gd), vs = [v, .ref ps] ∧ Im H v (dTree T) ∧ DL H ps gs ∧ TreeOk T ∧ KeysIn (names T) gs ∧
  ∀ v' H' ys, Same H H' → Im H' v' (dStrs ys) → (ys ≠ [] ↔ ∃ x, (gs.lookup x).isSome = true) → Q v' H'
theorem ok_outermost_of (Tx : Txt mg) (F_parents_by : OkF P w K mg base "parents_by" ["tree"] 1 sp_parents_by) (hf : Has K mg "outermost_of" s_outermost_of) : OkF P w K mg base "outermost_of" ["tree", "some"] 2 sp_outermost_of := by
  refine Has.ok hf sc_outermost_of (fun _ _ _ _ _ _ us hl => match us, hl with | [_, _], _ => rfl) (fun vs H Q E h => ?_) (fun f cdv A outer sh H vs Q E hr h => ?_)
  · obtain ⟨T, v, ps, gs, rfl, _⟩ := h
    rfl
  · obtain ⟨T, v, ps, gs, rfl, iv, ds, ok, kin, q⟩ := h
    have hu := hu_of hr
    have hz : T.length ≤ 1000 := Nat.le_trans ok.len (by decide)
    refine ⟨_, (pss_cons (ps_set (i := 2) sc_outermost_of.nd rfl (.inr rfl) (pe_c F_parents_by (hr.mono (by decide)) (pa_cons (pv 0) pa_nil)))
  (pss_one (ps_ret (pe_callTy cr_tupF (by rfl) Tx.b_tuple bb_tuple (pa_cons (pe_lc (own := [("name", 3)]) (g := (gName 3)) rfl sc_outermost_of.nd (pi_keys (pe_frz (pv 2))) (blkOk_by (own := [("name", 3)]) (N := N_outermost_of) (sc := defScope s_outermost_of) (by decide +kernel)) (fun _ _ _ _ _ => (pg_name (i := 3) sc_outermost_of.nd rfl (.inl rfl))) (fun _ _ _ _ _ => pts_one (PW.pt (pw_and (pt_cmp (pc_din hu (pv 3) (pv 1))) (pw_and1 (pt_cmp (pc_dnotin hu (pe_dget hu (pv 2) (pv 3) (fun _ _ => rfl)) (pv 1))))))) (fun _ _ _ _ _ => (pv 3))) pa_nil))))), ?_⟩
    refine ⟨v, rfl, T, v, rfl, iv, hz, ok.nd, fun pp H1 s1 np dp => ?_⟩
    have nps : ps ≠ pp := by
      obtain ⟨_, h1, _⟩ := ds
      exact ne_of_none h1 np
    refine ⟨_, rfl, lcK dp (by rw [List.length_map]; exact hz) (fun d => (gs.lookup d.1).isSome && !(gs.lookup (par T d.1)).isSome) (fun d => .str d.1) ?_ ?_⟩
    · rintro ⟨n, dn⟩ H2 Qt Qf hd sx _ ht hf' ⟨kvs, o, hp2, ki⟩
      obtain ⟨r, hr1, e⟩ := List.mem_map.mp hd
      cases e
      have hn : r.1 ∈ names T := List.mem_map_of_mem hr1
      have ds2 : DL H2 ps gs := sx.dl dp (ds.same s1) nps
      refine ⟨rfl, ?_⟩
      refine ⟨_, rfl, _, rfl, r_in ds2 (fun miss => ?_) (fun d v' there _ => ?_)⟩
      · exact ⟨_, rfl, iteF (iteF (hf' (by rw [miss]; rfl) _ (Same.refl _)))⟩
      · refine ⟨_, rfl, iteT ?_⟩
        obtain ⟨v4, ev4, iv4⟩ := ki.get (par_look ok hn)
        have hg : DGet H2 pp (.str r.1) (some v4) := .inl ⟨kvs, .inr r.1, .inr ⟨o, hp2⟩, rfl, ev4.symm⟩
        refine ⟨_, rfl, _, rfl, pp, v4, rfl, hg, ?_⟩
        rw [iv4.sinv]
        refine ⟨_, rfl, r_in ds2 (fun miss => ?_) (fun d2 v2 there2 _ => ?_)⟩
        · exact ⟨_, rfl, iteT ⟨_, rfl, ht (by rw [there, miss]; rfl) _ _ (Same.refl _) (.str r.1)⟩⟩
        · exact ⟨_, rfl, iteF (hf' (by rw [there, there2]; rfl) _ (Same.refl _))⟩
    · intro D H2 acc nD sx e2 i2
      have ee : ((T.map fun r => (r.1, PyData.str r.2.1)).filter fun d => (gs.lookup d.1).isSome && !(gs.lookup (par T d.1)).isSome).map (fun d => PyData.str d.1) = ((names T).filter fun n => (gs.lookup n).isSome && !(gs.lookup (par T n)).isSome).map .str := by
        unfold names
        rw [List.filter_map, List.filter_map, List.map_map, List.map_map]
        rfl
      rw [ee] at i2
      refine r_tupF e2 i2 fun l H3 s3 nl fz i3 => q _ _ _ ((sx.old s1 np).trans s3) i3 ?_
      constructor
      · intro h
        obtain ⟨x, hx⟩ := List.exists_mem_of_ne_nil _ h
        have := (List.mem_filter.mp hx).2
        rw [Bool.and_eq_true] at this
        exact ⟨x, this.1⟩
      · rintro ⟨x, hx⟩ h
        -- go outwards
        refine ok.ind (M := fun x => ¬ (gs.lookup x).isSome = true) (fun x hn hx => hn (kin.2 x hx)) (fun x hn ih hx => ?_) x hx
        have : x ∈ (names T).filter fun n => (gs.lookup n).isSome && !(gs.lookup (par T n)).isSome := by
          rw [List.mem_filter]
          refine ⟨hn, ?_⟩
          rw [hx, Bool.true_and, Bool.not_eq_true']
          exact Bool.eq_false_iff.mpr ih
        rw [h] at this
        cases this
theorem arr_spots {T : List Row} (ok : TreeOk T) {gl : Gd} {L : List (Str × Str)} (hm : ∀ m, m ∈ L → MvOk T m) {x y : Str} (h : RR.Arr (names T) E' (par T) (Loo gl) L x y) : x ∈ E' :: names T ∧ y ∈ E' :: names T := by
  have spot : ∀ {x}, Spot T x → x ∈ E' :: names T := fun {x} h => h.elim (fun h => by rw [h]; exact List.mem_cons_self) fun h => List.mem_cons_of_mem _ h
  rcases h with ⟨hy, e, ne⟩ | ⟨hx, hl, e⟩ | ⟨m, hmm, h⟩
  · refine ⟨?_, List.mem_cons_of_mem _ hy⟩
    rw [← e]
    exact spot (ok.pin hy)
  · refine ⟨List.mem_cons_of_mem _ hx, ?_⟩
    rw [← e]
    exact spot (ok.pin hx)
  · have h1 := hm m hmm
    rcases h with ⟨rfl, rfl⟩ | ⟨rfl, rfl⟩
    · exact ⟨spot h1.1, spot h1.2⟩
    · exact ⟨spot h1.2, spot h1.1⟩
def sp_greatest_by : Sp := fun vs H Q _ => ∃ (T : List Row) (L : List (Str × Str)) (v u : V) (pl : Addr) (gl : Gd), vs = [v, u, .ref pl] ∧ Im H v (dTree T) ∧ Im H u (dMvs L) ∧ DL H pl gl ∧ TreeOk T ∧ (∀ m, m ∈ L → MvOk T m) ∧ L.length ≤ 60 ∧
  ∀ v' H' ys, Same H H' → Im H' v' (dStrs ys) → (ys ≠ [] ↔ ∃ x, x ∈ names T ∧ ¬ RR.Reach (fun x y => RR.Arr (names T) E' (par T) (Loo gl) L y x) E' x) → Q v' H'
theorem ok_greatest_by (Tx : Txt mg) (F_arrows_by : OkF P w K mg base "arrows_by" ["tree", "moves", "loose"] 1 sp_arrows_by) (F_turned_arrows : OkF P w K mg base "turned_arrows" ["table"] 1 sp_turned_arrows) (F_reached_by : OkF P w K mg base "reached_by" ["table", "start"] 1 sp_reached_by)
    (F_outermost_of : OkF P w K mg base "outermost_of" ["tree", "some"] 2 sp_outermost_of) (hf : Has K mg "greatest_by" s_greatest_by) : OkF P w K mg base "greatest_by" ["tree", "moves", "loose"] 3 sp_greatest_by := by
  refine Has.ok hf sc_greatest_by (fun _ _ _ _ _ _ us hl => match us, hl with | [_, _, _], _ => rfl) (fun vs H Q E h => ?_) (fun f cdv A outer sh H vs Q E hr h => ?_)
  · obtain ⟨T, L, v, u, pl, gl, rfl, _⟩ := h
    rfl
  · obtain ⟨T, L, v, u, pl, gl, rfl, iv, iu, dl, ok, hm, few, q⟩ := h
    have hu := hu_of hr
    have hz : T.length ≤ 1000 := Nat.le_trans ok.len (by decide)
    refine ⟨_, (pss_cons (ps_set (i := 3) sc_greatest_by.nd rfl (.inr rfl) (pe_c F_reached_by (hr.mono (by decide)) (pa_cons (pe_c F_turned_arrows (hr.mono (by decide)) (pa_cons (pe_c F_arrows_by (hr.mono (by decide)) (pa_cons (pv 0) (pa_cons (pv 1) (pa_cons (pv 2) pa_nil)))) pa_nil)) (pa_cons pe_str pa_nil))))
  (pss_one (ps_ret (pe_c F_outermost_of (hr.mono (by decide)) (pa_cons (pv 0) (pa_cons (pe_dc (own := [("name", 4), ("parent", 5), ("room", 6)]) (g := (gTup K 3 (gCons (gName 4) (gCons (gName 5) (gCons (gName 6) gNil))))) rfl sc_greatest_by.nd (pi_tup (pv 0)) (blkOk_by (own := [("name", 4), ("parent", 5), ("room", 6)]) (N := N_greatest_by) (sc := defScope s_greatest_by) (by decide +kernel)) (fun _ _ _ _ _ => (pg_tup rfl (pgs_cons (pg_name (i := 4) sc_greatest_by.nd rfl (.inl rfl)) (pgs_cons (pg_name (i := 5) sc_greatest_by.nd rfl (.inl rfl)) (pgs_cons (pg_name (i := 6) sc_greatest_by.nd rfl (.inl rfl)) pgs_nil))))) (fun _ _ _ _ _ => pts_one (pt_cmp (pc_dnotin hu (pv 4) (pv 3)))) (fun _ _ _ _ _ => (pv 4)) (fun _ _ _ _ _ => pe_bl)) pa_nil)))))), ?_⟩
    refine ⟨v, rfl, u, rfl, _, rfl, T, L, v, u, pl, gl, rfl, iv, iu, dl, ok, hm, few, fun p1 H1 ad c s1 n1 tb1 fr hc hlen => ?_⟩
    refine ⟨p1, E' :: names T, ad, c, rfl, tb1, fun k y hk hy => (arr_spots ok hm ((hc k y hk).mp hy)).2, hlen, by rw [List.length_cons, names_len]; have := ok.len; omega, fun p2 H2 ad2 c2 sx2 n2 tb2 hc2 => ?_⟩
    have s02 : Same H H2 := sx2.old s1 n1
    refine ⟨p2, E' :: names T, ad2, c2, E', rfl, tb2, fun k y hk hy => ((hc2 k y hk).mp hy).1, by rw [List.length_cons, names_len]; have := ok.len; omega, List.mem_cons_self, fun p3 H3 g3 s3 n3 d3 k3 h3 => ?_⟩
    have s03 := s02.trans s3
    have hre : ∀ x, (g3.lookup x).isSome = true ↔ RR.Reach (fun x y => RR.Arr (names T) E' (par T) (Loo gl) L y x) E' x := fun x => by
      rw [h3 x]
      constructor
      · intro h
        induction h with
        | refl => exact .refl
        | step _ a ih =>
          have b := (hc2 _ _ a.1).mp a.2
          exact ih.step ((hc _ _ b.1).mp b.2)
      · intro h
        induction h with
        | refl => exact .refl
        | step _ a ih =>
          have sp := arr_spots ok hm a
          exact ih.step ⟨sp.2, (hc2 _ _ sp.2).mpr ⟨sp.1, (hc _ _ sp.1).mpr a⟩⟩
    refine ⟨v, rfl, ?_⟩
    refine ⟨_, rfl, dcT (ds := T) (enc := dRow) (iv.mono (.same s03)) hz (fun r => !(g3.lookup r.1).isSome) (fun r => r.1) (fun _ => .bool true) ?_ ?_ ?_⟩
    · exact List.Nodup.sublist (List.Sublist.map _ List.filter_sublist) ok.nd
    · intro r x H4 Qt Qf _ s4 ix ht hf'
      refine g_tup3 ix fun a b c ia ib ic => ⟨rfl, ?_⟩
      rw [ia.sinv]
      refine ⟨_, rfl, _, rfl, r_in (d3.same s4) (fun miss => ?_) (fun d v' there _ => ?_)⟩
      · exact ⟨_, rfl, iteT ⟨_, rfl, ht (by rw [miss]; rfl) _ _ (Same.refl _) (.bl true)⟩⟩
      · exact ⟨_, rfl, iteF (hf' (by rw [there]; rfl) _ (Same.refl _))⟩
    · intro D H4 nD s4 dl4
      have hks : ((T.filter fun r => !(g3.lookup r.1).isSome).map fun d => (d.1, PyData.bool true)).map (·.1) = (names T).filter fun n => !(g3.lookup n).isSome := by
        unfold names
        rw [List.filter_map, List.map_map]
        rfl
      refine ⟨T, v, D, _, rfl, iv.mono (.same (s03.trans s4)), dl4, ok, ⟨?_, fun k hk => ?_⟩, fun v5 H5 ys s5 i5 hys => q v5 H5 ys ((s03.trans s4).trans s5) i5 ?_⟩
      · rw [hks]
        exact List.Nodup.sublist List.filter_sublist ok.nd
      · have := look_isSome.mp hk
        rw [hks] at this
        exact (List.mem_filter.mp this).1
      · rw [hys]
        constructor
        · rintro ⟨x, hx⟩
          have := look_isSome.mp hx
          rw [hks, List.mem_filter] at this
          refine ⟨x, this.1, fun z => ?_⟩
          rw [← hre x] at z
          rw [z] at this
          cases this.2
        · rintro ⟨x, hx, hn⟩
          refine ⟨x, look_isSome.mpr ?_⟩
          rw [hks, List.mem_filter]
          refine ⟨hx, ?_⟩
          rw [← hre x] at hn
          rw [Bool.not_eq_true']
          exact Bool.eq_false_iff.mpr hn
def sp_greatest_in : Sp := fun vs H Q _ => ∃ (T : List Row) (s : List Int) (L : List (Str × Str)) (v u x : V) (a : Addr), vs = [v, u, x, .ref a] ∧ Im H v (dTree T) ∧ Im H u (dInts s) ∧ Im H x (dMvs L) ∧ (∀ H, SqT K H a []) ∧ T.length = s.length ∧ TreeOk T ∧ (∀ m, m ∈ L → MvOk T m) ∧ L.length ≤ 60 ∧
  ∀ v' H' ys, Same H H' → Im H' v' (dStrs ys) → (ys ≠ [] ↔ ¬ RR.NB (names T) (ways T) (room T) (use T s) L) → Q v' H'
theorem ok_greatest_in {d d2 : V} (F_greatest_by : OkF P w K mg base "greatest_by" ["tree", "moves", "loose"] 3 sp_greatest_by) (G_loose_in : OkD P w K mg base "loose_in" ["tree", "stand", "moves", "widened"] d 7 (sp_loose_in (K := K))) (hf : HasD K mg "greatest_in" s_greatest_in d2) :
    OkD P w K mg base "greatest_in" ["tree", "stand", "moves", "widened"] d2 8 (sp_greatest_in (K := K)) := by
  have F_loose_in := G_loose_in.full
  refine HasD.ok hf sc_greatest_in 3 rfl (fun _ _ _ _ _ _ _ us its h1 h2 => match us, its, h1, h2 with | [_, _, _], [_], _, _ => ⟨_, rfl, rfl⟩) (fun _ _ _ _ _ _ _ us its h1 h2 => match us, its, h1, h2 with | [_, _, _, _], [_], _, _ => ⟨_, rfl, rfl⟩) (fun vs H Q E h => ?_) (fun f cdv A outer sh H vs Q E hr h => ?_)
  · obtain ⟨T, s, L, v, u, x, a, rfl, _⟩ := h
    rfl
  · obtain ⟨T, s, L, v, u, x, a, rfl, iv, iu, ix, ha, hl, ok, hm, few, q⟩ := h
    refine ⟨_, (pss_one (ps_ret (pe_c F_greatest_by (hr.mono (by decide)) (pa_cons (pv 0) (pa_cons (pv 2) (pa_cons (pe_c F_loose_in (hr.mono (by decide)) (pa_cons (pv 0) (pa_cons (pv 1) (pa_cons (pv 2) (pa_cons (pv 3) pa_nil))))) pa_nil)))))), ?_⟩
    refine ⟨v, rfl, x, rfl, v, rfl, u, rfl, x, rfl, _, rfl, T, s, L, v, u, x, a, rfl, iv, iu, ix, ha, hl, ok, hm, few, fun p H1 gd s1 np dp kin hg => ?_⟩
    refine ⟨T, L, v, x, p, gd, rfl, iv.mono (.same s1), ix.mono (.same s1), dp, ok, hm, few, fun v2 H2 ys s2 i2 hys => q v2 H2 ys (s1.trans s2) i2 ?_⟩
    rw [hys]
    exact RR.ring_iff ok.forest ok.rows (fun n hn => hg n hn) fun m hmm => hm m hmm
def sp_has_ring_in : Sp := fun vs H Q _ => ∃ (T : List Row) (s : List Int) (L : List (Str × Str)) (v u x : V) (a : Addr), vs = [v, u, x, .ref a] ∧ Im H v (dTree T) ∧ Im H u (dInts s) ∧ Im H x (dMvs L) ∧ (∀ H, SqT K H a []) ∧ T.length = s.length ∧ TreeOk T ∧ (∀ m, m ∈ L → MvOk T m) ∧ L.length ≤ 60 ∧
  ∀ b H', Same H H' → (b = true ↔ ¬ RR.NB (names T) (ways T) (room T) (use T s) L) → Q (.bl b) H'
theorem ok_has_ring_in (Tx : Txt mg) {d d2 : V} (G_greatest_in : OkD P w K mg base "greatest_in" ["tree", "stand", "moves", "widened"] d 8 (sp_greatest_in (K := K))) (hf : HasD K mg "has_ring_in" s_has_ring_in d2) :
    OkD P w K mg base "has_ring_in" ["tree", "stand", "moves", "widened"] d2 9 (sp_has_ring_in (K := K)) := by
  have F_greatest_in := G_greatest_in.full
  refine HasD.ok hf sc_has_ring_in 3 rfl (fun _ _ _ _ _ _ _ us its h1 h2 => match us, its, h1, h2 with | [_, _, _], [_], _, _ => ⟨_, rfl, rfl⟩) (fun _ _ _ _ _ _ _ us its h1 h2 => match us, its, h1, h2 with | [_, _, _, _], [_], _, _ => ⟨_, rfl, rfl⟩) (fun vs H Q E h => ?_) (fun f cdv A outer sh H vs Q E hr h => ?_)
  · obtain ⟨T, s, L, v, u, x, a, rfl, _⟩ := h
    rfl
  · obtain ⟨T, s, L, v, u, x, a, rfl, iv, iu, ix, ha, hl, ok, hm, few, q⟩ := h
    refine ⟨_, (pss_one (ps_ret (pe_cmpR op_gt (pe_callB call_len_seq (by rfl) Tx.b_len PySem.boot_len (pa_cons (pe_c F_greatest_in (hr.mono (by decide)) (pa_cons (pv 0) (pa_cons (pv 1) (pa_cons (pv 2) (pa_cons (pv 3) pa_nil))))) pa_nil)) pe_int (nomark _)))), ?_⟩
    refine ⟨v, rfl, u, rfl, x, rfl, _, rfl, T, s, L, v, u, x, a, rfl, iv, iu, ix, ha, hl, ok, hm, few, fun v1 H1 ys s1 i1 hys => ?_⟩
    obtain ⟨b, xs, rfl, hT, hA⟩ := i1.tinv
    refine ⟨b, xs, rfl, .inr (.inl hT), _, _, rfl, rfl, q _ _ s1 ?_⟩
    rw [← hys, decide_eq_true_eq]
    have : xs.length = ys.length := by rw [hA.len, List.length_map]
    constructor
    · intro h e
      rw [e] at this
      simp at this
      rw [this] at h
      simp at h
    · intro h
      have := List.length_pos_iff.mpr h
      omega
end
end RW
end
section
set_option linter.all false
set_option autoImplicit false
/-! Files of a lot; moves one after another. -/
namespace RW
open PySem
def Files (T : List Row) (s : List Int) (L : List (Str × Str)) : Prop := ∀ x, x ∈ names T → ((L.map (·.1)).count x : Int) ≤ cnt T s x
theorem Files.has {T : List Row} {s : List Int} {L : List (Str × Str)} (h : Files T s L) {m : Str × Str} (hm : m ∈ L) (ok : MvOk T m) : m.1 = E' ∨ 1 ≤ cnt T s m.1 := by
  rcases ok.1 with e | e
  · exact .inl e
  · have h1 := h m.1 e
    have h2 : 0 < (L.map (·.1)).count m.1 := List.count_pos_iff.mpr (List.mem_map_of_mem hm)
    exact .inr (by omega)
theorem count_erase {L : List (Str × Str)} {m : Str × Str} (hm : m ∈ L) (x : Str) : (L.map (·.1)).count x = (if m.1 = x then 1 else 0) + ((L.erase m).map (·.1)).count x := by
  have p := ((List.perm_cons_erase hm).map (·.1)).count_eq x
  rw [p, List.map_cons, List.count_cons]
  by_cases e : m.1 = x
  · simp [e, Nat.add_comm]
  · simp [e]
theorem Files.after {T : List Row} {s : List Int} {L : List (Str × Str)} (hl : T.length = s.length) (h : Files T s L) {m : Str × Str} (hm : m ∈ L) : Files T (stby T s m) (L.erase m) := fun x hx => by
  have h1 := h x hx
  have h2 := count_erase hm x
  have h3 := cnt_stby hl m hx
  rw [h3]
  have e : (if m.1 = x then (1 : Nat) else 0) = if x = m.1 then 1 else 0 := by
    by_cases e : m.1 = x
    · rw [if_pos e, if_pos e.symm]
    · rw [if_neg e, if_neg fun z => e z.symm]
  rw [e] at h2
  split
  all_goals
    split
    all_goals
      rename_i e2
      first | rw [if_pos e2] at h2 | rw [if_neg e2] at h2
      omega
end RW
end
section
set_option linter.all false
set_option maxRecDepth 100000
set_option autoImplicit false
set_option maxHeartbeats 1000000
/-! lot_less, is_let_in, calm_moves, first_let. -/
namespace RW
open PySem PySem.Spec PyProof.Rows L2
abbrev s_lot_less : Stmt := topS 61
abbrev N_lot_less : List Str := ["lot", "move", "k"]
theorem sc_lot_less : FnScope N_lot_less ["lot", "move"] (defScope s_lot_less) := ⟨rfl, rfl, rfl, by decide +kernel, rfl, by decide +kernel, by decide +kernel⟩
abbrev s_is_let_in : Stmt := topS 62
abbrev N_is_let_in : List Str := ["tree", "stand", "lot", "move"]
theorem sc_is_let_in : FnScope N_is_let_in ["tree", "stand", "lot", "move"] (defScope s_is_let_in) := ⟨rfl, rfl, rfl, by decide +kernel, rfl, by decide +kernel, by decide +kernel⟩
abbrev s_calm_moves : Stmt := topS 63
abbrev N_calm_moves : List Str := ["tree", "stand", "lot", "free", "found", "move", "folder"]
theorem sc_calm_moves : FnScope N_calm_moves ["tree", "stand", "lot"] (defScope s_calm_moves) := ⟨rfl, rfl, rfl, by decide +kernel, rfl, by decide +kernel, by decide +kernel⟩
abbrev s_first_let : Stmt := topS 64
abbrev N_first_let : List Str := ["tree", "stand", "lot", "calm", "move"]
theorem sc_first_let : FnScope N_first_let ["tree", "stand", "lot"] (defScope s_first_let) := ⟨rfl, rfl, rfl, by decide +kernel, rfl, by decide +kernel, by decide +kernel⟩

theorem eraseIdx_split {α : Type} : ∀ (l : List α) (k : Nat), l.take k ++ l.drop (k + 1) = l.eraseIdx k
  | [], k => by simp
  | a :: l, 0 => rfl
  | a :: l, k + 1 => by
    show a :: (l.take k ++ l.drop (k + 1)) = a :: l.eraseIdx k
    rw [eraseIdx_split l k]
theorem first_mv {ms : List (Str × Str)} {m : Str × Str} (h : m ∈ ms) : ∃ j : Nat, ms[j]? = some m ∧ (∀ i : Nat, i < j → ms[i]? ≠ some m) ∧ ms.eraseIdx j = ms.erase m := by
  induction ms with
  | nil => cases h
  | cons a ms ih =>
    by_cases e : a = m
    · refine ⟨0, by rw [e]; rfl, fun i hi => absurd hi (Nat.not_lt_zero _), ?_⟩
      rw [e, List.erase_cons_head]
      rfl
    · obtain ⟨j, h1, h2, h3⟩ := ih ((List.mem_cons.mp h).resolve_left fun z => e z.symm)
      refine ⟨j + 1, h1, fun i hi => ?_, ?_⟩
      · cases i with
        | zero => exact fun z => e (Option.some.inj z)
        | succ i => exact h2 i (by omega)
      · rw [List.erase_cons_tail (by simpa using e), ← h3]
        rfl
def cutD {α : Type} (l : List α) (lo hi : Option Int) : List α := (l.drop (HT.sIx l.length 0 lo)).take (HT.sIx l.length l.length hi - HT.sIx l.length 0 lo)
theorem r_slA {K : PySem.W.Frag} {H : Hp} {v : V} {ds : List PyData} {lo hi : Option Int} {Q : VK} (iv : Im H v (.tuple ds)) (q : ∀ y H', Same H H' → Im H' y (.tuple (cutD ds lo hi)) → Q y H') : rSlA K v lo hi H Q := by
  obtain ⟨a, xs, rfl, hT, hA⟩ := iv.tinv
  have hl := hA.len
  refine ⟨a, xs, rfl, .inl hT, fun h => q _ _ (Same.refl _) ?_, fun h p np => q _ _ (Same.new np) ?_⟩
  · have e : cutD ds lo hi = ds := by
      unfold cutD
      rw [← hl, h.1, h.2, List.drop_zero, hl, Nat.sub_zero, List.take_length]
    rw [e]
    exact iv
  · refine .tup (.inl upd_same) ?_
    have z := ((hA.mono (.new (o := .tup (cutV xs lo hi)) np)).drop (HT.sIx xs.length 0 lo)).take (HT.sIx xs.length xs.length hi - HT.sIx xs.length 0 lo)
    unfold cutD
    rw [← hl]
    exact z
theorem tNpi {σ : L2.St} {H : Hp} {Q : Option Int → Hp → Prop} (h : Q none H) : tNoPart σ H Q := h
theorem sIx0_some (n k : Nat) (h : k ≤ n) : HT.sIx n 0 (some (k : Int)) = k := by
  rw [HT.sIx_nat]
  omega
theorem cutD_take {α : Type} (l : List α) (k : Nat) (h : k ≤ l.length) : cutD l none (some (k : Int)) = l.take k := by
  unfold cutD
  rw [HT.sIx_none, sIx_some _ _ h]
  rfl
theorem cutD_drop {α : Type} (l : List α) (k : Nat) (h : k ≤ l.length) : cutD l (some (k : Int)) none = l.drop k := by
  unfold cutD
  rw [HT.sIx_none, sIx0_some _ _ h]
  exact List.take_of_length_le (by rw [List.length_drop]; exact Nat.le_refl _)
section
variable {X : Cx}
/-- l.index(m): the first place -/
def rIndexM : V → List V → Hp → VK → Prop := fun x xs H Q => ∃ (a : Addr) (vs : List V) (ms : List (Str × Str)) (m : Str × Str) (v : V) (j : Nat), x = V.ref a ∧ xs = [v] ∧ H a = some (.lst vs) ∧ ImA H vs (ms.map dMv) ∧ Im H v (dMv m) ∧ ms[j]? = some m ∧ (∀ i : Nat, i < j → ms[i]? ≠ some m) ∧ ms.length ≤ 1000 ∧ Q (.int (j : Nat)) H
theorem mt_indexM (hu : X.A.units + 65 < cLine) : MtR X "list.index" rIndexM := by
  intro pins s σ H x xs v us Q I rx rv h
  obtain ⟨a, vs, ms, m, u, j, rfl, rfl, hH, iv, iu, hj, hno, hz, q⟩ := h
  cases rx
  obtain ⟨uv, rfl, ru⟩ := rv.one
  obtain ⟨z, its, n, r, hl, e⟩ := I.lstM hH
  have rs : ReadsAll s.heap its.toArray.toList (ms.map dMv) [] := by simpa using ImA.reads I iv r
  have hvl : vs.length = ms.length := by rw [iv.len, List.length_map]
  have hsz : its.toArray.size = ms.length := by rw [List.size_toArray, ← hl, hvl]
  have hjm : j < ms.length := (List.getElem?_eq_some_iff.mp hj).1
  have at_ : ∀ (i : Nat) (hi : i < its.toArray.size), PySem.SeqAt.readOf s.heap its.toArray[i] = dMv (ms[i]'(by omega)) := fun i hi => by
    obtain ⟨_, e⟩ := PySem.SeqAt.readOf_at rs (plain_mvs ms) i hi
    rw [e, List.getElem_map]
  have := depth_mvs ms
  have hsl := sizeLine_eq
  refine call_meets PySem.F.slot_list_index ⟨_, e, rfl⟩ PySem.F.entry_list_index (PySem.F.args_list_index_2 _ _)
    (PySem.SeqAt.list_indexAt a its.toArray n _ _ uv (fun u => PyData.eqv (PySem.SeqAt.readOf s.heap u) (dMv m)) j (by omega) (by omega) ?_ ?_) ⟨e, PySem.SeqAt.items_plain rs (Im.reads I iu ru) (plain_mvs ms) rfl (by omega), ?_⟩
  · show PyData.eqv (PySem.SeqAt.readOf s.heap its.toArray[j]) (dMv m) = true
    rw [at_ j (by omega), eqv_mv]
    exact decide_eq_true (List.getElem?_eq_some_iff.mp hj).2
  · intro i hi hij
    show PyData.eqv (PySem.SeqAt.readOf s.heap its.toArray[i]) (dMv m) = false
    rw [at_ i hi, eqv_mv]
    exact decide_eq_false fun z => hno i hij (by rw [List.getElem?_eq_getElem (by omega), z])
  · exact ⟨.int (j : Nat), H, I.tok _, ⟨_, rfl⟩, q⟩
end
section
variable {P : Program} {w : World} {K : PySem.W.Frag} {mg : Str → Option Value} {base : Heap}
def sp_lot_less : Sp := fun vs H Q _ => ∃ (L : List (Str × Str)) (m : Str × Str) (v u : V), vs = [v, u] ∧ Im H v (dMvs L) ∧ Im H u (dMv m) ∧ m ∈ L ∧ L.length ≤ 60 ∧ ∀ v' H', Same H H' → Im H' v' (dMvs (L.erase m)) → Q v' H'
theorem ok_lot_less (Tx : Txt mg) (hf : Has K mg "lot_less" s_lot_less) : OkF P w K mg base "lot_less" ["lot", "move"] 1 sp_lot_less := by
  refine Has.ok hf sc_lot_less (fun _ _ _ _ _ _ us hl => match us, hl with | [_, _], _ => rfl) (fun vs H Q E h => ?_) (fun f cdv A outer sh H vs Q E hr h => ?_)
  · obtain ⟨L, m, v, u, rfl, _⟩ := h
    rfl
  · obtain ⟨L, m, v, u, rfl, iv, iu, hm, few, q⟩ := h
    have hu65 : (A.deeper (envOfC "lot_less" (defScope s_lot_less) sh.heap.objs.size f cdv)).units + 65 < cLine := by
      have := hr.un
      omega
    refine ⟨_, (pss_cons (ps_set (i := 2) sc_lot_less.nd rfl (.inl rfl) (pe_bm PySem.F.plainAttrs_list PySem.F.slot_list_index PySem.F.type_list_index (mt_indexM hu65) (pe_callTy call_list_of (by rfl) Tx.b_list bb_list (pa_cons (pv 0) pa_nil)) (pa_cons (pv 1) pa_nil)))
  (pss_one (ps_ret (pe_tup (pa_starK K rfl (pe_slice sl_tupA (pv 0) po_none (po_some (pv 2))) (pa_starK K rfl (pe_slice sl_tupA (pv 0) (po_some (pe_op op_add (pv 2) pe_int)) po_none) pa_nil)))))), ?_⟩
    obtain ⟨a, xs, rfl, hT, hA⟩ := id iv.tinv
    refine ⟨_, rfl, a, xs, rfl, .inr (.inl hT), fun l nl => ?_⟩
    have sl : Same H (upd H l (.lst xs)) := Same.new nl
    have el : upd H l (.lst xs) l = some (.lst xs) := upd_same
    generalize upd H l (.lst xs) = H1 at sl el
    obtain ⟨j, h1, h2, h3⟩ := first_mv hm
    refine ⟨.inl ⟨rfl, _, .inl (.inl el)⟩, _, rfl, l, xs, L, m, u, j, rfl, rfl, el, hA.mono (.same sl), iu.mono (.same sl), h1, h2, Nat.le_trans few (by decide), ?_⟩
    have hj : j < L.length := (List.getElem?_eq_some_iff.mp h1).1
    have i1 := iv.mono (.same sl)
    refine ⟨_, rfl, _, rfl, _, rfl, r_slA i1 fun y2 H2 s2 i2 => ?_⟩
    have e2 : cutD (L.map dMv) none (some (j : Int)) = (L.take j).map dMv := by
      rw [cutD_take _ _ (by rw [List.length_map]; omega), List.map_take]
    rw [e2] at i2
    obtain ⟨a2, xs2, rfl, hT2, hA2⟩ := id i2.tinv
    refine ⟨a2, xs2, rfl, .inl (.inl hT2), ?_⟩
    refine ⟨_, rfl, _, rfl, _, _, rfl, rfl, _, rfl, tNpi (r_slA (i1.mono (.same s2)) fun y3 H3 s3 i3 => ?_)⟩
    have e3 : cutD (L.map dMv) (some ((j : Int) + 1)) none = (L.drop (j + 1)).map dMv := by
      have : ((j : Int) + 1) = ((j + 1 : Nat) : Int) := by omega
      rw [this, cutD_drop _ _ (by rw [List.length_map]; omega), List.map_drop]
    rw [e3] at i3
    obtain ⟨a3, xs3, rfl, hT3, hA3⟩ := id i3.tinv
    refine ⟨a3, xs3, rfl, .inl (.inl hT3), ?_⟩
    have ia : ImA H3 (xs2 ++ (xs3 ++ [])) ((L.erase m).map dMv) := by
      rw [List.append_nil, ← h3, ← eraseIdx_split, List.map_append]
      exact (hA2.mono (.same s3)).app hA3
    refine r_tup ia (by rw [List.length_map, List.length_erase_of_mem hm]; omega) fun p np ip => q _ _ (((sl.trans s2).trans s3).trans (Same.new np)) ip
def sp_is_let_in : Sp := fun vs H Q _ => ∃ (T : List Row) (s : List Int) (L : List (Str × Str)) (m : Str × Str) (v u x y : V), vs = [v, u, x, y] ∧ Im H v (dTree T) ∧ Im H u (dInts s) ∧ Im H x (dMvs L) ∧ Im H y (dMv m) ∧ T.length = s.length ∧ TreeOk T ∧ (∀ m, m ∈ L → MvOk T m) ∧ L.length ≤ 60 ∧ Files T s L ∧ m ∈ L ∧
  ∀ b H', Same H H' → (b = true ↔ RR.canGo (ways T) (room T) (use T s) m ∧ RR.NB (names T) (ways T) (room T) (RR.after (ways T) (use T s) m) (L.erase m)) → Q (.bl b) H'
theorem ok_is_let_in {d : V} (hd : ∃ a, d = .ref a ∧ ∀ H, SqT K H a []) (F_has_ring_in : OkD P w K mg base "has_ring_in" ["tree", "stand", "moves", "widened"] d 9 (sp_has_ring_in (K := K))) (F_lot_less : OkF P w K mg base "lot_less" ["lot", "move"] 1 sp_lot_less)
    (F_stand_by : OkF P w K mg base "stand_by" ["tree", "stand", "move"] 2 sp_stand_by) (F_can_go : OkF P w K mg base "can_go" ["tree", "stand", "move"] 5 sp_can_go) (hf : Has K mg "is_let_in" s_is_let_in) : OkF P w K mg base "is_let_in" ["tree", "stand", "lot", "move"] 10 sp_is_let_in := by
  refine Has.ok hf sc_is_let_in (fun _ _ _ _ _ _ us hl => match us, hl with | [_, _, _, _], _ => rfl) (fun vs H Q E h => ?_) (fun f cdv A outer sh H vs Q E hr h => ?_)
  · obtain ⟨T, s, L, m, v, u, x, y, rfl, _⟩ := h
    rfl
  · obtain ⟨T, s, L, m, v, u, x, y, rfl, iv, iu, ix, iy, hl, ok, hmv, few, files, hm, q⟩ := h
    obtain ⟨a, rfl, ha⟩ := hd
    refine ⟨_, (pss_one (ps_ret (pe_and (pe_c F_can_go (hr.mono (by decide)) (pa_cons (pv 0) (pa_cons (pv 1) (pa_cons (pv 3) pa_nil)))) (pe_one (pe_not (pe_cd F_has_ring_in (hr.mono (by decide)) (pa_cons (pv 0) (pa_cons (pe_c F_stand_by (hr.mono (by decide)) (pa_cons (pv 0) (pa_cons (pv 1) (pa_cons (pv 3) pa_nil)))) (pa_cons (pe_c F_lot_less (hr.mono (by decide)) (pa_cons (pv 2) (pa_cons (pv 3) pa_nil))) pa_nil))))))))), ?_⟩
    refine ⟨v, rfl, u, rfl, y, rfl, T, s, m, v, u, y, rfl, iv, iu, iy, hl, ok, hmv m hm, files.has hm (hmv m hm), fun b H1 s1 hb => ⟨_, rfl, ?_⟩⟩
    have eu : use T (stby T s m) = RR.after (ways T) (use T s) m := funext fun f => use_stby ok hl m f
    cases b with
    | false =>
      refine iteF (q _ _ s1 ⟨(fun h => nomatch h), fun h => ?_⟩)
      have := hb.mpr h.1
      cases this
    | true =>
      refine iteT ?_
      refine ⟨v, rfl, v, rfl, u, rfl, y, rfl, T, s, m, v, u, y, rfl, iv.mono (.same s1), iu.mono (.same s1), iy.mono (.same s1), hl, ok, fun v2 H2 s2 i2 => ?_⟩
      have s02 := s1.trans s2
      refine ⟨x, rfl, y, rfl, L, m, x, y, rfl, ix.mono (.same s02), iy.mono (.same s02), hm, few, fun v3 H3 s3 i3 => ?_⟩
      have s03 := s02.trans s3
      refine ⟨T, _, L.erase m, v, v2, v3, a, rfl, iv.mono (.same s03), i2.mono (.same s3), i3, ha, stby_len hl m, ok, fun m' hm' => hmv m' (List.mem_of_mem_erase hm'), Nat.le_trans List.length_erase_le few, fun b2 H4 s4 hb2 => ?_⟩
      refine ⟨_, rfl, q _ _ (s03.trans s4) ?_⟩
      rw [eu] at hb2
      constructor
      · intro h
        refine ⟨hb.mp rfl, Classical.byContradiction fun nb => ?_⟩
        have := hb2.mpr nb
        rw [this] at h
        cases h
      · rintro ⟨_, nb⟩
        cases e : b2 with
        | false => rfl
        | true => exact absurd nb (hb2.mp e)
end
end RW
end
section
set_option linter.all false
set_option maxRecDepth 100000
set_option autoImplicit false
set_option maxHeartbeats 1000000
/-! calm_moves, first_let. -/
namespace RW
open PySem PySem.Spec PyProof.Rows L2
/-- what a walk of moves stands on -/
structure Wok (T : List Row) (s : List Int) (L : List (Str × Str)) : Prop where
  hl : T.length = s.length
  ok : TreeOk T
  mv : ∀ m, m ∈ L → MvOk T m
  few : L.length ≤ 60
  files : Files T s L
  fit : ∀ f, f ∈ names T → use T s f ≤ room T f
def Calm (T : List Row) (s : List Int) (m : Str × Str) : Prop := ∀ f, RR.ent (ways T) m f → use T s f + 1 < room T f
section
variable {P : Program} {w : World} {K : PySem.W.Frag} {mg : Str → Option Value} {base : Heap}
def sp_calm_moves : Sp := fun vs H Q _ => ∃ (T : List Row) (s : List Int) (L : List (Str × Str)) (v u x : V), vs = [v, u, x] ∧ Im H v (dTree T) ∧ Im H u (dInts s) ∧ Im H x (dMvs L) ∧ Wok T s L ∧
  ∀ p H' ys (ms : List (Str × Str)), Same H H' → H p = none → H' p = some (.lst ys) → ImA H' ys (ms.map dMv) → (∀ m, m ∈ ms → m ∈ L ∧ Calm T s m) → Q (.ref p) H'
theorem ok_calm_moves (Tx : Txt mg) (F_frees_by : OkF P w K mg base "frees_by" ["tree", "counts"] 4 sp_frees_by) (F_entered_in : OkF P w K mg base "entered_in" ["tree", "move"] 3 sp_entered_in) (F_can_go : OkF P w K mg base "can_go" ["tree", "stand", "move"] 5 sp_can_go)
    (hf : Has K mg "calm_moves" s_calm_moves) : OkF P w K mg base "calm_moves" ["tree", "stand", "lot"] 6 sp_calm_moves := by
  refine Has.ok hf sc_calm_moves (fun _ _ _ _ _ _ us hl => match us, hl with | [_, _, _], _ => rfl) (fun vs H Q E h => ?_) (fun f cdv A outer sh H vs Q E hr h => ?_)
  · obtain ⟨T, s, L, v, u, x, rfl, _⟩ := h
    rfl
  · obtain ⟨T, s, L, v, u, x, rfl, iv, iu, ix, wk, q⟩ := h
    have ok := wk.ok
    have few := wk.few
    have hu := hu_of hr
    refine ⟨_, (pss_cons (ps_set (i := 3) sc_calm_moves.nd rfl (.inr rfl) (pe_c F_frees_by (hr.mono (by decide)) (pa_cons (pv 0) (pa_cons (pv 1) pa_nil))))
  (pss_cons (ps_set (i := 4) sc_calm_moves.nd rfl (.inl rfl) (pe_lst pa_nil))
  (pss_cons (ps_for PassesOwn.never rfl (pi_list (pe_ssetM Tx hr (pv 2))) (pg_name (i := 5) sc_calm_moves.nd rfl (.inl rfl)) (pss_one (ps_if (PW.pt (pw_and (pt_val (pe_c F_can_go (hr.mono (by decide)) (pa_cons (pv 0) (pa_cons (pv 1) (pa_cons (pv 5) pa_nil))))) (pw_and1 (pt_val (pe_callB (cr_all rfl) (by rfl) Tx.b_all bb_all (pa_cons (pe_lc (own := [("folder", 6)]) (g := (gName 6)) (tt := tYes) rfl sc_calm_moves.nd (pi_tup (pe_c F_entered_in (hr.mono (by decide)) (pa_cons (pv 0) (pa_cons (pv 5) pa_nil)))) (blkOk_by (own := [("folder", 6)]) (N := N_calm_moves) (sc := defScope s_calm_moves) (by decide +kernel)) (fun _ _ _ _ _ => (pg_name (i := 6) sc_calm_moves.nd rfl (.inl rfl))) (fun _ _ _ _ _ => pts_nil) (fun _ _ _ _ _ => (pe_cmpR op_gt (pe_dget hu (pv 3) (pv 6) (fun _ _ => rfl)) pe_int (nomark _)))) pa_nil)))))) (pss_one (ps_expr (pe_bm PySem.F.plainAttrs_list PySem.F.slot_list_append PySem.F.type_list_append mt_append (pv 4) (pa_cons (pv 5) pa_nil)))) pss_nil)))
  (pss_one (ps_ret (pv 4)))))), ?_⟩
    refine ⟨v, rfl, u, rfl, T, s, v, u, rfl, iv, iu, wk.hl, ok, fun pf H1 s1 nf df => ?_⟩
    refine ⟨Nat.zero_le _, fun D nD => ?_⟩
    have sD : Same H1 (upd H1 D (.lst [])) := Same.new nD
    have eD : upd H1 D (.lst []) D = some (.lst []) := upd_same
    generalize upd H1 D (.lst []) = H2 at sD eD
    have nDH : H D = none := s1.free nD
    have s02 := s1.trans sD
    obtain ⟨a, xs, rfl, hT, hA⟩ := id ix.tinv
    refine ⟨_, rfl, a, xs, L, rfl, .inr (.inl (hT.sm s02)), hA.mono (.same s02), by omega, fun l ys ms H3 s3 nl nd mem el il => ?_⟩
    have hml : ms.length ≤ 60 := Nat.le_trans (nodup_lenG nd fun m h => (mem m).mp h) few
    have nDl : D ≠ l := ne_of_none eD nl
    have npD : pf ≠ D := by
      obtain ⟨_, h1, _⟩ := df
      exact ne_of_none h1 nD
    refine forL (ds := ms) (enc := dMv) el il (fun i σ H' => ∃ y5 y6 zs cs, σ = [some v, some u, some (.ref a), some (.ref pf), some (.ref D), y5, y6] ∧ Same H H' ∧ KT H3 H' ∧ H' l = some (.lst ys) ∧ DL H' pf (gInts T fun f => room T f - use T s f) ∧ H' D = some (.lst zs) ∧ ImA H' zs (cs.map dMv) ∧ cs.length ≤ i ∧ ∀ m, m ∈ cs → m ∈ L ∧ Calm T s m)
      ⟨none, none, [], [], rfl, s02.trans s3, KT.refl _, el, (df.same sD).same s3, s3 _ _ eD, .nil, Nat.le_refl _, (fun m hm => nomatch hm)⟩ (fun i σ H' h => by
        obtain ⟨_, _, _, _, _, _, k, k2, _⟩ := h
        exact ⟨k, k2⟩) ?_ ?_
    · rintro i m y σ H4 e ⟨y5, y6, zs, cs, rfl, sm, kt, el4, df4, eD4, iz, hcs, hcm⟩ iy
      have hi : i < ms.length := (List.getElem?_eq_some_iff.mp e).1
      have hmL : m ∈ L := (mem m).mp (List.mem_of_getElem? e)
      refine ⟨v, rfl, u, rfl, y, rfl, T, s, m, v, u, y, rfl, iv.mono (.same sm), iu.mono (.same sm), iy, wk.hl, ok, wk.mv m hmL, wk.files.has hmL (wk.mv m hmL), fun b H5 s5 hb => ⟨_, rfl, ?_⟩⟩
      have sm5 := sm.trans s5
      cases b with
      | false =>
        refine iteF (iteF ?_)
        exact ⟨_, _, zs, cs, rfl, sm5, kt.trans (.same s5), s5 _ _ el4, df4.same s5, s5 _ _ eD4, iz.mono (.same s5), Nat.le_succ_of_le hcs, hcm⟩
      | true =>
        refine iteT ?_
        refine ⟨v, rfl, y, rfl, T, m, v, y, rfl, iv.mono (.same sm5), iy.mono (.same s5), ok, wk.mv m hmL, fun v6 H6 es s6 i6 nd6 mem6 => ?_⟩
        have hes := ent_len ok nd6 mem6
        refine lcT (ds := es) (enc := PyData.str) i6 (by omega) (fun _ => true) (fun f => .bool (decide (1 < room T f - use T s f))) ?_ ?_
        · intro f x4 H7 Qt Qf hf s7 ix4 ht _
          rw [ix4.sinv]
          have hfn : f ∈ names T := ok.ways_in ((mem6 f).mp hf).1
          refine ⟨rfl, _, rfl, _, rfl, r_get (((df4.same s5).same s6).same s7) (gInts_look hfn) fun v5 i5 => ?_⟩
          rw [i5.iinv]
          exact ⟨_, _, rfl, rfl, ht rfl _ _ (Same.refl _) (.bl _)⟩
        · intro D2 H7 acc nD2 s7 e7 i7
          rw [filter_true] at i7
          have ee : (es.map fun f => PyData.bool (decide (1 < room T f - use T s f))) = (es.map fun f => decide (1 < room T f - use T s f)).map .bool := by
            rw [List.map_map]
            rfl
          rw [ee] at i7
          have eb := i7.bools
          subst eb
          have s47 := (s5.trans s6).trans s7
          refine ⟨D2, _, rfl, .inl (.inl e7), _, rfl, ?_⟩
          cases eq : (es.map fun f => decide (1 < room T f - use T s f)).all id with
          | false =>
            refine iteF ?_
            exact ⟨_, _, zs, cs, rfl, sm.trans s47, kt.trans (.same s47), s47 _ _ el4, df4.same s47, s47 _ _ eD4, iz.mono (.same s47), Nat.le_succ_of_le hcs, hcm⟩
          | true =>
            refine iteT ?_
            have eD7 := s47 _ _ eD4
            have zl : zs.length = cs.length := by rw [iz.len, List.length_map]
            refine ⟨_, rfl, .inl ⟨rfl, _, .inl (.inl eD7)⟩, _, rfl, D, _, _, rfl, rfl, eD7, small1000 (by omega), ?_⟩
            have kk : KT H7 (upd H7 D (.lst (zs ++ [y]))) := .lst eD7
            refine ⟨_, _, zs ++ [y], cs ++ [m], rfl, Same.mut (sm.trans s47) nDH, (kt.trans (.same s47)).trans kk, (upd_ne nDl.symm).trans (s47 _ _ el4), (df4.same s47).other npD kk, upd_same, ?_, by rw [List.length_append]; exact Nat.succ_le_succ hcs, fun m' hm' => ?_⟩
            · rw [List.map_append]
              exact ((iz.mono (.same s47)).mono kk).app (.cons ((iy.mono (.same s47)).mono kk) .nil)
            · rcases List.mem_append.mp hm' with h | h
              · exact hcm m' h
              · rw [List.mem_singleton.mp h]
                refine ⟨hmL, fun f hf => ?_⟩
                have h1 := List.all_eq_true.mp eq _ (List.mem_map_of_mem ((mem6 f).mpr hf))
                have h2 : 1 < room T f - use T s f := of_decide_eq_true h1
                omega
    · rintro σ H' ⟨y5, y6, zs, cs, rfl, sm, kt, el4, df4, eD4, iz, hcs, hcm⟩
      exact ⟨_, rfl, q D H' zs cs sm nDH eD4 iz hcm⟩
def sp_first_let : Sp := fun vs H Q _ => ∃ (T : List Row) (s : List Int) (L : List (Str × Str)) (v u x : V), vs = [v, u, x] ∧ Im H v (dTree T) ∧ Im H u (dInts s) ∧ Im H x (dMvs L) ∧ Wok T s L ∧ RR.fits (names T) (ways T) (room T) (use T s) L ∧ RR.NB (names T) (ways T) (room T) (use T s) L ∧ L ≠ [] ∧
  ∀ v' H' m, Same H H' → Im H' v' (dMv m) → m ∈ L → RR.canGo (ways T) (room T) (use T s) m → RR.NB (names T) (ways T) (room T) (RR.after (ways T) (use T s) m) (L.erase m) → Q v' H'
theorem ok_first_let (Tx : Txt mg) (F_calm_moves : OkF P w K mg base "calm_moves" ["tree", "stand", "lot"] 6 sp_calm_moves) (F_is_let_in : OkF P w K mg base "is_let_in" ["tree", "stand", "lot", "move"] 10 sp_is_let_in) (hf : Has K mg "first_let" s_first_let) :
    OkF P w K mg base "first_let" ["tree", "stand", "lot"] 11 sp_first_let := by
  refine Has.ok hf sc_first_let (fun _ _ _ _ _ _ us hl => match us, hl with | [_, _, _], _ => rfl) (fun vs H Q E h => ?_) (fun f cdv A outer sh H vs Q E hr h => ?_)
  · obtain ⟨T, s, L, v, u, x, rfl, _⟩ := h
    rfl
  · obtain ⟨T, s, L, v, u, x, rfl, iv, iu, ix, wk, hfit, hnb, hne, q⟩ := h
    have ok := wk.ok
    have few := wk.few
    refine ⟨_, (pss_cons (ps_set (i := 3) sc_first_let.nd rfl (.inl rfl) (pe_c F_calm_moves (hr.mono (by decide)) (pa_cons (pv 0) (pa_cons (pv 1) (pa_cons (pv 2) pa_nil)))))
  (pss_cons (ps_if (pt_cmpR op_gt (pe_callB call_len_seq (by rfl) Tx.b_len PySem.boot_len (pa_cons (pv 3) pa_nil)) pe_int (nomark _)) (pss_one (ps_ret (pe_ix (show IxR _ (rIxL K) from ix_list) (pv 3) pe_int (fun _ _ => rfl)))) pss_nil)
  (pss_one (ps_ret (pe_ix (show IxR _ (rIxL K) from ix_list) (pe_lc (own := [("move", 4)]) (g := (gName 4)) rfl sc_first_let.nd (pi_list (pe_ssetM Tx hr (pv 2))) (blkOk_by (own := [("move", 4)]) (N := N_first_let) (sc := defScope s_first_let) (by decide +kernel)) (fun _ _ _ _ _ => (pg_name (i := 4) sc_first_let.nd rfl (.inl rfl))) (fun _ _ _ _ _ => pts_one (pt_val (pe_c F_is_let_in (hr.mono (by decide)) (pa_cons (pv 0) (pa_cons (pv 1) (pa_cons (pv 2) (pa_cons (pv 4) pa_nil))))))) (fun _ _ _ _ _ => (pv 4))) pe_int (fun _ _ => rfl)))))), ?_⟩
    refine ⟨v, rfl, u, rfl, x, rfl, T, s, L, v, u, x, rfl, iv, iu, ix, wk, fun p H1 ys ms s1 np ep ip hcm => ?_⟩
    refine ⟨_, rfl, p, ys, rfl, .inl (.inl (.inl ep)), _, _, rfl, rfl, _, rfl, ?_⟩
    have hly : ys.length = ms.length := by rw [ip.len, List.length_map]
    cases ms with
    | cons m ms =>
      refine iteP (decide_eq_true (by rw [hly, List.length_cons]; omega)) ?_
      obtain ⟨y, ey, iy⟩ := ip.get (i := 0) (d := dMv m) rfl
      have h0 : 0 < ys.length := by rw [hly]; exact Nat.succ_pos _
      refine ⟨_, rfl, tCi ⟨p, ys, _, y, rfl, rfl, .inl (.inl ep), ?_, ?_⟩⟩
      · rw [show (0 : Int) = ((0 : Nat) : Int) from rfl, atI_nat _ _ h0]
        exact ey
      · have hc := hcm m List.mem_cons_self
        have hl := RR.calm_let ok.forest wk.fit hnb hc.1 hc.2
        exact q _ _ m s1 iy hc.1 hl.1 hl.2
    | nil =>
      refine iteN (decide_eq_false (by rw [hly]; exact fun h => absurd h (by decide))) ?_
      obtain ⟨a, xs, rfl, hT, hA⟩ := id ix.tinv
      refine ⟨_, rfl, a, xs, L, rfl, .inr (.inl (hT.sm s1)), hA.mono (.same s1), by omega, fun l zs ms H3 s3 nl nd mem el il => ?_⟩
      have hml : ms.length ≤ 60 := Nat.le_trans (nodup_lenG nd fun m h => (mem m).mp h) few
      have s13 := s1.trans s3
      open Classical in
      refine lcL (ds := ms) (enc := dMv) el il (by omega) (fun m => decide (RR.canGo (ways T) (room T) (use T s) m ∧ RR.NB (names T) (ways T) (room T) (RR.after (ways T) (use T s) m) (L.erase m))) dMv ?_ ?_
      · intro m y H4 Qt Qf hmm s4 iy ht hf'
        have hmL := (mem m).mp hmm
        have s14 := s13.trans s4
        refine ⟨rfl, ?_⟩
        refine ⟨v, rfl, u, rfl, _, rfl, y, rfl, T, s, L, m, v, u, _, y, rfl, iv.mono (.same s14), iu.mono (.same s14), ix.mono (.same s14), iy, wk.hl, ok, wk.mv, few, wk.files, hmL, fun b H5 s5 hb => ⟨_, rfl, ?_⟩⟩
        cases b with
        | true => exact iteT ⟨_, rfl, ht (decide_eq_true (hb.mp rfl)) _ _ s5 (iy.mono (.same s5))⟩
        | false =>
          refine iteF (hf' (decide_eq_false fun z => ?_) _ s5)
          have := hb.mpr z
          cases this
      · intro D H4 acc nD s4 e4 i4
        obtain ⟨m, hmL, hgo, hnb2⟩ := RR.let_move ok.forest _ L (room T) (use T s) rfl wk.fit hfit hnb hne
        have hfm : m ∈ ms.filter fun m => decide (RR.canGo (ways T) (room T) (use T s) m ∧ RR.NB (names T) (ways T) (room T) (RR.after (ways T) (use T s) m) (L.erase m)) := List.mem_filter.mpr ⟨(mem m).mpr hmL, decide_eq_true ⟨hgo, hnb2⟩⟩
        cases ef : ms.filter fun m => decide (RR.canGo (ways T) (room T) (use T s) m ∧ RR.NB (names T) (ways T) (room T) (RR.after (ways T) (use T s) m) (L.erase m)) with
        | nil =>
          rw [ef] at hfm
          cases hfm
        | cons m1 rest =>
          rw [ef] at i4
          have hm1 : m1 ∈ ms.filter fun m => decide (RR.canGo (ways T) (room T) (use T s) m ∧ RR.NB (names T) (ways T) (room T) (RR.after (ways T) (use T s) m) (L.erase m)) := by
            rw [ef]
            exact List.mem_cons_self
          obtain ⟨h1, h2⟩ := List.mem_filter.mp hm1
          have h3 := of_decide_eq_true h2
          obtain ⟨y, ey, iy⟩ := i4.get (i := 0) (d := dMv m1) rfl
          have h0 : 0 < acc.length := by
            rw [i4.len]
            exact Nat.succ_pos _
          refine tCi ⟨D, acc, _, y, rfl, rfl, .inl (.inl e4), ?_, ?_⟩
          · rw [show (0 : Int) = ((0 : Nat) : Int) from rfl, atI_nat _ _ h0]
            exact ey
          · exact q _ _ m1 (s13.trans s4) iy ((mem m1).mp h1) h3.1 h3.2
end
end RW
end
section
set_option linter.all false
set_option maxRecDepth 100000
set_option autoImplicit false
set_option maxHeartbeats 1000000
/-! order_by, others_order. -/
namespace RW
open PySem PySem.Spec PyProof.Rows L2
abbrev s_order_by : Stmt := topS 65
abbrev N_order_by : List Str := ["tree", "stand", "lot", "here", "left", "made", "lap", "move"]
theorem sc_order_by : FnScope N_order_by ["tree", "stand", "lot"] (defScope s_order_by) := ⟨rfl, rfl, rfl, by decide +kernel, rfl, by decide +kernel, by decide +kernel⟩
abbrev s_others_order : Stmt := topS 70
abbrev N_others_order : List Str := ["tree", "stand", "lot", "asked", "left", "move"]
theorem sc_others_order : FnScope N_others_order ["tree", "stand", "lot", "asked"] (defScope s_others_order) := ⟨rfl, rfl, rfl, by decide +kernel, rfl, by decide +kernel, by decide +kernel⟩

theorem Wok.step {T : List Row} {s : List Int} {L : List (Str × Str)} (k : Wok T s L) {m : Str × Str} (hm : m ∈ L) (g : RR.canGo (ways T) (room T) (use T s) m) : Wok T (stby T s m) (L.erase m) where
  hl := stby_len k.hl m
  ok := k.ok
  mv := fun m' h => k.mv m' (List.mem_of_mem_erase h)
  few := Nat.le_trans List.length_erase_le k.few
  files := k.files.after k.hl hm
  fit := fun f hf => by
    rw [use_stby k.ok k.hl]
    exact RR.after_le k.fit g f hf
theorem use_fun {T : List Row} {s : List Int} (ok : TreeOk T) (hl : T.length = s.length) (m : Str × Str) : use T (stby T s m) = RR.after (ways T) (use T s) m := funext fun f => use_stby ok hl m f
section
variable {P : Program} {w : World} {K : PySem.W.Frag} {mg : Str → Option Value} {base : Heap}
def sp_order_by : Sp := fun vs H Q _ => ∃ (T : List Row) (s : List Int) (L : List (Str × Str)) (v u x : V), vs = [v, u, x] ∧ Im H v (dTree T) ∧ Im H u (dInts s) ∧ Im H x (dMvs L) ∧ Wok T s L ∧
  ((¬ ∃ O : List (Str × Str), O.Perm L ∧ RR.goes (ways T) (room T) (use T s) O) → ∀ H', Same H H' → Q .non H') ∧ (∀ v' H' O, Same H H' → Im H' v' (dMvs O) → O.Perm L → RR.goes (ways T) (room T) (use T s) O → Q v' H')
theorem ok_order_by (Tx : Txt mg) {d : V} (hd : ∃ a, d = .ref a ∧ ∀ H, SqT K H a []) (F_has_ring_in : OkD P w K mg base "has_ring_in" ["tree", "stand", "moves", "widened"] d 9 (sp_has_ring_in (K := K))) (F_misfits_at : OkF P w K mg base "misfits_at" ["tree", "stand", "lot"] 5 sp_misfits_at)
    (F_first_let : OkF P w K mg base "first_let" ["tree", "stand", "lot"] 11 sp_first_let) (F_lot_less : OkF P w K mg base "lot_less" ["lot", "move"] 1 sp_lot_less) (F_stand_by : OkF P w K mg base "stand_by" ["tree", "stand", "move"] 2 sp_stand_by) (hf : Has K mg "order_by" s_order_by) :
    OkF P w K mg base "order_by" ["tree", "stand", "lot"] 12 sp_order_by := by
  refine Has.ok hf sc_order_by (fun _ _ _ _ _ _ us hl => match us, hl with | [_, _, _], _ => rfl) (fun vs H Q E h => ?_) (fun f cdv A outer sh H vs Q E hr h => ?_)
  · obtain ⟨T, s, L, v, u, x, rfl, _⟩ := h
    rfl
  · obtain ⟨T, s, L, v, u, x, rfl, iv, iu, ix, wk, qn, qo⟩ := h
    obtain ⟨ad, rfl, had⟩ := hd
    have ok := wk.ok
    refine ⟨_, (pss_cons (ps_if (PW.pt (pw_or (pt_cmpR op_gt (pe_callB call_len_seq (by rfl) Tx.b_len PySem.boot_len (pa_cons (pe_c F_misfits_at (hr.mono (by decide)) (pa_cons (pv 0) (pa_cons (pv 1) (pa_cons (pv 2) pa_nil)))) pa_nil)) pe_int (nomark _)) (pw_or1 (pt_val (pe_cd F_has_ring_in (hr.mono (by decide)) (pa_cons (pv 0) (pa_cons (pv 1) (pa_cons (pv 2) pa_nil)))))))) (pss_one (ps_ret pe_non)) pss_nil)
  (pss_cons (ps_par3 (i := 3) (j := 4) (l := 5) (by rfl) sc_order_by.nd rfl rfl rfl (by decide) (by decide) (by decide) rfl rfl rfl (pa_cons (pv 1) (pa_cons (pv 2) (pa_cons (pe_lst pa_nil) pa_nil))) (by rfl))
  (pss_cons (ps_for PassesOwn.never rfl (pi_range1 rfl Tx.b_range (pa_cons (pe_callB call_len_seq (by rfl) Tx.b_len PySem.boot_len (pa_cons (pv 2) pa_nil)) pa_nil)) (pg_name (i := 6) sc_order_by.nd rfl (.inl rfl)) (pss_cons (ps_set (i := 7) sc_order_by.nd rfl (.inl rfl) (pe_c F_first_let (hr.mono (by decide)) (pa_cons (pv 0) (pa_cons (pv 3) (pa_cons (pv 4) pa_nil)))))
  (pss_cons (ps_expr (pe_bm PySem.F.plainAttrs_list PySem.F.slot_list_append PySem.F.type_list_append mt_append (pv 5) (pa_cons (pv 7) pa_nil)))
  (pss_one (ps_par (i := 3) (j := 4) (by rfl) sc_order_by.nd rfl rfl (by decide) rfl rfl (pa_cons (pe_c F_stand_by (hr.mono (by decide)) (pa_cons (pv 0) (pa_cons (pv 3) (pa_cons (pv 7) pa_nil)))) (pa_cons (pe_c F_lot_less (hr.mono (by decide)) (pa_cons (pv 4) (pa_cons (pv 7) pa_nil))) pa_nil)) (by rfl))))))
  (pss_one (ps_ret (pe_callTy cr_tupF (by rfl) Tx.b_tuple bb_tuple (pa_cons (pv 5) pa_nil))))))), ?_⟩
    refine ⟨v, rfl, u, rfl, x, rfl, T, s, L, v, u, x, rfl, iv, iu, ix, wk.hl, ok, fun v1 H1 ys s1 i1 hys => ?_⟩
    obtain ⟨a1, xs1, rfl, hT1, hA1⟩ := id i1.tinv
    have hlen : xs1.length = ys.length := by rw [hA1.len, List.length_map]
    refine ⟨a1, xs1, rfl, .inr (.inl hT1), _, _, rfl, rfl, _, rfl, ?_⟩
    by_cases hy : ys = []
    case neg =>
      have hp : 0 < ys.length := List.length_pos_iff.mpr hy
      refine iteP (decide_eq_true (by omega)) (iteT (qn (fun ⟨O, p, g⟩ => ?_) _ s1))
      obtain ⟨y, hyy⟩ := List.exists_mem_of_ne_nil _ hy
      have h1 := (hys y).mp hyy
      have h2 := (RR.order_needs ok.forest wk.fit p g).1 y h1.1
      omega
    case pos =>
      subst hy
      refine iteN (decide_eq_false (by rw [hlen]; exact fun h => absurd h (by decide))) ?_
      have hfit : RR.fits (names T) (ways T) (room T) (use T s) L := fun f hf => by
        refine Int.not_lt.mp fun h => ?_
        have := (hys f).mpr ⟨hf, h⟩
        cases this
      refine ⟨v, rfl, u, rfl, x, rfl, T, s, L, v, u, x, ad, rfl, iv.mono (.same s1), iu.mono (.same s1), ix.mono (.same s1), had, wk.hl, ok, wk.mv, wk.few, fun b H2 s2 hb => ⟨_, rfl, ?_⟩⟩
      have s02 := s1.trans s2
      cases b with
      | true =>
        refine iteT (qn (fun ⟨O, p, g⟩ => ?_) _ s02)
        exact hb.mp rfl (RR.order_needs ok.forest wk.fit p g).2
      | false =>
        have hnb : RR.NB (names T) (ways T) (room T) (use T s) L := Classical.byContradiction fun z => by
          have := hb.mpr z
          cases this
        refine iteF ?_
        refine ⟨_, rfl, _, rfl, Nat.zero_le _, fun D nD => ⟨_, _, _, rfl, ?_⟩⟩
        have sD : Same H2 (upd H2 D (.lst [])) := Same.new nD
        have eD : upd H2 D (.lst []) D = some (.lst []) := upd_same
        generalize upd H2 D (.lst []) = H3 at sD eD
        have nDH : H D = none := s02.free nD
        have s03 := s02.trans sD
        obtain ⟨ax, xx, rfl, hTx, hAx⟩ := id ix.tinv
        have lxx : xx.length = L.length := by rw [hAx.len, List.length_map]
        refine ⟨_, rfl, ax, xx, rfl, .inr (.inl (hTx.sm s03)), ?_⟩
        refine ⟨_, rfl, by omega, by have := wk.few; omega, for_range (fun i σ H' => ∃ s' L' uv lv zs ms y6 y7, σ = [some v, some u, some (.ref ax), some uv, some lv, some (.ref D), y6, y7] ∧ Same H H' ∧ Im H' uv (dInts s') ∧ Im H' lv (dMvs L') ∧ H' D = some (.lst zs) ∧ ImA H' zs (ms.map dMv) ∧ ms.length = i ∧ Wok T s' L' ∧
            RR.fits (names T) (ways T) (room T) (use T s') L' ∧ RR.NB (names T) (ways T) (room T) (use T s') L' ∧ (ms ++ L').Perm L ∧ RR.goes (ways T) (room T) (use T s) ms ∧ use T s' = RR.endU (ways T) (use T s) ms)
          ⟨s, L, u, .ref ax, [], [], none, none, rfl, s03, iu.mono (.same s03), ix.mono (.same s03), eD, .nil, rfl, wk, hfit, hnb, .refl _, trivial, rfl⟩ ?_ ?_⟩
        · rintro i σ H' hi ⟨s', L', uv, lv, zs, ms, y6, y7, rfl, sm, iuv, ilv, eD', iz, hms, wk', hf', hn', hp, hgo, hus⟩
          have hi' : i < L.length := by omega
          have hlen' := hp.length_eq
          rw [List.length_append] at hlen'
          have hne : L' ≠ [] := fun z => by
            rw [z] at hlen'
            simp at hlen'
            omega
          refine ⟨v, rfl, uv, rfl, lv, rfl, T, s', L', v, uv, lv, rfl, iv.mono (.same sm), iuv, ilv, wk', hf', hn', hne, fun mv H4 m s4 im hm hg hnb2 => ?_⟩
          have sm4 := sm.trans s4
          have eD4 := s4 _ _ eD'
          have zl : zs.length = ms.length := by rw [iz.len, List.length_map]
          refine ⟨_, rfl, .inl ⟨rfl, _, .inl (.inl eD4)⟩, _, rfl, D, _, _, rfl, rfl, eD4, small1000 (by have := wk.few; omega), ?_⟩
          have k5 : KT H4 (upd H4 D (.lst (zs ++ [mv]))) := .lst eD4
          have s5 : Same H (upd H4 D (.lst (zs ++ [mv]))) := Same.mut sm4 nDH
          have eD5 : upd H4 D (.lst (zs ++ [mv])) D = some (.lst (zs ++ [mv])) := upd_same
          generalize upd H4 D (.lst (zs ++ [mv])) = H5 at k5 s5 eD5
          refine ⟨v, rfl, uv, rfl, mv, rfl, T, s', m, v, uv, mv, rfl, iv.mono (.same s5), (iuv.mono (.same s4)).mono k5, im.mono k5, wk'.hl, ok, fun uv2 H6 s6 i6 => ?_⟩
          refine ⟨lv, rfl, mv, rfl, L', m, lv, mv, rfl, ((ilv.mono (.same s4)).mono k5).mono (.same s6), (im.mono k5).mono (.same s6), hm, wk'.few, fun lv2 H7 s7 i7 => ?_⟩
          have eu := use_fun ok wk'.hl m
          have s67 := s6.trans s7
          refine ⟨_, _, rfl, stby T s' m, L'.erase m, uv2, lv2, zs ++ [mv], ms ++ [m], _, _, rfl, s5.trans s67, i6.mono (.same s7), i7, s67 _ _ eD5, ?_, by rw [List.length_append, hms]; rfl, wk'.step hm hg, ?_, ?_, ?_, ?_, ?_⟩
          · rw [List.map_append]
            exact (((iz.mono (.same s4)).mono k5).mono (.same s67)).app (.cons ((im.mono k5).mono (.same s67)) .nil)
          · rw [eu]
            exact RR.fits_after hm hf'
          · rw [eu]
            exact hnb2
          · rw [List.append_assoc]
            exact ((List.perm_cons_erase hm).symm.append_left ms).trans hp
          · rw [RR.goes_append]
            refine ⟨hgo, ?_, trivial⟩
            rw [← hus]
            exact hg
          · rw [eu, RR.endU_append, ← hus]
            rfl
        · rintro σ H' ⟨s', L', uv, lv, zs, ms, y6, y7, rfl, sm, iuv, ilv, eD', iz, hms, wk', hf', hn', hp, hgo, hus⟩
          have hlen' := hp.length_eq
          rw [List.length_append] at hlen'
          have hnil : L' = [] := List.length_eq_zero_iff.mp (by omega)
          rw [hnil, List.append_nil] at hp
          refine ⟨_, rfl, r_tupF eD' iz fun l H5 s5 nl fz i5 => qo _ _ ms (sm.trans s5) i5 hp hgo⟩
/-- the lot without the asked moves -/
def rest (L A : List (Str × Str)) : List (Str × Str) := A.foldl (fun l m => l.erase m) L
theorem rest_append (L A : List (Str × Str)) (m : Str × Str) : rest L (A ++ [m]) = (rest L A).erase m := by
  unfold rest
  rw [List.foldl_append]
  rfl
theorem rest_count : ∀ (A L : List (Str × Str)) (m : Str × Str), (rest L A).count m = L.count m - A.count m
  | [], L, m => by simp [rest]
  | a :: A, L, m => by
    show (rest (L.erase a) A).count m = _
    rw [rest_count A]
    rw [List.count_erase, List.count_cons]
    by_cases e : a = m
    · simp [e]
      omega
    · have e' : ¬ (m == a) = true := by simpa using fun z => e z.symm
      simp [e, e']
theorem rest_perm : ∀ (A L : List (Str × Str)), (∀ m, A.count m ≤ L.count m) → (A ++ rest L A).Perm L := fun A L h => by
  rw [List.perm_iff_count]
  intro m
  rw [List.count_append, rest_count]
  have := h m
  omega
end
end RW
end
section
set_option linter.all false
set_option maxRecDepth 100000
set_option autoImplicit false
set_option maxHeartbeats 1000000
/-! others_order, can_finish, finishing. -/
namespace RW
open PySem PySem.Spec PyProof.Rows L2
abbrev s_can_finish : Stmt := topS 71
abbrev N_can_finish : List Str := ["tree", "stand", "lot", "asked"]
theorem sc_can_finish : FnScope N_can_finish ["tree", "stand", "lot", "asked"] (defScope s_can_finish) := ⟨rfl, rfl, rfl, by decide +kernel, rfl, by decide +kernel, by decide +kernel⟩
abbrev s_finishing : Stmt := topS 72
abbrev N_finishing : List Str := ["tree", "stand", "lot", "asked", "moves", "steps", "move"]
theorem sc_finishing : FnScope N_finishing ["tree", "stand", "lot", "asked"] (defScope s_finishing) := ⟨rfl, rfl, rfl, by decide +kernel, rfl, by decide +kernel, by decide +kernel⟩

theorem mem_of_sub {L A : List (Str × Str)} (h : ∀ m, A.count m ≤ L.count m) {m : Str × Str} (hm : m ∈ A) : m ∈ L := by
  have h1 := List.count_pos_iff.mpr hm
  have h2 := h m
  exact List.count_pos_iff.mp (by omega)
theorem files_all {T : List Row} : ∀ (A L : List (Str × Str)) {s : List Int}, T.length = s.length → (∀ m, A.count m ≤ L.count m) → Files T s L → Files T (stbyAll T s A) (rest L A)
  | [], _, _, _, _, h => h
  | a :: A, L, s, hl, sub, h => by
    have ha : a ∈ L := mem_of_sub sub List.mem_cons_self
    refine files_all A (L.erase a) (stby_len hl a) (fun m => ?_) (h.after hl ha)
    have h1 := sub m
    rw [List.count_cons] at h1
    rw [List.count_erase]
    by_cases e : a = m
    · have e1 : (a == m) = true := by simpa using e
      have e2 : (m == a) = true := by simpa using e.symm
      rw [e1] at h1
      simp only [if_true] at h1
      split
      · omega
      · omega
    · have e2 : (m == a) = false := by simpa using fun z => e z.symm
      have e1 : (a == m) = false := by simpa using e
      rw [e1] at h1
      simp only [Bool.false_eq_true, if_false, Nat.add_zero] at h1
      split
      · rename_i z
        exact absurd (by simpa using z) fun z : a = m => e z
      · omega
theorem endU_held (T : List Row) (s : List Int) (A : List (Str × Str)) (f : Str) : RR.endU (ways T) (use T s) A f ≤ held T s A f := by
  rw [RR.endU_eq]
  unfold held gainN
  have : (A.map fun m => RR.d (ways T) m f).sum ≤ (A.map fun m => if f ∈ ways T m.2 ∧ f ∉ ways T m.1 then (1 : Int) else 0).sum := by
    induction A with
    | nil => exact Int.le_refl _
    | cons a A ih =>
      rw [List.map_cons, List.map_cons, List.sum_cons, List.sum_cons]
      refine Int.add_le_add ?_ ih
      unfold RR.d
      by_cases h2 : f ∈ ways T a.2
      · by_cases h1 : f ∈ ways T a.1
        · rw [if_pos h2, if_pos h1, if_neg fun z => z.2 h1]
          decide
        · rw [if_pos h2, if_neg h1, if_pos ⟨h2, h1⟩]
          decide
      · have hz : ¬ (f ∈ ways T a.2 ∧ f ∉ ways T a.1) := fun z => h2 z.1
        rw [if_neg h2, if_neg hz]
        split
        · decide
        · decide
  omega
theorem CaseOk.rest {T : List Row} {s : List Int} {L A : List (Str × Str)} (k : CaseOk T s L A) : Wok T (stbyAll T s A) (rest L A) where
  hl := stbyAll_len A k.so.1
  ok := k.fit.ok
  mv := fun m hm => k.lo.mo.mv m ((rest_perm A L k.ao.sub).mem_iff.mp (List.mem_append_right _ hm))
  few := by
    have h1 := (rest_perm A L k.ao.sub).length_eq
    rw [List.length_append] at h1
    have := k.lo.mo.few
    omega
  files := files_all A L k.so.1 k.ao.sub k.lo.files
  fit := fun f hf => by
    rw [use_stbyAll k.fit.ok A k.so.1]
    exact Int.le_trans (endU_held T s A f) (k.ao.fit f hf)
/-- an order of the others -/
def Order (T : List Row) (s : List Int) (L A O : List (Str × Str)) : Prop := O.Perm (rest L A) ∧ RR.goes (ways T) (room T) (RR.endU (ways T) (use T s) A) O
def dStep (k : Str) (m : Str × Str) : PyData := .tuple [.str k, .str m.1, .str m.2]
def dSteps (A O : List (Str × Str)) : PyData := .tuple (A.map (dStep "done") ++ O.flatMap fun m => [dStep "ask" m, dStep "done" m])
/-- a def that is called by keywords, too: its function object is told -/
def OkN (P : Program) (w : World) (K : PySem.W.Frag) (mg : Str → Option Value) (base : Heap) (x : Str) (st : Stmt) (ps : List Str) (k : Nat) (sp : Sp) : Prop :=
  ∃ (f : Addr) (fd : FuncData), mg x = some (.ref f) ∧ Fun K x x st f fd ∧ FnOk P w K mg base CX0 k f fd ps sp
section
variable {P : Program} {w : World} {K : PySem.W.Frag} {mg : Str → Option Value} {base : Heap}
theorem Has.okN {x : Str} {st : Stmt} {N ps : List Str} {k : Nat} {sp : Sp} (F : Has K mg x st) (S : FnScope N ps (defScope st)) (len : ∀ vs H Q E, sp vs H Q E → vs.length = ps.length)
    (hbody : ∀ (f : Addr) (cdv : Value) (A : Around) (outer : List Env) (s : Shared) (H : Hp) (vs : List V) (Q : VK) (E : XK), Room k (A.deeper (envOfC x (defScope st) s.heap.objs.size f cdv)) → sp vs H Q E →
      ∃ t, PSs (cxOf CX0 P w K mg base N x (defScope st) f cdv A outer s H E).nox (defBody st) t ∧ t { nx := fun _ H' => Q .non H', rt := Q } (start N vs) H) : OkN P w K mg base x st ps (k + 1) sp := by
  obtain ⟨f, fd, hm, F⟩ := F
  exact ⟨f, fd, hm, F, F.ok S len fun cdv A outer s H vs Q E hr h => hbody f cdv A outer s H vs Q E hr h⟩
theorem OkN.okF {x : Str} {st : Stmt} {ps : List Str} {k : Nat} {sp : Sp} (h : OkN P w K mg base x st ps k sp)
    (hb : ∀ (kV doc pm : Value) (an : Option Addr) (cdv ct : Value) (us : List Value), us.length = ps.length → bindArgs (PySem.W.fnOf x x (defArgs st) (defBody st) (defScope st) .none kV doc pm an cdv ct) ⟨us, []⟩ = pure (ps.zip us)) : OkF P w K mg base x ps k sp := by
  obtain ⟨f, fd, hm, F, G⟩ := h
  exact ⟨f, fd, hm, F.kp, F.binds hb, G⟩
end
section
variable {P : Program} {w : World} {K : PySem.W.Frag} {mg : Str → Option Value} {base : Heap}
def sp_others_order : Sp := fun vs H Q _ => ∃ (T : List Row) (s : List Int) (L A : List (Str × Str)) (v u x y : V), vs = [v, u, x, y] ∧ Im H v (dTree T) ∧ Im H u (dInts s) ∧ Im H x (dMvs L) ∧ Im H y (dMvs A) ∧ CaseOk T s L A ∧
  ((¬ ∃ O, Order T s L A O) → ∀ H', Same H H' → Q .non H') ∧ (∀ v' H' O, Same H H' → Im H' v' (dMvs O) → Order T s L A O → Q v' H')
theorem ok_others_order (Tx : Txt mg) (F_stand_by : OkF P w K mg base "stand_by" ["tree", "stand", "move"] 2 sp_stand_by) (F_order_by : OkF P w K mg base "order_by" ["tree", "stand", "lot"] 12 sp_order_by) (hf : Has K mg "others_order" s_others_order) :
    OkF P w K mg base "others_order" ["tree", "stand", "lot", "asked"] 13 sp_others_order := by
  refine Has.ok hf sc_others_order (fun _ _ _ _ _ _ us hl => match us, hl with | [_, _, _, _], _ => rfl) (fun vs H Q E h => ?_) (fun f cdv A outer sh H vs Q E hr h => ?_)
  · obtain ⟨T, s, L, A, v, u, x, y, rfl, _⟩ := h
    rfl
  · obtain ⟨T, s, L, B, v, u, x, y, rfl, iv, iu, ix, iy, co, qn, qo⟩ := h
    have hu65 : (A.deeper (envOfC "others_order" (defScope s_others_order) sh.heap.objs.size f cdv)).units + 65 < cLine := by
      have := hr.un
      omega
    have ok := co.fit.ok
    refine ⟨_, (pss_cons (ps_set (i := 4) sc_others_order.nd rfl (.inl rfl) (pe_callTy call_list_of (by rfl) Tx.b_list bb_list (pa_cons (pv 2) pa_nil)))
  (pss_cons (ps_for PassesOwn.never rfl (pi_tup (pv 3)) (pg_name (i := 5) sc_others_order.nd rfl (.inl rfl)) (pss_cons (ps_set (i := 1) sc_others_order.nd rfl (.inl rfl) (pe_c F_stand_by (hr.mono (by decide)) (pa_cons (pv 0) (pa_cons (pv 1) (pa_cons (pv 5) pa_nil)))))
  (pss_one (ps_expr (pe_bm PySem.F.plainAttrs_list PySem.F.slot_list_remove PySem.F.type_list_remove (mt_removeD hu65) (pv 4) (pa_cons (pv 5) pa_nil))))))
  (pss_one (ps_ret (pe_c F_order_by (hr.mono (by decide)) (pa_cons (pv 0) (pa_cons (pv 1) (pa_cons (pe_callTy cr_tupF (by rfl) Tx.b_tuple bb_tuple (pa_cons (pv 4) pa_nil)) pa_nil)))))))), ?_⟩
    obtain ⟨ax, xs, rfl, hT, hA⟩ := id ix.tinv
    refine ⟨_, rfl, ax, xs, rfl, .inr (.inl hT), fun l nl => ?_⟩
    have sl : Same H (upd H l (.lst xs)) := Same.new nl
    have el : upd H l (.lst xs) l = some (.lst xs) := upd_same
    generalize upd H l (.lst xs) = H1 at sl el
    refine ⟨y, rfl, forT (ds := B) (enc := dMv) (iy.mono (.same sl)) (fun i σ H' => ∃ u1 zs z5, σ = [some v, some u1, some (.ref ax), some y, some (.ref l), z5] ∧ Same H H' ∧ KT H1 H' ∧ Im H' u1 (dInts (stbyAll T s (B.take i))) ∧ H' l = some (.lst zs) ∧ ImA H' zs ((rest L (B.take i)).map dMv))
      ⟨u, xs, none, rfl, sl, KT.refl _, iu.mono (.same sl), el, hA.mono (.same sl)⟩ (fun i σ H' h => by
        obtain ⟨_, _, _, _, _, k, _⟩ := h
        exact k) ?_ ?_⟩
    · rintro i m z σ H' e ⟨u1, zs, z5, rfl, sm, kt, i1, el', iz⟩ im
      have et : B.take (i + 1) = B.take i ++ [m] := by rw [List.take_add_one, e]; rfl
      refine ⟨v, rfl, u1, rfl, z, rfl, T, _, m, v, u1, z, rfl, iv.mono (.same sm), i1, im, stbyAll_len _ co.so.1, ok, fun u2 H2 s2 i2 => ?_⟩
      have el2 := s2 _ _ el'
      have hmr : m ∈ rest L (B.take i) := by
        refine List.count_pos_iff.mp ?_
        rw [rest_count]
        have h1 := take_count e
        have h2 := co.ao.sub m
        omega
      refine ⟨_, rfl, .inl ⟨rfl, _, .inl (.inl el2)⟩, _, rfl, l, zs, rest L (B.take i), m, z, rfl, rfl, el2, iz.mono (.same s2), im.mono (.same s2), hmr, fun zs' iz' => ?_⟩
      have k3 : KT H2 (upd H2 l (.lst zs')) := .lst el2
      refine ⟨u2, zs', _, rfl, Same.mut (sm.trans s2) nl, (kt.trans (.same s2)).trans k3, ?_, upd_same, ?_⟩
      · have e2 : stbyAll T s (B.take (i + 1)) = stby T (stbyAll T s (B.take i)) m := by
          unfold stbyAll
          rw [et, List.foldl_append]
          rfl
        rw [e2]
        exact i2.mono k3
      · rw [et, rest_append]
        exact iz'
    · rintro σ H' ⟨u1, zs, z5, rfl, sm, kt, i1, el', iz⟩
      rw [List.take_length] at i1 iz
      refine ⟨v, rfl, u1, rfl, _, rfl, l, zs, rfl, .inl (.inl el'), fun t o nt ho => ?_⟩
      have s2 : Same H' (upd H' t (.frz o (.tup zs))) := Same.new nt
      have i2 : Im (upd H' t (.frz o (.tup zs))) (.ref t) (dMvs (rest L B)) := .tup (.inr ⟨o, upd_same⟩) (iz.mono (.same s2))
      generalize upd H' t (.frz o (.tup zs)) = H2 at s2 i2
      have s02 := sm.trans s2
      have wk := co.rest
      have eu : use T (stbyAll T s B) = RR.endU (ways T) (use T s) B := use_stbyAll ok B co.so.1
      refine ⟨T, _, rest L B, v, u1, .ref t, rfl, iv.mono (.same s02), i1.mono (.same s2), i2, wk, fun hno H3 s3 => qn (fun ⟨O, p, g⟩ => hno ⟨O, p, by rw [eu]; exact g⟩) _ (s02.trans s3), fun v3 H3 O s3 i3 p g => qo v3 H3 O (s02.trans s3) i3 ⟨p, by rw [← eu]; exact g⟩⟩
def sp_can_finish : Sp := fun vs H Q _ => ∃ (T : List Row) (s : List Int) (L A : List (Str × Str)) (v u x y : V), vs = [v, u, x, y] ∧ Im H v (dTree T) ∧ Im H u (dInts s) ∧ Im H x (dMvs L) ∧ Fz H x ∧ Im H y (dMvs A) ∧ CaseOk T s L A ∧
  ∀ b H', Same H H' → (b = true ↔ ∃ O, Order T s L A O) → Q (.bl b) H'
theorem ok_can_finish (F_want_asked : OkF P w K mg base "want_asked" ["tree", "stand", "lot", "asked"] 9 sp_want_asked) (F_others_order : OkF P w K mg base "others_order" ["tree", "stand", "lot", "asked"] 13 sp_others_order) (hf : Has K mg "can_finish" s_can_finish) :
    OkN P w K mg base "can_finish" s_can_finish ["tree", "stand", "lot", "asked"] 14 sp_can_finish := by
  refine hf.okN sc_can_finish (fun vs H Q E h => ?_) (fun f cdv A outer sh H vs Q E hr h => ?_)
  · obtain ⟨T, s, L, A, v, u, x, y, rfl, _⟩ := h
    rfl
  · obtain ⟨T, s, L, B, v, u, x, y, rfl, iv, iu, ix, fx, iy, co, q⟩ := h
    refine ⟨_, (pss_cons (ps_expr (pe_c F_want_asked (hr.mono (by decide)) (pa_cons (pv 0) (pa_cons (pv 1) (pa_cons (pv 2) (pa_cons (pv 3) pa_nil))))))
  (pss_one (ps_ret (pe_cmp (pc_notN (pe_c F_others_order (hr.mono (by decide)) (pa_cons (pv 0) (pa_cons (pv 1) (pa_cons (pv 2) (pa_cons (pv 3) pa_nil)))))) rfl)))), ?_⟩
    refine ⟨v, rfl, u, rfl, x, rfl, y, rfl, T, s, L, B, v, u, x, y, rfl, iv, iu, ix, fx, iy, co, fun H1 s1 => ?_⟩
    refine ⟨v, rfl, u, rfl, x, rfl, y, rfl, T, s, L, B, v, u, x, y, rfl, iv.mono (.same s1), iu.mono (.same s1), ix.mono (.same s1), iy.mono (.same s1), co, fun hno H2 s2 => ?_, fun v2 H2 O s2 i2 ho => ?_⟩
    · refine q _ _ (s1.trans s2) ⟨(fun h => nomatch h), fun h => absurd h hno⟩
    · obtain ⟨a, xs, rfl, _⟩ := i2.tinv
      refine q _ _ (s1.trans s2) ⟨fun _ => ⟨O, ho⟩, fun _ => ?_⟩
      rw [decide_eq_false (fun z => nomatch z)]
      rfl
def sp_finishing : Sp := fun vs H Q _ => ∃ (T : List Row) (s : List Int) (L A : List (Str × Str)) (v u x y : V), vs = [v, u, x, y] ∧ Im H v (dTree T) ∧ Im H u (dInts s) ∧ Im H x (dMvs L) ∧ Fz H x ∧ Im H y (dMvs A) ∧ CaseOk T s L A ∧
  ((¬ ∃ O, Order T s L A O) → ∀ H', Same H H' → Q .non H') ∧ (∀ v' H' O, Same H H' → Im H' v' (dSteps A O) → Order T s L A O → Q v' H')
theorem mv_at {H : Hp} {v : V} {m : Str × Str} (h : Im H v (dMv m)) : ∃ b, v = .ref b ∧ Rd H b (.tup [.str m.1, .str m.2]) := h.mv
theorem ok_finishing (Tx : Txt mg) (F_want_asked : OkF P w K mg base "want_asked" ["tree", "stand", "lot", "asked"] 9 sp_want_asked) (F_others_order : OkF P w K mg base "others_order" ["tree", "stand", "lot", "asked"] 13 sp_others_order) (hf : Has K mg "finishing" s_finishing) :
    OkN P w K mg base "finishing" s_finishing ["tree", "stand", "lot", "asked"] 14 sp_finishing := by
  refine hf.okN sc_finishing (fun vs H Q E h => ?_) (fun f cdv A outer sh H vs Q E hr h => ?_)
  · obtain ⟨T, s, L, A, v, u, x, y, rfl, _⟩ := h
    rfl
  · obtain ⟨T, s, L, B, v, u, x, y, rfl, iv, iu, ix, fx, iy, co, qn, qo⟩ := h
    refine ⟨_, (pss_cons (ps_expr (pe_c F_want_asked (hr.mono (by decide)) (pa_cons (pv 0) (pa_cons (pv 1) (pa_cons (pv 2) (pa_cons (pv 3) pa_nil))))))
  (pss_cons (ps_set (i := 4) sc_finishing.nd rfl (.inl rfl) (pe_c F_others_order (hr.mono (by decide)) (pa_cons (pv 0) (pa_cons (pv 1) (pa_cons (pv 2) (pa_cons (pv 3) pa_nil))))))
  (pss_cons (ps_if (pt_cmp (pc_isN (pv 4))) (pss_one (ps_ret pe_non)) pss_nil)
  (pss_cons (ps_setLc (i := 5) (own := [("move", 6)]) (g := (gName 6)) (tt := tYes) rfl sc_finishing.nd rfl rfl (sw_true rfl rfl rfl (by decide +kernel)) (pi_tup (pv 3)) (blkOk_by (own := [("move", 6)]) (N := N_finishing) (sc := defScope s_finishing) (by decide +kernel)) (fun _ _ _ _ _ => (pg_name (i := 6) sc_finishing.nd rfl (.inl rfl))) (fun _ _ _ _ _ => pts_nil) (fun _ _ _ _ _ => (pe_tup (pa_cons (pe_gs Tx.g_DONE) (pa_starK K rfl (pv 6) pa_nil)))))
  (pss_cons (ps_for PassesOwn.never rfl (pi_tup (pv 4)) (pg_name (i := 6) sc_finishing.nd rfl (.inl rfl)) (pss_one (ps_expr (pe_bm PySem.F.plainAttrs_list PySem.F.slot_list_extend PySem.F.type_list_extend mt_extend (pv 5) (pa_cons (pe_lst (pa_cons (pe_tup (pa_cons (pe_gs Tx.g_ASK) (pa_starK K rfl (pv 6) pa_nil))) (pa_cons (pe_tup (pa_cons (pe_gs Tx.g_DONE) (pa_starK K rfl (pv 6) pa_nil))) pa_nil))) pa_nil)))))
  (pss_one (ps_ret (pe_callTy cr_tupF (by rfl) Tx.b_tuple bb_tuple (pa_cons (pv 5) pa_nil))))))))), ?_⟩
    refine ⟨v, rfl, u, rfl, x, rfl, y, rfl, T, s, L, B, v, u, x, y, rfl, iv, iu, ix, fx, iy, co, fun H1 s1 => ?_⟩
    refine ⟨v, rfl, u, rfl, x, rfl, y, rfl, T, s, L, B, v, u, x, y, rfl, iv.mono (.same s1), iu.mono (.same s1), ix.mono (.same s1), iy.mono (.same s1), co, fun hno H2 s2 => ?_, fun v2 H2 O s2 i2 ho => ?_⟩
    · exact ⟨_, rfl, _, rfl, iteT (qn hno _ (s1.trans s2))⟩
    · obtain ⟨a, xs, rfl, hT, hA⟩ := id i2.tinv
      have s02 := s1.trans s2
      refine ⟨_, rfl, _, rfl, iteN (decide_eq_false fun z => nomatch z) ?_⟩
      have hBL : B.length ≤ 60 := co.ao.mo.few
      have hOL : O.length ≤ 60 := by
        rw [ho.1.length_eq]
        exact co.rest.few
      refine ⟨y, rfl, lcT (ds := B) (enc := dMv) (iy.mono (.same s02)) (by omega) (fun _ => true) (dStep "done") ?_ ?_⟩
      · intro m z H3 Qt Qf hm s3 iz ht _
        obtain ⟨b, rfl, hb⟩ := iz.mv
        refine ⟨rfl, _, rfl, b, _, rfl, .inl (.inl hb), ?_⟩
        refine ⟨by show 3 ≤ sizeLine; decide, fun t nt => ht rfl _ _ (Same.new nt) ?_⟩
        exact .tup (.inl upd_same) (.cons (.str _) (.cons (.str _) (.cons (.str _) .nil)))
      · intro D H3 acc nD s3 e3 i3
        rw [filter_true] at i3
        have s03 := s02.trans s3
        have nDH : H D = none := s02.free nD
        have la : acc.length = B.length := by rw [i3.len, List.length_map]
        refine ⟨_, rfl, forT (ds := O) (enc := dMv) (i2.mono (.same s3)) (fun i σ H' => ∃ y6 zs, σ = [some v, some u, some x, some y, some (.ref a), some (.ref D), y6] ∧ Same H H' ∧ KT H3 H' ∧ H' D = some (.lst zs) ∧ ImA H' zs (B.map (dStep "done") ++ (O.take i).flatMap fun m => [dStep "ask" m, dStep "done" m]) ∧ zs.length = B.length + 2 * i)
          ⟨_, acc, rfl, s03, KT.refl _, e3, by rw [List.take_zero]; simpa using i3, la⟩ (fun i σ H' h => by
            obtain ⟨_, _, _, _, k, _⟩ := h
            exact k) ?_ ?_⟩
        · rintro i m z σ H' e ⟨y6, zs, rfl, sm, kt, eD, iz, hzs⟩ im
          have hi : i < O.length := (List.getElem?_eq_some_iff.mp e).1
          obtain ⟨b, rfl, hb⟩ := im.mv
          refine ⟨_, rfl, .inl ⟨rfl, _, .inl (.inl eD)⟩, ?_⟩
          refine ⟨_, rfl, b, _, rfl, .inl (.inl hb), by show 3 ≤ sizeLine; decide, fun t1 nt1 => ?_⟩
          have s4 : Same H' (upd H' t1 (.tup (V.str (Str.ofString "ask") :: ([V.str m.1, V.str m.2] ++ [])))) := Same.new nt1
          have i4 : Im (upd H' t1 (.tup (V.str (Str.ofString "ask") :: ([V.str m.1, V.str m.2] ++ [])))) (.ref t1) (dStep "ask" m) := .tup (.inl upd_same) (.cons (.str _) (.cons (.str _) (.cons (.str _) .nil)))
          have hb4 := hb.sm s4
          have nt1' : upd H' t1 (.tup (V.str (Str.ofString "ask") :: ([V.str m.1, V.str m.2] ++ []))) t1 = some (.tup (V.str (Str.ofString "ask") :: ([V.str m.1, V.str m.2] ++ []))) := upd_same
          generalize upd H' t1 (.tup (V.str (Str.ofString "ask") :: ([V.str m.1, V.str m.2] ++ []))) = H4 at s4 i4 hb4 nt1'
          refine ⟨_, rfl, b, _, rfl, .inl (.inl hb4), by show 3 ≤ sizeLine; decide, fun t2 nt2 => ?_⟩
          have s5 : Same H4 (upd H4 t2 (.tup (V.str (Str.ofString "done") :: ([V.str m.1, V.str m.2] ++ [])))) := Same.new nt2
          have i5 : Im (upd H4 t2 (.tup (V.str (Str.ofString "done") :: ([V.str m.1, V.str m.2] ++ [])))) (.ref t2) (dStep "done" m) := .tup (.inl upd_same) (.cons (.str _) (.cons (.str _) (.cons (.str _) .nil)))
          generalize upd H4 t2 (.tup (V.str (Str.ofString "done") :: ([V.str m.1, V.str m.2] ++ []))) = H5 at s5 i5
          refine ⟨by show 2 ≤ sizeLine; decide, fun l nl => ?_⟩
          have s6 : Same H5 (upd H5 l (.lst [.ref t1, .ref t2])) := Same.new nl
          have e6 : upd H5 l (.lst [.ref t1, .ref t2]) l = some (.lst [.ref t1, .ref t2]) := upd_same
          generalize upd H5 l (.lst [.ref t1, .ref t2]) = H6 at s6 e6
          have s46 := (s4.trans s5).trans s6
          have eD6 := s46 _ _ eD
          refine ⟨D, l, zs, _, rfl, rfl, eD6, e6, by rw [sizeLine_eq]; show zs.length + 2 ≤ _; omega, ?_⟩
          have k7 : KT H6 (upd H6 D (.lst (zs ++ [.ref t1, .ref t2]))) := .lst eD6
          refine ⟨_, _, rfl, Same.mut (sm.trans s46) nDH, (kt.trans (.same s46)).trans k7, upd_same, ?_, by rw [List.length_append, hzs]; show _ + 2 = _; omega⟩
          have et : O.take (i + 1) = O.take i ++ [m] := by rw [List.take_add_one, e]; rfl
          rw [et, List.flatMap_append, ← List.append_assoc]
          refine ((iz.mono (.same s46)).mono k7).app ?_
          exact .cons ((i4.mono (.same (s5.trans s6))).mono k7) (.cons ((i5.mono (.same s6)).mono k7) .nil)
        · rintro σ H' ⟨y6, zs, rfl, sm, kt, eD, iz, hzs⟩
          rw [List.take_length] at iz
          refine ⟨_, rfl, r_tupF eD iz fun l H5 s5 nl fz i5 => qo _ _ O (sm.trans s5) i5 ho⟩
end
end RW
end
section
set_option linter.all false
set_option maxRecDepth 100000
set_option autoImplicit false
set_option maxHeartbeats 1000000
/-! The law's feed and draws. -/
namespace RW
open PySem PySem.Spec PyProof.Rows L2
abbrev s__law_feed : Stmt := topS 74
abbrev N__law_feed : List Str := ["_law_script", "_law_one"]
theorem sc__law_feed : FnScope N__law_feed ["_law_script"] (defScope s__law_feed) := ⟨rfl, rfl, rfl, by decide +kernel, rfl, by decide +kernel, by decide +kernel⟩
abbrev s__law_draw : Stmt := topS 75
abbrev N__law_draw : List Str := ["_law_feed_here", "_law_many", "_law_digit", "_law_some", "_law_k", "_law_one", "_law_mixed"]
theorem sc__law_draw : FnScope N__law_draw ["_law_feed_here", "_law_many"] (defScope s__law_draw) := ⟨rfl, rfl, rfl, by decide +kernel, rfl, by decide +kernel, by decide +kernel⟩
abbrev s__law_any : Stmt := topS 76
abbrev N__law_any : List Str := ["_law_feed_here", "_law_some"]
theorem sc__law_any : FnScope N__law_any ["_law_feed_here", "_law_some"] (defScope s__law_any) := ⟨rfl, rfl, rfl, by decide +kernel, rfl, by decide +kernel, by decide +kernel⟩

abbrev fkvs (a : Addr) (sp lf dr : Int) : List (Key × V) := [(.inr "cells", .ref a), (.inr "spot", .int sp), (.inr "left", .int lf), (.inr "drawn", .int dr)]
/-- the feed of draws at p -/
def Feed (H : Hp) (p a : Addr) : Prop := ∃ (ns : List Int) (sp lf dr : Int), H p = some (.dK (fkvs a sp lf dr)) ∧ H a = some (.lst (ns.map .int)) ∧ ns.length ≤ 63
theorem Feed.same {H H' : Hp} {p a : Addr} (s : Same H H') (h : Feed H p a) : Feed H' p a := by
  obtain ⟨ns, sp, lf, dr, h1, h2, h3⟩ := h
  exact ⟨ns, sp, lf, dr, s _ _ h1, s _ _ h2, h3⟩
theorem Feed.other {H : Hp} {p a q : Addr} {o : HO} (h : Feed H p a) (n1 : p ≠ q) (n2 : a ≠ q) : Feed (upd H q o) p a := by
  obtain ⟨ns, sp, lf, dr, h1, h2, h3⟩ := h
  exact ⟨ns, sp, lf, dr, (upd_ne n1).trans h1, (upd_ne n2).trans h2, h3⟩
theorem Feed.np {H : Hp} {p a q : Addr} (h : Feed H p a) (n : H q = none) : p ≠ q ∧ a ≠ q := by
  obtain ⟨ns, sp, lf, dr, h1, h2, h3⟩ := h
  exact ⟨ne_of_none h1 n, ne_of_none h2 n⟩
theorem fk_cells {a : Addr} {sp lf dr : Int} : valV (fkvs a sp lf dr) (.inr "cells") = some (.ref a) := rfl
theorem fk_spot {a : Addr} {sp lf dr : Int} : valV (fkvs a sp lf dr) (.inr "spot") = some (.int sp) := rfl
theorem fk_left {a : Addr} {sp lf dr : Int} : valV (fkvs a sp lf dr) (.inr "left") = some (.int lf) := rfl
theorem fk_drawn {a : Addr} {sp lf dr : Int} : valV (fkvs a sp lf dr) (.inr "drawn") = some (.int dr) := rfl
theorem fp_spot {a : Addr} {sp lf dr x : Int} : putK (fkvs a sp lf dr) (.inr "spot") (.int x) = fkvs a x lf dr := rfl
theorem fp_left {a : Addr} {sp lf dr x : Int} : putK (fkvs a sp lf dr) (.inr "left") (.int x) = fkvs a sp x dr := rfl
theorem fp_drawn {a : Addr} {sp lf dr x : Int} : putK (fkvs a sp lf dr) (.inr "drawn") (.int x) = fkvs a sp lf x := rfl
theorem f_get {H : Hp} {p a : Addr} {sp lf dr : Int} {k : Str} {v : V} (h : H p = some (.dK (fkvs a sp lf dr))) (e : valV (fkvs a sp lf dr) (.inr k) = some v) : DGet H p (.str k) (some v) := by
  have z := DGet.k (k := (.inr k : Key)) h
  rw [e] at z
  exact z
theorem f_put {H : Hp} {p a : Addr} {sp lf dr : Int} {k : Str} {v : V} {k2 : List (Key × V)} (h : H p = some (.dK (fkvs a sp lf dr))) (e : putK (fkvs a sp lf dr) (.inr k) v = k2) : DPut H p (.str k) v (upd H p (.dK k2)) := by
  have z := DPut.k (k := (.inr k : Key)) (v := v) h (by show 4 < sizeLine; decide)
  rw [e] at z
  exact z
theorem SameX.refl (p : Addr) (H : Hp) : SameX p H H := fun _ _ _ e => e
theorem SameX.up {p : Addr} {H H' : Hp} {o : HO} (s : SameX p H H') : SameX p H (upd H' p o) := fun b u ne e => by
  rw [upd_ne ne]
  exact s b u ne e
theorem SameX.trans {p : Addr} {H H1 H2 : Hp} (a : SameX p H H1) (b : SameX p H1 H2) : SameX p H H2 := fun x u ne e => b x u ne (a x u ne e)
theorem SameX.mutN {p q : Addr} {H H' : Hp} {o : HO} (s : SameX p H H') (n : H q = none) : SameX p H (upd H' q o) := fun b u ne e => by
  rw [upd_ne (ne_of_none e n)]
  exact s b u ne e
theorem SameX.free {p q : Addr} {H H' : Hp} (s : SameX p H H') (ne : q ≠ p) (n : H' q = none) : H q = none := by
  cases e : H q with
  | none => rfl
  | some o =>
    have := s q o ne e
    rw [n] at this
    cases this
theorem SameX.of {p : Addr} {H H' : Hp} (s : Same H H') : SameX p H H' := fun b u _ e => s b u e
theorem mulM {x M y : Int} (h0 : 0 < M) (h1 : M < 2 ^ 64) : CMul (x.fmod M) y := by
  have a := Int.fmod_nonneg_of_pos x h0
  have b := Int.fmod_lt_of_pos x h0
  exact .inl ⟨by omega, by omega⟩
theorem can_ints (ns : List Int) : PyData.canLayAll0 (ns.map .int) = true := by
  induction ns with
  | nil => rfl
  | cons m ms ih =>
    rw [List.map_cons]
    unfold PyData.canLayAll0
    rw [ih]
    rfl
theorem depth_ints (ns : List Int) : PyData.depthAll (ns.map .int) ≤ 2 := by
  induction ns with
  | nil => decide
  | cons m ms ih =>
    rw [List.map_cons]
    have : (PyData.int m).depth ≤ 1 := by simp [PyData.depth]
    unfold PyData.depthAll
    omega
theorem shaped_ints (ns : List Int) : PySem.SeqAt.shaped (.list (ns.map .int)) = true := by
  unfold PySem.SeqAt.shaped
  have h := can_ints ns
  have e : (PyData.list (ns.map .int)).canLay0 = true := by simpa [PyData.canLay0] using h
  rw [e, Bool.true_and]
  refine decide_eq_true ?_
  have := depth_ints ns
  unfold PyData.depth
  omega
section
variable {P : Program} {w : World} {K : PySem.W.Frag} {mg : Str → Option Value} {base : Heap}
def sp__law_draw : Sp := fun vs H Q _ => ∃ (p a : Addr) (n : Int), vs = [.ref p, .int n] ∧ Feed H p a ∧ 0 < n ∧ n < 1000 ∧ ∀ r H', SameX p H H' → Feed H' p a → 0 ≤ r → r < n → Q (.int r) H'
theorem ok__law_draw (Tx : Txt mg) (hf : Has K mg "_law_draw" s__law_draw) : OkF P w K mg base "_law_draw" ["_law_feed_here", "_law_many"] 1 sp__law_draw := by
  refine Has.ok hf sc__law_draw (fun _ _ _ _ _ _ us hl => match us, hl with | [_, _], _ => rfl) (fun vs H Q E h => ?_) (fun f cdv A outer sh H vs Q E hr h => ?_)
  · obtain ⟨p, a, n, rfl, _⟩ := h
    rfl
  · obtain ⟨p, a, n, rfl, ⟨ns, sp, lf, dr, hp, ha, hz⟩, hn, hn2, q⟩ := h
    have hu := hu_of hr
    have hu64 : (A.deeper (envOfC "_law_draw" (defScope s__law_draw) sh.heap.objs.size f cdv)).units + 64 < cLine := by
      have := hr.un
      omega
    have hap : a ≠ p := ne_of ha hp fun z => nomatch z
    refine ⟨_, (pss_cons (ps_dput hu (pv 0) pe_str (pe_op op_add (pe_dget hu (pv 0) pe_str (fun _ _ => rfl)) pe_int) rfl)
  (pss_cons (ps_if (pt_cmpR op_gt (pe_dget hu (pv 0) pe_str (fun _ _ => rfl)) pe_int (nomark _)) (pss_cons (ps_set (i := 2) sc__law_draw.nd rfl (.inl rfl) (pe_op op_modN (pe_callTy call_int1 (by rfl) Tx.b_int bb_int (pa_cons (pe_dget hu (pv 0) pe_str (fun _ _ => rfl)) pa_nil)) (pv 1)))
  (pss_cons (ps_dput hu (pv 0) pe_str (pe_op op_fdivN (pe_dget hu (pv 0) pe_str (fun _ _ => rfl)) (pv 1)) rfl)
  (pss_one (ps_ret (pv 2))))) pss_nil)
  (pss_cons (ps_par (i := 3) (j := 4) (by rfl) sc__law_draw.nd rfl rfl (by decide) rfl rfl (pa_cons (pe_dget hu (pv 0) pe_str (fun _ _ => rfl)) (pa_cons (pe_dget hu (pv 0) pe_str (fun _ _ => rfl)) pa_nil)) (by rfl))
  (pss_cons (ps_dput hu (pv 0) pe_str (pe_op op_add (pv 4) pe_int) rfl)
  (pss_cons (ps_set (i := 5) sc__law_draw.nd rfl (.inl rfl) (pe_ifExp (pt_cmpR (op_neD hu64) (pv 3) (pe_lst pa_nil) (nomark _)) (pe_ix (show IxR _ (rIxL K) from ix_list) (pv 3) (pe_op op_modN (pe_callTy call_int1 (by rfl) Tx.b_int bb_int (pa_cons (pv 4) pa_nil)) (pe_callB call_len_seq (by rfl) Tx.b_len PySem.boot_len (pa_cons (pv 3) pa_nil))) (fun _ _ => rfl)) pe_int))
  (pss_cons (ps_if (PW.pt (pw_and (pt_cmpR op_ge (pv 5) (pe_op op_pow pe_int pe_int) (nomark _)) (pw_and1 (pt_cmpR op_lt (pv 4) (pe_callB call_len_seq (by rfl) Tx.b_len PySem.boot_len (pa_cons (pv 3) pa_nil)) (nomark _))))) (pss_cons (ps_dput hu (pv 0) pe_str (pe_op op_fdivN (pv 5) (pv 1)) rfl)
  (pss_one (ps_ret (pe_op op_modN (pe_callTy call_int1 (by rfl) Tx.b_int bb_int (pa_cons (pv 5) pa_nil)) (pv 1))))) pss_nil)
  (pss_cons (ps_set (i := 6) sc__law_draw.nd rfl (.inl rfl) (pe_op op_modN (pe_callTy call_int1 (by rfl) Tx.b_int bb_int (pa_cons (pe_op op_add (pe_op op_add (pe_op op_modN (pe_callTy call_int1 (by rfl) Tx.b_int bb_int (pa_cons (pv 5) pa_nil)) pe_int) (pe_op op_mul pe_int (pe_dget hu (pv 0) pe_str (fun _ _ => rfl)))) pe_int) pa_nil)) pe_int))
  (pss_cons (ps_set (i := 6) sc__law_draw.nd rfl (.inl rfl) (pe_op op_modN (pe_callTy call_int1 (by rfl) Tx.b_int bb_int (pa_cons (pe_op op_add (pe_op op_add (pe_op op_mul (pv 6) (pv 6)) (pe_op op_mul pe_int (pe_dget hu (pv 0) pe_str (fun _ _ => rfl)))) pe_int) pa_nil)) pe_int))
  (pss_one (ps_ret (pe_op op_modN (pe_callTy call_int1 (by rfl) Tx.b_int bb_int (pa_cons (pe_op op_fdivN (pe_op op_modN (pe_callTy call_int1 (by rfl) Tx.b_int bb_int (pa_cons (pe_op op_add (pe_op op_mul (pv 6) (pv 6)) (pe_op op_mul pe_int (pv 6))) pa_nil)) pe_int) pe_int) pa_nil)) (pv 1)))))))))))), ?_⟩
    refine ⟨_, rfl, p, _, rfl, f_get hp fk_drawn, _, _, rfl, rfl, ?_⟩
    refine ⟨_, rfl, p, _, rfl, f_put hp fp_drawn, ?_⟩
    have sx1 : SameX p H (upd H p (.dK (fkvs a sp lf (dr + 1)))) := (SameX.refl p H).up
    have hp1 : upd H p (.dK (fkvs a sp lf (dr + 1))) p = some (.dK (fkvs a sp lf (dr + 1))) := upd_same
    have ha1 := sx1 _ _ hap ha
    generalize upd H p (.dK (fkvs a sp lf (dr + 1))) = H1 at sx1 hp1 ha1
    have fin : ∀ (x : Int) (H' : Hp), SameX p H1 H' → (∃ sp lf dr, H' p = some (.dK (fkvs a sp lf dr))) → Q (.int (x.fmod n)) H' := fun x H' sx ⟨s1, l1, d1, h1⟩ =>
      q _ H' (sx1.trans sx) ⟨ns, s1, l1, d1, h1, sx _ _ hap ha1, hz⟩ (Int.fmod_nonneg_of_pos x hn) (Int.fmod_lt_of_pos x hn)
    refine ⟨_, rfl, p, _, rfl, f_get hp1 fk_left, _, _, rfl, rfl, _, rfl, ?_⟩
    by_cases hl : 0 < lf
    · refine iteP (decide_eq_true hl) ?_
      refine ⟨_, rfl, p, _, rfl, f_get hp1 fk_left, .inl ⟨_, rfl, _, rfl, _, _, rfl, rfl, (by omega), ?_⟩⟩
      refine ⟨_, rfl, p, _, rfl, f_get hp1 fk_left, _, rfl, _, _, rfl, rfl, ⟨by omega, by omega⟩, ?_⟩
      refine ⟨_, rfl, p, _, rfl, f_put hp1 fp_left, ?_⟩
      exact ⟨_, rfl, fin _ _ (SameX.refl p H1).up ⟨_, _, _, upd_same⟩⟩
    · refine iteN (decide_eq_false hl) ?_
      refine ⟨_, rfl, p, _, rfl, f_get hp1 fk_cells, _, rfl, p, _, rfl, f_get hp1 fk_spot, _, _, rfl, ?_⟩
      refine ⟨_, rfl, _, _, rfl, rfl, ?_⟩
      refine ⟨_, rfl, p, _, rfl, f_put hp1 fp_spot, ?_⟩
      have sx2 : SameX p H1 (upd H1 p (.dK (fkvs a (sp + 1) lf (dr + 1)))) := (SameX.refl p H1).up
      have hp2 : upd H1 p (.dK (fkvs a (sp + 1) lf (dr + 1))) p = some (.dK (fkvs a (sp + 1) lf (dr + 1))) := upd_same
      have ha2 := sx2 _ _ hap ha1
      generalize upd H1 p (.dK (fkvs a (sp + 1) lf (dr + 1))) = H2 at sx2 hp2 ha2
      refine ⟨_, rfl, Nat.zero_le _, fun l nl => ?_⟩
      have lp : l ≠ p := fun z => by
        rw [z, hp2] at nl
        cases nl
      have la : l ≠ a := fun z => by
        rw [z, ha2] at nl
        cases nl
      have sx3 : Same H2 (upd H2 l (.lst [])) := Same.new nl
      have el : upd H2 l (.lst []) l = some (.lst []) := upd_same
      have hp3 := sx3 _ _ hp2
      have ha3 := sx3 _ _ ha2
      have s13 := sx2.trans (SameX.of sx3)
      generalize upd H2 l (.lst []) = H3 at sx3 el hp3 ha3 s13
      refine ⟨.list (ns.map .int), .list [], .lst (.inl (.inl ha3)) (ImA.ofInts ns).dp, .lst (.inl (.inl el)) .nil, shaped_ints ns, rfl, _, rfl, ?_⟩
      by_cases h0 : ns = []
      case' pos =>
        have e : (!PyData.eqv (.list (ns.map .int)) (.list [])) = false := by
          rw [h0]
          rfl
        rw [e]
        refine iteF ?_
        generalize hone : (90272 : Int) = one
      case' neg =>
        have hpos : 0 < ns.length := List.length_pos_iff.mpr h0
        have e : (!PyData.eqv (.list (ns.map .int)) (.list [])) = true := by
          cases ns with
          | nil => exact absurd rfl h0
          | cons n1 ns => rfl
        rw [e]
        refine iteT ?_
        have hlen : ((ns.map V.int).length : Int) = (ns.length : Int) := by rw [List.length_map]
        refine ⟨_, rfl, _, rfl, .inl ⟨_, rfl, _, rfl, a, _, rfl, .inl (.inl (.inl ha3)), _, _, rfl, rfl, by rw [hlen]; omega, ?_⟩⟩
        have g0 := Int.fmod_nonneg_of_pos sp (b := ((ns.map V.int).length : Int)) (by rw [hlen]; omega)
        have g1 := Int.fmod_lt_of_pos sp (b := ((ns.map V.int).length : Int)) (by rw [hlen]; omega)
        obtain ⟨k, hk⟩ : ∃ k : Nat, sp.fmod ((ns.map V.int).length : Int) = (k : Int) := ⟨_, (Int.toNat_of_nonneg g0).symm⟩
        have hkl : k < (ns.map V.int).length := by omega
        refine ⟨a, ns.map .int, _, .int (ns[k]'(by rw [List.length_map] at hkl; exact hkl)), rfl, rfl, .inl (.inl ha3), ?_, ?_⟩
        · rw [hk, atI_nat _ _ hkl, List.getElem?_map, List.getElem?_eq_getElem (by rw [List.length_map] at hkl; exact hkl)]
          rfl
        generalize ns[k]'(by rw [List.length_map] at hkl; exact hkl) = one
      all_goals
        refine ⟨_, rfl, _, _, rfl, rfl, ⟨by decide, by decide, by decide⟩, _, _, rfl, rfl, _, rfl, ?_⟩
        generalize decide ((10 : Int) ^ (18 : Int).toNat ≤ one) = b1
        cases b1
        case' true =>
          refine iteT ⟨_, rfl, _, rfl, a, _, rfl, .inl (.inl (.inl ha3)), _, _, rfl, rfl, _, rfl, ?_⟩
          generalize decide (sp < ((ns.map V.int).length : Int)) = b2
          cases b2
          case true =>
            refine iteT ?_
            refine ⟨_, rfl, _, rfl, _, _, rfl, rfl, ⟨by omega, by omega⟩, ?_⟩
            refine ⟨_, rfl, p, _, rfl, f_put hp3 fp_left, ?_⟩
            exact ⟨_, rfl, .inl ⟨_, rfl, _, rfl, _, _, rfl, rfl, (by omega), fin _ _ s13.up ⟨_, _, _, upd_same⟩⟩⟩
          refine iteF ?_
        case' false =>
          refine iteF (iteF ?_)
        all_goals
          refine ⟨_, rfl, .inl ⟨_, rfl, _, _, rfl, rfl, (by show (1000007257 : Int) ≠ 0; decide), _, rfl, p, _, rfl, f_get hp3 fk_drawn, _, _, rfl, rfl, .inl ⟨by decide, by decide⟩, _, _, rfl, rfl, _, _, rfl, rfl, .inl ⟨_, rfl, _, _, rfl, rfl, (by show (2147459269 : Int) ≠ 0; decide), ?_⟩⟩⟩
          refine ⟨_, rfl, _, rfl, _, _, rfl, rfl, mulM (M := 2147459269) (by decide) (by decide), _, rfl, p, _, rfl, f_get hp3 fk_drawn, _, _, rfl, rfl, .inl ⟨by decide, by decide⟩, _, _, rfl, rfl, _, _, rfl, rfl, .inl ⟨_, rfl, _, _, rfl, rfl, (by show (2147459267 : Int) ≠ 0; decide), ?_⟩⟩
          exact ⟨_, rfl, _, rfl, _, _, rfl, rfl, mulM (M := 2147459267) (by decide) (by decide), _, rfl, _, _, rfl, rfl, .inl ⟨by decide, by decide⟩, _, _, rfl, rfl, .inl ⟨_, rfl, _, _, rfl, rfl, (by show (2147459263 : Int) ≠ 0; decide), _, _, rfl, rfl, ⟨by decide, by decide⟩, .inl ⟨_, rfl, _, rfl, _, _, rfl, rfl, by omega, fin _ _ s13 ⟨_, _, _, hp3⟩⟩⟩⟩
end
end RW
end
section
set_option linter.all false
set_option maxRecDepth 100000
set_option autoImplicit false
set_option maxHeartbeats 1000000
/-! _law_feed, _law_any, _law_names. -/
namespace RW
open PySem PySem.Spec PyProof.Rows L2
abbrev s__law_names : Stmt := topS 77
abbrev N__law_names : List Str := ["_law_feed_here", "_law_many", "_law_pools", "_law_pool", "_law_found", "_law_lap"]
theorem sc__law_names : FnScope N__law_names ["_law_feed_here", "_law_many"] (defScope s__law_names) := ⟨rfl, rfl, rfl, by decide +kernel, rfl, by decide +kernel, by decide +kernel⟩

section
variable {X : Cx}
abbrev sign (c : Nat) : Str := ⟨#[c]⟩
theorem call_listStr (hc : X.calm = true) : CallR X (.type "list") (fun xs H Q => ∃ z : Str, xs = [.str z] ∧ z.cps.size ≤ 1000 ∧ ∀ l, H l = none → Q (.ref l) (upd H l (.lst ((z.cps.toList.map sign).map .str)))) := by
  intro pins s σ H xs us Q I r h
  obtain ⟨z, rfl, hz, q⟩ := h
  obtain ⟨u, rfl, t, rfl⟩ := vals1 r
  have hz2 : z.cps.size ≤ sizeLine := Nat.le_of_lt (small1000 hz)
  refine call_list_str (hn := hz2) (I.ok.hd hc) z t fun h' tk acc c' k e it => ?_
  have hn : H s.heap.objs.size = none := I.hok.fresh (Nat.le_refl _)
  obtain ⟨l⟩ := acc
  refine ⟨.ref s.heap.objs.size, _, I.laid (t' := tk) (o := .lst ((z.cps.toList.map sign).map .str)) k (Nat.le_refl _) ⟨by simpa using hz2, l, c', vals_of_at ?_ fun j x u h1 h2 => ?_, e⟩, rfl, q _ hn⟩
  · have := it.1
    simp at this ⊢
    exact this.symm
  · obtain ⟨cc, tt, e1, rfl⟩ := it.2 j u (by simpa using h2)
    rw [List.map_map, List.getElem?_map, Array.getElem?_toList, e1] at h1
    cases h1
    exact ⟨tt, rfl⟩
end
section
variable {P : Program} {w : World} {K : PySem.W.Frag} {mg : Str → Option Value} {base : Heap}
def sp__law_feed : Sp := fun vs H Q _ => ∃ (a : Addr) (ns : List Int), vs = [.ref a] ∧ SqL K H a (ns.map .int) ∧ ns.length ≤ 63 ∧ ∀ p a H', Same H H' → H p = none → H a = none → Feed H' p a → Q (.ref p) H'
theorem ok__law_feed (Tx : Txt mg) (hf : Has K mg "_law_feed" s__law_feed) : OkF P w K mg base "_law_feed" ["_law_script"] 1 (sp__law_feed (K := K)) := by
  refine Has.ok hf sc__law_feed (fun _ _ _ _ _ _ us hl => match us, hl with | [_], _ => rfl) (fun vs H Q E h => ?_) (fun f cdv A outer sh H vs Q E hr h => ?_)
  · obtain ⟨a, ns, rfl, _⟩ := h
    rfl
  · obtain ⟨a, ns, rfl, ha, hz, q⟩ := h
    refine ⟨_, (pss_one (ps_ret (pe_disp (pps_cons pe_str (pe_lc (own := [("_law_one", 1)]) (g := (gName 1)) (tt := tYes) rfl sc__law_feed.nd (pi_list (pe_slice sl_list (pv 0) po_none (po_some pe_int))) (blkOk_by (own := [("_law_one", 1)]) (N := N__law_feed) (sc := defScope s__law_feed) (by decide +kernel)) (fun _ _ _ _ _ => (pg_name (i := 1) sc__law_feed.nd rfl (.inl rfl))) (fun _ _ _ _ _ => pts_nil) (fun _ _ _ _ _ => (pe_callTy call_int1 (by rfl) Tx.b_int bb_int (pa_cons (pv 1) pa_nil)))) (pps_cons pe_str pe_int (pps_cons pe_str pe_int (pps_cons pe_str pe_int pps_nil)))) (by rfl) (by rfl) (fun z => by cases z) (by decide)))), ?_⟩
    intro p np
    have s0 : Same H (upd H p (.dK [])) := Same.new np
    have e0 : upd H p (.dK []) p = some (.dK []) := upd_same
    generalize upd H p (.dK []) = H0 at s0 e0
    refine ⟨_, rfl, _, rfl, a, _, rfl, s0.seq ha, fun l nl => ?_⟩
    have ec : cutV (ns.map V.int) none (some 63) = (ns.take (HT.sIx (ns.map V.int).length (ns.map V.int).length (some 63))).map .int := by
      unfold cutV
      rw [HT.sIx_none, List.drop_zero, Nat.sub_zero, List.map_take]
    rw [ec]
    have hz2 : (ns.take (HT.sIx (ns.map V.int).length (ns.map V.int).length (some 63))).length ≤ 63 := by
      rw [List.length_take]
      omega
    generalize ns.take (HT.sIx (ns.map V.int).length (ns.map V.int).length (some 63)) = ms at hz2
    have s1 : Same H0 (upd H0 l (.lst (ms.map .int))) := Same.new nl
    have el : upd H0 l (.lst (ms.map .int)) l = some (.lst (ms.map .int)) := upd_same
    generalize upd H0 l (.lst (ms.map .int)) = H1 at s1 el
    refine lcL (ds := ms) (enc := PyData.int) el (ImA.ofInts ms) (by omega) (fun _ => true) PyData.int ?_ ?_
    · intro i x H2 Qt Qf _ s2 ix ht _
      rw [ix.iinv]
      exact ⟨rfl, _, rfl, .inl ⟨_, rfl, ht rfl _ _ (Same.refl _) (.int i)⟩⟩
    · intro D H2 acc nD s2 e2 i2
      rw [filter_true] at i2
      have := i2.ints
      subst this
      have s02 := s1.trans s2
      have ep := s02 _ _ e0
      refine ⟨ep, fkvs D 0 0 0, rfl, by show 4 ≤ 15; decide, ?_⟩
      have nDp : D ≠ p := fun z => by
        rw [z, s1 _ _ e0] at nD
        cases nD
      refine q p D _ (Same.mut (s0.trans s02) np) np ((s0.trans s1).free nD) ⟨ms, 0, 0, 0, upd_same, (upd_ne nDp).trans e2, hz2⟩
def sp__law_any : Sp := fun vs H Q _ => ∃ (p a l : Addr) (xs : List V), vs = [.ref p, .ref l] ∧ Feed H p a ∧ H l = some (.lst xs) ∧ xs ≠ [] ∧ xs.length < 1000 ∧ ∀ v H', SameX p H H' → Feed H' p a → v ∈ xs → Q v H'
theorem ok__law_any (Tx : Txt mg) (F__law_draw : OkF P w K mg base "_law_draw" ["_law_feed_here", "_law_many"] 1 sp__law_draw) (hf : Has K mg "_law_any" s__law_any) : OkF P w K mg base "_law_any" ["_law_feed_here", "_law_some"] 2 sp__law_any := by
  refine Has.ok hf sc__law_any (fun _ _ _ _ _ _ us hl => match us, hl with | [_, _], _ => rfl) (fun vs H Q E h => ?_) (fun f cdv A outer sh H vs Q E hr h => ?_)
  · obtain ⟨p, a, l, xs, rfl, _⟩ := h
    rfl
  · obtain ⟨p, a, l, xs, rfl, fd, el, hne, hz, q⟩ := h
    have hpos : 0 < xs.length := List.length_pos_iff.mpr hne
    have lp : l ≠ p := by
      obtain ⟨_, _, _, _, hp, _⟩ := fd
      exact ne_of el hp fun z => nomatch z
    refine ⟨_, (pss_one (ps_ret (pe_ix (show IxR _ (rIxL K) from ix_list) (pv 1) (pe_c F__law_draw (hr.mono (by decide)) (pa_cons (pv 0) (pa_cons (pe_callB call_len_seq (by rfl) Tx.b_len PySem.boot_len (pa_cons (pv 1) pa_nil)) pa_nil))) (fun _ _ => rfl)))), ?_⟩
    refine ⟨_, rfl, _, rfl, _, rfl, l, xs, rfl, .inl (.inl (.inl el)), p, a, _, rfl, fd, by omega, by omega, fun r H1 sx fd1 h0 h1 => ?_⟩
    obtain ⟨k, hk⟩ : ∃ k : Nat, r = (k : Int) := ⟨_, (Int.toNat_of_nonneg h0).symm⟩
    subst hk
    have hkl : k < xs.length := by omega
    refine ⟨l, xs, _, xs[k], rfl, rfl, .inl (.inl (sx _ _ lp el)), ?_, q _ H1 sx fd1 (List.getElem_mem hkl)⟩
    rw [atI_nat _ _ hkl, List.getElem?_eq_getElem hkl]
/-- the pools -/
def pool0 : List Str := ("abcdefghijkl" : Str).cps.toList.map sign
def pool1 : List Str := ["go", "out", "in", "ask", "done", "room", "folder", "ring", "order", "end", "lot", "aside"]
def pool2 : List Str := ["a", "aa", "aaa", "ab", "b", "ba", "zzzzzzzz", "zzzzzzzy", "z", "zz", "abcdefgh", "y"]
/-- twelve names -/
def PoolOk (L : List Str) : Prop := L.length = 12 ∧ L.Nodup ∧ ∀ x, x ∈ L → NameOk x
instance (x : Str) : Decidable (NameOk x) := by unfold NameOk; infer_instance
theorem pool_ok : PoolOk pool0 ∧ PoolOk pool1 ∧ PoolOk pool2 := by
  refine ⟨⟨?_, ?_, ?_⟩, ⟨?_, ?_, ?_⟩, ⟨?_, ?_, ?_⟩⟩ <;> decide +kernel
theorem map_erIdx {α β : Type} (f : α → β) : ∀ (l : List α) (k : Nat), (l.map f).eraseIdx k = (l.eraseIdx k).map f
  | [], _ => rfl
  | _ :: _, 0 => rfl
  | a :: l, k + 1 => by
    show f a :: (l.map f).eraseIdx k = _
    rw [map_erIdx f l k]
    rfl
theorem perm_erIdx {α : Type} : ∀ (l : List α) (k : Nat) (h : k < l.length), (l[k] :: l.eraseIdx k).Perm l
  | [], _, h => absurd h (Nat.not_lt_zero _)
  | a :: l, 0, _ => .refl _
  | a :: l, k + 1, h => (List.Perm.swap a (l[k]'(Nat.lt_of_succ_lt_succ h)) (l.eraseIdx k)).trans ((perm_erIdx l k (Nat.lt_of_succ_lt_succ h)).cons a)
def sp__law_names : Sp := fun vs H Q _ => ∃ (p a : Addr) (n : Int), vs = [.ref p, .int n] ∧ Feed H p a ∧ 0 ≤ n ∧ n ≤ 12 ∧ ∀ l H' (ns : List Str), SameX p H H' → H l = none → Feed H' p a → H' l = some (.lst (ns.map .str)) → (ns.length : Int) = n → ns.Nodup → (∀ x, x ∈ ns → NameOk x) → Q (.ref l) H'
theorem ok__law_names (Tx : Txt mg) (F__law_any : OkF P w K mg base "_law_any" ["_law_feed_here", "_law_some"] 2 sp__law_any) (F__law_draw : OkF P w K mg base "_law_draw" ["_law_feed_here", "_law_many"] 1 sp__law_draw) (hf : Has K mg "_law_names" s__law_names) :
    OkF P w K mg base "_law_names" ["_law_feed_here", "_law_many"] 3 sp__law_names := by
  refine Has.ok hf sc__law_names (fun _ _ _ _ _ _ us hl => match us, hl with | [_, _], _ => rfl) (fun vs H Q E h => ?_) (fun f cdv A outer sh H vs Q E hr h => ?_)
  · obtain ⟨p, a, n, rfl, _⟩ := h
    rfl
  · obtain ⟨p, a, n, rfl, fd, hn0, hn1, q⟩ := h
    refine ⟨_, (pss_cons (ps_set (i := 2) sc__law_names.nd rfl (.inl rfl) (pe_lst (pa_cons (pe_callTy (call_listStr rfl) (by rfl) Tx.b_list bb_list (pa_cons pe_str pa_nil)) pa_nil)))
  (pss_cons (ps_expr (pe_bm PySem.F.plainAttrs_list PySem.F.slot_list_append PySem.F.type_list_append mt_append (pv 2) (pa_cons (pe_lst (pa_cons pe_str (pa_cons pe_str (pa_cons pe_str (pa_cons pe_str (pa_cons pe_str (pa_cons pe_str (pa_cons pe_str (pa_cons pe_str (pa_cons pe_str (pa_cons pe_str (pa_cons pe_str (pa_cons pe_str pa_nil))))))))))))) pa_nil)))
  (pss_cons (ps_expr (pe_bm PySem.F.plainAttrs_list PySem.F.slot_list_append PySem.F.type_list_append mt_append (pv 2) (pa_cons (pe_lst (pa_cons pe_str (pa_cons pe_str (pa_cons pe_str (pa_cons pe_str (pa_cons pe_str (pa_cons pe_str (pa_cons pe_str (pa_cons pe_str (pa_cons pe_str (pa_cons pe_str (pa_cons pe_str (pa_cons pe_str pa_nil))))))))))))) pa_nil)))
  (pss_cons (ps_par (i := 3) (j := 4) (by rfl) sc__law_names.nd rfl rfl (by decide) rfl rfl (pa_cons (pe_callTy call_list_of (by rfl) Tx.b_list bb_list (pa_cons (pe_c F__law_any (hr.mono (by decide)) (pa_cons (pv 0) (pa_cons (pv 2) pa_nil))) pa_nil)) (pa_cons (pe_lst pa_nil) pa_nil)) (by rfl))
  (pss_cons (ps_for PassesOwn.never rfl (pi_range1 rfl Tx.b_range (pa_cons (pv 1) pa_nil)) (pg_name (i := 5) sc__law_names.nd rfl (.inl rfl)) (pss_one (ps_expr (pe_bm PySem.F.plainAttrs_list PySem.F.slot_list_append PySem.F.type_list_append mt_append (pv 4) (pa_cons (pe_bm PySem.F.plainAttrs_list PySem.F.slot_list_pop PySem.F.type_list_pop mt_popAt (pv 3) (pa_cons (pe_c F__law_draw (hr.mono (by decide)) (pa_cons (pv 0) (pa_cons (pe_callB call_len_seq (by rfl) Tx.b_len PySem.boot_len (pa_cons (pv 3) pa_nil)) pa_nil))) pa_nil)) pa_nil)))))
  (pss_one (ps_ret (pv 4)))))))), ?_⟩
    refine ⟨_, rfl, by decide, fun l0 n0 => ?_⟩
    have s0 : Same H (upd H l0 (.lst (pool0.map .str))) := Same.new n0
    have e0 : upd H l0 (.lst (pool0.map .str)) l0 = some (.lst (pool0.map .str)) := upd_same
    show _ ∧ _
    generalize hX : upd H l0 (.lst ((("abcdefghijkl" : Str).cps.toList.map sign).map .str)) = H0
    replace hX : upd H l0 (.lst (pool0.map .str)) = H0 := hX
    rw [hX] at s0 e0
    clear hX
    refine ⟨by show 1 ≤ sizeLine; decide, fun lp np => ?_⟩
    have s1 : Same H0 (upd H0 lp (.lst [.ref l0])) := Same.new np
    have ep : upd H0 lp (.lst [.ref l0]) lp = some (.lst [.ref l0]) := upd_same
    generalize upd H0 lp (.lst [.ref l0]) = H1 at s1 ep
    have npH : H lp = none := s0.free np
    refine ⟨_, rfl, .inl ⟨rfl, _, .inl (.inl ep)⟩, by show 12 ≤ sizeLine; decide, fun l1 n1 => ?_⟩
    have s2 : Same H1 (upd H1 l1 (.lst (pool1.map .str))) := Same.new n1
    have e1 : upd H1 l1 (.lst (pool1.map .str)) l1 = some (.lst (pool1.map .str)) := upd_same
    have ep2 := s2 _ _ ep
    have e02 := s2 _ _ (s1 _ _ e0)
    have n1H : H l1 = none := s0.free (s1.free n1)
    have l0p : l0 ≠ lp := ne_of_none e0 np
    have pl1 : lp ≠ l1 := ne_of_none ep n1
    refine ⟨lp, [.ref l0], .ref l1, rfl, rfl, ep2, by show 1 < sizeLine; decide, ?_⟩
    have s3 : Same H (upd (upd H1 l1 (.lst (pool1.map .str))) lp (.lst [.ref l0, .ref l1])) := Same.mut ((s0.trans s1).trans s2) npH
    have e03 : upd (upd H1 l1 (.lst (pool1.map .str))) lp (.lst [.ref l0, .ref l1]) l0 = some (.lst (pool0.map .str)) := (upd_ne l0p).trans e02
    have e13 : upd (upd H1 l1 (.lst (pool1.map .str))) lp (.lst [.ref l0, .ref l1]) l1 = some (.lst (pool1.map .str)) := (upd_ne pl1.symm).trans e1
    have ep3 : upd (upd H1 l1 (.lst (pool1.map .str))) lp (.lst [.ref l0, .ref l1]) lp = some (.lst [.ref l0, .ref l1]) := upd_same
    refine ⟨_, rfl, .inl ⟨rfl, _, .inl (.inl ep3)⟩, by show 12 ≤ sizeLine; decide, fun l2 n2 => ?_⟩
    generalize hX3 : upd (upd H1 l1 (.lst (pool1.map .str))) lp (.lst [.ref l0, .ref l1]) = H3 at s3 e03 e13 ep3
    replace n2 : H3 l2 = none := by
      rw [← hX3]
      exact n2
    have s4 : Same H3 (upd H3 l2 (.lst (pool2.map .str))) := Same.new n2
    have e2 : upd H3 l2 (.lst (pool2.map .str)) l2 = some (.lst (pool2.map .str)) := upd_same
    have pl2 : lp ≠ l2 := ne_of_none ep3 n2
    have s5 : Same H (upd (upd H3 l2 (.lst (pool2.map .str))) lp (.lst [.ref l0, .ref l1, .ref l2])) := Same.mut (s3.trans s4) npH
    have e05 : upd (upd H3 l2 (.lst (pool2.map .str))) lp (.lst [.ref l0, .ref l1, .ref l2]) l0 = some (.lst (pool0.map .str)) := (upd_ne l0p).trans (s4 _ _ e03)
    have e15 : upd (upd H3 l2 (.lst (pool2.map .str))) lp (.lst [.ref l0, .ref l1, .ref l2]) l1 = some (.lst (pool1.map .str)) := (upd_ne pl1.symm).trans (s4 _ _ e13)
    have e25 : upd (upd H3 l2 (.lst (pool2.map .str))) lp (.lst [.ref l0, .ref l1, .ref l2]) l2 = some (.lst (pool2.map .str)) := (upd_ne pl2.symm).trans e2
    have ep5 : upd (upd H3 l2 (.lst (pool2.map .str))) lp (.lst [.ref l0, .ref l1, .ref l2]) lp = some (.lst [.ref l0, .ref l1, .ref l2]) := upd_same
    subst hX3
    refine ⟨lp, [.ref l0, .ref l1], .ref l2, rfl, rfl, s4 _ _ ep3, by show 2 < sizeLine; decide, ?_⟩
    refine ⟨_, rfl, _, rfl, p, a, lp, _, rfl, fd.same s5, ep5, (fun z => nomatch z), by show 3 < 1000; decide, fun v H6 sx6 fd6 hv => ?_⟩
    have hl : ∃ (lq : Addr) (L : List Str), v = .ref lq ∧ H6 lq = some (.lst (L.map .str)) ∧ PoolOk L ∧ SameX p H H6 := by
      have np1 : ∀ {x : Addr} {L : List Str} {Hx : Hp}, Hx x = some (.lst (L.map .str)) → Feed Hx p a → x ≠ p := fun e ⟨_, _, _, _, hp, _⟩ => ne_of e hp fun z => nomatch z
      have sx : SameX p H H6 := (SameX.of s5).trans sx6
      rcases List.mem_cons.mp hv with rfl | hv
      · exact ⟨l0, pool0, rfl, sx6 _ _ (np1 e05 (fd.same s5)) e05, pool_ok.1, sx⟩
      rcases List.mem_cons.mp hv with rfl | hv
      · exact ⟨l1, pool1, rfl, sx6 _ _ (np1 e15 (fd.same s5)) e15, pool_ok.2.1, sx⟩
      rw [List.mem_singleton.mp hv]
      exact ⟨l2, pool2, rfl, sx6 _ _ (np1 e25 (fd.same s5)) e25, pool_ok.2.2, sx⟩
    clear s0 e0 s1 ep e1 s2 ep2 e02 s3 e03 e13 ep3 s4 e2 s5 e05 e15 e25 ep5 sx6 hv
    obtain ⟨lq, L, rfl, eq, ⟨hL, nd, nm⟩, sx6⟩ := hl
    have hLl : (L.map V.str).length = 12 := by rw [List.length_map, hL]
    refine ⟨lq, _, rfl, .inl (.inl (.inl eq)), fun lw nw => ?_⟩
    have s7 : Same H6 (upd H6 lw (.lst (L.map .str))) := Same.new nw
    have e7 : upd H6 lw (.lst (L.map .str)) lw = some (.lst (L.map .str)) := upd_same
    have sx7 := sx6.trans (SameX.of s7)
    have fd7 := fd6.same s7
    have wp : lw ≠ p := (fd6.np nw).1.symm
    have wa : lw ≠ a := (fd6.np nw).2.symm
    have nwH : H lw = none := sx6.free wp nw
    generalize upd H6 lw (.lst (L.map .str)) = H7 at e7 sx7 fd7
    clear s7 fd6 nw sx6 eq
    refine ⟨Nat.zero_le _, fun lf nf => ⟨_, _, rfl, ?_⟩⟩
    have s8 : Same H7 (upd H7 lf (.lst [])) := Same.new nf
    have ef : upd H7 lf (.lst []) lf = some (.lst []) := upd_same
    have e8 := s8 _ _ e7
    have sx8 := sx7.trans (SameX.of s8)
    have fd8 := fd7.same s8
    have fp : lf ≠ p := (fd7.np nf).1.symm
    have fa : lf ≠ a := (fd7.np nf).2.symm
    have wf : lw ≠ lf := ne_of_none e7 nf
    have nfH : H lf = none := sx7.free fp nf
    generalize upd H7 lf (.lst []) = H8 at ef e8 sx8 fd8
    clear s8 e7 nf sx7 fd7
    refine ⟨_, rfl, _, rfl, by omega, by omega, for_range (fun i σ H' => ∃ (gs ps : List Str) (z5 : Option V), σ = [some (.ref p), some (.int n), some (.ref lp), some (.ref lw), some (.ref lf), z5] ∧ SameX p H H' ∧ Feed H' p a ∧ H' lw = some (.lst (ps.map .str)) ∧ H' lf = some (.lst (gs.map .str)) ∧ gs.length = i ∧ (gs ++ ps).Perm L)
      ⟨[], L, none, rfl, sx8, fd8, e8, ef, rfl, .refl _⟩ ?_ ?_⟩
    · rintro i σ H' hi ⟨gs, ps, z5, rfl, sx, fdi, ew, ef, hgs, hp⟩
      have hlen := hp.length_eq
      rw [List.length_append, hL] at hlen
      have hpl : (ps.map V.str).length = ps.length := List.length_map _
      have hpos : 0 < ps.length := by omega
      refine ⟨_, rfl, .inl ⟨rfl, _, .inl (.inl ef)⟩, _, rfl, .inl ⟨rfl, _, .inl (.inl ew)⟩, _, rfl, _, rfl, lw, _, rfl, .inl (.inl (.inl ew)), p, a, _, rfl, fdi, by omega, by omega, fun r H9 sx9 fd9 h0 h1 => ?_⟩
      obtain ⟨k, hk⟩ : ∃ k : Nat, r = (k : Int) := ⟨_, (Int.toNat_of_nonneg h0).symm⟩
      subst hk
      have hkl : k < ps.length := by omega
      have ew9 := sx9 _ _ wp ew
      have ef9 := sx9 _ _ fp ef
      refine ⟨lw, _, (k : Int), k, .str ps[k], rfl, rfl, ew9, by omega, by omega, by unfold seqIndex?; simp; omega, by rw [List.getElem?_map, List.getElem?_eq_getElem hkl]; rfl, ?_⟩
      have ef10 := (upd_ne wf.symm (o := HO.lst ((ps.map V.str).eraseIdx k))).trans ef9
      refine ⟨lf, _, _, rfl, rfl, ef10, by rw [List.length_map, sizeLine_eq]; omega, ?_⟩
      refine ⟨gs ++ [ps[k]], ps.eraseIdx k, _, rfl, ((sx.trans sx9).mutN nwH).mutN nfH, (fd9.other wp.symm wa.symm).other fp.symm fa.symm, ?_, ?_, by rw [List.length_append, hgs]; rfl, ?_⟩
      · rw [upd_ne wf, upd_same, map_erIdx]
      · rw [upd_same, List.map_append]
        rfl
      · rw [List.append_assoc]
        refine List.Perm.trans ?_ hp
        refine List.Perm.append_left _ ?_
        exact perm_erIdx ps k hkl
    · rintro σ H' ⟨gs, ps, z5, rfl, sx, fdi, ew, ef, hgs, hp⟩
      have nd2 : (gs ++ ps).Nodup := hp.nodup_iff.mpr nd
      exact ⟨_, rfl, q lf H' gs sx nfH fdi ef (by omega) (List.nodup_append.mp nd2).1 fun x hx => nm x (hp.mem_iff.mp (List.mem_append_left _ hx))⟩
end
end RW
end
section
set_option linter.all false
set_option maxRecDepth 100000
set_option autoImplicit false
set_option maxHeartbeats 1000000
/-! _law_ups. -/
namespace RW
open PySem PySem.Spec PyProof.Rows L2
abbrev s__law_ups : Stmt := topS 78
abbrev N__law_ups : List Str := ["_law_grove", "_law_over", "_law_found", "_law_row", "_law_way", "_law_spot", "_law_lap"]
theorem sc__law_ups : FnScope N__law_ups ["_law_grove"] (defScope s__law_ups) := ⟨rfl, rfl, rfl, by decide +kernel, rfl, by decide +kernel, by decide +kernel⟩

theorem TB.put {H : Hp} {p : Addr} {ks : List Str} {ad : Str → Addr} {c : Str → List Str} (h : TB H p ks ad c) {k : Str} (hk : k ∉ ks) {l : Addr} {w : List Str} (el : H l = some (.lst (w.map .str))) (nl : ∀ j, j ∈ ks → ad j ≠ l) :
    DPut H p (.str k) (.ref l) (upd H p (.dK ((ks ++ [k]).map fun j => ((.inr j : Key), V.ref (if j = k then l else ad j))))) ∨ sizeLine ≤ ks.length := by
  by_cases hz : sizeLine ≤ ks.length
  · exact .inr hz
  refine .inl ?_
  have z := DPut.k (k := (.inr k : Key)) (v := .ref l) h.at_ (by rw [List.length_map]; omega)
  have hv : valV (ks.map fun k => ((.inr k : Key), V.ref (ad k))) (.inr k) = none := by
    rw [val_tb, if_neg hk]
  rw [putK_new _ hv] at z
  have e : (ks ++ [k]).map (fun j => ((.inr j : Key), V.ref (if j = k then l else ad j))) = ks.map (fun k => ((.inr k : Key), V.ref (ad k))) ++ [(.inr k, .ref l)] := by
    rw [List.map_append, List.map_cons, List.map_nil, if_pos rfl]
    refine congrArg (· ++ [_]) (List.map_congr_left fun j hj => ?_)
    have : j ≠ k := fun z => hk (by rw [← z]; exact hj)
    rw [if_neg this]
  rw [e]
  exact z
theorem TB.put' {H : Hp} {p : Addr} {ks : List Str} {ad : Str → Addr} {c : Str → List Str} (h : TB H p ks ad c) {k : Str} (hk : k ∉ ks) {l : Addr} {w : List Str} (el : H l = some (.lst (w.map .str))) (nl : ∀ j, j ∈ ks → ad j ≠ l) :
    TB (upd H p (.dK ((ks ++ [k]).map fun j => ((.inr j : Key), V.ref (if j = k then l else ad j))))) p (ks ++ [k]) (fun j => if j = k then l else ad j) (fun j => if j = k then w else c j) := by
  have lp : l ≠ p := ne_of el h.at_ (fun z => nomatch z)
  have old : ∀ {j}, j ∈ ks ++ [k] → j ≠ k → j ∈ ks := fun {j} hj ne => by
    rcases List.mem_append.mp hj with hj | hj
    · exact hj
    · exact absurd (List.mem_singleton.mp hj) ne
  refine ⟨upd_same, ?_, fun j hj => ?_, fun i j hi hj z => ?_⟩
  · rw [List.nodup_append]
    refine ⟨h.nd, by simp, fun a ha b hb z => ?_⟩
    rw [List.mem_singleton.mp hb] at z
    exact hk (by rw [← z]; exact ha)
  · by_cases e : j = k
    · rw [if_pos e, if_pos e, upd_ne lp]
      exact el
    · rw [if_neg e, if_neg e, upd_ne (h.nep (old hj e))]
      exact h.ls j (old hj e)
  · by_cases e1 : i = k
    · by_cases e2 : j = k
      · rw [e1, e2]
      · rw [if_pos e1, if_neg e2] at z
        exact absurd z.symm (nl j (old hj e2))
    · by_cases e2 : j = k
      · rw [if_neg e1, if_pos e2] at z
        exact absurd z (nl i (old hi e1))
      · rw [if_neg e1, if_neg e2] at z
        exact h.inj i j (old hi e1) (old hj e2) z
theorem TB.congr {H : Hp} {p : Addr} {ks : List Str} {ad : Str → Addr} {c d : Str → List Str} (h : TB H p ks ad c) (e : ∀ k, k ∈ ks → c k = d k) : TB H p ks ad d :=
  ⟨h.at_, h.nd, fun k hk => by rw [← e k hk]; exact h.ls k hk, h.inj⟩
section
variable {K : PySem.W.Frag} {H : Hp} {x : V} {Q : VK}
theorem r_row0 {r : Row} (i : Im H x (dRow r)) (q : Q (.str r.1) H) : rIxT K x (.int 0) H Q := r_ixT (i := 0) i rfl rfl fun y iy => by
  rw [iy.sinv]
  exact q
theorem r_row1 {r : Row} (i : Im H x (dRow r)) (q : Q (.str r.2.1) H) : rIxT K x (.int 1) H Q := r_ixT (i := 1) i rfl rfl fun y iy => by
  rw [iy.sinv]
  exact q
theorem r_row2 {r : Row} (i : Im H x (dRow r)) (q : Q (.int r.2.2) H) : rIxT K x (.int 2) H Q := r_ixT (i := 2) i rfl rfl fun y iy => by
  rw [iy.iinv]
  exact q
theorem r_mv0 {m : Str × Str} (i : Im H x (dMv m)) (q : Q (.str m.1) H) : rIxT K x (.int 0) H Q := r_ixT (i := 0) i rfl rfl fun y iy => by
  rw [iy.sinv]
  exact q
theorem r_mv1 {m : Str × Str} (i : Im H x (dMv m)) (q : Q (.str m.2) H) : rIxT K x (.int 1) H Q := r_ixT (i := 1) i rfl rfl fun y iy => by
  rw [iy.sinv]
  exact q
end
section
variable {P : Program} {w : World} {K : PySem.W.Frag} {mg : Str → Option Value} {base : Heap}
def sp__law_ups : Sp := fun vs H Q _ => ∃ (T : List Row) (v : V), vs = [v] ∧ Im H v (dTree T) ∧ TreeOk T ∧ ∀ p H' ad, Same H H' → H p = none → TB H' p (E' :: names T) ad (ways T) → Q (.ref p) H'
theorem ok__law_ups (Tx : Txt mg) (hf : Has K mg "_law_ups" s__law_ups) : OkF P w K mg base "_law_ups" ["_law_grove"] 1 sp__law_ups := by
  refine Has.ok hf sc__law_ups (fun _ _ _ _ _ _ us hl => match us, hl with | [_], _ => rfl) (fun vs H Q E h => ?_) (fun f cdv A outer sh H vs Q E hr h => ?_)
  · obtain ⟨T, v, rfl, _⟩ := h
    rfl
  · obtain ⟨T, v, rfl, iv, ok, q⟩ := h
    have hu := hu_of hr
    have hz : T.length ≤ 20 := ok.len
    refine ⟨_, (pss_cons (ps_par (i := 1) (j := 2) (by rfl) sc__law_ups.nd rfl rfl (by decide) rfl rfl (pa_cons (pe_callTy (call_dictP rfl) (by rfl) Tx.b_dict bb_dict (pa_cons (pe_lc (own := [("_law_row", 3)]) (g := (gName 3)) (tt := tYes) rfl sc__law_ups.nd (pi_tup (pv 0)) (blkOk_by (own := [("_law_row", 3)]) (N := N__law_ups) (sc := defScope s__law_ups) (by decide +kernel)) (fun _ _ _ _ _ => (pg_name (i := 3) sc__law_ups.nd rfl (.inl rfl))) (fun _ _ _ _ _ => pts_nil) (fun _ _ _ _ _ => (pe_tup (pa_cons (pe_ix (show IxR _ (rIxT K) from ix_tup) (pv 3) pe_int (fun _ _ => rfl)) (pa_cons (pe_ix (show IxR _ (rIxT K) from ix_tup) (pv 3) pe_int (fun _ _ => rfl)) pa_nil))))) pa_nil)) (pa_cons (pe_disp (pps_cons pe_str (pe_lst pa_nil) pps_nil) (by rfl) (by rfl) (fun z => by cases z) (by decide)) pa_nil)) (by rfl))
  (pss_cons (ps_for PassesOwn.never rfl (pi_tup (pv 0)) (pg_name (i := 3) sc__law_ups.nd rfl (.inl rfl)) (pss_cons (ps_par (i := 4) (j := 5) (by rfl) sc__law_ups.nd rfl rfl (by decide) rfl rfl (pa_cons (pe_lst pa_nil) (pa_cons (pe_ix (show IxR _ (rIxT K) from ix_tup) (pv 3) pe_int (fun _ _ => rfl)) pa_nil)) (by rfl))
  (pss_cons (ps_for PassesOwn.never rfl (pi_range1 rfl Tx.b_range (pa_cons (pe_callB call_len_seq (by rfl) Tx.b_len PySem.boot_len (pa_cons (pv 0) pa_nil)) pa_nil)) (pg_name (i := 6) sc__law_ups.nd rfl (.inl rfl)) (pss_one (ps_if (pt_cmpR op_ne (pv 5) pe_str (nomark _)) (pss_cons (ps_expr (pe_bm PySem.F.plainAttrs_list PySem.F.slot_list_append PySem.F.type_list_append mt_append (pv 4) (pa_cons (pv 5) pa_nil)))
  (pss_one (ps_set (i := 5) sc__law_ups.nd rfl (.inl rfl) (pe_dget hu (pv 1) (pv 5) (fun _ _ => rfl))))) pss_nil)))
  (pss_one (ps_dput hu (pv 2) (pe_ix (show IxR _ (rIxT K) from ix_tup) (pv 3) pe_int (fun _ _ => rfl)) (pv 4) rfl)))))
  (pss_one (ps_ret (pv 2))))), ?_⟩
    refine ⟨v, rfl, lcT (ds := T) (enc := dRow) iv (by omega) (fun _ => true) (fun r => .tuple [.str r.1, .str r.2.1]) ?_ ?_⟩
    · intro r x H2 Qt Qf hr2 s2 ix ht _
      refine ⟨rfl, _, rfl, tCi (r_row0 ix ⟨_, rfl, tCi (r_row1 ix (r_tup (.cons (.str r.1) (.cons (.str r.2.1) .nil)) (by show 2 ≤ 1000; decide) fun t nt it => ht rfl _ _ (Same.new nt) it))⟩)⟩
    · intro D H2 acc nD s2 e2 i2
      rw [filter_true] at i2
      refine r_dictP (gd := T.map fun r => (r.1, .str r.2.1)) e2 (by
        rw [List.map_map]
        exact i2) (by
        rw [List.map_map]
        exact ok.nd) fun kvs pu nu du => ?_
      generalize hH4 : upd H2 pu (.dK (mergeK [] kvs)) = H3 at du ⊢
      have s3 : Same H2 H3 := by
        rw [← hH4]
        exact Same.new nu
      clear hH4
      have s03 := s2.trans s3
      have nu0 : H pu = none := s2.free nu
      intro p np
      have np0 : H p = none := s03.free np
      have npu : pu ≠ p := by
        obtain ⟨_, h1, _⟩ := du
        exact ne_of_none h1 np
      refine ⟨Nat.zero_le _, fun l0 nl0 => ?_⟩
      have npl : p ≠ l0 := ne_of_none upd_same nl0
      have nl3 : H3 l0 = none := by
        rw [upd_ne npl.symm] at nl0
        exact nl0
      have nlu : pu ≠ l0 := by
        obtain ⟨_, h1, _⟩ := du
        exact ne_of_none h1 nl3
      refine ⟨(upd_ne npl).trans upd_same, [(.inr E', .ref l0)], rfl, by show 1 ≤ 15; decide, _, _, rfl, ?_⟩
      generalize hA : upd (upd (upd H3 p (.dK [])) l0 (.lst [])) p (.dK (mergeK [] [((.inr E' : Key), V.ref l0)])) = H4
      have s4 : Same H3 H4 := by
        rw [← hA]
        exact Same.mut ((Same.new np).trans (Same.new nl0)) np
      have tb : TB H4 p (E' :: (names T).take 0) (fun _ => l0) (ways T) := by
        rw [← hA]
        refine ⟨upd_same, by simp, fun k hk => ?_, fun i j hi hj _ => ?_⟩
        · rw [List.mem_singleton.mp hk, ok.ways_E, upd_ne npl.symm, upd_same]
          rfl
        · rw [List.mem_singleton.mp hi, List.mem_singleton.mp hj]
      clear hA
      have s04 := s03.trans s4
      have du4 := du.same s4
      refine ⟨v, rfl, forT (ds := T) (enc := dRow) (iv.mono (.same s04)) (fun i σ H' => ∃ (ad : Str → Addr) (y3 y4 y5 y6 : Option V), σ = [some v, some (.ref pu), some (.ref p), y3, y4, y5, y6] ∧ Same H H' ∧ KT H4 H' ∧ DL H' pu (T.map fun r => (r.1, .str r.2.1)) ∧ TB H' p (E' :: (names T).take i) ad (ways T))
        ⟨_, none, none, none, none, rfl, s04, KT.refl _, du4, tb⟩ (fun i σ H' h => by
          obtain ⟨_, _, _, _, _, _, _, k, _⟩ := h
          exact k) ?_ ?_⟩
      · rintro i r x σ H5 e ⟨ad, y3, y4, y5, y6, rfl, sm, kt, d5, tb5⟩ ix
        have hr : r ∈ T := List.mem_of_getElem? e
        have hrn : r.1 ∈ names T := List.mem_map_of_mem hr
        refine ⟨Nat.zero_le _, fun l nl => ?_⟩
        have sl : Same H5 (upd H5 l (.lst [])) := Same.new nl
        have el : upd H5 l (.lst []) l = some (.lst []) := upd_same
        have nlH : H l = none := sm.free nl
        have plu : pu ≠ l := by
          obtain ⟨_, h1, _⟩ := d5
          exact ne_of_none h1 nl
        have plp : p ≠ l := ne_of_none tb5.at_ nl
        have adl : ∀ j, j ∈ E' :: (names T).take i → ad j ≠ l := fun j hj => ne_of_none (tb5.ls j hj) nl
        have tb6 := tb5.same sl
        have d6 := d5.same sl
        have sm6 := sm.trans sl
        have kt6 := kt.trans (.same sl)
        have ix6 := ix.mono (.same sl)
        generalize upd H5 l (.lst []) = H6 at sl el tb6 d6 sm6 kt6 ix6
        refine ⟨_, rfl, tCi (r_row0 ix6 ⟨_, _, rfl, ?_⟩)⟩
        obtain ⟨av, xs, rfl, hT, hA⟩ := id iv.tinv
        have hxl : xs.length = T.length := by rw [hA.len, List.length_map]
        refine ⟨_, rfl, av, xs, rfl, .inr (.inl (hT.sm sm6)), _, rfl, by omega, by omega, ?_⟩
        rw [hxl]
        refine for_range (fun j σ H' => ∃ (ws : List Str) (y : Str) (z6 : Option V), σ = [some (.ref av), some (.ref pu), some (.ref p), some x, some (.ref l), some (.str y), z6] ∧ Same H H' ∧ KT H4 H' ∧ DL H' pu (T.map fun r => (r.1, .str r.2.1)) ∧ TB H' p (E' :: (names T).take i) ad (ways T) ∧
            H' l = some (.lst (ws.map .str)) ∧ ways T r.1 = ws ++ ways T y ∧ (y = E' ∨ y ∈ names T ∧ ws.length = j) ∧ ws.length ≤ j ∧ Im H' x (dRow r)) ⟨[], r.1, y6, rfl, sm6, kt6, d6, tb6, el, rfl, .inr ⟨hrn, rfl⟩, Nat.zero_le _, ix6⟩ ?_ ?_
        · rintro j σ H7 hj ⟨ws, y, z6, rfl, sm7, kt7, d7, tb7, el7, ew, hy, hws, ix7⟩
          refine ⟨_, rfl, rfl, _, rfl, ?_⟩
          rcases hy with rfl | ⟨hy, hwl⟩
          · refine iteN (by rw [decide_eq_true rfl]; rfl) ?_
            exact ⟨ws, E', _, rfl, sm7, kt7, d7, tb7, el7, ew, .inl rfl, Nat.le_succ_of_le hws, ix7⟩
          · have hne : ¬ (V.str y = V.str (Str.ofString "")) := fun z => ok.noE (by rw [show E' = y from (V.str.inj z).symm]; exact hy)
            refine iteP (by rw [decide_eq_false hne]; rfl) ?_
            refine ⟨_, rfl, .inl ⟨rfl, _, .inl (.inl el7)⟩, _, rfl, l, _, _, rfl, rfl, el7, by rw [List.length_map, sizeLine_eq]; omega, ?_⟩
            have k8 : KT H7 (upd H7 l (.lst (ws.map .str ++ [.str y]))) := .lst el7
            have tb8 := tb7.other (o := HO.lst (ws.map .str ++ [.str y])) plp adl
            have d8 := d7.other plu k8
            have s8 : Same H (upd H7 l (.lst (ws.map .str ++ [.str y]))) := Same.mut sm7 nlH
            have e8 : upd H7 l (.lst (ws.map .str ++ [.str y])) l = some (.lst ((ws ++ [y]).map .str)) := by
              rw [upd_same, List.map_append]
              rfl
            have ix8 := ix7.mono k8
            generalize upd H7 l (.lst (ws.map .str ++ [.str y])) = H8 at k8 tb8 d8 s8 e8 ix8
            refine ⟨_, rfl, _, rfl, r_get d8 (par_look ok hy) fun v9 i9 => ?_⟩
            rw [i9.sinv]
            refine ⟨ws ++ [y], par T y, _, rfl, s8, kt7.trans k8, d8, tb8, e8, ?_, ?_, by rw [List.length_append]; exact Nat.succ_le_succ hws, ix8⟩
            · rw [ew, List.append_assoc]
              congr 1
              exact ok.ways_cons hy
            · rcases ok.pin hy with h | h
              · exact .inl h
              · exact .inr ⟨h, by rw [List.length_append, hwl]; rfl⟩
        · rintro σ H7 ⟨ws, y, z6, rfl, sm7, kt7, d7, tb7, el7, ew, hy, hws, ix7⟩
          have hw : ws = ways T r.1 := by
            rcases hy with rfl | ⟨hy, hwl⟩
            · rw [ew, ok.ways_E, List.append_nil]
            · exfalso
              have h1 := ok.ways_len r.1
              rw [ew, List.length_append, hwl] at h1
              have h2 := List.length_pos_of_mem (ok.ways_self hy)
              omega
          subst hw
          have et : (names T).take (i + 1) = (names T).take i ++ [r.1] := by
            have : (names T)[i]? = some r.1 := by
              unfold names
              rw [List.getElem?_map, e]
              rfl
            rw [List.take_add_one, this]
            rfl
          have hi : i < T.length := (List.getElem?_eq_some_iff.mp e).1
          have hk : r.1 ∉ E' :: (names T).take i := by
            intro z
            rcases List.mem_cons.mp z with z | z
            · exact ok.noE (by rw [← z]; exact hrn)
            · have nd : ((names T).take (i + 1)).Nodup := ok.nd.sublist (List.take_sublist _ _)
              rw [et, List.nodup_append] at nd
              exact nd.2.2 _ z _ (List.mem_singleton.mpr rfl) rfl
          have hlen : (E' :: (names T).take i).length < sizeLine := by
            rw [sizeLine_eq, List.length_cons, List.length_take]
            omega
          have tb8 := tb7.put' hk el7 adl
          have kk : KT H7 (upd H7 p (.dK ((E' :: (names T).take i ++ [r.1]).map fun j => ((.inr j : Key), V.ref (if j = r.1 then l else ad j))))) := .dk tb7.at_
          rcases tb7.put hk el7 adl with dp | hbad
          · refine ⟨_, rfl, _, rfl, _, rfl, tCi (r_row0 ix7 ⟨p, _, rfl, dp, ?_⟩)⟩
            refine ⟨fun j => if j = r.1 then l else ad j, _, _, _, _, rfl, Same.mut sm7 np0, kt7.trans kk, d7.other npu kk, ?_⟩
            rw [et]
            exact tb8.congr fun k hk => by
              split
              · rename_i z
                rw [z]
              · rfl
          · omega
      · rintro σ H5 ⟨ad, y3, y4, y5, y6, rfl, sm, kt, d5, tb5⟩
        have el : (names T).take T.length = names T := List.take_of_length_le (by rw [names_len]; exact Nat.le_refl _)
        rw [el] at tb5
        exact ⟨_, rfl, q p H5 ad sm np0 tb5⟩
end
end RW
end
section
set_option linter.all false
set_option maxRecDepth 100000
set_option autoImplicit false
set_option maxHeartbeats 1000000
/-! pair[::-1]. -/
namespace RW
open PySem PySem.Spec PyProof.Rows L2
section
variable {prog : Program} {w : World} {A : Around} {E : Value → Shared → Prop} {s : Shared}
theorem sliceApplied_rev {sl : Addr} {k : Tok} {Q : Int × Int × Nat → Shared → Prop} (hs : s.heap.IsSliceOf sl .none .none (.int (-1) k))
    (h : Q ((1 : Int), (-1 : Int), 2) s) : wpAny (model prog w) A (Builtin.Slice.sliceApplied (.ref sl) (pure (2 : Int))) Q E s := by
  obtain ⟨os, hos, hcs, hds⟩ := id hs
  unfold Builtin.Slice.sliceApplied Builtin.Slice.sliceFields
  refine wpAny_bind (wpAny_bind (wpAny_field hos hds (x := .none) rfl (wpAny_bind (wpAny_field hos hds (x := .none) rfl (wpAny_bind (wpAny_field hos hds (x := .int (-1) k) rfl (wpAny_pure ?_)))))))
  refine wpAny_bind (HT.slicePart_ (.int (-1) k) ?_)
  show wpAny _ _ (if ((-1 : Int) == 0) = true then _ else _) _ _ s
  rw [if_neg (by decide)]
  refine wpAny_bind (HT.slicePart_ .none (wpAny_bind (HT.slicePart_ .none (wpAny_bind (wpAny_pure ?_)))))
  exact wpAny_pure h
theorem getItem_pair_rev {t sl : Addr} {x y : Value} {k : Tok} {Q : Value → Shared → Prop} (ht : IsTup s.heap t #[x, y]) (hs : s.heap.IsSliceOf sl .none .none (.int (-1) k))
    (h : Q (.ref s.heap.objs.size) { s with heap := s.heap.push { cls := .type "tuple", data := .seq #[y, x] } }) : wpAny (model prog w) A (getItem (.ref t) (.ref sl)) Q E s := by
  have htake : sizeOk (.seq (#[y, x] : Array Value)) := by
    show 2 ≤ sizeLine
    decide
  obtain ⟨os, hos, hcs, hds⟩ := id hs
  have hTs : s.TypeIs (.ref sl) "slice" := ⟨os, hos, hcs⟩
  unfold getItem
  try with_reducible refine wpAny_holding ?_
  first | refine wpAny_bind (wpAny_pure ?_) | skip
  refine wpAny_bind (wpAny_sequenceKey ht.typeIs (by decide) ?_)
  refine wpAny_bind (wpAny_callSpecial?_slot (name := Str.ofString "__getitem__") ht.typeIs PyProof.Rows.slot_tuple_getitem
    (wpAny_call_entry PyProof.Rows.slot_tuple_getitem ht.typeIs entry_tuple_getitem ?_ (args_tuple_getitem _ _)))
  show wpAny _ _ (Builtin.Tuple.tupleItemsOf (.ref t) >>= _) _ _ s
  refine wpAny_bind (tupleItemsOf_ ht ?_)
  refine wpAny_bind (wpAny_typeOf hTs ?_)
  rw [if_pos (by decide)]
  refine wpAny_bind (sliceApplied_rev hs ?_)
  show wpAny _ _ (if ((1 : Int) == 0 && (-1 : Int) == 1 && (2 : Nat) == 2) = true then _ else _) _ _ s
  rw [if_neg (by decide)]
  show wpAny _ _ (Builtin.Tuple.tupleExact #[y, x] >>= _) _ _ s
  first
    | exact wpAny_bind (m := Builtin.Tuple.tupleExact _) (wpAny_newObj_type (wpAny_pure ⟨_, rfl, wpAny_pure h⟩) htake)
    | exact wpAny_bind (m := Builtin.Tuple.tupleExact _) (wpAny_newObj_type (wpAny_bind (wpAny_pure (wpAny_pure ⟨_, rfl, wpAny_pure h⟩))) htake)
    | exact wpAny_bind (wpAny_bind (m := Builtin.Tuple.tupleExact _) (wpAny_newObj_type (wpAny_pure (wpAny_pure ⟨_, rfl, wpAny_pure h⟩)) htake))
    | exact wpAny_bind (wpAny_bind (m := Builtin.Tuple.tupleExact _) (wpAny_newObj_type (wpAny_pure ⟨_, rfl, wpAny_pure h⟩) htake))
end
section
variable {X : Cx}
/-- (a, b)[::-1] -/
def tRevT (K : PySem.W.Frag) (te : TE) : TE := fun σ H Q => te σ H fun x H1 => ∃ a y z, x = .ref a ∧ SqT K H1 a [y, z] ∧ ∀ p, H1 p = none → Q (.ref p) (upd H1 p (.tup [z, y]))
theorem pe_revT (K : PySem.W.Frag) (hK : X.K = K) {e : Expr} {te : TE} {k : Nat} {p1 p2 p3 pos : Pos} (he : PE X e te) : PE X (.Subscript e (.Slice none none (some (.UnaryOp .USub (.Constant (.int 1) k p1) p2)) p3) pos) (tRevT K te) := by
  subst hK
  refine ⟨fun pins s σ H Q I h => ?_⟩
  refine Subscript_ (thn (he.run pins s σ H _ I h) fun v s1 ⟨x, H1, I1, r1, a, y, z, ex, hx, q⟩ => ?_)
  subst ex
  cases r1
  have hst : PO X (some (.UnaryOp .USub (.Constant (.int 1) k p1) p2)) (tPart (tUn (rU fun i => .int (-i)) (tC (.int 1)))) := po_some (pe_un un_neg pe_int)
  refine wpAny_Slice (thn (po_none.run pins s1 σ H1 (fun o H2 => o = none ∧ H2 = H1) I1 ⟨rfl, rfl⟩) fun vl s2 ⟨l, H2, I2, pl, el, e2⟩ => ?_)
  subst el e2
  refine thn (po_none.run pins s2 σ H2 (fun o H3 => o = none ∧ H3 = H2) I2 ⟨rfl, rfl⟩) fun vu s3 ⟨u, H3, I3, pu, eu, e3⟩ => ?_
  subst eu e3
  refine thn (hst.run pins s3 σ H3 (fun o H4 => o = some (-1) ∧ H4 = H3) I3 ⟨1, rfl, -1, rfl, rfl, rfl⟩) fun vs s4 ⟨o, H4, I4, ps, eo, e4⟩ => ?_
  subst eo e4
  cases pl
  cases pu
  cases ps with
  | int i tk => ?_
  have I5 : Inv X pins σ H4 { s4 with heap := s4.heap.push { cls := .type "slice", data := .fields #[.none, .none, .int (-1) tk] } } := I4.kept (t' := s4.toks) fun b ob q => Heap.get?_push_of_some _ q
  obtain ⟨its, r, ht, hz⟩ := I5.tuple hx
  obtain ⟨u1, u2, rfl, r1, r2⟩ := vals2 r
  show wpAny (model X.prog X.w) X.A (subscriptTail e (.Slice none none (some (.UnaryOp .USub (.Constant (.int 1) k p1) p2)) p3) (.ref a) (.ref s4.heap.objs.size)) (EP X pins σ Q) X.xe { s4 with heap := s4.heap.push { cls := .type "slice", data := .fields #[.none, .none, .int (-1) tk] } }
  refine tail_any (ops := [.ref a, .ref s4.heap.objs.size]) ht.typeIs (PyProof.Rows.slot_tuple_getitem.lookup) ?_ (by with_unfolding_all rfl)
  refine getItem_pair_rev (k := tk) ht (Heap.IsSliceOf.new _ .none .none (.int (-1) tk)) ?_
  refine ⟨.ref _, _, I5.laid (t' := s4.toks) (o := .tup [z, y]) (fun b ob q => Heap.get?_push_of_some _ q) (Nat.le_refl _) ?_, rfl, q _ (I5.hok.fresh (Nat.le_refl _))⟩
  exact ⟨by show 2 ≤ sizeLine; decide, _, .cons r2 (.cons r1 .nil), IsTup.new _ _⟩
/-- of a move -/
theorem r_revM {K : PySem.W.Frag} {H : Hp} {x : V} {m : Str × Str} {Q : VK} (i : Im H x (dMv m)) (q : ∀ p, H p = none → Im (upd H p (.tup [.str m.2, .str m.1])) (.ref p) (dMv (m.2, m.1)) → Q (.ref p) (upd H p (.tup [.str m.2, .str m.1]))) :
    ∃ a y z, x = .ref a ∧ SqT K H a [y, z] ∧ ∀ p, H p = none → Q (.ref p) (upd H p (.tup [z, y])) := by
  obtain ⟨b, rfl, hb⟩ := i.mv
  exact ⟨b, _, _, rfl, .inl hb, fun p np => q p np (.tup (.inl upd_same) (.cons (.str _) (.cons (.str _) .nil)))⟩
end
end RW
end
section
set_option linter.all false
set_option maxRecDepth 100000
set_option autoImplicit false
set_option maxHeartbeats 1000000
/-! _law_in, _law_shift, _law_has_place. -/
namespace RW
open PySem PySem.Spec PyProof.Rows L2
abbrev s__law_in : Stmt := topS 80
abbrev N__law_in : List Str := ["_law_ups_here", "_law_deed", "_law_box"]
theorem sc__law_in : FnScope N__law_in ["_law_ups_here", "_law_deed"] (defScope s__law_in) := ⟨rfl, rfl, rfl, by decide +kernel, rfl, by decide +kernel, by decide +kernel⟩
abbrev s__law_shift : Stmt := topS 82
abbrev N__law_shift : List Str := ["_law_loads", "_law_gains", "_law_losses", "_law_late", "_law_box"]
theorem sc__law_shift : FnScope N__law_shift ["_law_loads", "_law_gains", "_law_losses"] (defScope s__law_shift) := ⟨rfl, rfl, rfl, by decide +kernel, rfl, by decide +kernel, by decide +kernel⟩
abbrev s__law_has_place : Stmt := topS 83
abbrev N__law_has_place : List Str := ["_law_case_here", "_law_loads", "_law_boxes", "_law_box"]
theorem sc__law_has_place : FnScope N__law_has_place ["_law_case_here", "_law_loads", "_law_boxes"] (defScope s__law_has_place) := ⟨rfl, rfl, rfl, by decide +kernel, rfl, by decide +kernel, by decide +kernel⟩

/-- what a move gains -/
def gains (T : List Row) (m : Str × Str) : List Str := (ways T m.2).filter fun b => !decide (b ∈ ways T m.1)
theorem gains_mem {T : List Row} {m : Str × Str} {b : Str} : b ∈ gains T m ↔ b ∈ ways T m.2 ∧ b ∉ ways T m.1 := by
  unfold gains
  rw [List.mem_filter]
  simp
theorem gains_nd {T : List Row} (ok : TreeOk T) (m : Str × Str) : (gains T m).Nodup := (ok.ways_nd _).sublist List.filter_sublist
theorem gains_in {T : List Row} (ok : TreeOk T) {m : Str × Str} {b : Str} (h : b ∈ gains T m) : b ∈ names T := ok.ways_in (gains_mem.mp h).1
theorem gains_len {T : List Row} (ok : TreeOk T) (m : Str × Str) : (gains T m).length ≤ 20 := Nat.le_trans (List.length_filter_le _ _) (Nat.le_trans (ok.ways_len _) ok.len)
theorem Spot.key {T : List Row} {x : Str} (h : Spot T x) : x ∈ E' :: names T := List.mem_cons.mpr h
section
variable {P : Program} {w : World} {K : PySem.W.Frag} {mg : Str → Option Value} {base : Heap}
def sp__law_in : Sp := fun vs H Q _ => ∃ (T : List Row) (m : Str × Str) (p : Addr) (ad : Str → Addr) (y : V), vs = [.ref p, y] ∧ TB H p (E' :: names T) ad (ways T) ∧ Im H y (dMv m) ∧ TreeOk T ∧ MvOk T m ∧
  ∀ l H', Same H H' → H l = none → H' l = some (.lst ((gains T m).map .str)) → Q (.ref l) H'
theorem ok__law_in (Tx : Txt mg) (hf : Has K mg "_law_in" s__law_in) : OkF P w K mg base "_law_in" ["_law_ups_here", "_law_deed"] 1 sp__law_in := by
  refine Has.ok hf sc__law_in (fun _ _ _ _ _ _ us hl => match us, hl with | [_, _], _ => rfl) (fun vs H Q E h => ?_) (fun f cdv A outer sh H vs Q E hr h => ?_)
  · obtain ⟨T, m, p, ad, y, rfl, _⟩ := h
    rfl
  · obtain ⟨T, m, p, ad, y, rfl, tb, iy, ok, mo, q⟩ := h
    have hu := hu_of hr
    refine ⟨_, (pss_one (ps_ret (pe_lc (own := [("_law_box", 2)]) (g := (gName 2)) rfl sc__law_in.nd (pi_list (pe_dget hu (pv 0) (pe_ix (show IxR _ (rIxT K) from ix_tup) (pv 1) pe_int (fun _ _ => rfl)) (fun _ _ => rfl))) (blkOk_by (own := [("_law_box", 2)]) (N := N__law_in) (sc := defScope s__law_in) (by decide +kernel)) (fun _ _ _ _ _ => (pg_name (i := 2) sc__law_in.nd rfl (.inl rfl))) (fun _ _ _ _ _ => pts_one (pt_cmpR (show OpR _ _ (rIn K true) from op_notIn_seq) (pv 2) (pe_dget hu (pv 0) (pe_ix (show IxR _ (rIxT K) from ix_tup) (pv 1) pe_int (fun _ _ => rfl)) (fun _ _ => rfl)) (by with_unfolding_all rfl))) (fun _ _ _ _ _ => (pv 2))))), ?_⟩
    have hl := ok.ways_len m.2
    have hl2 := ok.len
    refine ⟨_, rfl, _, rfl, tCi (r_mv1 iy ⟨p, _, rfl, tb.get mo.2.key, lcL (ds := ways T m.2) (enc := PyData.str) (tb.ls _ mo.2.key) (ImA.ofStrs _) (by omega) (fun b => !decide (b ∈ ways T m.1)) PyData.str ?_ ?_⟩)⟩
    · intro b x H2 Qt Qf hb s2 ix ht hf'
      rw [ix.sinv]
      have tb2 := tb.same s2
      refine ⟨rfl, _, rfl, _, rfl, _, rfl, tCi (r_mv0 (iy.mono (.same s2)) ⟨p, _, rfl, tb2.get mo.1.key, r_inL (tb2.ls _ mo.1.key) ⟨_, rfl, ?_⟩⟩)⟩
      cases e : decide (b ∈ ways T m.1) with
      | true => exact iteF (hf' (by rw [e]; rfl) _ (Same.refl _))
      | false => exact iteT ⟨_, rfl, ht (by rw [e]; rfl) _ _ (Same.refl _) (.str b)⟩
    · intro D H2 acc nD s2 e2 i2
      have := i2.strs
      subst this
      exact q D H2 s2 nD e2
/-- what shift makes of the loads -/
def shifted (f : Str → Int) (g l : List Str) (b : Str) : Int := f b + (g.count b : Nat) - (l.count b : Nat)
def sp__law_shift : Sp := fun vs H Q _ => ∃ (T : List Row) (f : Str → Int) (g l : List Str) (p a b : Addr), vs = [.ref p, .ref a, .ref b] ∧ DL H p (gInts T f) ∧ H a = some (.lst (g.map .str)) ∧ H b = some (.lst (l.map .str)) ∧ T.length ≤ 20 ∧ (∀ x, x ∈ g → x ∈ names T) ∧ (∀ x, x ∈ l → x ∈ names T) ∧
  ∀ p' H', Same H H' → H p' = none → DL H' p' (gInts T (shifted f g l)) → Q (.ref p') H'
theorem gInts_put {T : List Row} {f : Str → Int} {k : Str} {i : Int} (hk : k ∈ names T) : gput (gInts T f) k (.int i) = gInts T fun n => if n = k then i else f n := by
  unfold gInts
  rw [gput_map hk]
  refine List.map_congr_left fun n _ => ?_
  by_cases e : n = k
  · simp only [if_pos e]
  · simp only [if_neg e]
theorem gInts_congr {T : List Row} {f g : Str → Int} (h : ∀ n, n ∈ names T → f n = g n) : gInts T f = gInts T g := by
  unfold gInts
  exact List.map_congr_left fun n hn => by rw [h n hn]
theorem shift_loop {o : Int → Int → Int} {T : List Row} {ds : List Str} {F : Nat → Str → Int} {H1 : Hp} {a d : Addr} {v0 v1 v2 z : Option V} {E : L2.Ends} (hF : ∀ i k, ds[i]? = some k → ∀ n, F (i + 1) n = if n = k then o (F i n) 1 else F i n)
    (el : H1 a = some (.lst (ds.map .str))) (dd : DL H1 d (gInts T (F 0))) (had : a ≠ d) (hds : ∀ x, x ∈ ds → x ∈ names T) (hT : T.length ≤ 20) (fin : ∀ z4 H', SameX d H1 H' → KT H1 H' → DL H' d (gInts T (F ds.length)) → E.nx [v0, v1, v2, some (.ref d), z4] H') :
    ∃ b, V.ref a = .ref b ∧ (∃ xs, SqL K H1 b xs) ∧ ForR (Itl K b) (gName 4) (sDPut (tVar 3) (tVar 4) (tOp (rI0 fun i j => V.int (o i j)) (tDGet (tVar 3) (tVar 4)) (tC (V.int 1)))) E [v0, v1, v2, some (.ref d), z] H1 := by
  refine forL (ds := ds) (enc := PyData.str) el (ImA.ofStrs _) (fun i σ H' => ∃ z4, σ = [v0, v1, v2, some (.ref d), z4] ∧ SameX d H1 H' ∧ KT H1 H' ∧ DL H' d (gInts T (F i))) ⟨z, rfl, SameX.refl _ _, KT.refl _, dd⟩ (fun i σ H' h => by
    obtain ⟨_, _, sx, k, _⟩ := h
    exact ⟨k, sx _ _ had el⟩) ?_ ?_
  · rintro i k x σ H' e ⟨z4, rfl, sx, kt, dl⟩ ix
    rw [ix.sinv]
    have hk := hds k (List.mem_of_getElem? e)
    refine ⟨_, rfl, _, rfl, r_get dl (gInts_look hk) fun v iv => tCi ?_⟩
    rw [iv.iinv]
    refine ⟨_, _, rfl, rfl, _, rfl, _, rfl, r_put dl (by rw [gInts_len]; omega) (d := .int (o (F i k) 1)) (.int _) fun kvs kvs' e1 d2 => ?_⟩
    refine ⟨_, rfl, sx.up, kt.trans (.dk e1), ?_⟩
    rw [gInts_put hk] at d2
    rw [gInts_congr fun n _ => hF i k e n]
    have : (gInts T fun n => if n = k then o (F i k) 1 else F i n) = gInts T fun n => if n = k then o (F i n) 1 else F i n := gInts_congr fun n _ => by
      by_cases en : n = k
      · rw [if_pos en, if_pos en, en]
      · rw [if_neg en, if_neg en]
    rw [← this]
    exact d2
  · rintro σ H' ⟨z4, rfl, sx, kt, dl⟩
    exact fin z4 H' sx kt dl
theorem count_take {ds : List Str} {i : Nat} {k : Str} (e : ds[i]? = some k) (n : Str) : ((ds.take (i + 1)).count n : Int) = (ds.take i).count n + if n = k then 1 else 0 := by
  rw [List.take_add_one, e, List.count_append]
  show (((ds.take i).count n + [k].count n : Nat) : Int) = _
  rw [List.count_singleton]
  by_cases h : n = k
  · subst h
    simp
  · have : (k == n) = false := by simpa using fun z => h z.symm
    simp [this, h]
theorem ok__law_shift (Tx : Txt mg) (hf : Has K mg "_law_shift" s__law_shift) : OkF P w K mg base "_law_shift" ["_law_loads", "_law_gains", "_law_losses"] 1 sp__law_shift := by
  refine Has.ok hf sc__law_shift (fun _ _ _ _ _ _ us hl => match us, hl with | [_, _, _], _ => rfl) (fun vs H Q E h => ?_) (fun f cdv A outer sh H vs Q E hr h => ?_)
  · obtain ⟨T, f, g, l, p, a, b, rfl, _⟩ := h
    rfl
  · obtain ⟨T, f, g, l, p, a, b, rfl, dp, ea, eb, hz, hg, hl, q⟩ := h
    have hu := hu_of hr
    refine ⟨_, (pss_cons (ps_set (i := 3) sc__law_shift.nd rfl (.inl rfl) (pe_callTy call_dictD (by rfl) Tx.b_dict bb_dict (pa_cons (pv 0) pa_nil)))
  (pss_cons (ps_for PassesOwn.never rfl (pi_list (pv 1)) (pg_name (i := 4) sc__law_shift.nd rfl (.inl rfl)) (pss_one (ps_dput hu (pv 3) (pv 4) (pe_op op_add (pe_dget hu (pv 3) (pv 4) (fun _ _ => rfl)) pe_int) rfl)))
  (pss_cons (ps_for PassesOwn.never rfl (pi_list (pv 2)) (pg_name (i := 4) sc__law_shift.nd rfl (.inl rfl)) (pss_one (ps_dput hu (pv 3) (pv 4) (pe_op op_sub (pe_dget hu (pv 3) (pv 4) (fun _ _ => rfl)) pe_int) rfl)))
  (pss_one (ps_ret (pv 3)))))), ?_⟩
    obtain ⟨kvs, ep, ip⟩ := dp
    refine ⟨_, rfl, p, kvs, rfl, .inl ep, fun d nd => ?_⟩
    have s1 : Same H (upd H d (.dK kvs)) := Same.new nd
    have d1 : DL (upd H d (.dK kvs)) d (gInts T f) := ⟨kvs, upd_same, ip.mono (.same s1)⟩
    have ea1 := s1 _ _ ea
    have eb1 := s1 _ _ eb
    have nad : a ≠ d := ne_of_none ea nd
    have nbd : b ≠ d := ne_of_none eb nd
    generalize upd H d (.dK kvs) = H1 at s1 d1 ea1 eb1
    refine ⟨_, rfl, shift_loop (o := fun i j => i + j) (F := fun i n => f n + ((g.take i).count n : Nat)) (fun i k e n => ?_) ea1 ?_ nad hg hz fun z4 H2 sx2 kt2 d2 => ?_⟩
    · rw [count_take e]
      by_cases h : n = k
      · simp only [if_pos h]
        omega
      · simp only [if_neg h]
        omega
    · rw [gInts_congr (g := f) fun n _ => by simp]
      exact d1
    rw [List.take_length] at d2
    refine ⟨_, rfl, shift_loop (o := fun i j => i - j) (F := fun i n => (f n + (g.count n : Nat)) - ((l.take i).count n : Nat)) (fun i k e n => ?_) (sx2 _ _ nbd eb1) ?_ nbd hl hz fun z5 H3 sx3 kt3 d3 => ?_⟩
    · rw [count_take e]
      by_cases h : n = k
      · simp only [if_pos h]
        omega
      · simp only [if_neg h]
        omega
    · rw [gInts_congr (g := fun n => f n + (g.count n : Nat)) fun n _ => by simp]
      exact d2
    rw [List.take_length] at d3
    exact ⟨_, rfl, q d H3 ((sx2.trans sx3).old s1 nd) nd d3⟩
end
end RW
end
section
set_option linter.all false
set_option maxRecDepth 100000
set_option autoImplicit false
set_option maxHeartbeats 1000000
/-! _law_used. -/
namespace RW
open PySem PySem.Spec PyProof.Rows L2
section
variable {X : Cx}
def rIxSq (K : PySem.W.Frag) : R2 := fun x y H Q => rIxL K x y H Q ∨ rIxT K x y H Q
theorem ix_sq : IxR X (rIxSq X.K) := by
  intro value slice pins s σ H x y v u Q I rx ry h hs
  rcases h with h | h
  · exact ix_list value slice pins s σ H x y v u Q I rx ry h hs
  · exact ix_tup value slice pins s σ H x y v u Q I rx ry h hs
end
abbrev s__law_used : Stmt := topS 79
abbrev N__law_used : List Str := ["_law_grove", "_law_heap", "_law_ups_here", "_law_found", "_law_k", "_law_row", "_law_box"]
theorem sc__law_used : FnScope N__law_used ["_law_grove", "_law_heap"] (defScope s__law_used) := ⟨rfl, rfl, rfl, by decide +kernel, rfl, by decide +kernel, by decide +kernel⟩

section
variable {P : Program} {w : World} {K : PySem.W.Frag} {mg : Str → Option Value} {base : Heap}
/-- a list or a tuple of these -/
def Seq2 (H : Hp) (a : Addr) (xs : List V) : Prop := H a = some (.lst xs) ∨ Rd H a (.tup xs)
theorem Seq2.same {H H' : Hp} {a : Addr} {xs : List V} (h : Seq2 H a xs) (s : Same H H') : Seq2 H' a xs := h.elim (fun h => .inl (s _ _ h)) fun h => .inr (h.sm s)
theorem r_sq {H : Hp} {a : Addr} {xs : List Int} {k : Nat} {i : Int} {Q : VK} (h : Seq2 H a (xs.map .int)) (e : xs[k]? = some i) (q : Q (.int i) H) : rIxSq K (.ref a) (.int (k : Nat)) H Q := by
  have hk : k < xs.length := (List.getElem?_eq_some_iff.mp e).1
  have e2 : atI (xs.map V.int) (k : Int) = some (.int i) := by
    rw [atI_nat _ _ (by rw [List.length_map]; exact hk), List.getElem?_map, e]
    rfl
  rcases h with h | h
  · exact .inl ⟨a, _, _, _, rfl, rfl, .inl (.inl h), e2, q⟩
  · exact .inr ⟨a, _, _, _, rfl, rfl, .inl h, e2, q⟩
def sp__law_used : Sp := fun vs H Q _ => ∃ (T : List Row) (s : List Int) (v : V) (a : Addr), vs = [v, .ref a] ∧ Im H v (dTree T) ∧ Seq2 H a (s.map .int) ∧ T.length = s.length ∧ TreeOk T ∧
  ∀ p H', Same H H' → H p = none → DL H' p (gInts T (use T s)) → Q (.ref p) H'
theorem useN_take {T : List Row} {s : List Int} (hl : T.length = s.length) {i : Nat} {r : Row} {c : Int} (er : T[i]? = some r) (ec : s[i]? = some c) (f : Str) : useN T (((names T).zip s).take (i + 1)) f = useN T (((names T).zip s).take i) f + if f ∈ ways T r.1 then c else 0 := by
  have e : ((names T).zip s)[i]? = some (r.1, c) := by
    rw [List.getElem?_zip_eq_some]
    refine ⟨?_, ec⟩
    unfold names
    rw [List.getElem?_map, er]
    rfl
  rw [List.take_add_one, e]
  unfold useN
  rw [List.map_append, List.sum_append]
  show _ + (_ + 0) = _
  rw [Int.add_zero]
theorem ok__law_used (Tx : Txt mg) (F__law_ups : OkF P w K mg base "_law_ups" ["_law_grove"] 1 sp__law_ups) (hf : Has K mg "_law_used" s__law_used) : OkF P w K mg base "_law_used" ["_law_grove", "_law_heap"] 2 sp__law_used := by
  refine Has.ok hf sc__law_used (fun _ _ _ _ _ _ us hl => match us, hl with | [_, _], _ => rfl) (fun vs H Q E h => ?_) (fun f cdv A outer sh H vs Q E hr h => ?_)
  · obtain ⟨T, s, v, a, rfl, _⟩ := h
    rfl
  · obtain ⟨T, s, v, a, rfl, iv, ha, hl, ok, q⟩ := h
    have hu := hu_of hr
    have hz := ok.len
    refine ⟨_, (pss_cons (ps_par (i := 2) (j := 3) (by rfl) sc__law_used.nd rfl rfl (by decide) rfl rfl (pa_cons (pe_c F__law_ups (hr.mono (by decide)) (pa_cons (pv 0) pa_nil)) (pa_cons (pe_callTy (call_dictP rfl) (by rfl) Tx.b_dict bb_dict (pa_cons (pe_lc (own := [("_law_row", 5)]) (g := (gName 5)) (tt := tYes) rfl sc__law_used.nd (pi_tup (pv 0)) (blkOk_by (own := [("_law_row", 5)]) (N := N__law_used) (sc := defScope s__law_used) (by decide +kernel)) (fun _ _ _ _ _ => (pg_name (i := 5) sc__law_used.nd rfl (.inl rfl))) (fun _ _ _ _ _ => pts_nil) (fun _ _ _ _ _ => (pe_tup (pa_cons (pe_ix (show IxR _ (rIxT K) from ix_tup) (pv 5) pe_int (fun _ _ => rfl)) (pa_cons pe_int pa_nil))))) pa_nil)) pa_nil)) (by rfl))
  (pss_cons (ps_for PassesOwn.never rfl (pi_enumT (by rfl) Tx.b_enumerate (pa_cons (pv 0) pa_nil)) (pg_tup rfl (pgs_cons (pg_name (i := 4) sc__law_used.nd rfl (.inl rfl)) (pgs_cons (pg_name (i := 5) sc__law_used.nd rfl (.inl rfl)) pgs_nil))) (pss_one (ps_for PassesOwn.never rfl (pi_list (pe_dget hu (pv 2) (pe_ix (show IxR _ (rIxT K) from ix_tup) (pv 5) pe_int (fun _ _ => rfl)) (fun _ _ => rfl))) (pg_name (i := 6) sc__law_used.nd rfl (.inl rfl)) (pss_one (ps_dput hu (pv 3) (pv 6) (pe_op op_add (pe_dget hu (pv 3) (pv 6) (fun _ _ => rfl)) (pe_ix (show IxR _ (rIxSq K) from ix_sq) (pv 1) (pv 4) (fun _ _ => rfl))) rfl)))))
  (pss_one (ps_ret (pv 3))))), ?_⟩
    refine ⟨v, rfl, T, v, rfl, iv, ok, fun pu H1 ad s1 nu tb => ?_⟩
    refine ⟨v, rfl, lcT (ds := T) (enc := dRow) (iv.mono (.same s1)) (by omega) (fun _ => true) (fun r => .tuple [.str r.1, .int 0]) ?_ ?_⟩
    · intro r x H2 Qt Qf hr2 s2 ix ht _
      refine ⟨rfl, _, rfl, tCi (r_row0 ix (r_tup (.cons (.str r.1) (.cons (.int 0) .nil)) (by show 2 ≤ 1000; decide) fun t nt it => ht rfl _ _ (Same.new nt) it))⟩
    · intro D H2 acc nD s2 e2 i2
      rw [filter_true] at i2
      refine r_dictP (gd := gInts T fun _ => 0) e2 (by
        unfold gInts names
        rw [List.map_map, List.map_map]
        exact i2) (by
        unfold gInts
        rw [List.map_map]
        show ((names T).map id).Nodup
        rw [List.map_id]
        exact ok.nd) fun kvs pd nd du => ?_
      generalize hH4 : upd H2 pd (.dK (mergeK [] kvs)) = H3 at du ⊢
      have s3 : Same H2 H3 := by
        rw [← hH4]
        exact Same.new nd
      clear hH4
      have s13 := s2.trans s3
      have s03 := s1.trans s13
      have nd1 : H1 pd = none := s2.free nd
      have nd0 : H pd = none := s1.free nd1
      have tb3 := tb.same s13
      have npd : pu ≠ pd := ne_of_none tb.at_ nd1
      refine ⟨_, _, rfl, ?_⟩
      refine ⟨v, rfl, forE (ds := T) (enc := dRow) (iv.mono (.same s03)) (fun i σ H' => ∃ (y4 y5 y6 : Option V), σ = [some v, some (.ref a), some (.ref pu), some (.ref pd), y4, y5, y6] ∧ Same H H' ∧ SameX pd H3 H' ∧ KT H3 H' ∧ DL H' pd (gInts T (useN T (((names T).zip s).take i))))
        ⟨none, none, none, rfl, s03, SameX.refl _ _, KT.refl _, by rw [List.take_zero]; exact du⟩ (fun i σ H' h => by
          obtain ⟨_, _, _, _, _, _, k, _⟩ := h
          exact k) ?_ ?_⟩
      · rintro i r t x σ H4 e ⟨y4, y5, y6, rfl, sm, sx, kt, d4⟩ nt it
        have hr : r ∈ T := List.mem_of_getElem? e
        have hrn : r.1 ∈ names T := List.mem_map_of_mem hr
        have hi : i < s.length := by
          have := (List.getElem?_eq_some_iff.mp e).1
          omega
        obtain ⟨c, ec⟩ : ∃ c, s[i]? = some c := ⟨_, List.getElem?_eq_getElem hi⟩
        refine g_tup2 it fun v5 w5 i5 j5 => ?_
        rw [i5.iinv]
        have st : Same H4 (upd H4 t (.tup [.int i, x])) := Same.new nt
        have sm5 := sm.trans st
        have sx5 := sx.trans (SameX.of st)
        have kt5 := kt.trans (.same st)
        have d5 := d4.same st
        generalize upd H4 t (.tup [.int i, x]) = H5 at it j5 sm5 sx5 kt5 d5
        have hk : r.1 ∈ E' :: names T := List.mem_cons_of_mem _ hrn
        have npp : pu ≠ pd := npd
        have nad : ad r.1 ≠ pd := ne_of_none (tb.ls _ hk) nd1
        have tbp : ∀ H', SameX pd H3 H' → DGet H' pu (.str r.1) (some (.ref (ad r.1))) ∧ H' (ad r.1) = some (.lst ((ways T r.1).map .str)) := fun H' sx' => by
          refine ⟨?_, sx' _ _ nad (tb3.ls _ hk)⟩
          have z := DGet.k (k := (.inr r.1 : Key)) (sx' _ _ npd tb3.at_)
          rw [val_tb, if_pos hk] at z
          exact z
        have hwl := ok.ways_len r.1
        refine ⟨_, rfl, _, rfl, tCi (r_row0 j5 ⟨pu, _, rfl, (tbp _ sx5).1, forL (ds := ways T r.1) (enc := PyData.str) (tbp _ sx5).2 (ImA.ofStrs _) (fun j σ H' => ∃ (y6 : Option V), σ = [some v, some (.ref a), some (.ref pu), some (.ref pd), some (.int (i : Nat)), some w5, y6] ∧ Same H H' ∧ SameX pd H3 H' ∧ KT H3 H' ∧ KT H5 H' ∧
            DL H' pd (gInts T fun n => useN T (((names T).zip s).take i) n + if n ∈ (ways T r.1).take j then c else 0))
          ⟨y6, rfl, sm5, sx5, kt5, KT.refl _, by
            rw [gInts_congr (g := useN T (((names T).zip s).take i)) fun n _ => by simp]
            exact d5⟩ (fun j σ H' h => by
            obtain ⟨_, _, _, sx', _, k, _⟩ := h
            exact ⟨k, (tbp _ sx').2⟩) ?_ ?_⟩)⟩
        · rintro j n y σ H6 en ⟨y6', rfl, sm6, sx6, kt6, kt65, d6⟩ iy
          rw [iy.sinv]
          have hn : n ∈ ways T r.1 := List.mem_of_getElem? en
          have hnn := ok.ways_in hn
          refine ⟨_, rfl, _, rfl, r_get d6 (gInts_look hnn) fun v7 i7 => ?_⟩
          rw [i7.iinv]
          refine ⟨_, rfl, _, rfl, r_sq (ha.same sm6) ec ⟨_, _, rfl, rfl, _, rfl, _, rfl, r_put d6 (by rw [gInts_len]; omega) (.int _) fun kvs kvs' e1 d7 => ?_⟩⟩
          refine ⟨_, rfl, Same.mut sm6 nd0, sx6.up, kt6.trans (.dk e1), kt65.trans (.dk e1), ?_⟩
          rw [gInts_put hnn] at d7
          rw [gInts_congr fun x _ => ?_]
          · exact d7
          · have hnd := ok.ways_nd r.1
            have et : (ways T r.1).take (j + 1) = (ways T r.1).take j ++ [n] := by rw [List.take_add_one, en]; rfl
            have hn1 : n ∉ (ways T r.1).take j := fun z => by
              have nd : ((ways T r.1).take (j + 1)).Nodup := hnd.sublist (List.take_sublist _ _)
              rw [et, List.nodup_append] at nd
              exact nd.2.2 _ z _ (List.mem_singleton.mpr rfl) rfl
            rw [et]
            by_cases ex : x = n
            · subst ex
              simp [hn1]
            · simp [ex]
        · rintro σ H6 ⟨y6', rfl, sm6, sx6, kt6, kt65, d6⟩
          refine ⟨_, _, _, rfl, sm6, sx6, kt6, ?_⟩
          rw [gInts_congr fun n _ => useN_take hl e ec n]
          rw [List.take_length] at d6
          exact d6
      · rintro σ H' ⟨y4, y5, y6, rfl, sm, sx, kt, d4⟩
        rw [List.take_of_length_le (by rw [List.length_zip, names_len]; omega)] at d4
        exact ⟨_, rfl, q pd H' sm nd0 d4⟩
end
end RW
end
section
set_option linter.all false
set_option maxRecDepth 100000
set_option autoImplicit false
set_option maxHeartbeats 1000000
/-! _law_case. -/
namespace RW
open PySem PySem.Spec PyProof.Rows L2
/-- a comprehension over a tuple, whose items are told by a predicate -/
theorem lcTG {α : Type} {K : PySem.W.Frag} {g : TG} {tt : TT} {te : TE} {vs : List Nat} {σ : L2.St} {H1 : Hp} {v : V} {ds : List α} {enc : α → PyData} {Q : Addr → Hp → Prop} (h : Im H1 v (.tuple (ds.map enc))) (hz : ds.length ≤ 1000) (Pr : Addr → Hp → V → α → Prop)
    (st : ∀ D H H' x d acc, H D = some (.lst acc) → SameX D H H' → Pr D H x d → Pr D H' x d)
    (hs : ∀ D d x H acc (Qt : VK) (Qf : Hp → Prop), d ∈ ds → H1 D = none → Same H1 H → H D = some (.lst acc) → Im H x (enc d) → (∀ y H4, Same H H4 → Pr D H4 y d → Qt y H4) → LcT g tt te vs σ x H Qt Qf)
    (hd : ∀ D H acc, H1 D = none → Same H1 H → H D = some (.lst acc) → Paired (Pr D H) acc ds → Q D H) :
    ∃ a, v = .ref a ∧ (∃ xs, SqT K H1 a xs) ∧ LcR (Itt K a) g tt te vs σ H1 Q := by
  obtain ⟨a, xs, rfl, hT, hA⟩ := h.tinv
  have hl : xs.length = ds.length := by rw [hA.len, List.length_map]
  refine ⟨a, rfl, ⟨xs, .inl hT⟩, fun D nD => ?_⟩
  refine lc_it walk_tup (fun i H => Same H1 H ∧ ∃ acc, H D = some (.lst acc) ∧ Paired (Pr D H) acc (ds.take i)) ⟨Same.new nD, [], upd_same, .nil⟩ (fun i H _ h => .inl (hT.sm h.1)) ?_ ?_
  · rintro i x H H' hi ⟨sm, acc, eD, ia⟩ ⟨rfl, ex⟩
    have hi' : i < ds.length := by omega
    have e : ds[i]? = some ds[i] := List.getElem?_eq_getElem hi'
    have et : ds.take (i + 1) = ds.take i ++ [ds[i]] := by rw [List.take_add_one, e]; rfl
    have hacc : acc.length ≤ 1000 := by
      rw [Paired.length ia, List.length_take]
      omega
    refine hs D ds[i] x _ acc _ _ (List.getElem_mem hi') nD sm eD (get_enc (hA.mono (.same sm)) e ex) fun y H4 s4 p4 => ?_
    have eD4 := s4 _ _ eD
    refine ⟨acc, eD4, small1000 hacc, Same.mut (sm.trans s4) nD, acc ++ [y], upd_same, ?_⟩
    have sx : SameX D H4 (upd H4 D (.lst (acc ++ [y]))) := (SameX.refl _ _).up
    rw [et]
    exact Paired.snoc (Paired.mapP (Paired.mapP ia fun _ _ z => st D _ _ _ _ _ eD (SameX.of s4) z) fun _ _ z => st D _ _ _ _ _ eD4 sx z) (st D _ _ _ _ _ eD4 sx p4)
  · rintro H ⟨sm, acc, eD, ia⟩
    rw [hl, List.take_length] at ia
    exact hd D H acc nD sm eD ia
/-- an item of case['ways'] -/
def WayIt (T : List Row) (H : Hp) (x : V) (m : Str × Str) : Prop := ∃ t dv g l, x = .ref t ∧ Rd H t (.tup [dv, .ref g, .ref l]) ∧ Im H dv (dMv m) ∧ H g = some (.lst ((gains T m).map .str)) ∧ H l = some (.lst ((gains T (m.2, m.1)).map .str))
theorem WayIt.same {T : List Row} {H H' : Hp} {x : V} {m : Str × Str} (s : Same H H') (h : WayIt T H x m) : WayIt T H' x m := by
  obtain ⟨t, dv, g, l, e, h1, h2, h3, h4⟩ := h
  exact ⟨t, dv, g, l, e, h1.sm s, h2.mono (.same s), s _ _ h3, s _ _ h4⟩
/-- the parts of a case -/
structure CA where
  c : Addr
  gv : V
  hv : V
  bv : V
  pu : Addr
  lw : Addr
  pr : Addr
  pd : Addr
  ad : Str → Addr
  ws : List V
abbrev ckvs (z : CA) : List (Key × V) := [(.inr "grove", z.gv), (.inr "heap", z.hv), (.inr "batch", z.bv), (.inr "ups", .ref z.pu), (.inr "ways", .ref z.lw), (.inr "rooms", .ref z.pr), (.inr "used", .ref z.pd)]
structure CaseH (T : List Row) (s : List Int) (L : List (Str × Str)) (H : Hp) (z : CA) : Prop where
  at_ : H z.c = some (.dK (ckvs z))
  gv : Im H z.gv (dTree T)
  hv : Im H z.hv (dInts s)
  bv : Im H z.bv (dMvs L)
  fz : Fz H z.bv
  ups : TB H z.pu (E' :: names T) z.ad (ways T)
  wl : H z.lw = some (.lst z.ws)
  ws : Paired (WayIt T H) z.ws L
  rooms : DL H z.pr (gInts T (room T))
  used : DL H z.pd (gInts T (use T s))
def NotP (p : Addr) (z : CA) : Prop := z.c ≠ p ∧ z.pu ≠ p ∧ z.pr ≠ p ∧ z.pd ≠ p
theorem CaseH.same {T : List Row} {s : List Int} {L : List (Str × Str)} {H H' : Hp} {z : CA} (h : CaseH T s L H z) (sm : Same H H') : CaseH T s L H' z :=
  ⟨sm _ _ h.at_, h.gv.mono (.same sm), h.hv.mono (.same sm), h.bv.mono (.same sm), h.fz.sm sm, h.ups.same sm, sm _ _ h.wl, Paired.mapP h.ws fun _ _ w => w.same sm, h.rooms.same sm, h.used.same sm⟩
theorem CaseH.sx {T : List Row} {s : List Int} {L : List (Str × Str)} {H H' : Hp} {z : CA} {p : Addr} {kv : List (Key × V)} (h : CaseH T s L H z) (sx : SameX p H H') (hp : H p = some (.dK kv)) (n : NotP p z) : CaseH T s L H' z := by
  have kt : KT H H' := .sx hp (.dk _) sx
  have nl : ∀ {q xs}, H q = some (.lst xs) → q ≠ p := fun e => ne_of e hp fun z => nomatch z
  refine ⟨sx _ _ n.1 h.at_, h.gv.mono kt, h.hv.mono kt, h.bv.mono kt, ?_, ?_, sx _ _ (nl h.wl) h.wl, Paired.mapP h.ws fun x m w => ?_, ?_, ?_⟩
  · obtain ⟨a, o, xs, e, h1, h2⟩ := h.fz
    exact ⟨a, o, xs, e, sx _ _ (ne_of h1 hp fun z => nomatch z) h1, h2⟩
  · exact ⟨sx _ _ n.2.1 h.ups.at_, h.ups.nd, fun k hk => sx _ _ (nl (h.ups.ls k hk)) (h.ups.ls k hk), h.ups.inj⟩
  · obtain ⟨t, dv, g, l, e, h1, h2, h3, h4⟩ := w
    exact ⟨t, dv, g, l, e, kt _ _ h1, h2.mono kt, sx _ _ (nl h3) h3, sx _ _ (nl h4) h4⟩
  · obtain ⟨k, e, i⟩ := h.rooms
    exact ⟨k, sx _ _ n.2.2.1 e, i.mono kt⟩
  · obtain ⟨k, e, i⟩ := h.used
    exact ⟨k, sx _ _ n.2.2.2 e, i.mono kt⟩
theorem c_get {H : Hp} {z : CA} {k : Str} {v : V} (h : H z.c = some (.dK (ckvs z))) (e : valV (ckvs z) (.inr k) = some v) : DGet H z.c (.str k) (some v) := by
  have q := DGet.k (k := (.inr k : Key)) h
  rw [e] at q
  exact q
section
variable {z : CA}
theorem ck_grove : valV (ckvs z) (.inr "grove") = some z.gv := rfl
theorem ck_heap : valV (ckvs z) (.inr "heap") = some z.hv := rfl
theorem ck_batch : valV (ckvs z) (.inr "batch") = some z.bv := rfl
theorem ck_ups : valV (ckvs z) (.inr "ups") = some (.ref z.pu) := rfl
theorem ck_ways : valV (ckvs z) (.inr "ways") = some (.ref z.lw) := rfl
theorem ck_rooms : valV (ckvs z) (.inr "rooms") = some (.ref z.pr) := rfl
theorem ck_used : valV (ckvs z) (.inr "used") = some (.ref z.pd) := rfl
end
abbrev s__law_case : Stmt := topS 81
abbrev N__law_case : List Str := ["_law_grove", "_law_heap", "_law_batch", "_law_ups_here", "_law_ways", "_law_rooms", "_law_deed", "_law_row"]
theorem sc__law_case : FnScope N__law_case ["_law_grove", "_law_heap", "_law_batch"] (defScope s__law_case) := ⟨rfl, rfl, rfl, by decide +kernel, rfl, by decide +kernel, by decide +kernel⟩

section
variable {P : Program} {w : World} {K : PySem.W.Frag} {mg : Str → Option Value} {base : Heap}
def sp__law_case : Sp := fun vs H Q _ => ∃ (T : List Row) (s : List Int) (L : List (Str × Str)) (v u x : V), vs = [v, u, x] ∧ Im H v (dTree T) ∧ Im H u (dInts s) ∧ Im H x (dMvs L) ∧ Fz H x ∧ TreeOk T ∧ T.length = s.length ∧ (∀ m, m ∈ L → MvOk T m) ∧ L.length ≤ 60 ∧
  ∀ z H', Same H H' → CaseH T s L H' z → (∀ p o, H p = some o → NotP p z) → Q (.ref z.c) H'
theorem ok__law_case (Tx : Txt mg) (F__law_ups : OkF P w K mg base "_law_ups" ["_law_grove"] 1 sp__law_ups) (F__law_in : OkF P w K mg base "_law_in" ["_law_ups_here", "_law_deed"] 1 sp__law_in) (F__law_used : OkF P w K mg base "_law_used" ["_law_grove", "_law_heap"] 2 sp__law_used) (hf : Has K mg "_law_case" s__law_case) :
    OkF P w K mg base "_law_case" ["_law_grove", "_law_heap", "_law_batch"] 3 sp__law_case := by
  refine Has.ok hf sc__law_case (fun _ _ _ _ _ _ us hl => match us, hl with | [_, _, _], _ => rfl) (fun vs H Q E h => ?_) (fun f cdv A outer sh H vs Q E hr h => ?_)
  · obtain ⟨T, s, L, v, u, x, rfl, _⟩ := h
    rfl
  · obtain ⟨T, s, L, v, u, x, rfl, iv, iu, ix, fx, ok, hl, mo, hL, q⟩ := h
    have hu := hu_of hr
    have hz := ok.len
    refine ⟨_, (pss_cons (ps_set (i := 3) sc__law_case.nd rfl (.inr rfl) (pe_c F__law_ups (hr.mono (by decide)) (pa_cons (pv 0) pa_nil)))
  (pss_cons (ps_setLc (i := 4) (own := [("_law_deed", 6)]) (g := (gName 6)) (tt := tYes) rfl sc__law_case.nd rfl rfl (sw_true rfl rfl rfl (by decide +kernel)) (pi_tup (pv 2)) (blkOk_by (own := [("_law_deed", 6)]) (N := N__law_case) (sc := defScope s__law_case) (by decide +kernel)) (fun _ _ _ _ _ => (pg_name (i := 6) sc__law_case.nd rfl (.inl rfl))) (fun _ _ _ _ _ => pts_nil) (fun _ _ _ _ _ => (pe_tup (pa_cons (pv 6) (pa_cons (pe_c F__law_in (hr.mono (by decide)) (pa_cons (pv 3) (pa_cons (pv 6) pa_nil))) (pa_cons (pe_c F__law_in (hr.mono (by decide)) (pa_cons (pv 3) (pa_cons (pe_revT K rfl (pv 6)) pa_nil))) pa_nil))))))
  (pss_cons (ps_set (i := 5) sc__law_case.nd rfl (.inl rfl) (pe_callTy (call_dictP rfl) (by rfl) Tx.b_dict bb_dict (pa_cons (pe_lc (own := [("_law_row", 7)]) (g := (gName 7)) (tt := tYes) rfl sc__law_case.nd (pi_tup (pv 0)) (blkOk_by (own := [("_law_row", 7)]) (N := N__law_case) (sc := defScope s__law_case) (by decide +kernel)) (fun _ _ _ _ _ => (pg_name (i := 7) sc__law_case.nd rfl (.inl rfl))) (fun _ _ _ _ _ => pts_nil) (fun _ _ _ _ _ => (pe_tup (pa_cons (pe_ix (show IxR _ (rIxT K) from ix_tup) (pv 7) pe_int (fun _ _ => rfl)) (pa_cons (pe_ix (show IxR _ (rIxT K) from ix_tup) (pv 7) pe_int (fun _ _ => rfl)) pa_nil))))) pa_nil)))
  (pss_one (ps_ret (pe_disp (pps_cons pe_str (pv 0) (pps_cons pe_str (pv 1) (pps_cons pe_str (pv 2) (pps_cons pe_str (pv 3) (pps_cons pe_str (pv 4) (pps_cons pe_str (pv 5) (pps_cons pe_str (pe_c F__law_used (hr.mono (by decide)) (pa_cons (pv 0) (pa_cons (pv 1) pa_nil))) pps_nil))))))) (by rfl) (by rfl) (fun z => by cases z) (by decide))))))), ?_⟩
    refine ⟨v, rfl, T, v, rfl, iv, ok, fun pu H1 ad s1 nu tb => ?_⟩
    refine ⟨x, rfl, lcTG (ds := L) (enc := dMv) (ix.mono (.same s1)) (by omega) (fun D H y m => ∃ t dv g l, y = .ref t ∧ g ≠ D ∧ l ≠ D ∧ Rd H t (.tup [dv, .ref g, .ref l]) ∧ Im H dv (dMv m) ∧ H g = some (.lst ((gains T m).map .str)) ∧ H l = some (.lst ((gains T (m.2, m.1)).map .str))) ?_ ?_ ?_⟩
    · rintro D H H' y m acc eD sx ⟨t, dv, g, l, e, n1, n2, h1, h2, h3, h4⟩
      have kt : KT H H' := .sx eD (.lst _) sx
      exact ⟨t, dv, g, l, e, n1, n2, kt _ _ h1, h2.mono kt, sx _ _ n1 h3, sx _ _ n2 h4⟩
    · intro D m y H2 acc Qt Qf hm nD s2 eD iy ht
      have hmo := mo m hm
      have tb2 := tb.same s2
      refine ⟨rfl, _, rfl, _, rfl, _, rfl, T, m, pu, ad, y, rfl, tb2, iy, ok, hmo, fun l1 H3 s3 nl1 e1 => ?_⟩
      obtain ⟨yb, rfl, hyb⟩ := iy.mv
      refine ⟨_, rfl, _, rfl, yb, _, _, rfl, .inl (hyb.sm s3), fun t nt => ?_⟩
      have it : Im (upd H3 t (.tup [.str m.2, .str m.1])) (.ref t) (dMv (m.2, m.1)) := .tup (.inl upd_same) (.cons (.str _) (.cons (.str _) .nil))
      have s4 : Same H3 (upd H3 t (.tup [.str m.2, .str m.1])) := Same.new nt
      refine ⟨T, (m.2, m.1), pu, ad, .ref t, rfl, (tb2.same s3).same s4, it, ok, ⟨hmo.2, hmo.1⟩, fun l2 H5 s5 nl2 e2 => ?_⟩
      have s35 := s4.trans s5
      refine ⟨by show 3 ≤ sizeLine; decide, fun t2 nt2 => ?_⟩
      have s6 : Same H5 (upd H5 t2 (.tup [.ref yb, .ref l1, .ref l2])) := Same.new nt2
      have e15 := s35 _ _ e1
      exact ht _ _ ((s3.trans s35).trans s6) ⟨t2, .ref yb, l1, l2, rfl, ne_of_none eD nl1 |>.symm, ne_of_none ((s3.trans s4) _ _ eD) nl2 |>.symm, .inl upd_same, iy.mono (.same ((s3.trans s35).trans s6)), s6 _ _ e15, s6 _ _ e2⟩
    · intro D H2 acc nD s2 eD pr
      have s02 := s1.trans s2
      have pr2 : Paired (WayIt T H2) acc L := Paired.mapP pr fun _ _ ⟨t, dv, g, l, e, n1, n2, h1, h2, h3, h4⟩ => ⟨t, dv, g, l, e, h1, h2, h3, h4⟩
      refine ⟨v, rfl, lcT (ds := T) (enc := dRow) (iv.mono (.same s02)) (by omega) (fun _ => true) (fun r => .tuple [.str r.1, .int r.2.2]) ?_ ?_⟩
      · intro r x2 H3 Qt Qf hr2 s3 ix3 ht _
        refine ⟨rfl, _, rfl, tCi (r_row0 ix3 ⟨_, rfl, tCi (r_row2 ix3 (r_tup (.cons (.str r.1) (.cons (.int r.2.2) .nil)) (by show 2 ≤ 1000; decide) fun t nt it => ht rfl _ _ (Same.new nt) it))⟩)⟩
      · intro D3 H3 acc3 nD3 s3 e3 i3
        rw [filter_true] at i3
        refine r_dictP (gd := T.map fun r => (r.1, .int r.2.2)) e3 (by
          rw [List.map_map]
          exact i3) (by
          rw [List.map_map]
          exact ok.nd) fun kvs pr nr du => ?_
        generalize hH4 : upd H3 pr (.dK (mergeK [] kvs)) = H4 at du ⊢
        have s4 : Same H3 H4 := by
          rw [← hH4]
          exact Same.new nr
        clear hH4
        rw [rooms_gd ok] at du
        have s24 := s3.trans s4
        have s04 := s02.trans s24
        obtain ⟨au, us, rfl, hT, hA⟩ := id iu.tinv
        have := hA.ints
        subst this
        intro c nc
        have sc : Same H4 (upd H4 c (.dK [])) := Same.new nc
        have ec : upd H4 c (.dK []) c = some (.dK []) := upd_same
        have nc0 : H c = none := s04.free nc
        have nr0 : H pr = none := (s02.trans s3).free nr
        refine ⟨_, rfl, _, rfl, _, rfl, _, rfl, _, rfl, _, rfl, v, rfl, .ref au, rfl, T, s, v, au, rfl, iv.mono (.same (s04.trans sc)), .inr (hT.sm (s04.trans sc)), hl, ok, fun pd H5 s5 nd dd => ?_⟩
        have ec5 := s5 _ _ ec
        have s05 := (s04.trans sc).trans s5
        have s45 := sc.trans s5
        have nd0 : H pd = none := (s04.trans sc).free nd
        let z : CA := ⟨c, v, .ref au, x, pu, D, pr, pd, ad, acc⟩
        refine ⟨ec5, ckvs z, rfl, by show 7 ≤ 15; decide, ?_⟩
        have s6 : Same H (upd H5 c (.dK (ckvs z))) := Same.mut s05 nc0
        have s46 : Same H4 (upd H5 c (.dK (ckvs z))) := Same.mut s45 nc
        refine q z _ s6 ⟨upd_same, iv.mono (.same s6), iu.mono (.same s6), ix.mono (.same s6), fx.sm s6, (tb.same (s2.trans s24)).same s46, s46 _ _ (s24 _ _ eD), Paired.mapP pr2 fun _ _ w => (w.same s24).same s46, du.same s46, ?_⟩ fun p o e => ⟨(ne_of_none e nc0).symm, (ne_of_none e nu).symm, (ne_of_none e nr0).symm, (ne_of_none e nd0).symm⟩
        obtain ⟨k, ed, id⟩ := dd
        have ndc : pd ≠ c := fun z => by
          rw [z, ec] at nd
          cases nd
        exact ⟨k, (upd_ne ndc).trans ed, id.mono (.dk ec5)⟩
end
end RW
end
section
set_option linter.all false
set_option maxRecDepth 100000
set_option autoImplicit false
set_option maxHeartbeats 1000000
/-! ==, !=, in, not in of plain data. -/
namespace RW
open PySem PySem.Spec PyProof.Rows L2
section
variable {X : Cx}
def rEqP (K : PySem.W.Frag) : R2 := fun x y H Q => ∃ d e, Dp K H x d ∧ Dp K H y e ∧ d.plain = true ∧ e.plain = true ∧ min d.depth e.depth ≤ 60 ∧ Q (.bl (PyData.eqv d e)) H
def rNeP (K : PySem.W.Frag) : R2 := fun x y H Q => ∃ d e, Dp K H x d ∧ Dp K H y e ∧ d.plain = true ∧ e.plain = true ∧ min d.depth e.depth ≤ 60 ∧ Q (.bl (!PyData.eqv d e)) H
theorem op_eqP (hu : X.A.units + 65 < cLine) : OpR X (compareOp .Eq) (rEqP X.K) := by
  intro pins s σ H x y v u Q I rx ry h
  obtain ⟨d, e, hd, he, sd, se, hm, q⟩ := h
  obtain ⟨as, r1⟩ := Dp.reads I d x v hd rx
  obtain ⟨bs, r2⟩ := Dp.reads I e y u he ry
  exact PySem.SeqAt.eq_plain r1 r2 sd se (by omega) ⟨.bl _, H, I, rfl, q⟩
theorem op_neP (hu : X.A.units + 65 < cLine) : OpR X (compareOp .NotEq) (rNeP X.K) := by
  intro pins s σ H x y v u Q I rx ry h
  obtain ⟨d, e, hd, he, sd, se, hm, q⟩ := h
  obtain ⟨as, r1⟩ := Dp.reads I d x v hd rx
  obtain ⟨bs, r2⟩ := Dp.reads I e y u he ry
  exact PySem.SeqAt.ne_plain r1 r2 sd se (by omega) ⟨.bl _, H, I, rfl, q⟩
def rInP (K : PySem.W.Frag) : R2 := fun x y H Q => ∃ d ds, Dp K H x d ∧ Dp K H y (.list ds) ∧ d.plain = true ∧ PyData.plainAll ds = true ∧ d.depth ≤ 60 ∧ Q (.bl (ds.any fun z => PyData.eqv z d)) H
def rNotInP (K : PySem.W.Frag) : R2 := fun x y H Q => ∃ d ds, Dp K H x d ∧ Dp K H y (.list ds) ∧ d.plain = true ∧ PyData.plainAll ds = true ∧ d.depth ≤ 60 ∧ Q (.bl (!ds.any fun z => PyData.eqv z d)) H
theorem op_inP (hu : X.A.units + 65 < cLine) : OpR X (compareOp .In) (rInP X.K) := by
  intro pins s σ H x y v u Q I rx ry h
  obtain ⟨d, e, hd, he, sd, se, hm, q⟩ := h
  obtain ⟨as, r1⟩ := Dp.reads I d x v hd rx
  obtain ⟨bs, r2⟩ := Dp.reads I (.list e) y u he ry
  exact PySem.SeqAt.in_list_data r2 r1 se sd (by omega) ⟨.bl _, H, I, rfl, q⟩
theorem op_notInP (hu : X.A.units + 65 < cLine) : OpR X (compareOp .NotIn) (rNotInP X.K) := by
  intro pins s σ H x y v u Q I rx ry h
  obtain ⟨d, e, hd, he, sd, se, hm, q⟩ := h
  obtain ⟨as, r1⟩ := Dp.reads I d x v hd rx
  obtain ⟨bs, r2⟩ := Dp.reads I (.list e) y u he ry
  exact PySem.SeqAt.notIn_list_data r2 r1 se sd (by omega) ⟨.bl _, H, I, rfl, q⟩
end
section
variable {K : PySem.W.Frag} {H : Hp} {Q : VK}
theorem eqv_nil (l : List PyData) : PyData.eqv (.list l) (.list []) = decide (l = []) := by
  cases l with
  | nil => rfl
  | cons a l => rfl
theorem plain_mv (m : Str × Str) : (dMv m).plain = true := rfl
theorem depth_mv (m : Str × Str) : (dMv m).depth ≤ 60 := by
  unfold dMv
  simp [PyData.depthAll, PyData.depth]
/-- a list == [] -/
theorem r_eqNil {a b : Addr} {xs : List V} {ds : List PyData} (e : H a = some (.lst xs)) (i : ImA H xs ds) (n : H b = some (.lst [])) (hp : PyData.plainAll ds = true) (q : Q (.bl (decide (ds = []))) H) : rEqP K (.ref a) (.ref b) H Q := by
  refine ⟨.list ds, .list [], .lst (.inl (.inl e)) i.dp, .lst (.inl (.inl n)) .nil, hp, rfl, ?_, ?_⟩
  · have : (PyData.list []).depth ≤ 60 := by decide
    omega
  · rw [eqv_nil]
    exact q
theorem r_neNil {a b : Addr} {xs : List V} {ds : List PyData} (e : H a = some (.lst xs)) (i : ImA H xs ds) (n : H b = some (.lst [])) (hp : PyData.plainAll ds = true) (q : Q (.bl (!decide (ds = []))) H) : rNeP K (.ref a) (.ref b) H Q := by
  refine ⟨.list ds, .list [], .lst (.inl (.inl e)) i.dp, .lst (.inl (.inl n)) .nil, hp, rfl, ?_, ?_⟩
  · have : (PyData.list []).depth ≤ 60 := by decide
    omega
  · rw [eqv_nil]
    exact q
theorem any_mv (ms : List (Str × Str)) (m : Str × Str) : ((ms.map dMv).any fun z => PyData.eqv z (dMv m)) = decide (m ∈ ms) := by
  induction ms with
  | nil => rfl
  | cons a ms ih =>
    rw [List.map_cons, List.any_cons, ih, eqv_mv, ← Bool.decide_or]
    refine decide_eq_decide.mpr ?_
    rw [List.mem_cons]
    exact ⟨fun h => h.imp Eq.symm id, fun h => h.imp Eq.symm id⟩
/-- a move in a list of moves -/
theorem r_inM {a : Addr} {x : V} {xs : List V} {ms : List (Str × Str)} {m : Str × Str} (e : H a = some (.lst xs)) (i : ImA H xs (ms.map dMv)) (ix : Im H x (dMv m)) (q : Q (.bl (decide (m ∈ ms))) H) : rInP K x (.ref a) H Q := by
  refine ⟨dMv m, ms.map dMv, ix.dp, .lst (.inl (.inl e)) i.dp, rfl, plain_mvs ms, depth_mv m, ?_⟩
  rw [any_mv]
  exact q
theorem r_notInM {a : Addr} {x : V} {xs : List V} {ms : List (Str × Str)} {m : Str × Str} (e : H a = some (.lst xs)) (i : ImA H xs (ms.map dMv)) (ix : Im H x (dMv m)) (q : Q (.bl (!decide (m ∈ ms))) H) : rNotInP K x (.ref a) H Q := by
  refine ⟨dMv m, ms.map dMv, ix.dp, .lst (.inl (.inl e)) i.dp, rfl, plain_mvs ms, depth_mv m, ?_⟩
  rw [any_mv]
  exact q
end
end RW
end
section
set_option linter.all false
set_option maxRecDepth 100000
set_option autoImplicit false
set_option maxHeartbeats 1000000
/-! _law_has_place, _law_misfits, _law_held. -/
namespace RW
open PySem PySem.Spec PyProof.Rows L2
abbrev s__law_misfits : Stmt := topS 84
abbrev N__law_misfits : List Str := ["_law_case_here", "_law_loads", "_law_deed", "_law_gains", "_law_losses", "_law_row"]
theorem sc__law_misfits : FnScope N__law_misfits ["_law_case_here"] (defScope s__law_misfits) := ⟨rfl, rfl, rfl, by decide +kernel, rfl, by decide +kernel, by decide +kernel⟩
abbrev s__law_held : Stmt := topS 90
abbrev N__law_held : List Str := ["_law_case_here", "_law_waits_here", "_law_found", "_law_deed"]
theorem sc__law_held : FnScope N__law_held ["_law_case_here", "_law_waits_here"] (defScope s__law_held) := ⟨rfl, rfl, rfl, by decide +kernel, rfl, by decide +kernel, by decide +kernel⟩

theorem Paired.getP {α β : Type} {F : α → β → Prop} : ∀ {l : List α} {m : List β} {i : Nat} {a : α} {b : β}, Paired F l m → l[i]? = some a → m[i]? = some b → F a b
  | _, _, 0, _, _, .cons h _, e1, e2 => by
    cases e1
    cases e2
    exact h
  | _, _, i + 1, _, _, .cons _ h, e1, e2 => Paired.getP (i := i) h e1 e2
  | _, _, 0, _, _, .nil, e1, _ => by cases e1
  | _, _, _ + 1, _, _, .nil, e1, _ => by cases e1
/-- over case['ways'] -/
theorem forW {K : PySem.W.Frag} {g : TG} {tb : TS} {E : L2.Ends} {σ : L2.St} {H1 : Hp} {T : List Row} {s : List Int} {L : List (Str × Str)} {z : CA} (ch : CaseH T s L H1 z) (Pv : Nat → L2.St → Hp → Prop) (h0 : Pv 0 σ H1) (hk : ∀ i σ H, Pv i σ H → CaseH T s L H z)
    (hs : ∀ i m x σ H, L[i]? = some m → Pv i σ H → WayIt T H x m → g x σ H fun σ2 H2 => tb { E with nx := Pv (i + 1), ct := Pv (i + 1), bk := E.nx } σ2 H2)
    (hd : ∀ σ H, Pv L.length σ H → E.nx σ H) : ∃ b, V.ref z.lw = .ref b ∧ (∃ xs, SqL K H1 b xs) ∧ ForR (Itl K b) g tb E σ H1 := by
  have hl : z.ws.length = L.length := Paired.length ch.ws
  refine ⟨z.lw, rfl, ⟨z.ws, .inl (.inl ch.wl)⟩, for_it walk_list Pv h0 (fun i σ H _ p => .inl (.inl (hk i σ H p).wl)) ?_ (by rw [hl]; exact hd)⟩
  rintro i x σ' H H' hi p ⟨rfl, ex⟩
  have e : L[i]? = some (L[i]'(by omega)) := List.getElem?_eq_getElem (by omega)
  exact hs i _ x σ' _ e p (Paired.getP (hk i σ' _ p).ws ex e)
theorem g_way {K : PySem.W.Frag} {T : List Row} {H : Hp} {x : V} {m : Str × Str} {i j k : Nat} {σ : L2.St} {Q : L2.St → Hp → Prop} (h : WayIt T H x m) (q : ∀ dv g l, Im H dv (dMv m) → H g = some (.lst ((gains T m).map .str)) → H l = some (.lst ((gains T (m.2, m.1)).map .str)) → Q (((σ.set i (some dv)).set j (some (.ref g))).set k (some (.ref l))) H) :
    gTup K 3 (gCons (gName i) (gCons (gName j) (gCons (gName k) gNil))) x σ H Q := by
  obtain ⟨t, dv, g, l, rfl, h1, h2, h3, h4⟩ := h
  exact ⟨t, _, rfl, .inl h1, rfl, _, _, rfl, _, _, rfl, _, _, rfl, rfl, q dv g l h2 h3 h4⟩
section
variable {P : Program} {w : World} {K : PySem.W.Frag} {mg : Str → Option Value} {base : Heap}
def sp__law_has_place : Sp := fun vs H Q _ => ∃ (T : List Row) (s : List Int) (L : List (Str × Str)) (z : CA) (f : Str → Int) (p a : Addr) (l : List Str), vs = [.ref z.c, .ref p, .ref a] ∧ CaseH T s L H z ∧ DL H p (gInts T f) ∧ H a = some (.lst (l.map .str)) ∧ (∀ x, x ∈ l → x ∈ names T) ∧ l.length ≤ 20 ∧
  ∀ H', Same H H' → Q (.bl (decide (∀ x, x ∈ l → f x < room T x))) H'
theorem ok__law_has_place (Tx : Txt mg) (hf : Has K mg "_law_has_place" s__law_has_place) : OkF P w K mg base "_law_has_place" ["_law_case_here", "_law_loads", "_law_boxes"] 1 sp__law_has_place := by
  refine Has.ok hf sc__law_has_place (fun _ _ _ _ _ _ us hl => match us, hl with | [_, _, _], _ => rfl) (fun vs H Q E h => ?_) (fun f cdv A outer sh H vs Q E hr h => ?_)
  · obtain ⟨T, s, L, z, f, p, a, l, rfl, _⟩ := h
    rfl
  · obtain ⟨T, s, L, z, g, p, a, l, rfl, ch, dp, ea, hl, hz, q⟩ := h
    have hu := hu_of hr
    have hu65 : (A.deeper (envOfC "_law_has_place" (defScope s__law_has_place) sh.heap.objs.size f cdv)).units + 65 < cLine := by
      have := hr.un
      omega
    refine ⟨_, (pss_one (ps_ret (pe_cmpR (op_eqP hu65) (pe_lc (own := [("_law_box", 3)]) (g := (gName 3)) rfl sc__law_has_place.nd (pi_list (pv 2)) (blkOk_by (own := [("_law_box", 3)]) (N := N__law_has_place) (sc := defScope s__law_has_place) (by decide +kernel)) (fun _ _ _ _ _ => (pg_name (i := 3) sc__law_has_place.nd rfl (.inl rfl))) (fun _ _ _ _ _ => pts_one (pt_cmpR op_ge (pe_dget hu (pv 1) (pv 3) (fun _ _ => rfl)) (pe_dget hu (pe_dget hu (pv 0) pe_str (fun _ _ => rfl)) (pv 3) (fun _ _ => rfl)) (nomark _))) (fun _ _ _ _ _ => (pv 3))) (pe_lst pa_nil) (nomark _)))), ?_⟩
    refine ⟨_, rfl, lcL (ds := l) (enc := PyData.str) ea (ImA.ofStrs _) (by omega) (fun x => decide (g x ≥ room T x)) PyData.str ?_ ?_⟩
    · intro x y H2 Qt Qf hx s2 iy ht hf'
      rw [iy.sinv]
      have hxn := hl x hx
      have ch2 := ch.same s2
      refine ⟨rfl, _, rfl, _, rfl, r_get (dp.same s2) (gInts_look hxn) fun v1 i1 => ?_⟩
      rw [i1.iinv]
      refine ⟨_, rfl, z.c, _, rfl, c_get ch2.at_ ck_rooms, _, rfl, r_get ch2.rooms (gInts_look hxn) fun v2 i2 => ?_⟩
      rw [i2.iinv]
      refine ⟨_, _, rfl, rfl, _, rfl, ?_⟩
      by_cases e : g x ≥ room T x
      · exact iteP (decide_eq_true e) ⟨_, rfl, ht (decide_eq_true e) _ _ (Same.refl _) (.str x)⟩
      · exact iteN (decide_eq_false e) (hf' (decide_eq_false e) _ (Same.refl _))
    · intro D H2 acc nD s2 e2 i2
      have := i2.strs
      subst this
      refine ⟨Nat.zero_le _, fun l2 nl => ?_⟩
      have s3 : Same H2 (upd H2 l2 (.lst [])) := Same.new nl
      have e : decide ((l.filter fun x => decide (g x ≥ room T x)) = []) = decide (∀ x, x ∈ l → g x < room T x) := by
        refine decide_eq_decide.mpr ?_
        rw [List.filter_eq_nil_iff]
        constructor
        · intro h x hx
          have := h x hx
          simp at this
          exact this
        · intro h x hx
          have := h x hx
          simp
          exact this
      refine r_eqNil (s3 _ _ e2) (ImA.ofStrs _) upd_same (plain_strs _) ?_
      have e' : decide ((l.filter fun x => decide (g x ≥ room T x)).map PyData.str = []) = decide (∀ x, x ∈ l → g x < room T x) := by
        rw [← e]
        exact decide_eq_decide.mpr List.map_eq_nil_iff
      rw [e']
      exact q _ (s2.trans s3)
def sp__law_misfits : Sp := fun vs H Q _ => ∃ (T : List Row) (s : List Int) (L : List (Str × Str)) (z : CA), vs = [.ref z.c] ∧ CaseH T s L H z ∧ TreeOk T ∧ (∀ m, m ∈ L → MvOk T m) ∧ L.length ≤ 60 ∧
  ∀ l (ms : List Str) H', Same H H' → H l = none → H' l = some (.lst (ms.map .str)) → Q (.ref l) H'
theorem ok__law_misfits (Tx : Txt mg) (F__law_shift : OkF P w K mg base "_law_shift" ["_law_loads", "_law_gains", "_law_losses"] 1 sp__law_shift) (hf : Has K mg "_law_misfits" s__law_misfits) : OkF P w K mg base "_law_misfits" ["_law_case_here"] 2 sp__law_misfits := by
  refine Has.ok hf sc__law_misfits (fun _ _ _ _ _ _ us hl => match us, hl with | [_], _ => rfl) (fun vs H Q E h => ?_) (fun f cdv A outer sh H vs Q E hr h => ?_)
  · obtain ⟨T, s, L, z, rfl, _⟩ := h
    rfl
  · obtain ⟨T, s, L, z, rfl, ch, ok, mo, hL, q⟩ := h
    have hu := hu_of hr
    have hz := ok.len
    refine ⟨_, (pss_cons (ps_set (i := 1) sc__law_misfits.nd rfl (.inr rfl) (pe_dget hu (pv 0) pe_str (fun _ _ => rfl)))
  (pss_cons (ps_for PassesOwn.never rfl (pi_list (pe_dget hu (pv 0) pe_str (fun _ _ => rfl))) (pg_tup rfl (pgs_cons (pg_name (i := 2) sc__law_misfits.nd rfl (.inl rfl)) (pgs_cons (pg_name (i := 3) sc__law_misfits.nd rfl (.inl rfl)) (pgs_cons (pg_name (i := 4) sc__law_misfits.nd rfl (.inl rfl)) pgs_nil)))) (pss_one (ps_set (i := 1) sc__law_misfits.nd rfl (.inr rfl) (pe_c F__law_shift (hr.mono (by decide)) (pa_cons (pv 1) (pa_cons (pv 3) (pa_cons (pv 4) pa_nil)))))))
  (pss_one (ps_ret (pe_lc (own := [("_law_row", 5)]) (g := (gName 5)) rfl sc__law_misfits.nd (pi_tup (pe_dget hu (pv 0) pe_str (fun _ _ => rfl))) (blkOk_by (own := [("_law_row", 5)]) (N := N__law_misfits) (sc := defScope s__law_misfits) (by decide +kernel)) (fun _ _ _ _ _ => (pg_name (i := 5) sc__law_misfits.nd rfl (.inl rfl))) (fun _ _ _ _ _ => pts_one (pt_cmpR op_gt (pe_dget hu (pv 1) (pe_ix (show IxR _ (rIxT K) from ix_tup) (pv 5) pe_int (fun _ _ => rfl)) (fun _ _ => rfl)) (pe_ix (show IxR _ (rIxT K) from ix_tup) (pv 5) pe_int (fun _ _ => rfl)) (nomark _))) (fun _ _ _ _ _ => (pe_ix (show IxR _ (rIxT K) from ix_tup) (pv 5) pe_int (fun _ _ => rfl)))))))), ?_⟩
    refine ⟨_, rfl, z.c, _, rfl, c_get ch.at_ ck_used, ?_⟩
    refine ⟨_, rfl, z.c, _, rfl, c_get ch.at_ ck_ways, forW ch (fun i σ H' => ∃ pl g y2 y3 y4 y5, σ = [some (.ref z.c), some (.ref pl), y2, y3, y4, y5] ∧ Same H H' ∧ DL H' pl (gInts T g)) ⟨z.pd, _, none, none, none, none, rfl, Same.refl _, ch.used⟩ (fun i σ H' h => by
      obtain ⟨_, _, _, _, _, _, _, sm, _⟩ := h
      exact ch.same sm) ?_ ?_⟩
    · rintro i m x σ H' e ⟨pl, g, y2, y3, y4, y5, rfl, sm, dl⟩ wi
      refine g_way wi fun dv ga lo i1 e1 e2 => ?_
      have hm := mo m (List.mem_of_getElem? e)
      refine ⟨_, rfl, _, rfl, _, rfl, T, g, _, _, pl, ga, lo, rfl, dl, e1, e2, hz, fun x hx => gains_in ok hx, fun x hx => gains_in ok hx, fun p' H2 s2 np d2 => ?_⟩
      exact ⟨p', _, _, _, _, _, rfl, sm.trans s2, d2⟩
    · rintro σ H' ⟨pl, g, y2, y3, y4, y5, rfl, sm, dl⟩
      have ch2 := ch.same sm
      refine ⟨_, rfl, z.c, _, rfl, c_get ch2.at_ ck_grove, lcT (ds := T) (enc := dRow) ch2.gv (by omega) (fun r => decide (g r.1 > r.2.2)) (fun r => .str r.1) ?_ ?_⟩
      · intro r x H2 Qt Qf hr s2 ix ht hf'
        have hrn : r.1 ∈ names T := List.mem_map_of_mem hr
        refine ⟨rfl, _, rfl, _, rfl, tCi (r_row0 ix (r_get (dl.same s2) (gInts_look hrn) fun v1 i1 => ?_))⟩
        rw [i1.iinv]
        refine ⟨_, rfl, tCi (r_row2 ix ⟨_, _, rfl, rfl, _, rfl, ?_⟩)⟩
        by_cases e : g r.1 > r.2.2
        · exact iteP (decide_eq_true e) ⟨_, rfl, tCi (r_row0 ix (ht (decide_eq_true e) _ _ (Same.refl _) (.str _)))⟩
        · exact iteN (decide_eq_false e) (hf' (decide_eq_false e) _ (Same.refl _))
      · intro D H2 acc nD s2 e2 i2
        rw [show (T.filter fun r => decide (g r.1 > r.2.2)).map (fun r => PyData.str r.1) = ((T.filter fun r => decide (g r.1 > r.2.2)).map (·.1)).map .str by rw [List.map_map]; rfl] at i2
        have := i2.strs
        subst this
        exact q D _ H2 (sm.trans s2) (sm.free nD) e2
end
end RW
end
section
set_option linter.all false
set_option maxRecDepth 100000
set_option autoImplicit false
set_option maxHeartbeats 1000000
/-! _law_held, _law_waits. -/
namespace RW
open PySem PySem.Spec PyProof.Rows L2
abbrev s__law_waits : Stmt := topS 91
abbrev N__law_waits : List Str := ["_law_feed_here", "_law_case_here", "_law_waits_here", "_law_deed", "_law_held_here", "_law_gains"]
theorem sc__law_waits : FnScope N__law_waits ["_law_feed_here", "_law_case_here"] (defScope s__law_waits) := ⟨rfl, rfl, rfl, by decide +kernel, rfl, by decide +kernel, by decide +kernel⟩

theorem pi_or {X : Cx} {tg it : Expr} {w1 w2 : TI} (h1 : PI X tg it w1) (h2 : PI X tg it w2) : PI X tg it (fun σ H R => w1 σ H R ∨ w2 σ H R) :=
  ⟨fun pins s σ H R I h => h.elim (h1.run pins s σ H R I) (h2.run pins s σ H R I)⟩
theorem count_nd {l : List Str} (nd : l.Nodup) (f : Str) : ((l.count f : Nat) : Int) = if f ∈ l then 1 else 0 := by
  by_cases h : f ∈ l
  · have h1 := List.count_pos_iff.mpr h
    have h2 := List.nodup_iff_count.mp nd f
    rw [if_pos h]
    omega
  · rw [if_neg h, List.count_eq_zero.mpr h]
    rfl
theorem held_snoc {T : List Row} {s : List Int} (ok : TreeOk T) (A : List (Str × Str)) (m : Str × Str) (f : Str) : held T s (A ++ [m]) f = shifted (held T s A) (gains T m) [] f := by
  unfold shifted held gainN
  rw [count_nd (gains_nd ok m), List.map_append, List.sum_append]
  have e : (if f ∈ gains T m then (1 : Int) else 0) = if f ∈ ways T m.2 ∧ f ∉ ways T m.1 then 1 else 0 := by
    by_cases h : f ∈ gains T m
    · rw [if_pos h, if_pos (gains_mem.mp h)]
    · rw [if_neg h, if_neg fun z => h (gains_mem.mpr z)]
  rw [e]
  show _ + (_ + (_ + 0)) = _
  simp
  omega
section
variable {P : Program} {w : World} {K : PySem.W.Frag} {mg : Str → Option Value} {base : Heap}
def sp__law_held : Sp := fun vs H Q _ => ∃ (T : List Row) (s : List Int) (L A : List (Str × Str)) (z : CA) (a : Addr) (xs : List V), vs = [.ref z.c, .ref a] ∧ CaseH T s L H z ∧ TreeOk T ∧ (∀ m, m ∈ A → MvOk T m) ∧ Seq2 H a xs ∧ ImA H xs (A.map dMv) ∧
  ∀ p H', Same H H' → H p = none → DL H' p (gInts T (held T s A)) → Q (.ref p) H'
theorem ok__law_held (Tx : Txt mg) (F__law_in : OkF P w K mg base "_law_in" ["_law_ups_here", "_law_deed"] 1 sp__law_in) (F__law_shift : OkF P w K mg base "_law_shift" ["_law_loads", "_law_gains", "_law_losses"] 1 sp__law_shift) (hf : Has K mg "_law_held" s__law_held) :
    OkF P w K mg base "_law_held" ["_law_case_here", "_law_waits_here"] 2 sp__law_held := by
  refine Has.ok hf sc__law_held (fun _ _ _ _ _ _ us hl => match us, hl with | [_, _], _ => rfl) (fun vs H Q E h => ?_) (fun f cdv A outer sh H vs Q E hr h => ?_)
  · obtain ⟨T, s, L, B, z, a, xs, rfl, _⟩ := h
    rfl
  · obtain ⟨T, s, L, B, z, a, xs, rfl, ch, ok, mo, sq, ia, q⟩ := h
    have hu := hu_of hr
    have hz := ok.len
    refine ⟨_, (pss_cons (ps_set (i := 2) sc__law_held.nd rfl (.inl rfl) (pe_callTy call_dictD (by rfl) Tx.b_dict bb_dict (pa_cons (pe_dget hu (pv 0) pe_str (fun _ _ => rfl)) pa_nil)))
  (pss_cons (ps_for PassesOwn.never rfl (pi_or (pi_list (pv 1)) (pi_tup (pv 1))) (pg_name (i := 3) sc__law_held.nd rfl (.inl rfl)) (pss_one (ps_set (i := 2) sc__law_held.nd rfl (.inl rfl) (pe_c F__law_shift (hr.mono (by decide)) (pa_cons (pv 2) (pa_cons (pe_c F__law_in (hr.mono (by decide)) (pa_cons (pe_dget hu (pv 0) pe_str (fun _ _ => rfl)) (pa_cons (pv 3) pa_nil))) (pa_cons (pe_lst pa_nil) pa_nil)))))))
  (pss_one (ps_ret (pv 2))))), ?_⟩
    obtain ⟨kvs, ed, id⟩ := ch.used
    refine ⟨_, rfl, z.c, _, rfl, c_get ch.at_ ck_used, z.pd, kvs, rfl, .inl ed, fun p np => ?_⟩
    have s1 : Same H (upd H p (.dK kvs)) := Same.new np
    have d1 : DL (upd H p (.dK kvs)) p (gInts T (held T s [])) := ⟨kvs, upd_same, by
      rw [gInts_congr (g := use T s) fun n _ => by unfold held gainN; simp]
      exact id.mono (.same s1)⟩
    generalize upd H p (.dK kvs) = H1 at s1 d1
    let Pv : Nat → L2.St → Hp → Prop := fun i σ H' => ∃ p' y3, σ = [some (.ref z.c), some (.ref a), some (.ref p'), y3] ∧ Same H H' ∧ Same H1 H' ∧ H p' = none ∧ DL H' p' (gInts T (held T s (B.take i)))
    have h0 : Pv 0 [some (.ref z.c), some (.ref a), some (.ref p), none] H1 := ⟨p, none, rfl, s1, Same.refl _, np, d1⟩
    rcases sq with el | et
    case' inl => refine .inl ⟨_, rfl, forL (ds := B) (enc := dMv) (s1 _ _ el) (ia.mono (.same s1)) Pv h0 (fun i σ H' h => ?_) ?_ ?_⟩
    case' inr => refine .inr ⟨_, rfl, forT (ds := B) (enc := dMv) (.tup (et.sm s1) (ia.mono (.same s1))) Pv h0 (fun i σ H' h => ?_) ?_ ?_⟩
    case inl.refine_1 =>
      obtain ⟨p', y3, _, sm, s2, _⟩ := h
      exact ⟨.same s2, s2 _ _ (s1 _ _ el)⟩
    case inr.refine_1 =>
      obtain ⟨p', y3, _, sm, s2, _⟩ := h
      exact .same s2
    case inl.refine_3 | inr.refine_3 =>
      rintro σ H' ⟨p', y3, rfl, sm, s2, np', dl⟩
      rw [List.take_length] at dl
      exact ⟨_, rfl, q p' H' sm np' dl⟩
    case inl.refine_2 | inr.refine_2 =>
      rintro i m x σ H' e ⟨p', y3, rfl, sm, s2, np', dl⟩ ix
      have hm := mo m (List.mem_of_getElem? e)
      have ch2 := ch.same sm
      refine ⟨_, rfl, _, rfl, z.c, _, rfl, c_get ch2.at_ ck_ups, _, rfl, T, m, z.pu, z.ad, x, rfl, ch2.ups, ix, ok, hm, fun l H3 s3 nl el3 => ?_⟩
      refine ⟨Nat.zero_le _, fun l2 nl2 => ?_⟩
      have s4 : Same H3 (upd H3 l2 (.lst [])) := Same.new nl2
      refine ⟨T, held T s (B.take i), gains T m, [], p', l, l2, rfl, (dl.same s3).same s4, s4 _ _ el3, upd_same, hz, fun x hx => gains_in ok hx, (fun x hx => nomatch hx), fun p2 H5 s5 np2 d5 => ?_⟩
      have s35 := (s3.trans s4).trans s5
      refine ⟨p2, _, rfl, sm.trans s35, s2.trans s35, (sm.trans (s3.trans s4)).free np2, ?_⟩
      have et : B.take (i + 1) = B.take i ++ [m] := by rw [List.take_add_one, e]; rfl
      rw [et, gInts_congr fun n _ => held_snoc ok (B.take i) m n]
      exact d5
theorem DL.sx {H H' : Hp} {p q : Addr} {gd : Gd} {kv : List (Key × V)} (h : DL H q gd) (x : SameX p H H') (hp : H p = some (.dK kv)) (ne : q ≠ p) : DL H' q gd := by
  obtain ⟨kvs, e, i⟩ := h
  exact ⟨kvs, x _ _ ne e, i.mono (.sx hp (.dk _) x)⟩
/-- what _law_waits gives -/
structure WaitOk (T : List Row) (s : List Int) (L A : List (Str × Str)) : Prop where
  sub : A.Sublist L
  fit : ∀ f, f ∈ names T → held T s A f ≤ room T f
def sp__law_waits : Sp := fun vs H Q _ => ∃ (T : List Row) (s : List Int) (L : List (Str × Str)) (z : CA) (p a : Addr), vs = [.ref p, .ref z.c] ∧ Feed H p a ∧ CaseH T s L H z ∧ NotP p z ∧ TreeOk T ∧ (∀ m, m ∈ L → MvOk T m) ∧ L.length ≤ 60 ∧ (∀ f, f ∈ names T → use T s f ≤ room T f) ∧
  ∀ v H' A, SameX p H H' → Feed H' p a → Im H' v (dMvs A) → WaitOk T s L A → Q v H'
theorem ok__law_waits (Tx : Txt mg) (F__law_draw : OkF P w K mg base "_law_draw" ["_law_feed_here", "_law_many"] 1 sp__law_draw) (F__law_in : OkF P w K mg base "_law_in" ["_law_ups_here", "_law_deed"] 1 sp__law_in) (F__law_held : OkF P w K mg base "_law_held" ["_law_case_here", "_law_waits_here"] 2 sp__law_held)
    (F__law_has_place : OkF P w K mg base "_law_has_place" ["_law_case_here", "_law_loads", "_law_boxes"] 1 sp__law_has_place) (hf : Has K mg "_law_waits" s__law_waits) :
    OkF P w K mg base "_law_waits" ["_law_feed_here", "_law_case_here"] 3 sp__law_waits := by
  refine Has.ok hf sc__law_waits (fun _ _ _ _ _ _ us hl => match us, hl with | [_, _], _ => rfl) (fun vs H Q E h => ?_) (fun f cdv A outer sh H vs Q E hr h => ?_)
  · obtain ⟨T, s, L, z, p, a, rfl, _⟩ := h
    rfl
  · obtain ⟨T, s, L, z, p, a, rfl, fd, ch, np, ok, mo, hL, hfit, q⟩ := h
    have hu := hu_of hr
    refine ⟨_, (pss_cons (ps_set (i := 2) sc__law_waits.nd rfl (.inl rfl) (pe_lst pa_nil))
  (pss_cons (ps_for PassesOwn.never rfl (pi_tup (pe_dget hu (pv 1) pe_str (fun _ _ => rfl))) (pg_name (i := 3) sc__law_waits.nd rfl (.inl rfl)) (pss_cons (ps_par (i := 4) (j := 5) (by rfl) sc__law_waits.nd rfl rfl (by decide) rfl rfl (pa_cons (pe_c F__law_held (hr.mono (by decide)) (pa_cons (pv 1) (pa_cons (pv 2) pa_nil))) (pa_cons (pe_c F__law_in (hr.mono (by decide)) (pa_cons (pe_dget hu (pv 1) pe_str (fun _ _ => rfl)) (pa_cons (pv 3) pa_nil))) pa_nil)) (by rfl))
  (pss_one (ps_if (PW.pt (pw_and (pt_cmpR op_eq (pe_c F__law_draw (hr.mono (by decide)) (pa_cons (pv 0) (pa_cons pe_int pa_nil))) pe_int (nomark _)) (pw_and1 (pt_val (pe_c F__law_has_place (hr.mono (by decide)) (pa_cons (pv 1) (pa_cons (pv 4) (pa_cons (pv 5) pa_nil)))))))) (pss_one (ps_expr (pe_bm PySem.F.plainAttrs_list PySem.F.slot_list_append PySem.F.type_list_append mt_append (pv 2) (pa_cons (pv 3) pa_nil)))) pss_nil))))
  (pss_one (ps_ret (pe_callTy cr_tupF (by rfl) Tx.b_tuple bb_tuple (pa_cons (pv 2) pa_nil)))))), ?_⟩
    have hz := ok.len
    refine ⟨Nat.zero_le _, fun lq nq => ?_⟩
    have s1 : Same H (upd H lq (.lst [])) := Same.new nq
    have e1 : upd H lq (.lst []) lq = some (.lst []) := upd_same
    generalize upd H lq (.lst []) = H1 at s1 e1
    have fd1 := fd.same s1
    have ch1 := ch.same s1
    have qp : lq ≠ p := (fd.np nq).1.symm
    have qa : lq ≠ a := (fd.np nq).2.symm
    obtain ⟨_, _, _, _, hp, _⟩ := id fd
    obtain ⟨ab, bs, hbv, hT, hA⟩ := id ch1.bv.tinv
    have ktX : ∀ {H'}, SameX p H H' → KT H H' := fun sx => .sx hp (.dk _) sx
    refine ⟨_, rfl, z.c, _, rfl, c_get ch1.at_ ck_batch, forT (ds := L) (enc := dMv) ch1.bv (fun i σ H' => ∃ zs C y3 y4 y5, σ = [some (.ref p), some (.ref z.c), some (.ref lq), y3, y4, y5] ∧ SameX p H H' ∧ KT H1 H' ∧ Feed H' p a ∧ H' lq = some (.lst zs) ∧ ImA H' zs (C.map dMv) ∧ C.Sublist (L.take i) ∧ ∀ f, f ∈ names T → held T s C f ≤ room T f)
      ⟨[], [], none, none, none, rfl, SameX.of s1, KT.refl _, fd1, e1, .nil, .slnil, fun f hf => by
        unfold held gainN
        simpa using hfit f hf⟩ (fun i σ H' h => by
      obtain ⟨_, _, _, _, _, _, _, k, _⟩ := h
      exact k) ?_ ?_⟩
    · rintro i m x σ H' e ⟨zs, C, y3, y4, y5, rfl, sx, kt, fdi, eq, ic, sub, hf⟩ ix
      have hmL := List.mem_of_getElem? e
      have hm := mo m hmL
      have hi : i < L.length := (List.getElem?_eq_some_iff.mp e).1
      have chi := ch.sx sx hp np
      have hC : ∀ m, m ∈ C → MvOk T m := fun m hm => mo m (List.mem_of_mem_take (sub.subset hm))
      have et : L.take (i + 1) = L.take i ++ [m] := by rw [List.take_add_one, e]; rfl
      have hlC : C.length ≤ i := by
        have := sub.length_le
        rw [List.length_take] at this
        omega
      have next : ∀ (H2 : Hp) (y4 y5 : Option V), SameX p H H2 → KT H1 H2 → Feed H2 p a → H2 lq = some (.lst zs) → ImA H2 zs (C.map dMv) → ∃ zs C y3' y4' y5', [some (.ref p), some (.ref z.c), some (.ref lq), some x, y4, y5] = [some (V.ref p), some (.ref z.c), some (.ref lq), y3', y4', y5'] ∧ SameX p H H2 ∧ KT H1 H2 ∧ Feed H2 p a ∧ H2 lq = some (.lst zs) ∧ ImA H2 zs (C.map dMv) ∧ C.Sublist (L.take (i + 1)) ∧ ∀ f, f ∈ names T → held T s C f ≤ room T f := fun H2 y4 y5 a1 a2 a3 a4 a5 =>
        ⟨zs, C, _, _, _, rfl, a1, a2, a3, a4, a5, by rw [et]; exact sub.trans (List.sublist_append_left _ _), hf⟩
      refine ⟨_, rfl, _, rfl, T, s, L, C, z, lq, zs, rfl, chi, ok, hC, .inl eq, ic, fun ph H2 s2 nph dh => ?_⟩
      have ch2 := chi.same s2
      refine ⟨_, rfl, z.c, _, rfl, c_get ch2.at_ ck_ups, _, rfl, T, m, z.pu, z.ad, x, rfl, ch2.ups, ix.mono (.same s2), ok, hm, fun lg H3 s3 nlg eg => ?_⟩
      refine ⟨_, _, rfl, ?_⟩
      have s23 := s2.trans s3
      have sx3 := sx.trans (SameX.of s23)
      have nphp : ph ≠ p := ((fdi.np nph).1).symm
      obtain ⟨_, _, _, _, hp3, _⟩ := id (fdi.same s23)
      refine ⟨_, rfl, p, a, 2, rfl, fdi.same s23, by decide, by decide, fun r H4 sx4 fd4 h0 h1 => ⟨rfl, _, rfl, ?_⟩⟩
      have kt34 : KT H3 H4 := .sx hp3 (.dk _) sx4
      have sx04 := sx3.trans sx4
      have kt4 := (kt.trans (.same s23)).trans kt34
      have eq4 := sx4 _ _ qp (s23 _ _ eq)
      have ic4 := (ic.mono (.same s23)).mono kt34
      by_cases hr0 : V.int r = V.int 0
      case neg => exact iteN (decide_eq_false hr0) (iteN rfl (next H4 _ _ sx04 kt4 fd4 eq4 ic4))
      refine iteP (decide_eq_true hr0) ?_
      have dh4 := (dh.same s3).sx sx4 hp3 nphp
      have eg4 : H4 lg = some (.lst ((gains T m).map .str)) := sx4 _ _ (((fdi.same s2).np nlg).1).symm eg
      refine ⟨_, rfl, _, rfl, _, rfl, T, s, L, z, held T s C, ph, lg, gains T m, rfl, ch.sx sx04 hp np, dh4, eg4, fun x hx => gains_in ok hx, gains_len ok m, fun H5 s5 => ⟨_, rfl, ?_⟩⟩
      have sx5 := sx04.trans (SameX.of s5)
      have kt5 := kt4.trans (.same s5)
      have eq5 := s5 _ _ eq4
      have ic5 := ic4.mono (.same s5)
      by_cases hpl : ∀ x, x ∈ gains T m → held T s C x < room T x
      case neg =>
        exact iteN (decide_eq_false hpl) (next H5 _ _ sx5 kt5 (fd4.same s5) eq5 ic5)
      refine iteP (decide_eq_true hpl) ⟨_, rfl, .inl ⟨rfl, _, .inl (.inl eq5)⟩, _, rfl, lq, zs, x, rfl, rfl, eq5, small1000 (by have := ic5.len; rw [List.length_map] at this; omega), ?_⟩
      have k6 : KT H5 (upd H5 lq (.lst (zs ++ [x]))) := .lst eq5
      refine ⟨zs ++ [x], C ++ [m], _, _, _, rfl, sx5.mutN nq, kt5.trans k6, (fd4.same s5).other qp.symm qa.symm, upd_same, ?_, by rw [et]; exact sub.append (List.Sublist.refl _), fun f hf' => ?_⟩
      · rw [List.map_append]
        exact (ic5.mono k6).app (.cons ((((ix.mono (.same s23)).mono kt34).mono (.same s5)).mono k6) .nil)
      · rw [held_snoc ok]
        unfold shifted
        rw [count_nd (gains_nd ok m)]
        by_cases hg : f ∈ gains T m
        · have := hpl f hg
          rw [if_pos hg]
          simp
          omega
        · have := hf f hf'
          rw [if_neg hg]
          simpa using this
    · rintro σ H' ⟨zs, C, y3, y4, y5, rfl, sx, kt, fdi, eq, ic, sub, hf⟩
      rw [List.take_length] at sub
      refine ⟨_, rfl, r_tupF eq ic fun l H2 s2 nl fz i2 => q _ H2 C (sx.trans (SameX.of s2)) (fdi.same s2) i2 ⟨sub, hf⟩⟩
end
end RW
end
section
set_option linter.all false
set_option autoImplicit false
/-! States of all moves: each waits unasked (0), is asked (1), is done (2). -/
namespace RR
variable {N : Type} [DecidableEq N] {W : N → List N} {r u : N → Int}
/-- what f holds -/
def hold (W : N → List N) (u : N → Int) (Z : List (Mv N × Nat)) (f : N) : Int :=
  u f + (Z.map fun p => (if 0 < p.2 ∧ (f ∈ W p.1.2 ∧ f ∉ W p.1.1) then (1 : Int) else 0) - (if p.2 = 2 ∧ (f ∈ W p.1.1 ∧ f ∉ W p.1.2) then 1 else 0)).sum
def busy (Z : List (Mv N × Nat)) : List (Mv N) := (Z.filter fun p => decide (0 < p.2)).map (·.1)
def idle (Z : List (Mv N × Nat)) : List (Mv N) := (Z.filter fun p => decide (p.2 = 0)).map (·.1)
def Step1 (W : N → List N) (r u : N → Int) (Z Z' : List (Mv N × Nat)) : Prop :=
  ∃ X Y m k, Z = X ++ (m, k) :: Y ∧ Z' = X ++ (m, k + 1) :: Y ∧ (k = 1 ∨ (k = 0 ∧ ∀ f, ent W m f → hold W u Z f < r f))
theorem busy_split (X Y : List (Mv N × Nat)) (m : Mv N) (k : Nat) : busy (X ++ (m, k) :: Y) = busy X ++ (if 0 < k then [m] else []) ++ busy Y := by
  unfold busy
  rw [List.filter_append, List.map_append, List.filter_cons]
  by_cases h : 0 < k
  · simp [h]
  · simp [h]
theorem idle_split (X Y : List (Mv N × Nat)) (m : Mv N) (k : Nat) : idle (X ++ (m, k) :: Y) = idle X ++ (if k = 0 then [m] else []) ++ idle Y := by
  unfold idle
  rw [List.filter_append, List.map_append, List.filter_cons]
  by_cases h : k = 0
  · simp [h]
  · simp [h]
/-- endU of the busy ones is at most what is held -/
theorem endU_hold : ∀ (Z : List (Mv N × Nat)) (u : N → Int) (f : N), (∀ p, p ∈ Z → p.2 ≤ 2) → endU W u (busy Z) f ≤ hold W u Z f := by
  intro Z u f hz
  rw [endU_eq]
  unfold hold
  refine Int.add_le_add_left ?_ _
  induction Z with
  | nil => exact Int.le_refl _
  | cons p Z ih =>
    have h1 := ih fun q hq => hz q (List.mem_cons_of_mem _ hq)
    rw [List.map_cons, List.sum_cons]
    unfold busy at h1 ⊢
    rw [List.filter_cons]
    by_cases h : 0 < p.2
    · simp only [h, decide_true, if_true, List.map_cons, List.sum_cons]
      refine Int.add_le_add ?_ h1
      unfold d
      by_cases a : f ∈ W p.1.2 <;> by_cases b : f ∈ W p.1.1 <;> by_cases c : p.2 = 2 <;> simp [a, b, c]
    · have h0 : p.2 = 0 := by omega
      simp only [h0, Nat.lt_irrefl, decide_false]
      simp
      simpa using h1
theorem hold_even : ∀ (Z : List (Mv N × Nat)) (u : N → Int) (f : N), (∀ p, p ∈ Z → p.2 = 0 ∨ p.2 = 2) → hold W u Z f = endU W u (busy Z) f := by
  intro Z u f hz
  rw [endU_eq]
  unfold hold
  congr 1
  induction Z with
  | nil => rfl
  | cons p Z ih =>
    have h1 := ih fun q hq => hz q (List.mem_cons_of_mem _ hq)
    rw [List.map_cons, List.sum_cons, h1]
    unfold busy
    rw [List.filter_cons]
    rcases hz p List.mem_cons_self with h | h
    · simp [h]
    · simp only [h]
      simp
      unfold d
      by_cases a : f ∈ W p.1.2 <;> by_cases b : f ∈ W p.1.1 <;> simp [a, b]
inductive Rch (W : N → List N) (r u : N → Int) (Z0 : List (Mv N × Nat)) : Nat → List (Mv N × Nat) → Prop
  | refl : Rch W r u Z0 0 Z0
  | step {n : Nat} {Z Z' : List (Mv N × Nat)} : Rch W r u Z0 n Z → Step1 W r u Z Z' → Rch W r u Z0 (n + 1) Z'
theorem Rch.trans {Z0 Z1 Z2 : List (Mv N × Nat)} {n m : Nat} (a : Rch W r u Z0 n Z1) (b : Rch W r u Z1 m Z2) : Rch W r u Z0 (n + m) Z2 := by
  induction b with
  | refl => exact a
  | step _ st ih => exact .step ih st
theorem Step1.le {Z Z' : List (Mv N × Nat)} (h : Step1 W r u Z Z') (hz : ∀ p, p ∈ Z → p.2 ≤ 2) : ∀ p, p ∈ Z' → p.2 ≤ 2 := by
  obtain ⟨X, Y, m, k, rfl, rfl, hk⟩ := h
  intro p hp
  rcases List.mem_append.mp hp with hp | hp
  · exact hz p (List.mem_append_left _ hp)
  · rcases List.mem_cons.mp hp with rfl | hp
    · rcases hk with rfl | ⟨rfl, _⟩ <;> simp
    · exact hz p (List.mem_append_right _ (List.mem_cons_of_mem _ hp))
theorem Rch.le {Z0 Z : List (Mv N × Nat)} {n : Nat} (h : Rch W r u Z0 n Z) (hz : ∀ p, p ∈ Z0 → p.2 ≤ 2) : ∀ p, p ∈ Z → p.2 ≤ 2 := by
  induction h with
  | refl => exact hz
  | step _ st ih => exact st.le ih
/-- the asks of a road make an order -/
theorem order_of_road {Z0 Z : List (Mv N × Nat)} {n : Nat} (h : Rch W r u Z0 n Z) (hz : ∀ p, p ∈ Z0 → p.2 ≤ 2) : ∃ O, (busy Z0 ++ O).Perm (busy Z) ∧ goes W r (endU W u (busy Z0)) O := by
  induction h with
  | refl => exact ⟨[], by simp, trivial⟩
  | @step n Z Z' hr st ih =>
    obtain ⟨O, p, g⟩ := ih
    have hle := hr.le hz
    obtain ⟨X, Y, m, k, rfl, rfl, hk⟩ := st
    rcases hk with rfl | ⟨rfl, hk⟩
    · refine ⟨O, ?_, g⟩
      rw [busy_split] at p ⊢
      exact p
    · refine ⟨O ++ [m], ?_, ?_⟩
      · rw [busy_split] at p ⊢
        simp only [Nat.lt_irrefl, if_false, List.append_nil] at p
        rw [← List.append_assoc]
        refine (p.append_right [m]).trans ?_
        simp only [Nat.zero_lt_succ, Nat.zero_add, Nat.lt_add_one, if_true]
        rw [List.append_assoc, List.append_assoc]
        exact List.Perm.append_left _ List.perm_append_comm
      · rw [goes_append]
        refine ⟨g, ?_, trivial⟩
        intro f hf
        have h1 := hk f hf
        have h2 := endU_hold (W := W) (X ++ (m, 0) :: Y) u f hle
        rw [← endU_append, endU_perm p f]
        omega
/-- asks and dones along an order -/
theorem idle_mem {Z : List (Mv N × Nat)} {m : Mv N} (h : m ∈ idle Z) : ∃ X Y, Z = X ++ (m, 0) :: Y := by
  unfold idle at h
  obtain ⟨p, hp, rfl⟩ := List.mem_map.mp h
  obtain ⟨h1, h2⟩ := List.mem_filter.mp hp
  have h3 : p.2 = 0 := of_decide_eq_true h2
  obtain ⟨X, Y, e⟩ := List.append_of_mem h1
  exact ⟨X, Y, by rw [e, ← h3]⟩
theorem road_of_order : ∀ (O : List (Mv N)) (Z : List (Mv N × Nat)), (∀ p, p ∈ Z → p.2 = 0 ∨ p.2 = 2) → O.Perm (idle Z) → goes W r (endU W u (busy Z)) O → ∃ n, Rch W r u Z n (Z.map fun p => (p.1, 2))
  | [], Z, hz, p, _ => by
    have hi : idle Z = [] := List.Perm.eq_nil p.symm
    have e : Z.map (fun p => (p.1, 2)) = Z := by
      have : Z.map (fun p => (p.1, 2)) = Z.map id := List.map_congr_left fun q hq => by
        rcases hz q hq with h | h
        · exfalso
          unfold idle at hi
          have := List.map_eq_nil_iff.mp hi
          have h2 : q ∈ Z.filter fun p => decide (p.2 = 0) := List.mem_filter.mpr ⟨hq, decide_eq_true h⟩
          rw [this] at h2
          cases h2
        · show (q.1, 2) = q
          rw [← h]
      rw [this, List.map_id]
    rw [e]
    exact ⟨0, .refl⟩
  | m :: O, Z, hz, p, g => by
    have hm : m ∈ idle Z := p.mem_iff.mp List.mem_cons_self
    obtain ⟨X, Y, rfl⟩ := idle_mem hm
    have hev := hold_even (W := W) (X ++ (m, 0) :: Y) u
    have st1 : Step1 W r u (X ++ (m, 0) :: Y) (X ++ (m, 1) :: Y) := ⟨X, Y, m, 0, rfl, rfl, .inr ⟨rfl, fun f hf => by
      rw [hev f hz]
      exact g.1 f hf⟩⟩
    have st2 : Step1 W r u (X ++ (m, 1) :: Y) (X ++ (m, 2) :: Y) := ⟨X, Y, m, 1, rfl, rfl, .inl rfl⟩
    have hz2 : ∀ q, q ∈ X ++ (m, 2) :: Y → q.2 = 0 ∨ q.2 = 2 := fun q hq => by
      rcases List.mem_append.mp hq with hq | hq
      · exact hz q (List.mem_append_left _ hq)
      · rcases List.mem_cons.mp hq with rfl | hq
        · exact .inr rfl
        · exact hz q (List.mem_append_right _ (List.mem_cons_of_mem _ hq))
    have hp2 : O.Perm (idle (X ++ (m, 2) :: Y)) := by
      rw [idle_split] at p ⊢
      simp only [if_true, List.append_assoc, List.singleton_append] at p
      have q := p.trans (List.perm_middle)
      simpa using q.cons_inv
    have hb : (busy (X ++ (m, 0) :: Y) ++ [m]).Perm (busy (X ++ (m, 2) :: Y)) := by
      rw [busy_split, busy_split]
      simp only [Nat.lt_irrefl, if_false, List.append_nil, Nat.zero_lt_succ, if_true]
      rw [List.append_assoc, List.append_assoc]
      exact List.Perm.append_left _ List.perm_append_comm
    have hg : goes W r (endU W u (busy (X ++ (m, 2) :: Y))) O := by
      have e : endU W u (busy (X ++ (m, 2) :: Y)) = after W (endU W u (busy (X ++ (m, 0) :: Y))) m := by
        funext f
        rw [← endU_perm hb f, endU_append]
        rfl
      rw [e]
      exact g.2
    obtain ⟨n, hr⟩ := road_of_order O _ hz2 hp2 hg
    refine ⟨_, (Rch.step (.step .refl st1) st2).trans (?_ : Rch W r u (X ++ (m, 2) :: Y) n _)⟩
    simpa using hr
/-- all that are asked can be done -/
theorem road_done : ∀ (Y X : List (Mv N × Nat)), (∀ p, p ∈ Y → p.2 ≤ 2) → ∃ n, Rch W r u (X ++ Y) n (X ++ Y.map fun p => (p.1, if p.2 = 0 then 0 else 2))
  | [], X, _ => ⟨0, .refl⟩
  | (m, k) :: Y, X, hz => by
    have hk : k ≤ 2 := hz (m, k) List.mem_cons_self
    obtain ⟨n, h⟩ := road_done Y (X ++ [(m, if k = 0 then 0 else 2)]) fun p hp => hz p (List.mem_cons_of_mem _ hp)
    rw [List.append_assoc, List.append_assoc] at h
    by_cases h1 : k = 1
    · subst h1
      have st : Step1 W r u (X ++ (m, 1) :: Y) (X ++ (m, 2) :: Y) := ⟨X, Y, m, 1, rfl, rfl, .inl rfl⟩
      exact ⟨_, (Rch.step .refl st).trans h⟩
    · have e : (if k = 0 then 0 else 2) = k := by
        split <;> omega
      rw [e] at h
      refine ⟨n, ?_⟩
      rw [List.map_cons]
      show Rch W r u (X ++ (m, k) :: Y) n (X ++ (m, if k = 0 then 0 else 2) :: _)
      rw [e]
      exact h
theorem busy_done (Z : List (Mv N × Nat)) : busy (Z.map fun p => (p.1, if p.2 = 0 then 0 else 2)) = busy Z ∧ idle (Z.map fun p => (p.1, if p.2 = 0 then 0 else 2)) = idle Z := by
  unfold busy idle
  induction Z with
  | nil => exact ⟨rfl, rfl⟩
  | cons p Z ih =>
    obtain ⟨h1, h2⟩ := ih
    rw [List.map_cons, List.filter_cons, List.filter_cons, List.filter_cons, List.filter_cons]
    by_cases h : p.2 = 0
    · simp [h] at h1 h2 ⊢
      exact ⟨h1, h2⟩
    · have h0 : 0 < p.2 := by omega
      simp [h, h0] at h1 h2 ⊢
      exact ⟨h1, h2⟩
theorem busy_all2 (Z : List (Mv N × Nat)) : busy (Z.map fun p => (p.1, 2)) = Z.map (·.1) := by
  unfold busy
  induction Z with
  | nil => rfl
  | cons p Z ih =>
    rw [List.map_cons, List.filter_cons]
    simp at ih ⊢
    exact ih
theorem busy_idle (Z : List (Mv N × Nat)) : (busy Z ++ idle Z).Perm (Z.map (·.1)) := by
  unfold busy idle
  rw [← List.map_append]
  refine List.Perm.map _ ?_
  have e : (Z.filter fun p => decide (p.2 = 0)) = Z.filter fun p => !decide (0 < p.2) := List.filter_congr fun p _ => by
    by_cases h : p.2 = 0
    · simp [h]
    · have : 0 < p.2 := by omega
      simp [h, this]
  rw [e]
  exact List.filter_append_perm _ _
theorem Rch.fst {Z0 Z : List (Mv N × Nat)} {n : Nat} (h : Rch W r u Z0 n Z) : Z.map (·.1) = Z0.map (·.1) := by
  induction h with
  | refl => rfl
  | step _ st ih =>
    obtain ⟨X, Y, m, k, rfl, rfl, _⟩ := st
    rw [← ih, List.map_append, List.map_append, List.map_cons, List.map_cons]
theorem Rch.sum {Z0 Z : List (Mv N × Nat)} {n : Nat} (h : Rch W r u Z0 n Z) : (Z.map (·.2)).sum = (Z0.map (·.2)).sum + n := by
  induction h with
  | refl => rfl
  | step _ st ih =>
    obtain ⟨X, Y, m, k, rfl, rfl, _⟩ := st
    rw [List.map_append, List.map_cons, List.sum_append, List.sum_cons] at ih ⊢
    show _ + (k + 1 + _) = _
    have ih' : (X.map (·.2)).sum + (k + (Y.map (·.2)).sum) = (Z0.map (·.2)).sum + _ := ih
    omega
/-- all can be done iff the others have an order -/
theorem all2_iff {Z : List (Mv N × Nat)} (hz : ∀ p, p ∈ Z → p.2 ≤ 2) : (∃ n, Rch W r u Z n (Z.map fun p => (p.1, 2))) ↔ ∃ O, O.Perm (idle Z) ∧ goes W r (endU W u (busy Z)) O := by
  constructor
  · rintro ⟨n, h⟩
    obtain ⟨O, p, g⟩ := order_of_road h hz
    refine ⟨O, ?_, g⟩
    rw [busy_all2] at p
    exact (List.perm_append_left_iff _).mp (p.trans (busy_idle Z).symm)
  · rintro ⟨O, p, g⟩
    obtain ⟨n, h⟩ := road_done (W := W) (r := r) (u := u) Z [] hz
    obtain ⟨e1, e2⟩ := busy_done Z
    have hq : ∀ q, q ∈ (Z.map fun p => (p.1, if p.2 = 0 then 0 else 2)) → q.2 = 0 ∨ q.2 = 2 := fun q hq => by
      obtain ⟨q', _, rfl⟩ := List.mem_map.mp hq
      show (if q'.2 = 0 then 0 else 2) = 0 ∨ (if q'.2 = 0 then 0 else 2) = 2
      by_cases h : q'.2 = 0
      · rw [if_pos h]
        exact .inl rfl
      · rw [if_neg h]
        exact .inr rfl
    have h3 := road_of_order (W := W) (r := r) (u := u) O (Z.map fun p => (p.1, if p.2 = 0 then 0 else 2)) hq (by rw [e2]; exact p) (by rw [e1]; exact g)
    obtain ⟨m, h2⟩ := h3
    rw [List.map_map] at h2
    exact ⟨_, Rch.trans h h2⟩
end RR
end
section
set_option linter.all false
set_option maxRecDepth 100000
set_option autoImplicit false
set_option maxHeartbeats 1000000
/-! _law_steps_right. -/
namespace RW
open PySem PySem.Spec PyProof.Rows L2
abbrev s__law_steps_right : Stmt := topS 93
abbrev N__law_steps_right : List Str := ["_law_case_here", "_law_waits_here", "_law_steps", "_law_held_here", "_law_left", "_law_had", "_law_deed", "_law_step", "_law_one"]
theorem sc__law_steps_right : FnScope N__law_steps_right ["_law_case_here", "_law_waits_here", "_law_steps"] (defScope s__law_steps_right) := ⟨rfl, rfl, rfl, by decide +kernel, rfl, by decide +kernel, by decide +kernel⟩

/-- a step: its word and its move -/
abbrev Stp := Str × (Str × Str)
def encS (p : Stp) : PyData := dStep p.1 p.2
def stepsL (A O : List (Str × Str)) : List Stp := A.map (fun m => (("done" : Str), m)) ++ O.flatMap fun m => [(("ask" : Str), m), (("done" : Str), m)]
theorem dSteps_eq (A O : List (Str × Str)) : dSteps A O = .tuple ((stepsL A O).map encS) := by
  unfold dSteps stepsL
  rw [List.map_append, List.map_map, List.map_flatMap]
  rfl
theorem steps_len (A O : List (Str × Str)) : (stepsL A O).length = A.length + 2 * O.length := by
  unfold stepsL
  rw [List.length_append, List.length_map]
  congr 1
  induction O with
  | nil => rfl
  | cons a O ih =>
    rw [List.flatMap_cons, List.length_append, ih]
    show 2 + 2 * O.length = 2 * (O.length + 1)
    omega
/-- the steps can be gone, and do all -/
def Runs (T : List Row) : (Str → Int) → List (Str × Str) → List (Str × Str) → List Stp → Prop
  | _, lf, hd, [] => lf = [] ∧ hd = []
  | h, lf, hd, p :: ps => (p.1 = "ask" ∧ p.2 ∈ lf ∧ (∀ x, x ∈ gains T p.2 → h x < room T x) ∧ Runs T (shifted h (gains T p.2) []) (lf.erase p.2) (hd ++ [p.2]) ps) ∨
    (p.1 = "done" ∧ p.2 ∈ hd ∧ Runs T (shifted h [] (gains T (p.2.2, p.2.1))) lf (hd.erase p.2) ps)
theorem shift_d {T : List Row} (ok : TreeOk T) (h : Str → Int) (m : Str × Str) : shifted (shifted h (gains T m) []) [] (gains T (m.2, m.1)) = RR.after (ways T) h m := by
  funext f
  unfold shifted RR.after RR.d
  rw [count_nd (gains_nd ok m), count_nd (gains_nd ok (m.2, m.1))]
  have e1 : f ∈ gains T m ↔ f ∈ ways T m.2 ∧ f ∉ ways T m.1 := gains_mem
  have e2 : f ∈ gains T (m.2, m.1) ↔ f ∈ ways T m.1 ∧ f ∉ ways T m.2 := gains_mem
  simp only [e1, e2]
  by_cases a : f ∈ ways T m.2 <;> by_cases b : f ∈ ways T m.1 <;> simp [a, b] <;> omega
theorem runs_order {T : List Row} (ok : TreeOk T) : ∀ (O lf : List (Str × Str)) (h : Str → Int), O.Perm lf → RR.goes (ways T) (room T) h O → Runs T h lf [] (O.flatMap fun m => [(("ask" : Str), m), (("done" : Str), m)])
  | [], lf, h, p, _ => ⟨p.symm.eq_nil, rfl⟩
  | m :: O, lf, h, p, g => by
    have hm : m ∈ lf := p.mem_iff.mp List.mem_cons_self
    refine .inl ⟨rfl, hm, fun x hx => g.1 x (gains_mem.mp hx), .inr ⟨rfl, List.mem_cons_self, ?_⟩⟩
    have e : ([] ++ [m] : List (Str × Str)).erase m = [] := by simp
    show Runs T (shifted (shifted h (gains T m) []) [] (gains T (m.2, m.1))) (lf.erase m) (([] ++ [m] : List (Str × Str)).erase m) _
    rw [e, shift_d ok]
    refine runs_order ok O (lf.erase m) _ ?_ g.2
    have := p.erase m
    rwa [List.erase_cons_head] at this
theorem runs_done {T : List Row} (ok : TreeOk T) (O lf : List (Str × Str)) : ∀ (A : List (Str × Str)) (u h : Str → Int), (∀ f, h f = u f + gainN T A f) → O.Perm lf → RR.goes (ways T) (room T) (RR.endU (ways T) u A) O → Runs T h lf A (stepsL A O)
  | [], u, h, e, p, g => by
    have : h = u := by
      funext f
      rw [e]
      unfold gainN
      simp
    subst this
    exact runs_order ok O lf h p g
  | a :: A, u, h, e, p, g => by
    refine .inr ⟨rfl, List.mem_cons_self, ?_⟩
    show Runs T (shifted h [] (gains T (a.2, a.1))) lf ((a :: A).erase a) _
    rw [List.erase_cons_head]
    refine runs_done ok O lf A (RR.after (ways T) u a) _ (fun f => ?_) p g
    have h1 := congrFun (shift_d ok u a) f
    rw [← h1]
    unfold shifted
    rw [e f]
    have h2 : gainN T (a :: A) f = ((gains T a).count f : Nat) + gainN T A f := by
      rw [count_nd (gains_nd ok a)]
      unfold gainN
      rw [List.map_cons, List.sum_cons]
      congr 1
      by_cases h : f ∈ gains T a
      · rw [if_pos h, if_pos (gains_mem.mp h)]
      · rw [if_neg h, if_neg fun z => h (gains_mem.mpr z)]
    rw [h2]
    simp
    omega
theorem runs_all {T : List Row} {s : List Int} {L A O : List (Str × Str)} (ok : TreeOk T) (h : Order T s L A O) : Runs T (held T s A) (rest L A) A (stepsL A O) :=
  runs_done ok O _ A (use T s) _ (fun _ => rfl) h.1 h.2
section
variable {P : Program} {w : World} {K : PySem.W.Frag} {mg : Str → Option Value} {base : Heap}
def sp__law_steps_right : Sp := fun vs H Q _ => ∃ (T : List Row) (s : List Int) (L A O : List (Str × Str)) (z : CA) (v y : V), vs = [.ref z.c, v, y] ∧ CaseH T s L H z ∧ TreeOk T ∧ (∀ m, m ∈ L → MvOk T m) ∧ L.length ≤ 60 ∧ Im H v (dMvs A) ∧ Im H y (dSteps A O) ∧ (∀ m, A.count m ≤ L.count m) ∧ Order T s L A O ∧
  ∀ H', Same H H' → Q (.bl true) H'
theorem ok__law_steps_right (Tx : Txt mg) (F__law_in : OkF P w K mg base "_law_in" ["_law_ups_here", "_law_deed"] 1 sp__law_in) (F__law_shift : OkF P w K mg base "_law_shift" ["_law_loads", "_law_gains", "_law_losses"] 1 sp__law_shift) (F__law_held : OkF P w K mg base "_law_held" ["_law_case_here", "_law_waits_here"] 2 sp__law_held)
    (F__law_has_place : OkF P w K mg base "_law_has_place" ["_law_case_here", "_law_loads", "_law_boxes"] 1 sp__law_has_place) (hf : Has K mg "_law_steps_right" s__law_steps_right) :
    OkF P w K mg base "_law_steps_right" ["_law_case_here", "_law_waits_here", "_law_steps"] 3 sp__law_steps_right := by
  refine Has.ok hf sc__law_steps_right (fun _ _ _ _ _ _ us hl => match us, hl with | [_, _, _], _ => rfl) (fun vs H Q E h => ?_) (fun f cdv A outer sh H vs Q E hr h => ?_)
  · obtain ⟨T, s, L, A, O, z, v, y, rfl, _⟩ := h
    rfl
  · obtain ⟨T, s, L, B, O, z, v, y, rfl, ch, ok, mo, hL, iv, iy, sub, ho, q⟩ := h
    have hu := hu_of hr
    have hu65 : (A.deeper (envOfC "_law_steps_right" (defScope s__law_steps_right) sh.heap.objs.size f cdv)).units + 65 < cLine := by
      have := hr.un
      omega
    refine ⟨_, (pss_cons (ps_if (pt_not (pt_val (pe_isi_tuple Tx (pv 2)))) (pss_one (ps_ret pe_bl)) pss_nil)
  (pss_cons (ps_par3 (i := 3) (j := 4) (l := 5) (by rfl) sc__law_steps_right.nd rfl rfl rfl (by decide) (by decide) (by decide) rfl rfl rfl (pa_cons (pe_c F__law_held (hr.mono (by decide)) (pa_cons (pv 0) (pa_cons (pv 1) pa_nil))) (pa_cons (pe_callTy call_list_of (by rfl) Tx.b_list bb_list (pa_cons (pe_dget hu (pv 0) pe_str (fun _ _ => rfl)) pa_nil)) (pa_cons (pe_callTy call_list_of (by rfl) Tx.b_list bb_list (pa_cons (pv 1) pa_nil)) pa_nil))) (by rfl))
  (pss_cons (ps_for PassesOwn.never rfl (pi_tup (pv 1)) (pg_name (i := 6) sc__law_steps_right.nd rfl (.inl rfl)) (pss_one (ps_expr (pe_bm PySem.F.plainAttrs_list PySem.F.slot_list_remove PySem.F.type_list_remove (mt_removeD hu65) (pv 4) (pa_cons (pv 6) pa_nil)))))
  (pss_cons (ps_for PassesOwn.never rfl (pi_tup (pv 2)) (pg_name (i := 7) sc__law_steps_right.nd rfl (.inl rfl)) (pss_cons (ps_if (PW.pt (pw_or (pt_not (pt_val (pe_isi_tuple Tx (pv 7)))) (pw_or (pt_cmpR op_ne (pe_callB call_len_seq (by rfl) Tx.b_len PySem.boot_len (pa_cons (pv 7) pa_nil)) pe_int (nomark _)) (pw_or1 (pt_cmpR (op_neP hu65) (pe_lc (own := [("_law_one", 8)]) (g := (gName 8)) rfl sc__law_steps_right.nd (pi_tup (pv 7)) (blkOk_by (own := [("_law_one", 8)]) (N := N__law_steps_right) (sc := defScope s__law_steps_right) (by decide +kernel)) (fun _ _ _ _ _ => (pg_name (i := 8) sc__law_steps_right.nd rfl (.inl rfl))) (fun _ _ _ _ _ => pts_one (pt_not (pt_val (pe_isi_str Tx (pv 8))))) (fun _ _ _ _ _ => (pv 8))) (pe_lst pa_nil) (nomark _)))))) (pss_one (ps_ret pe_bl)) pss_nil)
  (pss_cons (ps_set (i := 6) sc__law_steps_right.nd rfl (.inl rfl) (pe_slice sl_tupA (pv 7) (po_some pe_int) po_none))
  (pss_one (ps_if (pt_cmpR op_eq (pe_ix (show IxR _ (rIxT K) from ix_tup) (pv 7) pe_int (fun _ _ => rfl)) pe_str (nomark _)) (pss_cons (ps_if (PW.pt (pw_or (pt_cmpR (op_notInP hu65) (pv 6) (pv 4) (by with_unfolding_all rfl)) (pw_or1 (pt_not (pt_val (pe_c F__law_has_place (hr.mono (by decide)) (pa_cons (pv 0) (pa_cons (pv 3) (pa_cons (pe_c F__law_in (hr.mono (by decide)) (pa_cons (pe_dget hu (pv 0) pe_str (fun _ _ => rfl)) (pa_cons (pv 6) pa_nil))) pa_nil))))))))) (pss_one (ps_ret pe_bl)) pss_nil)
  (pss_cons (ps_set (i := 3) sc__law_steps_right.nd rfl (.inl rfl) (pe_c F__law_shift (hr.mono (by decide)) (pa_cons (pv 3) (pa_cons (pe_c F__law_in (hr.mono (by decide)) (pa_cons (pe_dget hu (pv 0) pe_str (fun _ _ => rfl)) (pa_cons (pv 6) pa_nil))) (pa_cons (pe_lst pa_nil) pa_nil)))))
  (pss_cons (ps_expr (pe_bm PySem.F.plainAttrs_list PySem.F.slot_list_remove PySem.F.type_list_remove (mt_removeD hu65) (pv 4) (pa_cons (pv 6) pa_nil)))
  (pss_one (ps_expr (pe_bm PySem.F.plainAttrs_list PySem.F.slot_list_append PySem.F.type_list_append mt_append (pv 5) (pa_cons (pv 6) pa_nil))))))) (pss_cons (ps_if (PW.pt (pw_or (pt_cmpR op_ne (pe_ix (show IxR _ (rIxT K) from ix_tup) (pv 7) pe_int (fun _ _ => rfl)) pe_str (nomark _)) (pw_or1 (pt_cmpR (op_notInP hu65) (pv 6) (pv 5) (by with_unfolding_all rfl))))) (pss_one (ps_ret pe_bl)) pss_nil)
  (pss_cons (ps_set (i := 3) sc__law_steps_right.nd rfl (.inl rfl) (pe_c F__law_shift (hr.mono (by decide)) (pa_cons (pv 3) (pa_cons (pe_lst pa_nil) (pa_cons (pe_c F__law_in (hr.mono (by decide)) (pa_cons (pe_dget hu (pv 0) pe_str (fun _ _ => rfl)) (pa_cons (pe_revT K rfl (pv 6)) pa_nil))) pa_nil)))))
  (pss_one (ps_expr (pe_bm PySem.F.plainAttrs_list PySem.F.slot_list_remove PySem.F.type_list_remove (mt_removeD hu65) (pv 5) (pa_cons (pv 6) pa_nil)))))))))))
  (pss_one (ps_ret (pe_and (pe_cmpR (op_eqP hu65) (pv 4) (pe_lst pa_nil) (nomark _)) (pe_one (pe_cmpR (op_eqP hu65) (pv 5) (pe_lst pa_nil) (nomark _)))))))))), ?_⟩
    rw [dSteps_eq] at iy
    obtain ⟨av, vs, rfl, hT, hA⟩ := id iv.tinv
    obtain ⟨_, _, hbv, hbT, hbA⟩ := id ch.bv.tinv
    have hB : ∀ m, m ∈ B → MvOk T m := fun m hm => mo m (List.count_pos_iff.mp (by
      have := List.count_pos_iff.mpr hm
      have := sub m
      omega))
    refine ⟨_, rfl, _, true, iy, kb_tt, _, rfl, iteF ?_⟩
    refine ⟨_, rfl, _, rfl, T, s, L, B, z, av, vs, rfl, ch, ok, hB, .inr hT, hA, fun ph H1 s1 nph dh => ?_⟩
    have ch1 := ch.same s1
    obtain ⟨ab, bs, hbv, hbT, hbA⟩ := id ch1.bv.tinv
    refine ⟨_, rfl, z.c, _, rfl, c_get ch1.at_ ck_batch, ab, bs, by rw [hbv], .inr (.inl hbT), fun ll nll => ?_⟩
    have s2 : Same H1 (upd H1 ll (.lst bs)) := Same.new nll
    have el : upd H1 ll (.lst bs) ll = some (.lst bs) := upd_same
    have nl0 : H ll = none := s1.free nll
    have npl : ph ≠ ll := by
      obtain ⟨_, e, _⟩ := dh
      exact ne_of_none e nll
    generalize upd H1 ll (.lst bs) = H2 at s2 el
    refine ⟨_, rfl, av, vs, rfl, .inr (.inl ((hT.sm s1).sm s2)), fun lh nlh => ⟨_, _, _, rfl, ?_⟩⟩
    have s3 : Same H2 (upd H2 lh (.lst vs)) := Same.new nlh
    have eh : upd H2 lh (.lst vs) lh = some (.lst vs) := upd_same
    have s03 := (s1.trans s2).trans s3
    have nh0 : H lh = none := (s1.trans s2).free nlh
    have nlh' : ll ≠ lh := ne_of_none el nlh
    have el3 := s3 _ _ el
    have dh3 := (dh.same s2).same s3
    have nph0 := nph
    have nphh : ph ≠ lh := by
      obtain ⟨_, e, _⟩ := dh.same s2
      exact ne_of_none e nlh
    have hb3 := (hbA.mono (.same s2)).mono (.same s3)
    have hv3 := hA.mono (.same s03)
    generalize upd H2 lh (.lst vs) = H3 at s3 eh s03 el3 dh3 hb3 hv3
    refine ⟨_, rfl, forT (ds := B) (enc := dMv) (iv.mono (.same s03)) (fun i σ H' => ∃ (zs : List V) (y6 y7 y8 : Option V), σ = [some (.ref z.c), some (.ref av), some y, some (.ref ph), some (.ref ll), some (.ref lh), y6, y7, y8] ∧ Same H H' ∧ KT H3 H' ∧ SameX ll H3 H' ∧ H' ll = some (.lst zs) ∧ ImA H' zs ((rest L (B.take i)).map dMv))
      ⟨bs, none, none, none, rfl, s03, KT.refl _, SameX.refl _ _, el3, hb3⟩ (fun i σ H' h => by
        obtain ⟨_, _, _, _, _, _, k, _⟩ := h
        exact k) ?_ ?_⟩
    · rintro i m x σ H' e ⟨zs, y6, y7, y8, rfl, sm, kt, sx, el', iz⟩ im
      have hmr : m ∈ rest L (B.take i) := by
        refine List.count_pos_iff.mp ?_
        rw [rest_count]
        have h1 := take_count e
        have h2 := sub m
        omega
      refine ⟨_, rfl, .inl ⟨rfl, _, .inl (.inl el')⟩, _, rfl, ll, zs, rest L (B.take i), m, x, rfl, rfl, el', iz, im, hmr, fun zs' iz' => ?_⟩
      have k3 : KT H' (upd H' ll (.lst zs')) := .lst el'
      refine ⟨zs', _, _, _, rfl, Same.mut sm nl0, kt.trans k3, sx.up, upd_same, ?_⟩
      have et : B.take (i + 1) = B.take i ++ [m] := by rw [List.take_add_one, e]; rfl
      rw [et, rest_append]
      exact iz'
    · rintro σ H4 ⟨zs, y6, y7, y8, rfl, s4, kt4, sx4, el4, iz4⟩
      rw [List.take_length] at iz4
      have eh4 := sx4 _ _ nlh'.symm eh
      have hv4 := hv3.mono kt4
      have dh4 : DL H4 ph (gInts T (held T s B)) := by
        obtain ⟨kvs, e, i⟩ := dh3
        exact ⟨kvs, sx4 _ _ npl e, i.mono kt4⟩
      refine ⟨_, rfl, forT (ds := stepsL B O) (enc := encS) (iy.mono (.same s4)) (fun i σ H' => ∃ (h : Str → Int) (lf hd : List (Str × Str)) (pc : Addr) (zl zh : List V) (y6 y7 y8 : Option V), σ = [some (.ref z.c), some (.ref av), some y, some (.ref pc), some (.ref ll), some (.ref lh), y6, y7, y8] ∧ Same H H' ∧ KT H4 H' ∧ H' ll = some (.lst zl) ∧ ImA H' zl (lf.map dMv) ∧
          H' lh = some (.lst zh) ∧ ImA H' zh (hd.map dMv) ∧ DL H' pc (gInts T h) ∧ pc ≠ ll ∧ pc ≠ lh ∧ (∀ m, m ∈ lf → MvOk T m) ∧ (∀ m, m ∈ hd → MvOk T m) ∧ hd.length ≤ 60 + i ∧ Runs T h lf hd ((stepsL B O).drop i))
        ⟨held T s B, rest L B, B, ph, zs, vs, y6, y7, y8, rfl, s4, KT.refl _, el4, iz4, eh4, hv4, dh4, npl, nphh, fun m hm => mo m ((rest_perm B L sub).mem_iff.mp (List.mem_append_right _ hm)), hB, ?_, runs_all ok ho⟩ (fun i σ H' h => by
        obtain ⟨_, _, _, _, _, _, _, _, _, _, _, k, _⟩ := h
        exact k) ?_ ?_⟩
      · have h1 := (rest_perm B L sub).length_eq
        rw [List.length_append] at h1
        omega
      · rintro i p x σ H5 e ⟨h, lf, hd, pc, zl, zh, y6, y7, y8, rfl, s5, k5, el5, il5, eh5, ih5, dl5, ncl, nch, mlf, mhd, hlen, run⟩ ix
        rw [List.drop_eq_getElem_cons (List.getElem?_eq_some_iff.mp e).1, (List.getElem?_eq_some_iff.mp e).2] at run
        have hi : i < (stepsL B O).length := (List.getElem?_eq_some_iff.mp e).1
        have hsl : (stepsL B O).length ≤ 180 := by
          have h1 := (rest_perm B L sub).length_eq
          have h2 := ho.1.length_eq
          rw [List.length_append] at h1
          rw [steps_len]
          omega
        obtain ⟨k, m⟩ := p
        obtain ⟨ax, xs, rfl, hxT, hxA⟩ := id (show Im H5 x (.tuple [.str k, .str m.1, .str m.2]) from ix).tinv
        have ex := hxA.strs (xs := [k, m.1, m.2])
        subst ex
        refine ⟨_, rfl, _, true, ix, kb_tt, _, rfl, ?_⟩
        refine ⟨_, rfl, ax, _, rfl, .inr (.inl hxT), rfl, _, rfl, ?_⟩
        refine iteF ?_
        have ixs : Im H5 (.ref ax) (.tuple ([k, m.1, m.2].map PyData.str)) := ix
        refine ⟨_, rfl, lcT (ds := [k, m.1, m.2]) (enc := PyData.str) ixs (by decide : 3 ≤ 1000) (fun _ => false) PyData.str ?_ ?_⟩
        · intro d x H6 Qt Qf hd' s6 ix6 ht hf'
          exact ⟨rfl, _, rfl, _, true, ix6, kb_ss, _, rfl, iteF (hf' rfl _ (Same.refl _))⟩
        intro D H6 acc nD s6 e6 i6
        have i6' : ImA H6 acc [] := i6
        refine ⟨Nat.zero_le _, fun l6 nl6 => r_neNil ((Same.new nl6 : Same H6 _) _ _ e6) (i6'.mono (.new nl6)) upd_same rfl ⟨_, rfl, iteN rfl ?_⟩⟩
        have s56 : Same H5 (upd H6 l6 (.lst [])) := s6.trans (Same.new nl6)
        generalize upd H6 l6 (.lst []) = H7 at s56
        refine ⟨_, rfl, _, rfl, tNpi (r_slA (ix.mono (.same s56)) fun y2 H8 s78 i8 => ?_)⟩
        have e8 : cutD [PyData.str k, .str m.1, .str m.2] (some 1) none = [.str m.1, .str m.2] := cutD_drop [PyData.str k, .str m.1, .str m.2] 1 (by decide : 1 ≤ 3)
        rw [e8] at i8
        replace i8 : Im H8 y2 (dMv m) := i8
        have s8 := s56.trans s78
        have s08 := s5.trans s8
        have k8 := k5.trans (.same s8)
        have el8 := s8 _ _ el5
        have il8 := il5.mono (.same s8)
        have eh8 := s8 _ _ eh5
        have ih8 := ih5.mono (.same s8)
        have dl8 := dl5.same s8
        have ix8 := ixs.mono (.same s8)
        clear s56 s78 s6 nl6 e6 i6 i6' nD e8
        refine ⟨_, rfl, tCi (r_ixT (i := 0) ix8 rfl rfl fun yk ik => ?_)⟩
        rw [ik.sinv]
        refine ⟨rfl, _, rfl, ?_⟩
        have ch8 := ch.same s08
        have ncl' : ll ≠ pc := ncl.symm
        have nch' : lh ≠ pc := nch.symm
        rcases run with ⟨hk, hm, hpl, run⟩ | ⟨hk, hm, run⟩
        · have hk' : k = "ask" := hk
          subst hk'
          replace hm : m ∈ lf := hm
          refine iteP (decide_eq_true rfl) ?_
          refine ⟨_, rfl, _, rfl, r_notInM el8 il8 i8 ⟨_, rfl, iteN (by rw [decide_eq_true hm]; rfl) ?_⟩⟩
          have hmo := mlf m hm
          refine ⟨_, rfl, _, rfl, _, rfl, z.c, _, rfl, c_get ch8.at_ ck_ups, _, rfl, T, m, z.pu, z.ad, y2, rfl, ch8.ups, i8, ok, hmo, fun lg H9 s9 nlg eg => ?_⟩
          refine ⟨T, s, L, z, h, pc, lg, gains T m, rfl, ch8.same s9, dl8.same s9, eg, fun x hx => gains_in ok hx, gains_len ok m, fun H10 s10 => ⟨_, rfl, ?_⟩⟩
          refine iteN (by rw [decide_eq_true (show ∀ x, x ∈ gains T m → h x < room T x from hpl)]; rfl) ?_
          have s810 := s9.trans s10
          have ch10 := ch8.same s810
          refine ⟨_, rfl, _, rfl, z.c, _, rfl, c_get ch10.at_ ck_ups, _, rfl, T, m, z.pu, z.ad, y2, rfl, ch10.ups, i8.mono (.same s810), ok, hmo, fun lg2 H11 s11 nlg2 eg2 => ?_⟩
          refine ⟨Nat.zero_le _, fun l3 nl3 => ?_⟩
          have s12 : Same H11 (upd H11 l3 (.lst [])) := Same.new nl3
          have s812 := (s810.trans s11).trans s12
          refine ⟨T, h, gains T m, [], pc, lg2, l3, rfl, dl8.same s812, s12 _ _ eg2, upd_same, ok.len, fun x hx => gains_in ok hx, (fun x hx => nomatch hx), fun p' H13 s13 np' d13 => ?_⟩
          have s813 := s812.trans s13
          have el13 := s813 _ _ el8
          have eh13 := s813 _ _ eh8
          have pl : p' ≠ ll := fun z => by
            have := s812 _ _ el8
            rw [← z, np'] at this
            cases this
          have ph' : p' ≠ lh := fun z => by
            have := s812 _ _ eh8
            rw [← z, np'] at this
            cases this
          have i13 := i8.mono (.same s813)
          refine ⟨_, rfl, .inl ⟨rfl, _, .inl (.inl el13)⟩, _, rfl, ll, zl, lf, m, y2, rfl, rfl, el13, il8.mono (.same s813), i13, hm, fun zl' il' => ?_⟩
          have k14 : KT H13 (upd H13 ll (.lst zl')) := .lst el13
          have eh14 : upd H13 ll (.lst zl') lh = some (.lst zh) := (upd_ne nlh'.symm).trans eh13
          refine ⟨_, rfl, .inl ⟨rfl, _, .inl (.inl eh14)⟩, _, rfl, lh, zh, y2, rfl, rfl, eh14, small1000 (by
            have := ih8.len
            rw [List.length_map] at this
            omega), ?_⟩
          have k15 : KT (upd H13 ll (.lst zl')) (upd (upd H13 ll (.lst zl')) lh (.lst (zh ++ [y2]))) := .lst eh14
          refine ⟨shifted h (gains T m) [], lf.erase m, hd ++ [m], p', zl', zh ++ [y2], _, _, _, rfl, Same.mut (Same.mut (s08.trans s813) nl0) nh0, ((k8.trans (.same s813)).trans k14).trans k15, ?_, il'.mono k15, upd_same, ?_, ?_, pl, ph', fun m' hm' => mlf m' (List.mem_of_mem_erase hm'), fun m' hm' => ?_, ?_, run⟩
          · rw [upd_ne nlh', upd_same]
          · rw [List.map_append]
            exact (((ih8.mono (.same s813)).mono k14).mono k15).app (.cons ((i13.mono k14).mono k15) .nil)
          · exact (d13.other pl k14).other ph' k15
          · rcases List.mem_append.mp hm' with hm' | hm'
            · exact mhd m' hm'
            · rw [List.mem_singleton.mp hm']
              exact hmo
          · rw [List.length_append]
            show hd.length + 1 ≤ _
            omega
        · have hk' : k = "done" := hk
          subst hk'
          replace hm : m ∈ hd := hm
          have hne : ¬ (V.str (Str.ofString "done") = V.str (Str.ofString "ask")) := by
            intro z
            exact absurd (V.str.inj z) (by decide)
          refine iteN (decide_eq_false hne) ?_
          refine ⟨_, rfl, tCi (r_ixT (i := 0) ix8 rfl rfl fun yk2 ik2 => ?_)⟩
          rw [ik2.sinv]
          refine ⟨rfl, _, rfl, iteN (by rw [decide_eq_true rfl]; rfl) ?_⟩
          refine ⟨_, rfl, _, rfl, r_notInM eh8 ih8 i8 ⟨_, rfl, iteN (by rw [decide_eq_true hm]; rfl) ?_⟩⟩
          have hmo := mhd m hm
          refine ⟨_, rfl, Nat.zero_le _, fun l3 nl3 => ?_⟩
          have s9 : Same H8 (upd H8 l3 (.lst [])) := Same.new nl3
          have e9 : upd H8 l3 (.lst []) l3 = some (.lst []) := upd_same
          generalize upd H8 l3 (.lst []) = H9 at s9 e9
          have ch9 := ch8.same s9
          obtain ⟨yb, rfl, hyb⟩ := (i8.mono (.same s9)).mv
          refine ⟨_, rfl, z.c, _, rfl, c_get ch9.at_ ck_ups, _, rfl, yb, _, _, rfl, .inl hyb, fun t nt => ?_⟩
          have it : Im (upd H9 t (.tup [.str m.2, .str m.1])) (.ref t) (dMv (m.2, m.1)) := .tup (.inl upd_same) (.cons (.str _) (.cons (.str _) .nil))
          have s10 : Same H9 (upd H9 t (.tup [.str m.2, .str m.1])) := Same.new nt
          generalize upd H9 t (.tup [.str m.2, .str m.1]) = H10 at it s10
          have ch10 := ch9.same s10
          refine ⟨T, (m.2, m.1), z.pu, z.ad, .ref t, rfl, ch10.ups, it, ok, ⟨hmo.2, hmo.1⟩, fun lg H11 s11 nlg eg => ?_⟩
          have s911 := s10.trans s11
          have s811 := s9.trans s911
          refine ⟨T, h, [], gains T (m.2, m.1), pc, l3, lg, rfl, dl8.same s811, s911 _ _ e9, eg, ok.len, (fun x hx => nomatch hx), fun x hx => gains_in ok hx, fun p' H13 s13 np' d13 => ?_⟩
          have s813 := s811.trans s13
          have el13 := s813 _ _ el8
          have eh13 := s813 _ _ eh8
          have pl : p' ≠ ll := fun z => by
            have := s811 _ _ el8
            rw [← z, np'] at this
            cases this
          have ph' : p' ≠ lh := fun z => by
            have := s811 _ _ eh8
            rw [← z, np'] at this
            cases this
          have i13 := i8.mono (.same s813)
          refine ⟨_, rfl, .inl ⟨rfl, _, .inl (.inl eh13)⟩, _, rfl, lh, zh, hd, m, _, rfl, rfl, eh13, ih8.mono (.same s813), i13, hm, fun zh' ih' => ?_⟩
          have k14 : KT H13 (upd H13 lh (.lst zh')) := .lst eh13
          refine ⟨shifted h [] (gains T (m.2, m.1)), lf, hd.erase m, p', zl, zh', _, _, _, rfl, Same.mut (s08.trans s813) nh0, (k8.trans (.same s813)).trans k14, (upd_ne nlh').trans el13, (il8.mono (.same s813)).mono k14, upd_same, ih', d13.other ph' k14, pl, ph', mlf, fun m' hm' => mhd m' (List.mem_of_mem_erase hm'), ?_, run⟩
          have := List.length_erase_of_mem hm
          omega
      · rintro σ H5 ⟨h, lf, hd, pc, zl, zh, y6, y7, y8, rfl, s5, k5, el5, il5, eh5, ih5, dl5, ncl, nch, mlf, mhd, hlen, run⟩
        rw [List.drop_length] at run
        obtain ⟨rfl, rfl⟩ := run
        refine ⟨_, rfl, Nat.zero_le _, fun l6 nl6 => ?_⟩
        have s6 : Same H5 (upd H5 l6 (.lst [])) := Same.new nl6
        refine r_eqNil (ds := []) (s6 _ _ el5) (il5.mono (.same s6)) upd_same rfl ⟨_, rfl, iteP rfl ?_⟩
        refine ⟨_, rfl, Nat.zero_le _, fun l7 nl7 => ?_⟩
        have s7 : Same (upd H5 l6 (.lst [])) (upd (upd H5 l6 (.lst [])) l7 (.lst [])) := Same.new nl7
        exact r_eqNil (ds := []) (s7 _ _ (s6 _ _ eh5)) ((ih5.mono (.same s6)).mono (.same s7)) upd_same rfl (q _ ((s5.trans s6).trans s7))
end
end RW
end
section
set_option linter.all false
set_option maxRecDepth 100000
set_option autoImplicit false
set_option maxHeartbeats 1000000
/-! Calls by keywords alone; repr of data; calls where no repr is under way; a dict with one tuple for a key. -/
namespace RW
open PySem PySem.Spec PyProof.Rows L2
/-! ### calls by keywords alone -/
section
variable {X : Cx} {x : Str} {st : Stmt} {ps ks : List Str} {k : Nat} {sp : Sp} {kws : List Keyword} {tk : TA} {p pos : Pos} {g : List Value → List Value → List Value} {gV : List V → List V → List V}
theorem pe_ckN (F : OkN X.prog X.w X.K X.mg X.base x st ps k sp) (hb : ∀ f fd, Fun X.K x x st f fd → KBinds X.K fd ps ks g gV) (hr : Room k X.A) (hkw : PK X kws tk) (hg : Gl X x := by rfl) (hall : (backToKw pos (keywordEach kws X.env)).all (·.1.isSome) = true := by rfl)
    (hks : (backToKw pos (keywordEach kws X.env)).filterMap (·.1) = ks := by rfl) (hdb : (x == ("__debug__" : Str)) = false := by decide) (hpl : ((backTo pos (starEach [] X.env)).any (·.1) || (backToKw pos (keywordEach kws X.env)).any (·.1.isNone)) = false := by rfl) :
    PE X (.Call (.Name x p) [] kws pos) (tCallK sp gV E0 tNil tk) := by
  obtain ⟨f, fd, hm, F1, G⟩ := F
  refine ⟨fun pins s σ H Q I h => wpAny_Call_Name_kw (ld_glob I hg hm ?_ hdb)⟩
  refine PySem.W.callWith_KW0 (h₀ := X.base) I.ok.mod.kin F1.kp hall (thn (hkw.run pos pins s σ H _ I h) fun ws s2 ⟨zs, H2, I2, rz, q2⟩ => ⟨I2.kIn, ?_⟩) hpl
  rw [hks]
  exact run_fnk G hr (hb f fd F1) pass0 I2 .nil rz q2
end
/-- asked, lot, stand, tree -/
def kwA {α : Type} : List α → List α → List α
  | [], [a, b, c, d] => [d, c, b, a]
  | _, _ => []
/-- asked, stand, lot, tree -/
def kwB {α : Type} : List α → List α → List α
  | [], [a, b, c, d] => [d, b, c, a]
  | _, _ => []
theorem kwA_rel {vs : List V} {us : List Value} {zs : List V} {ws : List Value} (r : Vals vs us) (q : Vals zs ws) : Vals (kwA vs zs) (kwA us ws) := by
  cases r with
  | cons _ _ => exact .nil
  | nil =>
    cases q with
    | nil => exact .nil
    | cons r1 q =>
      cases q with
      | nil => exact .nil
      | cons r2 q =>
        cases q with
        | nil => exact .nil
        | cons r3 q =>
          cases q with
          | nil => exact .nil
          | cons r4 q =>
            cases q with
            | nil => exact .cons r4 (.cons r3 (.cons r2 (.cons r1 .nil)))
            | cons _ _ => exact .nil
theorem kwB_rel {vs : List V} {us : List Value} {zs : List V} {ws : List Value} (r : Vals vs us) (q : Vals zs ws) : Vals (kwB vs zs) (kwB us ws) := by
  cases r with
  | cons _ _ => exact .nil
  | nil =>
    cases q with
    | nil => exact .nil
    | cons r1 q =>
      cases q with
      | nil => exact .nil
      | cons r2 q =>
        cases q with
        | nil => exact .nil
        | cons r3 q =>
          cases q with
          | nil => exact .nil
          | cons r4 q =>
            cases q with
            | nil => exact .cons r4 (.cons r2 (.cons r3 (.cons r1 .nil)))
            | cons _ _ => exact .nil
theorem kw_four {α : Type} {g : List α → List α → List α} (h : ∀ us ws, (g us ws).length = 4 → ∃ a b c d, us = [] ∧ ws = [a, b, c, d]) (us ws : List α) (e : (g us ws).length = 4) : ∃ a b c d, us = [] ∧ ws = [a, b, c, d] := h us ws e
theorem kwA_four {α : Type} : ∀ (us ws : List α), (kwA us ws).length = 4 → ∃ a b c d, us = [] ∧ ws = [a, b, c, d]
  | [], [a, b, c, d], _ => ⟨a, b, c, d, rfl, rfl⟩
  | [], [], h => by cases h
  | [], [_], h => by cases h
  | [], [_, _], h => by cases h
  | [], [_, _, _], h => by cases h
  | [], _ :: _ :: _ :: _ :: _ :: _, h => by cases h
  | _ :: _, _, h => by cases h
theorem kwB_four {α : Type} : ∀ (us ws : List α), (kwB us ws).length = 4 → ∃ a b c d, us = [] ∧ ws = [a, b, c, d]
  | [], [a, b, c, d], _ => ⟨a, b, c, d, rfl, rfl⟩
  | [], [], h => by cases h
  | [], [_], h => by cases h
  | [], [_, _], h => by cases h
  | [], [_, _, _], h => by cases h
  | [], _ :: _ :: _ :: _ :: _ :: _, h => by cases h
  | _ :: _, _, h => by cases h
theorem kb_can {K : PySem.W.Frag} {f : Addr} {fd : FuncData} (F : Fun K "can_finish" "can_finish" s_can_finish f fd) : KBinds K fd ["tree", "stand", "lot", "asked"] ["asked", "lot", "stand", "tree"] kwA kwA := by
  obtain ⟨oc, od, kV, doc, pm, an, cdv, ct, osl, rfl, lk, hcd⟩ := F.ex
  refine ⟨fun s us ws _ hl => ?_, kwA_rel⟩
  obtain ⟨a, b, c, d, rfl, rfl⟩ := kwA_four us ws hl
  exact .of_eq rfl
theorem kb_fin {K : PySem.W.Frag} {f : Addr} {fd : FuncData} (F : Fun K "finishing" "finishing" s_finishing f fd) : KBinds K fd ["tree", "stand", "lot", "asked"] ["asked", "stand", "lot", "tree"] kwB kwB := by
  obtain ⟨oc, od, kV, doc, pm, an, cdv, ct, osl, rfl, lk, hcd⟩ := F.ex
  refine ⟨fun s us ws _ hl => ?_, kwB_rel⟩
  obtain ⟨a, b, c, d, rfl, rfl⟩ := kwB_four us ws hl
  exact .of_eq rfl
/-! ### repr of data -/
section
variable {X : Cx}
def rRepr (K : PySem.W.Frag) : List V → Hp → VK → Prop := fun xs H Q => ∃ (a : Addr) (d : PyData), xs = [.ref a] ∧ Dp K H (.ref a) d ∧ d.showable = true ∧ d.hasDict = false ∧ d.depth ≤ 60 ∧ d.shown.length ≤ sizeLine ∧ Q (.str d.shown) H
theorem call_reprD (hg : X.A.guards = some []) (hu : X.A.units + 65 < cLine) : CallR X (.builtin "repr") (rRepr X.K) := by
  intro pins s σ H xs us Q I r h
  obtain ⟨a, d, rfl, hd, hs, hh, hdep, hz, q⟩ := h
  rw [Vals.ref1 r]
  obtain ⟨as, r2⟩ := Dp.reads I d (.ref a) (.ref a) hd rfl
  refine PySem.repr_of_reads' r2 hs (fun e => by rw [hh] at e; cases e) hg (by omega) (fun _ _ e => e) (fun h' t tk hk => ?_) hz
  exact ⟨.str d.shown, H, I.kept (t' := tk) hk, ⟨t, rfl⟩, q⟩
end
/-! ### calls where no repr is under way -/
structure FnG (P : Program) (w : World) (K : PySem.W.Frag) (mg : Str → Option Value) (base : Heap) (k : Nat) (f : Addr) (fd : FuncData) (ps : List Str) (sp : Sp) : Prop where
  ln : ∀ vs H Q E, sp vs H Q E → vs.length = ps.length
  go : ∀ (A : Around) (outer : List Env) (s : Shared) (H : Hp) (args : Args) (us : List Value) (vs : List V) (Q : VK) (E : XK), A.guards = some [] → Room k A → Env0 P w K mg base A outer s H → BindsTo s fd args (ps.zip us) → Vals vs us → sp vs H Q E →
    codeAny (model P w) A (.call (.ref f) args) (CR CX0 outer P w H s Q E) s
/-- such a def by its name -/
def OkG (P : Program) (w : World) (K : PySem.W.Frag) (mg : Str → Option Value) (base : Heap) (x : Str) (ps : List Str) (k : Nat) (sp : Sp) : Prop :=
  ∃ (f : Addr) (fd : FuncData), mg x = some (.ref f) ∧ PySem.W.keepIn K (.ref f) = true ∧ Binds K fd ps [] ∧ FnG P w K mg base k f fd ps sp
section
variable {P : Program} {w : World} {K : PySem.W.Frag} {mg : Str → Option Value} {base : Heap}
theorem fun_okG {x : Str} {st : Stmt} {f : Addr} {fd : FuncData} {N ps : List Str} {k : Nat} {sp : Sp} (F : Fun K x x st f fd) (S : FnScope N ps (defScope st)) (len : ∀ vs H Q E, sp vs H Q E → vs.length = ps.length)
    (hbody : ∀ (cdv : Value) (A : Around) (outer : List Env) (s : Shared) (H : Hp) (vs : List V) (Q : VK) (E : XK), A.guards = some [] → Room k (A.deeper (envOfC x (defScope st) s.heap.objs.size f cdv)) → sp vs H Q E →
      ∃ t, PSs (cxOf CX0 P w K mg base N x (defScope st) f cdv A outer s H E).nox (defBody st) t ∧ t { nx := fun _ H' => Q .non H', rt := Q } (start N vs) H) : FnG P w K mg base (k + 1) f fd ps sp := by
  obtain ⟨oc, od, kV, doc, pm, an, cdv, ct, osl, rfl, lk, hcd⟩ := F.ex
  refine ⟨len, fun A outer s H args us vs Q E hg hr env0 bnd rel hsp => ?_⟩
  have hl0 : vs.length = ps.length := len _ _ _ _ hsp
  have inK : K.In s.heap := env0.mod.kin.keeps fun b ob e => (env0.bs b ob e).1
  have noLim : s.heap.NoLimit := env0.mod.nolimit.keeps fun b ob e => (env0.bs b ob e).1
  refine codeAny_call_function hr.depth (inK _ _ lk) rfl S.co S.gen rfl (PySem.W.codeRec_of inK hcd) (bnd _ _ _ _ ?_)
  refine wpAny_newFunctionEnv_cells S.kind (fun ⟨n, v⟩ hy => (S.par n (List.of_mem_zip hy).1).imp id fun c => ⟨c, PySem.W.cellsFrom_some _ _ _ (.inl c)⟩) fun env he s1 inC => ?_
  subst he
  refine ⟨noLim.keeps inC.toInCall.keep, codeAny_func ?_⟩
  obtain ⟨t, ht, hq⟩ := hbody cdv A outer s H vs Q E hg (hr.deeper _) hsp
  have J0 : Inv (cxOf CX0 P w K mg base N x (defScope st) f cdv A outer s H E) [] (start N vs) H s1 := inv_start S hr.hd env0 hl0 rel inC
  have last : ∀ {σ' : L2.St} {H' : Hp} {v : V} {u : Value} {s' : Shared}, Inv (cxOf CX0 P w K mg base N x (defScope st) f cdv A outer s H E) [] σ' H' s' → RelV v u → Q v H' → CE outer P w H s Q u s' :=
    fun J rv q => ⟨_, _, J.os, J.bare, J.base, J.hok, rv, q⟩
  refine wpAny_mono (ht.nox.run [] s1 (start N vs) H _ J0 hq) (fun fl s' out => ?_) fun _ _ z => z
  match fl, out with
  | .ret u, ⟨v, σ', H', J, rv, q⟩ => exact last J rv q
  | .next, ⟨σ', H', J, q⟩ => exact last (v := V.non) (u := Value.none) J rfl q
  | .brk, ⟨_, _, _, q⟩ => exact q.elim
  | .cont, ⟨_, _, _, q⟩ => exact q.elim
theorem Has.okG {x : Str} {st : Stmt} {N ps : List Str} {k : Nat} {sp : Sp} (F : Has K mg x st) (S : FnScope N ps (defScope st))
    (hb : ∀ (kV doc pm : Value) (an : Option Addr) (cdv ct : Value) (us : List Value), us.length = ps.length → bindArgs (PySem.W.fnOf x x (defArgs st) (defBody st) (defScope st) .none kV doc pm an cdv ct) ⟨us, []⟩ = pure (ps.zip us))
    (len : ∀ vs H Q E, sp vs H Q E → vs.length = ps.length)
    (hbody : ∀ (f : Addr) (cdv : Value) (A : Around) (outer : List Env) (s : Shared) (H : Hp) (vs : List V) (Q : VK) (E : XK), A.guards = some [] → Room k (A.deeper (envOfC x (defScope st) s.heap.objs.size f cdv)) → sp vs H Q E →
      ∃ t, PSs (cxOf CX0 P w K mg base N x (defScope st) f cdv A outer s H E).nox (defBody st) t ∧ t { nx := fun _ H' => Q .non H', rt := Q } (start N vs) H) : OkG P w K mg base x ps (k + 1) sp := by
  obtain ⟨f, fd, hm, F⟩ := F
  exact ⟨f, fd, hm, F.kp, F.binds hb, fun_okG F S len fun cdv A outer s H vs Q E hg hr h => hbody f cdv A outer s H vs Q E hg hr h⟩
end
section
variable {X : Cx} {x : Str} {ps : List Str} {k : Nat} {sp : Sp} {e : Expr} {es : List Expr} {p pos : Pos} {t : TA}
theorem run_g {f : Addr} {fd : FuncData} {pins : List (Addr × Obj)} {σ : L2.St} {H : Hp} {s : Shared} {Q : VK} {us : List Value} {vs : List V} (G : FnG X.prog X.w X.K X.mg X.base k f fd ps sp) (hgd : X.A.guards = some []) (hr : Room k X.A) (hb : Binds X.K fd ps [])
    (I : Inv X pins σ H s) (r : Vals vs us) (h : sp vs H Q E0) : wpAny (model X.prog X.w) X.A (call (.ref f) us) (EP X pins σ Q) X.xe s := by
  have hl : us.length = ps.length := r.length.symm.trans (G.ln _ _ _ _ h)
  refine wpAny_call (codeAny_mono (G.go X.A X.stack s H ⟨us, []⟩ us vs Q E0 hgd hr I.env0 (by simpa using hb s us I.kIn (by simpa using hl)) r h) fun res s' out => ?_)
  match res, out with
  | .ok (.ret u), out => exact I.after out
  | .ok .next, out => exact out.elim
  | .ok .brk, out => exact out.elim
  | .ok .cont, out => exact out.elim
theorem pe_g (F : OkG X.prog X.w X.K X.mg X.base x ps k sp) (hgd : X.A.guards = some []) (hr : Room k X.A) (ha : PA X (e :: es) t) (hg : Gl X x := by rfl) (hdb : (x == ("__debug__" : Str)) = false := by decide)
    (he : starEach (e :: es) X.env = (false, eval e X.env) :: starEach es X.env := by rfl) (hpl : (backTo pos (starEach es X.env)).any (·.1) = false := by rfl) : PE X (.Call (.Name x p) (e :: es) [] pos) (tCall sp [] E0 t) := by
  obtain ⟨f, fd, hm, hk, hb, G⟩ := F
  refine ⟨fun pins s σ H Q I h => wpAny_Call_Name_kw (ld_glob I hg hm (PySem.W.callWith_K (h₀ := X.base) I.ok.mod.kin hk (thn (ha.run pos pins s σ H _ I h) fun us s1 ⟨vs, H1, I1, r, q⟩ => ⟨I1.kIn, ?_⟩) he hpl) hdb)⟩
  have q' : sp (vs ++ []) H1 Q E0 := q
  rw [List.append_nil] at q'
  exact run_g G hgd hr hb I1 r q'
theorem pe_g0 (F : OkG X.prog X.w X.K X.mg X.base x ps k sp) (hgd : X.A.guards = some []) (hr : Room k X.A) (hg : Gl X x := by rfl) (hdb : (x == ("__debug__" : Str)) = false := by decide) : PE X (.Call (.Name x p) [] [] pos) (tCall sp [] E0 tNil) := by
  obtain ⟨f, fd, hm, hk, hb, G⟩ := F
  exact ⟨fun pins s σ H Q I h => wpAny_Call_Name_kw (ld_glob I hg hm (PySem.W.callWith_K0 I.kIn hk (run_g (us := []) G hgd hr hb I .nil h)) hdb)⟩
end
/-! ### {a tuple: v} -/
def tDispT (tk tv : TE) : TE := fun σ H Q => ∀ p, H p = none → tk σ (upd H p (.dT [])) fun x H1 => tv σ H1 fun y H2 => ∃ (ks : List Key) (b : Addr), x = .ref b ∧ H2 b = some (.tup (ks.map kV)) ∧ H2 p = some (.dT []) ∧ Q (.ref p) (upd H2 p (.dT [(ks, y)]))
section
variable {X : Cx} {k v : Expr} {pos : Pos} {tk tv : TE}
theorem pe_dispT (hu : X.A.units + 1 < cLine) (hk : PE X k tk) (hv : PE X v tv) : PE X (.Dict [some k] [v] pos) (tDispT tk tv) := by
  refine ⟨fun pins s σ H Q I q => ?_⟩
  have hn := I.hok.fresh (Nat.le_refl s.heap.objs.size)
  have I1 := I.laid (a := s.heap.objs.size) (o := .dT []) (h' := s.heap.push { cls := .type "dict", data := .dict #[] }) (t' := s.toks) (fun _ _ z => Heap.get?_push_of_some _ z) (Nat.le_refl _) (dt_empty s.heap I.big)
  rw [arm_eval_Dict, zip_pairTrees [some k] [v] X.env pos rfl rfl, dictDisplay_pairs (pairTrees [some k] [v] X.env pos) (by intro z; cases z) (by show 1 < 17; decide)]
  refine wpAny_bind (wpAny_standAt (wpAny_bind (wpAny_subDictH (knd := tupleKind (mixKind X.prog X.w)) (Q := fun d s' => wpAny (model X.prog X.w) X.A (pure (Value.ref d)) (EP X pins σ Q) X.xe s') ?_ (by show 1 ≤ 15; decide) ?_)))
  · exact Nat.lt_of_succ_lt hu
  · refine pairTrees_cons_walk (thn (hk.run pins _ σ _ _ I1 (q _ hn)) fun ku s2 ⟨x, H2, I2, rx, q2⟩ => thn (hv.run pins s2 σ H2 _ I2 q2) fun vu s3 ⟨y, H3, I3, ry, ks, b, ex, eb, e3, q3⟩ => pairTrees_nil_walk ?_)
    subst ex
    obtain rfl : ku = Value.ref b := rx
    obtain ⟨z, hd, xs, rel, dd⟩ := dt_of I3.hok e3
    cases rel
    refine ⟨[(ks, b, vu)], ⟨rfl, rfl, key_of I3.hok eb, trivial⟩, dd, fun h' tk' dd' sb => wpAny_pure ?_⟩
    obtain ⟨o, es, ep, ho, h2, h3, h4, _, h5⟩ := dd'
    refine ⟨.ref _, _, d_write (ob := .dT [(ks, y)]) I3 (by rw [e3]; exact True.intro) sb ⟨o, ho⟩ ⟨by show 1 ≤ sizeLine; decide, hd, _, .cons ⟨rfl, ?_, ry⟩ .nil, o, es, ep, ho, h2, h3, h4, h5⟩, rfl, q3⟩
    rw [upd_ne (ne_of eb e3 (fun z => nomatch z))]
    exact eb
end
end RW
end
section
set_option linter.all false
set_option maxRecDepth 100000
set_option autoImplicit false
set_option maxHeartbeats 4000000
/-! tuple * int, for any number of times; int - bool; a sign's replace. -/
namespace RW
open PySem PySem.Spec PyProof.Rows L2
open AutoSeq1 (wpAny_loadPart')
theorem mul_once (l : Addr) (items : Array Value) (n : Nat) (dd : Option Addr) (sl : Array (Option Value)) (u : Tok) :
    Meets (Builtin.«tuple.__mul__» ⟨[.ref l, .int 1 u], []⟩) (fun _ R s => s.heap.get? l = some { cls := .type "tuple", dict := dd, data := .seq items n, slots := sl } ∧ R (.ok (.ret (Value.ref l))) s) :=
  .of_wp fun prog w A R s h => by
    obtain ⟨hp, g, d, tk, os⟩ := s
    obtain ⟨hl, h⟩ := h
    have f1 := AutoSeq1.idx_int
    have c1 : (items.isEmpty || (1 : Int) == 1) = true := by simp
    wp_walk using wpAny_loadPart' hl
    repeat (first
      | (refine wpAny_ite_false (by decide) ?_; wp_walk using wpAny_loadPart' hl)
      | (refine wpAny_ite_true (decide_eq_true c1) ?_; wp_walk using wpAny_loadPart' hl))
    exact ⟨_, rfl, h⟩
theorem mul_none (l : Addr) (items : Array Value) (n : Nat) (dd : Option Addr) (sl : Array (Option Value)) (u : Tok) (hne : items.isEmpty = false) :
    Meets (Builtin.«tuple.__mul__» ⟨[.ref l, .int 0 u], []⟩) (fun _ R s => s.heap.get? l = some { cls := .type "tuple", dict := dd, data := .seq items n, slots := sl } ∧
      R (.ok (.ret (Value.ref s.heap.objs.size))) { s with heap := s.heap.push { cls := Value.type "tuple", data := Data.seq #[] }, toks := s.toks }) :=
  .of_wp fun prog w A R s h => by
    obtain ⟨hp, g, d, tk, os⟩ := s
    obtain ⟨hl, h⟩ := h
    have f1 := AutoSeq1.idx_int
    have c1 : (items.isEmpty || (0 : Int) == 1) = false := by rw [hne]; rfl
    have c2 : (decide ((0 : Int) ≤ 0) || items.isEmpty) = true := by simp
    wp_walk using wpAny_loadPart' hl
    repeat (first
      | (refine wpAny_ite_false (decide_eq_false (by rw [c1]; exact Bool.false_ne_true)) ?_; wp_walk using wpAny_loadPart' hl)
      | (refine wpAny_ite_true (decide_eq_true c2) ?_; wp_walk using wpAny_loadPart' hl)
      | (refine wpAny_ite_false (by decide) ?_; wp_walk using wpAny_loadPart' hl))
    exact ⟨_, rfl, h⟩
section
variable {X : Cx}
/-- (v,) * n -/
def rMulT : R2 := fun x y H Q => ∃ (l : Addr) (v : V) (n : Nat), x = .ref l ∧ y = .int (n : Nat) ∧ H l = some (.tup [v]) ∧ n ≤ 1000 ∧ ∀ p H', Same H H' → H' p = some (.tup (List.replicate n v)) → Q (.ref p) H'
theorem op_mulT : OpR X (binaryOp .Mult) rMulT := by
  intro pins s σ H x y v u Q I rx ry h
  obtain ⟨l, e, n, rfl, rfl, hl, hn, q⟩ := h
  match n, hn, q with
  | n + 2, hn, q =>
    refine op_repT pins s σ H _ _ v u Q I rx ry ⟨l, _, [e], rfl, rfl, .inl (.inl hl), (fun z => nomatch z), by omega, by omega, (by show 1 ≤ 1000; decide), fun p np => q p _ (Same.new np) ?_⟩
    rw [upd_same]
    have : ((n + 2 : Nat) : Int).toNat = n + 2 := by omega
    rw [this]
    congr 2
    generalize n + 2 = m
    induction m with
    | zero => rfl
    | succ m ih => rw [List.replicate_succ, List.flatten_cons, ih, List.replicate_succ]; rfl
  | 0, _, q =>
    cases rx
    obtain ⟨t, rfl⟩ := ry
    obtain ⟨its, r, ⟨⟨cls, dd, data, sl⟩, ho, hc, n, hd⟩, hs⟩ := I.tuple (.inl (.inl hl))
    simp only at hc hd
    subst hc hd
    obtain ⟨u, rfl, ru⟩ := vals1 r
    refine wpAny_binaryOp_repeat_ref (T := "tuple") (U := "int") (by decide) ⟨_, ho, rfl⟩ (fun s' => typeIs_int s' 0 t) noFill_tuple_mul F.fills_int_mul F.slot_int_rmul repeat_tuple F.slot_int_index.lookup
      (call_meets F.slot_int_rmul (typeIs_int s 0 t) F.entry_int_rmul (F.args_int_rmul_2 _ _) (int_rmul_tuple 0 t l _ n dd sl)
        ⟨ho, rfl, ⟨_, ho, rfl⟩, call_meets F.slot_tuple_mul ⟨_, ho, rfl⟩ F.entry_tuple_mul (F.args_tuple_mul_2 _ _) (mul_none l _ n dd sl t rfl) ⟨ho, ?_⟩⟩)
    have hn := I.hok.fresh (Nat.le_refl s.heap.objs.size)
    refine ⟨.ref s.heap.objs.size, _, I.laid (t' := s.toks) (o := .tup []) (fun b ob z => Heap.get?_push_of_some _ z) (Nat.le_refl _) ⟨Nat.zero_le _, [], .nil, IsTup.new _ _⟩, rfl, q _ _ (Same.new hn) upd_same⟩
  | 1, _, q =>
    cases rx
    obtain ⟨t, rfl⟩ := ry
    obtain ⟨its, r, ⟨⟨cls, dd, data, sl⟩, ho, hc, n, hd⟩, hs⟩ := I.tuple (.inl (.inl hl))
    simp only at hc hd
    subst hc hd
    refine wpAny_binaryOp_repeat_ref (T := "tuple") (U := "int") (by decide) ⟨_, ho, rfl⟩ (fun s' => typeIs_int s' 1 t) noFill_tuple_mul F.fills_int_mul F.slot_int_rmul repeat_tuple F.slot_int_index.lookup
      (call_meets F.slot_int_rmul (typeIs_int s 1 t) F.entry_int_rmul (F.args_int_rmul_2 _ _) (int_rmul_tuple 1 t l _ n dd sl)
        ⟨ho, rfl, ⟨_, ho, rfl⟩, call_meets F.slot_tuple_mul ⟨_, ho, rfl⟩ F.entry_tuple_mul (F.args_tuple_mul_2 _ _) (mul_once l _ n dd sl t) ⟨ho, ?_⟩⟩)
    exact ⟨.ref l, H, I, rfl, q l H (Same.refl _) hl⟩
theorem op_sub_ib : OpR X (binaryOp .Sub) (fun x y H Q => ∃ i k, x = .int i ∧ y = .bl k ∧ Q (.int (i - b2i k)) H) := by
  intro pins s σ H x y v u Q I rx ry h
  obtain ⟨i, k, rfl, rfl, q⟩ := h
  obtain ⟨t, rfl⟩ := rx
  cases ry
  exact PySem.IntBool.sub_int_bool ⟨.int (i - b2i k), H, I.tok _, ⟨_, rfl⟩, q⟩
/-- s[n].replace(y, z) -/
def tReplI (to : TE) (n : Int) (y z : Str) : TE := fun σ H Q => to σ H fun v H1 => ∃ (x : Str) (c : Nat), v = .str x ∧ x.length ≤ sizeLine ∧ atI x.cps.toList n = some c ∧ Q (.str (Txt.replace ⟨#[c]⟩ y z)) H1
theorem pe_replI {o : Expr} {to : TE} {n : Int} {y z : Str} {j k kk : Nat} {c0 c1 c2 p0 apos pos : Pos} (ho : PE X o to) (hyz : (y == z) = false := by decide) (hz : z.length ≤ 1000 := by decide)
    (hst : starEach [.Constant (.str y) j c1, .Constant (.str z) k c2] X.env = [(false, eval (.Constant (.str y) j c1) X.env), (false, eval (.Constant (.str z) k c2) X.env)] := by rfl)
    (hbase : attributeBase (.Subscript o (.Constant (.int n) kk c0) p0) "replace" X.env (eval (.Subscript o (.Constant (.int n) kk c0) p0) X.env) = eval (.Subscript o (.Constant (.int n) kk c0) p0) X.env := by rfl) (hline : (apos.endLine == pos.line) = true := by rfl) :
    PE X (.Call (.Attribute (.Subscript o (.Constant (.int n) kk c0) p0) "replace" apos) [.Constant (.str y) j c1, .Constant (.str z) k c2] [] pos) (tReplI to n y z) := by
  refine ⟨fun pins s σ H Q I h => ?_⟩
  refine PySem.Call_method2 hbase hst hline (Subscript_ (thn (ho.run pins s σ H _ I h) fun v s1 ⟨w', H1, I1, r1, x, c, ex, hx, hc, q⟩ => wpAny_Constant_int ?_))
  subst ex
  refine wpAny_mono (PySem.wpAny_toks (ix_str o (.Constant (.int n) kk c0) pins { s1 with toks := s1.toks + 1 } σ H1 (.str x) (.int n) v _ (fun v' H2 => v' = .str ⟨#[c]⟩ ∧ H2 = H1) (I1.tok _) r1 ⟨_, rfl⟩ ⟨x, n, c, rfl, rfl, hx, hc, rfl, rfl⟩ rfl)) (fun v3 s3 got => ?_) fun _ _ e => e.2
  obtain ⟨hk, v', H2, I2, r2, e1, e2⟩ := got
  subst e1 e2
  obtain ⟨tx, rfl⟩ := r2
  have pos3 : 1 ≤ s3.toks := Nat.le_trans (Nat.le_add_left 1 s1.toks) hk
  refine ⟨"str", _, PySem.F.plainAttrs_str, PySem.F.slot_str_replace, PySem.F.type_str_replace, typeIs_str _ _ _, (fun _ e => nomatch e), Calls.callWith_builtin rfl (Calls.evalArgs_plain (Calls.spliced_cons (Calls.Constant_str (Calls.spliced_cons (Calls.Constant_str (Calls.spliced_nil ?_))))))⟩
  have len1 : (⟨#[c]⟩ : Str).length = 1 := rfl
  exact PySem.SC.replace (by show s3.toks ≠ 0; omega) (by show s3.toks + 1 ≠ 0; omega) (by show s3.toks ≠ s3.toks + 1; omega) hyz (by rw [len1]; omega) fun t' k' => ⟨.str (Txt.replace ⟨#[c]⟩ y z), H2, I2.tok k', ⟨t', rfl⟩, q⟩
end
end RW
end
section
set_option linter.all false
set_option autoImplicit false
/-! Going through all states, lap by lap. -/
namespace RR
section
variable {α : Type} [DecidableEq α]
/-- seen, late -/
abbrev BS (α : Type) := List α × List α
def addS (st : BS α) (x : α) : BS α := if x ∈ st.1 then st else (st.1 ++ [x], st.2 ++ [x])
def goJ (may : Nat → Bool) (key : Nat → α) : Nat → BS α → BS α
  | 0, st => st
  | i + 1, st => if may i = true then addS (goJ may key i st) (key i) else goJ may key i st
def goE (may : α → Nat → Bool) (key : α → Nat → α) (n : Nat) (E : List α) (st : BS α) : BS α := E.foldl (fun st x => goJ (may x) (key x) n st) st
def laps (may : α → Nat → Bool) (key : α → Nat → α) (n : Nat) (x0 : α) : Nat → BS α
  | 0 => ([x0], [x0])
  | k + 1 => goE may key n (laps may key n x0 k).2 ((laps may key n x0 k).1, [])
structure Ext (st st' : BS α) : Prop where
  sub : ∀ x, x ∈ st.1 → x ∈ st'.1
  new : ∀ x, x ∈ st'.1 → x ∈ st.1 ∨ x ∈ st'.2
  l1 : ∀ x, x ∈ st.2 → x ∈ st'.2
theorem Ext.refl (st : BS α) : Ext st st := ⟨fun _ h => h, fun _ h => .inl h, fun _ h => h⟩
theorem Ext.trans {a b c : BS α} (h : Ext a b) (g : Ext b c) : Ext a c :=
  ⟨fun x q => g.sub x (h.sub x q), fun x q => (g.new x q).elim (fun q => (h.new x q).imp id (g.l1 x)) .inr, fun x q => g.l1 x (h.l1 x q)⟩
theorem addS_ext (st : BS α) (x : α) : Ext st (addS st x) := by
  unfold addS
  split
  · exact .refl _
  · exact ⟨fun y h => List.mem_append_left _ h, fun y h => (List.mem_append.mp h).imp id fun h => List.mem_append_right _ h, fun y h => List.mem_append_left _ h⟩
theorem addS_mem (st : BS α) (x : α) : x ∈ (addS st x).1 := by
  unfold addS
  split
  · assumption
  · exact List.mem_append_right _ List.mem_cons_self
theorem addS_nd {st : BS α} (x : α) (h : st.1.Nodup) : (addS st x).1.Nodup := by
  unfold addS
  split
  · exact h
  · rename_i q
    rw [List.nodup_append]
    refine ⟨h, by simp, fun a ha b hb e => q ?_⟩
    rw [List.mem_singleton.mp hb] at e
    rw [← e]
    exact ha
theorem addS_all {st : BS α} {x : α} {P : α → Prop} (h : ∀ y, y ∈ st.1 → P y) (hx : P x) : ∀ y, y ∈ (addS st x).1 → P y := by
  unfold addS
  split
  · exact h
  · intro y hy
    rcases List.mem_append.mp hy with hy | hy
    · exact h y hy
    · rw [List.mem_singleton.mp hy]
      exact hx
theorem addS_late {st : BS α} {x : α} (h : ∀ y, y ∈ st.2 → y ∈ st.1) : ∀ y, y ∈ (addS st x).2 → y ∈ (addS st x).1 := by
  unfold addS
  split
  · exact h
  · intro y hy
    rcases List.mem_append.mp hy with hy | hy
    · exact List.mem_append_left _ (h y hy)
    · exact List.mem_append_right _ hy
section
variable {may : Nat → Bool} {key : Nat → α}
theorem goJ_ext (st : BS α) : ∀ n, Ext st (goJ may key n st)
  | 0 => .refl _
  | n + 1 => by
    unfold goJ
    split
    · exact (goJ_ext st n).trans (addS_ext _ _)
    · exact goJ_ext st n
theorem goJ_has (st : BS α) : ∀ n i, i < n → may i = true → key i ∈ (goJ may key n st).1
  | 0, i, h, _ => absurd h (Nat.not_lt_zero _)
  | n + 1, i, h, m => by
    unfold goJ
    by_cases e : i = n
    · subst e
      rw [if_pos m]
      exact addS_mem _ _
    · have := goJ_has st n i (by omega) m
      split
      · exact (addS_ext _ _).sub _ this
      · exact this
theorem goJ_nd {st : BS α} (h : st.1.Nodup) : ∀ n, (goJ may key n st).1.Nodup
  | 0 => h
  | n + 1 => by
    unfold goJ
    split
    · exact addS_nd _ (goJ_nd h n)
    · exact goJ_nd h n
theorem goJ_all {st : BS α} {P : α → Prop} (h : ∀ y, y ∈ st.1 → P y) : ∀ n, (∀ i, i < n → may i = true → P (key i)) → ∀ y, y ∈ (goJ may key n st).1 → P y
  | 0, _ => h
  | n + 1, q => by
    unfold goJ
    split
    · rename_i m
      exact addS_all (goJ_all h n fun i hi => q i (by omega)) (q n (by omega) m)
    · exact goJ_all h n fun i hi => q i (by omega)
theorem goJ_late {st : BS α} (h : ∀ y, y ∈ st.2 → y ∈ st.1) : ∀ n, ∀ y, y ∈ (goJ may key n st).2 → y ∈ (goJ may key n st).1
  | 0 => h
  | n + 1 => by
    unfold goJ
    split
    · exact addS_late (goJ_late h n)
    · exact goJ_late h n
end
section
variable {may : α → Nat → Bool} {key : α → Nat → α} {n : Nat} {x0 : α}
theorem goE_cons (x : α) (E : List α) (st : BS α) : goE may key n (x :: E) st = goE may key n E (goJ (may x) (key x) n st) := rfl
theorem goE_snoc (x : α) (E : List α) (st : BS α) : goE may key n (E ++ [x]) st = goJ (may x) (key x) n (goE may key n E st) := by
  unfold goE
  rw [List.foldl_append]
  rfl
theorem goE_ext : ∀ (E : List α) (st : BS α), Ext st (goE may key n E st)
  | [], st => .refl _
  | x :: E, st => (goJ_ext st n).trans (goE_ext E _)
theorem goE_has : ∀ (E : List α) (st : BS α) (x : α), x ∈ E → ∀ i, i < n → may x i = true → key x i ∈ (goE may key n E st).1
  | [], _, _, h, _, _, _ => nomatch h
  | y :: E, st, x, h, i, hi, m => by
    rw [goE_cons]
    rcases List.mem_cons.mp h with rfl | h
    · exact (goE_ext E _).sub _ (goJ_has st n i hi m)
    · exact goE_has E _ x h i hi m
theorem goE_nd : ∀ (E : List α) (st : BS α), st.1.Nodup → (goE may key n E st).1.Nodup
  | [], _, h => h
  | x :: E, st, h => goE_nd E _ (goJ_nd h n)
theorem goE_all {P : α → Prop} : ∀ (E : List α) (st : BS α), (∀ y, y ∈ st.1 → P y) → (∀ x, x ∈ E → ∀ i, i < n → may x i = true → P (key x i)) → ∀ y, y ∈ (goE may key n E st).1 → P y
  | [], _, h, _ => h
  | x :: E, st, h, q => goE_all E _ (goJ_all h n fun i hi m => q x List.mem_cons_self i hi m) fun y hy => q y (List.mem_cons_of_mem _ hy)
theorem goE_late : ∀ (E : List α) (st : BS α), (∀ y, y ∈ st.2 → y ∈ st.1) → ∀ y, y ∈ (goE may key n E st).2 → y ∈ (goE may key n E st).1
  | [], _, h => h
  | x :: E, st, h => goE_late E _ (goJ_late h n)
inductive Rk (may : α → Nat → Bool) (key : α → Nat → α) (n : Nat) (x0 : α) : Nat → α → Prop
  | refl : Rk may key n x0 0 x0
  | step {k i : Nat} {x : α} : Rk may key n x0 k x → i < n → may x i = true → Rk may key n x0 (k + 1) (key x i)
structure LapOk (may : α → Nat → Bool) (key : α → Nat → α) (n : Nat) (x0 : α) (k : Nat) (st : BS α) : Prop where
  from_ : ∀ x, x ∈ st.1 → ∃ j, Rk may key n x0 j x
  late : ∀ x, x ∈ st.2 → x ∈ st.1
  shut : ∀ x, x ∈ st.1 → x ∈ st.2 ∨ ∀ i, i < n → may x i = true → key x i ∈ st.1
  all : ∀ j x, j ≤ k → Rk may key n x0 j x → x ∈ st.1
  nd : st.1.Nodup
theorem laps_ok : ∀ k, LapOk may key n x0 k (laps may key n x0 k)
  | 0 => by
    refine ⟨fun x hx => ⟨0, ?_⟩, fun x hx => hx, fun x hx => .inl hx, fun j x hj h => ?_, by simp [laps]⟩
    · rw [List.mem_singleton.mp hx]
      exact .refl
    · cases h with
      | refl => exact List.mem_singleton.mpr rfl
      | step => omega
  | k + 1 => by
    have ih := laps_ok k
    have hE := goE_ext (may := may) (key := key) (n := n) (laps may key n x0 k).2 ((laps may key n x0 k).1, [])
    have hs : ∀ x, x ∈ (laps may key n x0 (k + 1)).1 → x ∈ (laps may key n x0 (k + 1)).2 ∨ ∀ i, i < n → may x i = true → key x i ∈ (laps may key n x0 (k + 1)).1 := fun x hx => by
      rcases hE.new x hx with h | h
      · refine .inr fun i hi m => ?_
        rcases ih.shut x h with h | h
        · exact goE_has _ _ x h i hi m
        · exact hE.sub _ (h i hi m)
      · exact .inl h
    have hf : ∀ x, x ∈ (laps may key n x0 (k + 1)).1 → ∃ j, Rk may key n x0 j x := goE_all _ _ ih.from_ fun x hx i hi m => by
      obtain ⟨j, h⟩ := ih.from_ x (ih.late x hx)
      exact ⟨j + 1, .step h hi m⟩
    refine ⟨hf, goE_late _ _ (fun y hy => nomatch hy), hs, fun j x hj h => ?_, goE_nd _ _ ih.nd⟩
    cases h with
    | refl => exact hE.sub _ (ih.all 0 x0 (Nat.zero_le _) .refl)
    | @step j i x h hi m =>
      have hx := ih.all j x (by omega) h
      rcases ih.shut x hx with q | q
      · exact goE_has _ _ x q i hi m
      · exact hE.sub _ (q i hi m)
theorem goE_take {E : List α} {i : Nat} {x : α} (e : E[i]? = some x) (st : BS α) : goE may key n (E.take (i + 1)) st = goJ (may x) (key x) n (goE may key n (E.take i) st) := by
  have et : E.take (i + 1) = E.take i ++ [x] := by rw [List.take_add_one, e]; rfl
  rw [et, goE_snoc]
end
theorem addS_le {st : BS α} {x : α} (h : st.2.length ≤ st.1.length) : (addS st x).2.length ≤ (addS st x).1.length := by
  unfold addS
  split
  · exact h
  · rw [List.length_append, List.length_append]
    exact Nat.succ_le_succ h
theorem goJ_le {may : Nat → Bool} {key : Nat → α} {st : BS α} (h : st.2.length ≤ st.1.length) : ∀ n, (goJ may key n st).2.length ≤ (goJ may key n st).1.length
  | 0 => h
  | n + 1 => by
    unfold goJ
    split
    · exact addS_le (goJ_le h n)
    · exact goJ_le h n
theorem goE_le {may : α → Nat → Bool} {key : α → Nat → α} {n : Nat} : ∀ (E : List α) (st : BS α), st.2.length ≤ st.1.length → (goE may key n E st).2.length ≤ (goE may key n E st).1.length
  | [], _, h => h
  | x :: E, st, h => goE_le E _ (goJ_le h n)
/-- in the midst of a lap -/
theorem mid_ok {may : α → Nat → Bool} {key : α → Nat → α} {n : Nat} {x0 : α} {k i j : Nat} {x : α} (e : (laps may key n x0 k).2[i]? = some x) (hj : j ≤ n) :
    (∀ y, y ∈ (goJ (may x) (key x) j (goE may key n ((laps may key n x0 k).2.take i) ((laps may key n x0 k).1, []))).1 → ∃ m, Rk may key n x0 m y) ∧
    (goJ (may x) (key x) j (goE may key n ((laps may key n x0 k).2.take i) ((laps may key n x0 k).1, []))).1.Nodup ∧
    (goJ (may x) (key x) j (goE may key n ((laps may key n x0 k).2.take i) ((laps may key n x0 k).1, []))).2.length ≤ (goJ (may x) (key x) j (goE may key n ((laps may key n x0 k).2.take i) ((laps may key n x0 k).1, []))).1.length := by
  have lo := laps_ok (may := may) (key := key) (n := n) (x0 := x0) k
  have h1 : ∀ y, y ∈ (goE may key n ((laps may key n x0 k).2.take i) ((laps may key n x0 k).1, [])).1 → ∃ m, Rk may key n x0 m y := goE_all _ ((laps may key n x0 k).1, []) lo.from_ fun y hy i' hi m => by
    obtain ⟨m', h⟩ := lo.from_ y (lo.late y (List.mem_of_mem_take hy))
    exact ⟨m' + 1, .step h hi m⟩
  have h2 : (goE may key n ((laps may key n x0 k).2.take i) ((laps may key n x0 k).1, [])).1.Nodup := goE_nd _ ((laps may key n x0 k).1, []) lo.nd
  have h3 : (goE may key n ((laps may key n x0 k).2.take i) ((laps may key n x0 k).1, [])).2.length ≤ (goE may key n ((laps may key n x0 k).2.take i) ((laps may key n x0 k).1, [])).1.length := goE_le _ ((laps may key n x0 k).1, []) (Nat.zero_le _)
  generalize goE may key n ((laps may key n x0 k).2.take i) ((laps may key n x0 k).1, []) = st at h1 h2 h3
  refine ⟨goJ_all h1 j fun i' hi m => ?_, goJ_nd h2 j, goJ_le h3 j⟩
  obtain ⟨m', h⟩ := lo.from_ x (lo.late x (List.mem_of_getElem? e))
  exact ⟨m' + 1, .step h (by omega) m⟩
theorem nd_len {l m : List α} (hn : l.Nodup) (h : ∀ x, x ∈ l → x ∈ m) : l.length ≤ m.length := by
  induction l generalizing m with
  | nil => exact Nat.zero_le _
  | cons a l ih =>
    rw [List.nodup_cons] at hn
    have hm : a ∈ m := h a List.mem_cons_self
    have := ih (m := m.erase a) hn.2 fun x hx => by
      have ne : x ≠ a := fun e => hn.1 (by rw [← e]; exact hx)
      exact (List.mem_erase_of_ne ne).mpr (h x (List.mem_cons_of_mem _ hx))
    rw [List.length_erase_of_mem hm] at this
    have := List.length_pos_of_mem hm
    rw [List.length_cons]
    omega
end
/-! ### flags -/
def allF : Nat → List (List Nat)
  | 0 => [[]]
  | n + 1 => (allF n).map (0 :: ·) ++ (allF n).map (1 :: ·) ++ (allF n).map (2 :: ·)
theorem allF_len : ∀ n, (allF n).length = 3 ^ n
  | 0 => rfl
  | n + 1 => by
    unfold allF
    rw [List.length_append, List.length_append, List.length_map, List.length_map, List.length_map, allF_len n, Nat.pow_succ]
    omega
theorem allF_mem : ∀ (n : Nat) (φ : List Nat), φ.length = n → (∀ k, k ∈ φ → k ≤ 2) → φ ∈ allF n
  | 0, φ, h, _ => by
    rw [List.length_eq_zero_iff.mp h]
    exact List.mem_singleton.mpr rfl
  | n + 1, [], h, _ => by cases h
  | n + 1, k :: φ, h, q => by
    have ih := allF_mem n φ (by rw [List.length_cons] at h; omega) fun j hj => q j (List.mem_cons_of_mem _ hj)
    have hk := q k List.mem_cons_self
    unfold allF
    rw [List.mem_append, List.mem_append]
    match k, hk with
    | 0, _ => exact .inl (.inl (List.mem_map_of_mem ih))
    | 1, _ => exact .inl (.inr (List.mem_map_of_mem ih))
    | 2, _ => exact .inr (List.mem_map_of_mem ih)
    | k + 3, h => omega
def keyF (φ : List Nat) (j : Nat) : List Nat := φ.take j ++ [φ.getD j 0 + 1] ++ φ.drop (j + 1)
def mayF (place : List Nat → Nat → Bool) (φ : List Nat) (j : Nat) : Bool := decide (φ.getD j 0 = 1) || (decide (φ.getD j 0 = 0) && place φ j)
section
variable {N : Type} [DecidableEq N] {W : N → List N} {r u : N → Int} {L : List (Mv N)} {place : List Nat → Nat → Bool} {φ φ0 : List Nat}
theorem zip_split {L : List (Mv N)} {φ : List Nat} {j : Nat} {m : Mv N} {k : Nat} (hm : L[j]? = some m) (hk : φ[j]? = some k) : L.zip φ = (L.take j).zip (φ.take j) ++ (m, k) :: (L.drop (j + 1)).zip (φ.drop (j + 1)) := by
  induction L generalizing φ j with
  | nil => cases hm
  | cons a L ih =>
    cases φ with
    | nil => cases hk
    | cons b φ =>
      cases j with
      | zero =>
        cases hm
        cases hk
        rfl
      | succ j =>
        show (a, b) :: L.zip φ = (a, b) :: ((L.take j).zip (φ.take j) ++ (m, k) :: (L.drop (j + 1)).zip (φ.drop (j + 1)))
        rw [← ih hm hk]
theorem keyF_len {φ : List Nat} {j : Nat} (h : j < φ.length) : (keyF φ j).length = φ.length := by
  unfold keyF
  rw [List.length_append, List.length_append, List.length_take, List.length_drop]
  show min j φ.length + 1 + _ = _
  omega
theorem zip_key {L : List (Mv N)} {φ : List Nat} {j : Nat} {m : Mv N} {k : Nat} (hl : φ.length = L.length) (hm : L[j]? = some m) (hk : φ[j]? = some k) : L.zip (keyF φ j) = (L.take j).zip (φ.take j) ++ (m, k + 1) :: (L.drop (j + 1)).zip (φ.drop (j + 1)) := by
  have hj : j < φ.length := (List.getElem?_eq_some_iff.mp hk).1
  have e1 : (keyF φ j)[j]? = some (k + 1) := by
    unfold keyF
    rw [List.append_assoc, List.getElem?_append_right (by rw [List.length_take]; omega), List.length_take]
    have : j - min j φ.length = 0 := by omega
    rw [this]
    show some (φ.getD j 0 + 1) = _
    rw [List.getD_eq_getElem?_getD, hk]
    rfl
  have e2 : (keyF φ j).take j = φ.take j := by
    unfold keyF
    rw [List.append_assoc, List.take_append_of_le_length (by rw [List.length_take]; omega), List.take_take]
    congr 1
    omega
  have e3 : (keyF φ j).drop (j + 1) = φ.drop (j + 1) := by
    unfold keyF
    have hl2 : (φ.take j ++ [φ.getD j 0 + 1]).length = j + 1 := by
      rw [List.length_append, List.length_take]
      show min j φ.length + 1 = _
      omega
    rw [← hl2, List.drop_left]
  rw [zip_split hm e1, e2, e3]
/-- what place tells -/
def PlaceOk (W : N → List N) (r u : N → Int) (L : List (Mv N)) (place : List Nat → Nat → Bool) : Prop :=
  ∀ φ j m, φ.length = L.length → L[j]? = some m → (place φ j = true ↔ ∀ f, ent W m f → hold W u (L.zip φ) f < r f)
theorem mayF_step (hp : PlaceOk W r u L place) (hl : φ.length = L.length) {j : Nat} (hj : j < L.length) (h : mayF place φ j = true) : Step1 W r u (L.zip φ) (L.zip (keyF φ j)) := by
  have hm : L[j]? = some L[j] := List.getElem?_eq_getElem hj
  have hk : φ[j]? = some (φ[j]'(by omega)) := List.getElem?_eq_getElem (by omega)
  have hd : φ.getD j 0 = φ[j]'(by omega) := by rw [List.getD_eq_getElem?_getD, hk]; rfl
  refine ⟨_, _, L[j], _, zip_split hm hk, zip_key hl hm hk, ?_⟩
  unfold mayF at h
  rw [hd, Bool.or_eq_true, Bool.and_eq_true] at h
  rcases h with h | ⟨h1, h2⟩
  · exact .inl (of_decide_eq_true h)
  · exact .inr ⟨of_decide_eq_true h1, (hp φ j _ hl hm).mp h2⟩
theorem step_mayF (hp : PlaceOk W r u L place) (hl : φ.length = L.length) {Z : List (Mv N × Nat)} (h : Step1 W r u (L.zip φ) Z) : ∃ j, j < L.length ∧ mayF place φ j = true ∧ Z = L.zip (keyF φ j) := by
  obtain ⟨X, Y, m, k, e1, e2, hk⟩ := h
  have hlz : (L.zip φ).length = L.length := by rw [List.length_zip]; omega
  have hj : X.length < L.length := by
    rw [← hlz, e1, List.length_append, List.length_cons]
    omega
  have at_ : (L.zip φ)[X.length]? = some (m, k) := by
    rw [e1, List.getElem?_append_right (Nat.le_refl _), Nat.sub_self]
    rfl
  rw [List.getElem?_zip_eq_some] at at_
  obtain ⟨hm, hkk⟩ := at_
  refine ⟨X.length, hj, ?_, ?_⟩
  · have hd : φ.getD X.length 0 = k := by rw [List.getD_eq_getElem?_getD, hkk]; rfl
    unfold mayF
    rw [hd, Bool.or_eq_true, Bool.and_eq_true]
    rcases hk with h | ⟨h, q⟩
    · exact .inl (decide_eq_true h)
    · exact .inr ⟨decide_eq_true h, (hp φ _ m hl hm).mpr q⟩
  · rw [zip_key hl hm hkk, e2]
    have s := zip_split hm hkk
    rw [e1] at s
    have hlx : X.length = ((L.take X.length).zip (φ.take X.length)).length := by
      rw [List.length_zip, List.length_take, List.length_take]
      omega
    obtain ⟨s1, s2⟩ := List.append_inj s hlx
    injection s2 with _ s2
    rw [← s1, ← s2]
theorem rk_rch (hp : PlaceOk W r u L place) (h0 : φ0.length = L.length) {k : Nat} (h : Rk (mayF place) keyF L.length φ0 k φ) : φ.length = L.length ∧ Rch W r u (L.zip φ0) k (L.zip φ) := by
  induction h with
  | refl => exact ⟨h0, .refl⟩
  | @step k i x h hi m ih =>
    refine ⟨?_, .step ih.2 (mayF_step hp ih.1 hi m)⟩
    rw [keyF_len (by omega), ih.1]
theorem rch_rk (hp : PlaceOk W r u L place) (h0 : φ0.length = L.length) {k : Nat} {Z : List (Mv N × Nat)} (h : Rch W r u (L.zip φ0) k Z) : ∃ φ, Z = L.zip φ ∧ φ.length = L.length ∧ Rk (mayF place) keyF L.length φ0 k φ := by
  induction h with
  | refl => exact ⟨φ0, rfl, h0, .refl⟩
  | step _ st ih =>
    obtain ⟨φ, rfl, hl, rk⟩ := ih
    obtain ⟨j, hj, m, e⟩ := step_mayF hp hl st
    refine ⟨keyF φ j, e, by rw [keyF_len (by omega), hl], .step rk hj m⟩
theorem zip_snd {L : List (Mv N)} : ∀ {φ : List Nat}, φ.length = L.length → (L.zip φ).map (·.2) = φ := by
  induction L with
  | nil =>
    intro φ h
    rw [List.length_eq_zero_iff.mp h]
    rfl
  | cons a L ih =>
    intro φ h
    cases φ with
    | nil => cases h
    | cons b φ =>
      show b :: (L.zip φ).map (·.2) = b :: φ
      rw [ih (by simpa using h)]
theorem zip_all2 {L : List (Mv N)} : ∀ {φ : List Nat}, φ.length = L.length → (L.zip φ).map (fun p => (p.1, 2)) = L.zip (List.replicate L.length 2) := by
  induction L with
  | nil => intro φ h; rfl
  | cons a L ih =>
    intro φ h
    cases φ with
    | nil => cases h
    | cons b φ =>
      show (a, 2) :: (L.zip φ).map (fun p => (p.1, 2)) = (a, 2) :: L.zip (List.replicate L.length 2)
      rw [ih (by simpa using h)]
theorem sum_rep (n : Nat) : (List.replicate n 2).sum = 2 * n := by
  induction n with
  | zero => rfl
  | succ n ih =>
    rw [List.replicate_succ, List.sum_cons, ih]
    omega
/-- the laps find that all can be done iff the others have an order -/
theorem laps_iff (hp : PlaceOk W r u L place) (h0 : φ0.length = L.length) (h2 : ∀ k, k ∈ φ0 → k ≤ 2) :
    List.replicate L.length 2 ∈ (laps (mayF place) keyF L.length φ0 (2 * L.length)).1 ↔ ∃ O, O.Perm (idle (L.zip φ0)) ∧ goes W r (endU W u (busy (L.zip φ0))) O := by
  have hz : ∀ p, p ∈ L.zip φ0 → p.2 ≤ 2 := fun p hp => h2 _ (List.of_mem_zip hp).2
  rw [← all2_iff hz, zip_all2 h0]
  have lo := laps_ok (may := mayF place) (key := keyF) (n := L.length) (x0 := φ0) (2 * L.length)
  constructor
  · intro h
    obtain ⟨j, q⟩ := lo.from_ _ h
    exact ⟨j, (rk_rch hp h0 q).2⟩
  · rintro ⟨k, h⟩
    have hs := h.sum
    rw [zip_snd h0, zip_snd (by rw [List.length_replicate]), sum_rep] at hs
    obtain ⟨φ, e, hl, rk⟩ := rch_rk hp h0 h
    have e2 := congrArg (List.map (·.2)) e
    rw [zip_snd hl, zip_snd (by rw [List.length_replicate])] at e2
    rw [e2]
    exact lo.all k φ (by omega) rk
theorem laps_len (hp : PlaceOk W r u L place) (h0 : φ0.length = L.length) (h2 : ∀ k, k ∈ φ0 → k ≤ 2) {S : List (List Nat)} (hn : S.Nodup) (hS : ∀ φ, φ ∈ S → ∃ j, Rk (mayF place) keyF L.length φ0 j φ) : S.length ≤ 3 ^ L.length := by
  rw [← allF_len]
  refine nd_len hn fun φ hφ => ?_
  obtain ⟨j, rk⟩ := hS φ hφ
  obtain ⟨hl, h⟩ := rk_rch hp h0 rk
  refine allF_mem _ _ hl fun k hk => ?_
  have hz : ∀ p, p ∈ L.zip φ0 → p.2 ≤ 2 := fun p hp => h2 _ (List.of_mem_zip hp).2
  have le := h.le hz
  have hk2 : k ∈ (L.zip φ).map (·.2) := by
    rw [zip_snd hl]
    exact hk
  obtain ⟨p, hp, rfl⟩ := List.mem_map.mp hk2
  exact le p hp
/-! ### the first flags -/
def mark : List (Mv N) → List (Mv N) → List Nat
  | [], _ => []
  | m :: L, A => if m ∈ A then 1 :: mark L (A.erase m) else 0 :: mark L A
theorem mark_len : ∀ (L A : List (Mv N)), (mark L A).length = L.length
  | [], _ => rfl
  | m :: L, A => by
    unfold mark
    split
    · rw [List.length_cons, mark_len, List.length_cons]
    · rw [List.length_cons, mark_len, List.length_cons]
theorem mark_le : ∀ (L A : List (Mv N)) (k : Nat), k ∈ mark L A → k ≤ 2
  | [], _, _, h => nomatch h
  | m :: L, A, k, h => by
    unfold mark at h
    split at h
    · rcases List.mem_cons.mp h with rfl | h
      · decide
      · exact mark_le L _ k h
    · rcases List.mem_cons.mp h with rfl | h
      · decide
      · exact mark_le L _ k h
theorem busy_mark : ∀ (L A : List (Mv N)), (∀ m, A.count m ≤ L.count m) → (busy (L.zip (mark L A))).Perm A
  | [], A, h => by
    have : A = [] := by
      cases A with
      | nil => rfl
      | cons a A =>
        have := h a
        rw [List.count_cons_self] at this
        simp at this
    rw [this]
    exact .refl _
  | m :: L, A, h => by
    unfold mark
    by_cases hm : m ∈ A
    · rw [if_pos hm]
      have ih := busy_mark L (A.erase m) fun x => by
        have := h x
        rw [List.count_erase]
        rw [List.count_cons] at this
        by_cases e : m = x
        · subst e
          simp at this ⊢
          omega
        · have e1 : (m == x) = false := by simpa using e
          have e2 : (x == m) = false := by simpa using fun z : x = m => e z.symm
          simp [e1] at this ⊢
          exact this
      have eb : busy ((m :: L).zip (1 :: mark L (A.erase m))) = m :: busy (L.zip (mark L (A.erase m))) := by
        unfold busy
        rfl
      rw [eb]
      exact (ih.cons m).trans (List.perm_cons_erase hm).symm
    · rw [if_neg hm]
      have ih := busy_mark L A fun x => by
        have := h x
        rw [List.count_cons] at this
        by_cases e : m = x
        · subst e
          rw [List.count_eq_zero.mpr hm]
          exact Nat.zero_le _
        · have e1 : (m == x) = false := by simpa using e
          simpa [e1] using this
      have eb : busy ((m :: L).zip (0 :: mark L A)) = busy (L.zip (mark L A)) := by
        unfold busy
        rfl
      rw [eb]
      exact ih
theorem zip_fst {L : List (Mv N)} : ∀ {φ : List Nat}, φ.length = L.length → (L.zip φ).map (·.1) = L := by
  induction L with
  | nil => intro φ h; rfl
  | cons a L ih =>
    intro φ h
    cases φ with
    | nil => cases h
    | cons b φ =>
      show a :: (L.zip φ).map (·.1) = a :: L
      rw [ih (by simpa using h)]
/-- from the marks of A the laps find an order of the others -/
theorem laps_mark {A R : List (Mv N)} (hp : PlaceOk W r u L place) (hA : ∀ m, A.count m ≤ L.count m) (hR : (A ++ R).Perm L) :
    List.replicate L.length 2 ∈ (laps (mayF place) keyF L.length (mark L A) (2 * L.length)).1 ↔ ∃ O, O.Perm R ∧ goes W r (endU W u A) O := by
  rw [laps_iff hp (mark_len L A) (mark_le L A)]
  have hb := busy_mark L A hA
  have hi : (idle (L.zip (mark L A))).Perm R := by
    have h1 := busy_idle (L.zip (mark L A))
    rw [zip_fst (mark_len L A)] at h1
    exact (List.perm_append_left_iff _).mp ((h1.trans hR.symm).trans (hb.symm.append_right R))
  have he : endU W u (busy (L.zip (mark L A))) = endU W u A := funext fun f => endU_perm hb f
  rw [he]
  exact ⟨fun ⟨O, p, g⟩ => ⟨O, p.trans hi, g⟩, fun ⟨O, p, g⟩ => ⟨O, p.trans hi.symm, g⟩⟩
end
end RR
end
section
set_option linter.all false
set_option maxRecDepth 100000
set_option autoImplicit false
set_option maxHeartbeats 1000000
/-! _law_can_finish: all states, lap by lap. -/
namespace RW
open PySem PySem.Spec PyProof.Rows L2

/-! ### flags as tuples -/
abbrev vF (φ : List Nat) : List V := φ.map fun k => V.int ((k : Nat) : Int)
def kF (φ : List Nat) : List Key := φ.map fun k => Sum.inl ((k : Nat) : Int)
theorem kF_V (φ : List Nat) : (kF φ).map kV = vF φ := by
  unfold kF
  rw [List.map_map]
  rfl
theorem kF_inj : ∀ {φ ψ : List Nat}, kF φ = kF ψ → φ = ψ
  | [], [], _ => rfl
  | [], _ :: _, h => by cases h
  | _ :: _, [], h => by cases h
  | a :: φ, b :: ψ, h => by
    injection h with h1 h2
    have h3 := Sum.inl.inj h1
    have h4 : a = b := by omega
    rw [h4, kF_inj h2]
/-- a plain tuple of flags -/
def Tk (H : Hp) (v : V) (φ : List Nat) : Prop := ∃ a, v = .ref a ∧ H a = some (.tup (vF φ))
/-- plain tuples stay -/
def KU (H H' : Hp) : Prop := ∀ a xs, H a = some (.tup xs) → H' a = some (.tup xs)
theorem KU.refl (H : Hp) : KU H H := fun _ _ h => h
theorem KU.trans {H H1 H2 : Hp} (a : KU H H1) (b : KU H1 H2) : KU H H2 := fun x o h => b x o (a x o h)
theorem KU.same {H H' : Hp} (s : Same H H') : KU H H' := fun a xs h => s a _ h
theorem KU.mut {H : Hp} {p : Addr} {o u : HO} (h : H p = some u) (hu : NoT u) : KU H (upd H p o) := fun a xs e => by
  have ne : a ≠ p := fun z => by
    rw [z, h] at e
    exact hu.1 _ (Option.some.inj e)
  rw [upd_ne ne]
  exact e
theorem Tk.mono {H H' : Hp} {v : V} {φ : List Nat} (h : Tk H v φ) (k : KU H H') : Tk H' v φ := by
  obtain ⟨a, e, h⟩ := h
  exact ⟨a, e, k _ _ h⟩
def SeenAt (H : Hp) (p : Addr) (S : List (List Nat)) : Prop := H p = some (.dT (S.map fun φ => (kF φ, V.bl true)))
def EdgeAt (H : Hp) (p : Addr) (E : List (List Nat)) : Prop := ∃ xs, H p = some (.lst xs) ∧ Paired (Tk H) xs E
theorem val_seen (S : List (List Nat)) (φ : List Nat) : valV (S.map fun φ => (kF φ, V.bl true)) (kF φ) = if φ ∈ S then some (.bl true) else none := by
  induction S with
  | nil => rfl
  | cons a S ih =>
    rw [List.map_cons]
    by_cases e : a = φ
    · rw [valV_pos (by rw [e]), if_pos (by rw [e]; exact List.mem_cons_self)]
    · rw [valV_neg fun z => e (kF_inj z), ih]
      by_cases m : φ ∈ S
      · rw [if_pos m, if_pos (List.mem_cons_of_mem _ m)]
      · rw [if_neg m, if_neg fun z => (List.mem_cons.mp z).elim (fun z => e z.symm) m]
section
variable {H : Hp} {p : Addr} {S : List (List Nat)} {v : V} {φ : List Nat}
theorem seen_get (h : SeenAt H p S) (t : Tk H v φ) : DGet H p v (if φ ∈ S then some (.bl true) else none) := by
  obtain ⟨a, rfl, e⟩ := t
  have z := DGet.t (k := kF φ) h (by rw [kF_V]; exact e)
  rw [val_seen] at z
  exact z
theorem seen_put (h : SeenAt H p S) (t : Tk H v φ) (hn : φ ∉ S) (hl : S.length < sizeLine) : DPut H p v (.bl true) (upd H p (.dT ((S ++ [φ]).map fun φ => (kF φ, V.bl true)))) := by
  obtain ⟨a, rfl, e⟩ := t
  have z := DPut.t (k := kF φ) (v := .bl true) h (by rw [kF_V]; exact e) (by rw [List.length_map]; exact hl)
  rw [putK_new _ (by rw [val_seen, if_neg hn])] at z
  rw [List.map_append]
  exact z
theorem EdgeAt.mono {H' : Hp} {E : List (List Nat)} (h : EdgeAt H p E) (e : H' p = H p) (k : KU H H') : EdgeAt H' p E := by
  obtain ⟨xs, h1, h2⟩ := h
  exact ⟨xs, e.trans h1, Paired.mapP h2 fun _ _ z => z.mono k⟩
end
/-- all but p and q stands -/
def SameY (p q : Addr) (H H' : Hp) : Prop := ∀ b o, b ≠ p → b ≠ q → H b = some o → H' b = some o
section
variable {p q : Addr} {H H1 H2 : Hp}
theorem SameY.of (s : Same H H1) : SameY p q H H1 := fun b o _ _ e => s b o e
theorem SameY.trans (a : SameY p q H H1) (b : SameY p q H1 H2) : SameY p q H H2 := fun x o n m e => b x o n m (a x o n m e)
theorem SameY.up1 {o : HO} (a : SameY p q H H1) : SameY p q H (upd H1 p o) := fun x u n m e => by
  rw [upd_ne n]
  exact a x u n m e
theorem SameY.up2 {o : HO} (a : SameY p q H H1) : SameY p q H (upd H1 q o) := fun x u n m e => by
  rw [upd_ne m]
  exact a x u n m e
theorem KU.sy {S : List (List Key × V)} {xs : List V} (hp : H p = some (.dT S)) (hq : H q = some (.lst xs)) (s : SameY p q H H1) : KU H H1 := fun a ys e =>
  s a _ (fun z => by rw [z, hp] at e; cases e) (fun z => by rw [z, hq] at e; cases e) e
theorem DL.sy {d : Addr} {gd : Gd} {S : List (List Key × V)} {xs : List V} (h : DL H d gd) (hp : H p = some (.dT S)) (hq : H q = some (.lst xs)) (s : SameY p q H H1) : DL H1 d gd := by
  obtain ⟨kvs, e, i⟩ := h
  refine ⟨kvs, s _ _ (fun z => by rw [z, hp] at e; cases e) (fun z => by rw [z, hq] at e; cases e) e, i.mono fun a xs h => ?_⟩
  rcases h with h | ⟨o, h⟩
  · exact .inl (s _ _ (fun z => by rw [z, hp] at h; cases h) (fun z => by rw [z, hq] at h; cases h) h)
  · exact .inr ⟨o, s _ _ (fun z => by rw [z, hp] at h; cases h) (fun z => by rw [z, hq] at h; cases h) h⟩
end
/-! ### what a state holds -/
def ld (T : List Row) (s : List Int) (L : List (Str × Str)) (φ : List Nat) (i : Nat) : Str → Int := RR.hold (ways T) (use T s) ((L.zip φ).take i)
def gA (T : List Row) (m : Str × Str) (k : Nat) : List Str := if 0 < k then gains T m else []
def gB (T : List Row) (m : Str × Str) (k : Nat) : List Str := if k = 2 then gains T (m.2, m.1) else []
theorem ld_succ {T : List Row} (ok : TreeOk T) {s : List Int} {L : List (Str × Str)} {φ : List Nat} {i k : Nat} {m : Str × Str} (em : L[i]? = some m) (ek : φ[i]? = some k) (f : Str) : ld T s L φ (i + 1) f = shifted (ld T s L φ i) (gA T m k) (gB T m k) f := by
  have e : (L.zip φ)[i]? = some (m, k) := by
    rw [List.getElem?_zip_eq_some]
    exact ⟨em, ek⟩
  unfold ld RR.hold shifted
  rw [List.take_add_one, e, List.map_append, List.sum_append]
  have e1 : f ∈ gains T m ↔ f ∈ ways T m.2 ∧ f ∉ ways T m.1 := gains_mem
  have e2 : f ∈ gains T (m.2, m.1) ↔ f ∈ ways T m.1 ∧ f ∉ ways T m.2 := gains_mem
  have c1 : ((gA T m k).count f : Int) = if 0 < k ∧ (f ∈ ways T m.2 ∧ f ∉ ways T m.1) then 1 else 0 := by
    unfold gA
    by_cases h : 0 < k
    · rw [if_pos h, count_nd (gains_nd ok m)]
      simp only [h, true_and, e1]
    · rw [if_neg h, if_neg fun z => h z.1]
      rfl
  have c2 : ((gB T m k).count f : Int) = if k = 2 ∧ (f ∈ ways T m.1 ∧ f ∉ ways T m.2) then 1 else 0 := by
    unfold gB
    by_cases h : k = 2
    · rw [if_pos h, count_nd (gains_nd ok (m.2, m.1))]
      simp only [h, true_and, e2]
    · rw [if_neg h, if_neg fun z => h z.1]
      rfl
  rw [c1, c2]
  simp only [Option.toList, List.map_cons, List.map_nil, List.sum_cons, List.sum_nil]
  omega
def placeF (T : List Row) (s : List Int) (L : List (Str × Str)) (φ : List Nat) (j : Nat) : Bool := match L[j]? with
  | some m => decide (∀ x, x ∈ gains T m → RR.hold (ways T) (use T s) (L.zip φ) x < room T x)
  | none => false
theorem place_ok {T : List Row} (s : List Int) (L : List (Str × Str)) : RR.PlaceOk (ways T) (room T) (use T s) L (placeF T s L) := by
  intro φ j m hl em
  unfold placeF
  rw [em]
  show decide _ = true ↔ _
  rw [decide_eq_true_eq]
  exact ⟨fun h f hf => h f (gains_mem.mpr hf), fun h x hx => h x (gains_mem.mp hx)⟩
/-! ### readings -/
section
variable {K : PySem.W.Frag} {H : Hp} {v u : V} {Q : VK} {φ ψ : List Nat}
theorem r_tk {j k : Nat} (t : Tk H v φ) (e : φ[j]? = some k) (q : Q (.int (k : Nat)) H) : rIxT K v (.int (j : Nat)) H Q := by
  obtain ⟨a, rfl, h⟩ := t
  have hj : j < φ.length := (List.getElem?_eq_some_iff.mp e).1
  refine ⟨a, _, _, .int (k : Nat), rfl, rfl, .inl (.inl h), ?_, q⟩
  rw [atI_nat _ _ (by rw [List.length_map]; exact hj), List.getElem?_map, e]
  rfl
theorem r_slTk {lo hi : Option Int} (t : Tk H v φ) (q : ∀ y H', Same H H' → Tk H' y (cutD φ lo hi) → Q y H') : rSlA K v lo hi H Q := by
  obtain ⟨a, rfl, h⟩ := t
  have hl : (vF φ).length = φ.length := List.length_map _
  refine ⟨a, _, rfl, .inl (.inl h), fun w => q _ _ (Same.refl _) ⟨a, rfl, ?_⟩, fun _ p np => q _ _ (Same.new np) ⟨p, rfl, ?_⟩⟩
  · have e : cutD φ lo hi = φ := by
      unfold cutD
      rw [← hl, w.1, w.2, List.drop_zero, hl, Nat.sub_zero, List.take_length]
    rw [e]
    exact h
  · rw [upd_same]
    unfold cutV cutD vF
    rw [hl, List.map_take, List.map_drop]
theorem r_catTk (t : Tk H v φ) (t2 : Tk H u ψ) (hl : φ.length + ψ.length ≤ 1000) (q : ∀ y H', Same H H' → Tk H' y (φ ++ ψ) → Q y H') : rCatA K v u H Q := by
  obtain ⟨a, rfl, h⟩ := t
  obtain ⟨b, rfl, h2⟩ := t2
  have l1 : (vF φ).length = φ.length := List.length_map _
  have l2 : (vF ψ).length = ψ.length := List.length_map _
  refine ⟨a, b, _, _, rfl, rfl, .inl (.inl h), .inl (.inl h2), by rw [l1, l2]; exact Nat.le_of_lt (small1000 hl), fun e => ?_, fun _ e => ?_, fun _ _ p np => ?_⟩
  · refine q _ _ (Same.refl _) ⟨b, rfl, ?_⟩
    have : φ = [] := List.map_eq_nil_iff.mp e
    rw [this]
    exact h2
  · refine q _ _ (Same.refl _) ⟨a, rfl, ?_⟩
    have : ψ = [] := List.map_eq_nil_iff.mp e
    rw [this, List.append_nil]
    exact h
  · refine q _ _ (Same.new np) ⟨p, rfl, ?_⟩
    rw [upd_same]
    unfold vF
    rw [List.map_append]
variable {T : List Row} {m : Str × Str} {x : V}
theorem r_way0 (h : WayIt T H x m) (q : ∀ dv, Im H dv (dMv m) → Q dv H) : rIxT K x (.int 0) H Q := by
  obtain ⟨t, dv, g, l, rfl, h1, h2, h3, h4⟩ := h
  exact ⟨t, _, _, dv, rfl, rfl, .inl h1, rfl, q dv h2⟩
theorem r_way1 (h : WayIt T H x m) (q : ∀ g, H g = some (.lst ((gains T m).map .str)) → Q (.ref g) H) : rIxT K x (.int 1) H Q := by
  obtain ⟨t, dv, g, l, rfl, h1, h2, h3, h4⟩ := h
  exact ⟨t, _, _, .ref g, rfl, rfl, .inl h1, rfl, q g h3⟩
theorem r_way2 (h : WayIt T H x m) (q : ∀ g, H g = some (.lst ((gains T (m.2, m.1)).map .str)) → Q (.ref g) H) : rIxT K x (.int 2) H Q := by
  obtain ⟨t, dv, g, l, rfl, h1, h2, h3, h4⟩ := h
  exact ⟨t, _, _, .ref l, rfl, rfl, .inl h1, rfl, q l h4⟩
end
/-- over case['ways'], told by the place -/
theorem forW' {K : PySem.W.Frag} {g : TG} {tb : TS} {E : L2.Ends} {σ : L2.St} {H1 : Hp} {T : List Row} {s : List Int} {L : List (Str × Str)} {z : CA} (ch : CaseH T s L H1 z) (Pv : Nat → L2.St → Hp → Prop) (h0 : Pv 0 σ H1) (hk : ∀ i σ H, Pv i σ H → H z.lw = some (.lst z.ws))
    (hs : ∀ i m x σ H, L[i]? = some m → z.ws[i]? = some x → Pv i σ H → g x σ H fun σ2 H2 => tb { E with nx := Pv (i + 1), ct := Pv (i + 1), bk := E.nx } σ2 H2)
    (hd : ∀ σ H, Pv L.length σ H → E.nx σ H) : ∃ b, V.ref z.lw = .ref b ∧ (∃ xs, SqL K H1 b xs) ∧ ForR (Itl K b) g tb E σ H1 := by
  have hl : z.ws.length = L.length := Paired.length ch.ws
  refine ⟨z.lw, rfl, ⟨z.ws, .inl (.inl ch.wl)⟩, for_it walk_list Pv h0 (fun i σ H _ p => .inl (.inl (hk i σ H p))) ?_ (by rw [hl]; exact hd)⟩
  rintro i x σ' H H' hi p ⟨rfl, ex⟩
  have e : L[i]? = some (L[i]'(by omega)) := List.getElem?_eq_getElem (by omega)
  exact hs i _ x σ' _ e ex p
theorem forEW {K : PySem.W.Frag} {g : TG} {tb : TS} {E : L2.Ends} {σ : L2.St} {H1 : Hp} {T : List Row} {s : List Int} {L : List (Str × Str)} {z : CA} (ch : CaseH T s L H1 z) (Pv : Nat → L2.St → Hp → Prop) (h0 : Pv 0 σ H1) (hk : ∀ i σ H, Pv i σ H → H z.lw = some (.lst z.ws))
    (hs : ∀ (i : Nat) m t x σ H, L[i]? = some m → z.ws[i]? = some x → Pv i σ H → H t = none → g (.ref t) σ (upd H t (.tup [.int (i : Nat), x])) fun σ2 H2 => tb { E with nx := Pv (i + 1), ct := Pv (i + 1), bk := E.nx } σ2 H2)
    (hd : ∀ σ H, Pv L.length σ H → E.nx σ H) : ∃ a xs, [V.ref z.lw] = [V.ref a] ∧ SqL K H1 a xs ∧ ForR (Ite K a) g tb E σ H1 := by
  have hl : z.ws.length = L.length := Paired.length ch.ws
  refine ⟨z.lw, z.ws, rfl, .inl (.inl ch.wl), for_it walk_enum Pv h0 (fun i σ H _ p => .inl (.inl (hk i σ H p))) ?_ (by rw [hl]; exact hd)⟩
  rintro i x σ' H H' hi p ⟨t, x1, y1, rfl, nt, rfl, ex, ey⟩
  cases ex
  have e : L[i]? = some (L[i]'(by omega)) := List.getElem?_eq_getElem (by omega)
  exact hs i _ t y1 σ' H e ey p nt
/-- over a list of flags -/
theorem forTk {K : PySem.W.Frag} {g : TG} {tb : TS} {E : L2.Ends} {σ : L2.St} {H1 : Hp} {a : Addr} {xs : List V} {F : List (List Nat)} (hL : H1 a = some (.lst xs)) (hF : Paired (Tk H1) xs F) (Pv : Nat → L2.St → Hp → Prop) (h0 : Pv 0 σ H1) (hk : ∀ i σ H, Pv i σ H → H a = some (.lst xs))
    (hs : ∀ i φ x σ H, F[i]? = some φ → Tk H1 x φ → Pv i σ H → g x σ H fun σ2 H2 => tb { E with nx := Pv (i + 1), ct := Pv (i + 1), bk := E.nx } σ2 H2)
    (hd : ∀ σ H, Pv F.length σ H → E.nx σ H) : ∃ b, V.ref a = .ref b ∧ (∃ xs, SqL K H1 b xs) ∧ ForR (Itl K b) g tb E σ H1 := by
  have hl : xs.length = F.length := Paired.length hF
  refine ⟨a, rfl, ⟨xs, .inl (.inl hL)⟩, for_it walk_list Pv h0 (fun i σ H _ p => .inl (.inl (hk i σ H p))) ?_ (by rw [hl]; exact hd)⟩
  rintro i x σ' H H' hi p ⟨rfl, ex⟩
  have e : F[i]? = some (F[i]'(by omega)) := List.getElem?_eq_getElem (by omega)
  exact hs i _ x σ' _ e (Paired.getP hF ex e) p
/-! ### one turn's parts -/
section
variable {K : PySem.W.Frag} {T : List Row} {s : List Int} {L : List (Str × Str)} {z : CA} {m : Str × Str} {x y : V} {φ : List Nat} {j k : Nat} {ph : Addr} {h : Str → Int}
variable {y0 y1 y2 y3 y4 y6 y7 y8 y9 y13 y14 : Option V}
theorem r_held {H : Hp} {Q : VK} (ok : TreeOk T) (t : Tk H y φ) (ek : φ[j]? = some k) (wi : WayIt T H x m) (dl : DL H ph (gInts T h))
    (q : ∀ p' H', Same H H' → DL H' p' (gInts T (shifted h (gA T m k) (gB T m k))) → Q (.ref p') H') :
    tCall sp__law_shift [] E0 (tCons (tVar 11) (tCons (tIf (tTest (tOp (rI0 fun i j => .bl (decide (j < i))) (tOp (rIxT K) (tVar 10) (tVar 12)) (tC (.int 0)))) (tOp (rIxT K) (tVar 5) (tC (.int 1))) (tLst tNil))
      (tCons (tIf (tTest (tOp rEq (tOp (rIxT K) (tVar 10) (tVar 12)) (tC (.int 2)))) (tOp (rIxT K) (tVar 5) (tC (.int 2))) (tLst tNil)) tNil))) [y0, y1, y2, y3, y4, some x, y6, y7, y8, y9, some y, some (.ref ph), some (.int (j : Nat)), y13, y14] H Q := by
  have fin : ∀ (H' : Hp) (g l : Addr) (gs ls : List Str), Same H H' → H' g = some (.lst (gs.map .str)) → H' l = some (.lst (ls.map .str)) → gA T m k = gs → gB T m k = ls → sp__law_shift [.ref ph, .ref g, .ref l] H' Q E0 := by
    intro H' g l gs ls s1 eg el e1 e2
    subst e1 e2
    refine ⟨T, h, _, _, ph, g, l, rfl, dl.same s1, eg, el, ok.len, fun f hf => ?_, fun f hf => ?_, fun p' H2 s2 _ d2 => q p' H2 (s1.trans s2) d2⟩
    · unfold gA at hf
      split at hf
      · exact gains_in ok hf
      · cases hf
    · unfold gB at hf
      split at hf
      · exact gains_in ok hf
      · cases hf
  have two : ∀ (H' : Hp) (g : Addr) (gs : List Str), Same H H' → H' g = some (.lst (gs.map .str)) → gA T m k = gs →
      tIf (tTest (tOp rEq (tOp (rIxT K) (tVar 10) (tVar 12)) (tC (.int 2)))) (tOp (rIxT K) (tVar 5) (tC (.int 2))) (tLst tNil) [y0, y1, y2, y3, y4, some x, y6, y7, y8, y9, some y, some (.ref ph), some (.int (j : Nat)), y13, y14] H' fun v H2 => sp__law_shift [.ref ph, .ref g, v] H2 Q E0 := by
    intro H' g gs s1 eg e1
    refine ⟨_, rfl, _, rfl, r_tk (t.mono (.same s1)) ek ⟨rfl, _, rfl, ?_⟩⟩
    by_cases hk : k = 2
    · refine iteP (by rw [hk]; rfl) ⟨_, rfl, tCi (r_way2 (wi.same s1) fun l el => fin H' g l gs _ s1 eg el e1 (by unfold gB; rw [if_pos hk]))⟩
    · refine iteN (decide_eq_false fun z => hk ?_) ⟨Nat.zero_le _, fun l nl => fin _ g l gs [] (s1.trans (Same.new nl)) ((Same.new nl : Same H' _) _ _ eg) upd_same e1 (by unfold gB; rw [if_neg hk])⟩
      have := V.int.inj z
      omega
  refine ⟨_, rfl, _, rfl, _, rfl, r_tk t ek ⟨_, _, rfl, rfl, _, rfl, ?_⟩⟩
  by_cases hk : 0 < k
  · exact iteP (decide_eq_true (by omega)) ⟨_, rfl, tCi (r_way1 wi fun g eg => two H g _ (Same.refl _) eg (by unfold gA; rw [if_pos hk]))⟩
  · exact iteN (decide_eq_false (by omega)) ⟨Nat.zero_le _, fun g ng => two _ g [] (Same.new ng) upd_same (by unfold gA; rw [if_neg hk])⟩
theorem r_key {H : Hp} {Q : VK} {y5 y11 : Option V} (t : Tk H y φ) (ek : φ[j]? = some k) (hl : φ.length ≤ 100) (q : ∀ v H', Same H H' → Tk H' v (RR.keyF φ j) → Q v H') :
    tOp (rCatA K) (tOp (rCatA K) (tSl (rSlA K) (tVar 10) tNoPart (tPart (tVar 12))) (tTup (tCons (tOp (rI0 fun i j => .int (i + j)) (tOp (rIxT K) (tVar 10) (tVar 12)) (tC (.int 1))) tNil)))
      (tSl (rSlA K) (tVar 10) (tPart (tOp (rI0 fun i j => .int (i + j)) (tVar 12) (tC (.int 1)))) tNoPart) [y0, y1, y2, y3, y4, y5, y6, y7, y8, y9, some y, y11, some (.int (j : Nat)), y13, y14] H Q := by
  have hj : j < φ.length := (List.getElem?_eq_some_iff.mp ek).1
  refine ⟨_, rfl, _, rfl, _, rfl, r_slTk t fun y1 H1 s1 t1 => ?_⟩
  rw [cutD_take _ _ (by omega)] at t1
  refine ⟨_, rfl, _, rfl, r_tk (t.mono (.same s1)) ek ⟨_, _, rfl, rfl, by show 1 ≤ sizeLine; decide, fun p np => ?_⟩⟩
  have s2 : Same H1 (upd H1 p (.tup [.int ((k : Nat) + 1)])) := Same.new np
  have t2 : Tk (upd H1 p (.tup [.int (((k : Nat) : Int) + 1)])) (.ref p) [k + 1] := ⟨p, rfl, by rw [upd_same]; rfl⟩
  refine r_catTk (t1.mono (.same s2)) t2 (by rw [List.length_take]; show min j φ.length + 1 ≤ 1000; omega) fun y3 H3 s3 t3 => ?_
  have s13 := (s1.trans s2).trans s3
  refine ⟨_, rfl, _, rfl, _, _, rfl, rfl, _, rfl, tNpi (r_slTk (t.mono (.same s13)) fun y4 H4 s4 t4 => ?_)⟩
  have e4 : ((j : Int) + 1) = ((j + 1 : Nat) : Int) := by omega
  rw [e4, cutD_drop _ _ (by omega)] at t4
  refine r_catTk (t3.mono (.same s4)) t4 (by rw [List.length_append, List.length_take, List.length_drop]; show min j φ.length + 1 + _ ≤ 1000; omega) fun y5 H5 s5 t5 => q y5 H5 ((s13.trans s4).trans s5) ?_
  unfold RR.keyF
  have e5 : φ.getD j 0 = k := by rw [List.getD_eq_getElem?_getD, ek]; rfl
  rw [e5]
  exact t5
theorem r_may {H : Hp} {Q : VK} (ok : TreeOk T) (ch : CaseH T s L H z) (t : Tk H y φ) (hl : φ.length = L.length) (ek : φ[j]? = some k) (em : L[j]? = some m) (wi : WayIt T H x m) (dl : DL H ph (gInts T (RR.hold (ways T) (use T s) (L.zip φ))))
    (q : ∀ H', Same H H' → Q (.bl (RR.mayF (placeF T s L) φ j)) H') :
    tOrV (tOp rEq (tOp (rIxT K) (tVar 10) (tVar 12)) (tC (.int 1))) (tAndV (tOp rEq (tOp (rIxT K) (tVar 10) (tVar 12)) (tC (.int 0))) (tCall sp__law_has_place [] E0 (tCons (tVar 0) (tCons (tVar 11) (tCons (tOp (rIxT K) (tVar 5) (tC (.int 1))) tNil)))))
      [some (.ref z.c), y1, y2, y3, y4, some x, y6, y7, y8, y9, some y, some (.ref ph), some (.int (j : Nat)), y13, y14] H Q := by
  have e5 : φ.getD j 0 = k := by rw [List.getD_eq_getElem?_getD, ek]; rfl
  unfold RR.mayF at q
  rw [e5] at q
  refine ⟨_, rfl, _, rfl, r_tk t ek ⟨rfl, _, rfl, ?_⟩⟩
  by_cases h1 : k = 1
  · rw [decide_eq_true h1, Bool.true_or] at q
    exact iteP (by rw [h1]; rfl) (q H (Same.refl _))
  rw [decide_eq_false h1, Bool.false_or] at q
  refine iteN (decide_eq_false fun z => h1 (by have := V.int.inj z; omega)) ⟨_, rfl, _, rfl, r_tk t ek ⟨rfl, _, rfl, ?_⟩⟩
  by_cases h0 : k = 0
  · rw [decide_eq_true h0, Bool.true_and] at q
    refine iteP (by rw [h0]; rfl) ⟨_, rfl, _, rfl, _, rfl, tCi (r_way1 wi fun g eg => ⟨T, s, L, z, _, ph, g, gains T m, rfl, ch, dl, eg, fun f hf => gains_in ok hf, gains_len ok m, fun H6 s6 => ?_⟩)⟩
    have e6 : placeF T s L φ j = decide (∀ f, f ∈ gains T m → RR.hold (ways T) (use T s) (L.zip φ) f < room T f) := by
      unfold placeF
      rw [em]
    rw [e6] at q
    exact q H6 s6
  · rw [decide_eq_false h0, Bool.false_and] at q
    exact iteN (decide_eq_false fun z => h0 (by have := V.int.inj z; omega)) (q H (Same.refl _))
end
end RW
end
section
set_option linter.all false
set_option maxRecDepth 100000
set_option autoImplicit false
set_option maxHeartbeats 4000000
/-! _law_can_finish: all states, lap by lap. -/
namespace RW
open PySem PySem.Spec PyProof.Rows L2
abbrev s__law_can_finish : Stmt := topS 92
abbrev N__law_can_finish : List Str := ["_law_case_here", "_law_waits_here", "_law_ways", "_law_flags", "_law_left", "_law_way", "_law_seen", "_law_edge", "_law_lap", "_law_late", "_law_flag", "_law_held_here", "_law_j", "_law_key", "_law_may"]
theorem sc__law_can_finish : FnScope N__law_can_finish ["_law_case_here", "_law_waits_here"] (defScope s__law_can_finish) := ⟨rfl, rfl, rfl, by decide +kernel, rfl, by decide +kernel, by decide +kernel⟩

section
variable {P : Program} {w : World} {K : PySem.W.Frag} {mg : Str → Option Value} {base : Heap}
def sp__law_can_finish : Sp := fun vs H Q _ => ∃ (T : List Row) (s : List Int) (L A : List (Str × Str)) (z : CA) (v : V), vs = [.ref z.c, v] ∧ CaseH T s L H z ∧ TreeOk T ∧ (∀ m, m ∈ L → MvOk T m) ∧ L.length ≤ 5 ∧ Im H v (dMvs A) ∧ (∀ m, A.count m ≤ L.count m) ∧
  ∀ b H', Same H H' → (b = true ↔ ∃ O, Order T s L A O) → Q (.bl b) H'
theorem r_asg {te : TE} {g : TG} {D : L2.Ends} {σ : L2.St} {H : Hp} (h : te σ H fun v H' => g v σ H' D.nx) : tAsg te g D σ H := h
theorem small243 {n : Nat} (h : n ≤ 3 ^ 5) : n < sizeLine := small1000 (Nat.le_trans h (by decide))
theorem ok__law_can_finish (Tx : Txt mg) (F__law_shift : OkF P w K mg base "_law_shift" ["_law_loads", "_law_gains", "_law_losses"] 1 sp__law_shift) (F__law_has_place : OkF P w K mg base "_law_has_place" ["_law_case_here", "_law_loads", "_law_boxes"] 1 sp__law_has_place) (hf : Has K mg "_law_can_finish" s__law_can_finish) :
    OkF P w K mg base "_law_can_finish" ["_law_case_here", "_law_waits_here"] 2 sp__law_can_finish := by
  refine Has.ok hf sc__law_can_finish (fun _ _ _ _ _ _ us hl => match us, hl with | [_, _], _ => rfl) (fun vs H Q E h => ?_) (fun f cdv A outer sh H vs Q E hr h => ?_)
  · obtain ⟨T, s, L, A, z, v, rfl, _⟩ := h
    rfl
  · obtain ⟨T, s, L, B, z, v, rfl, ch, ok, mo, hL, iv, sub, q⟩ := h
    have hu := hu_of hr
    have hu65 : (A.deeper (envOfC "_law_can_finish" (defScope s__law_can_finish) sh.heap.objs.size f cdv)).units + 65 < cLine := by
      have := hr.un
      omega
    refine ⟨_, (pss_cons (ps_par3 (i := 2) (j := 3) (l := 4) (by rfl) sc__law_can_finish.nd rfl rfl rfl (by decide) (by decide) (by decide) rfl rfl rfl (pa_cons (pe_dget hu (pv 0) pe_str (fun _ _ => rfl)) (pa_cons (pe_lst pa_nil) (pa_cons (pe_callTy call_list_of (by rfl) Tx.b_list bb_list (pa_cons (pv 1) pa_nil)) pa_nil))) (by rfl))
  (pss_cons (ps_for PassesOwn.never rfl (pi_list (pv 2)) (pg_name (i := 5) sc__law_can_finish.nd rfl (.inl rfl)) (pss_cons (ps_expr (pe_bm PySem.F.plainAttrs_list PySem.F.slot_list_append PySem.F.type_list_append mt_append (pv 3) (pa_cons (pe_ifExp (pt_cmpR (op_inP hu65) (pe_ix (show IxR _ (rIxT K) from ix_tup) (pv 5) pe_int (fun _ _ => rfl)) (pv 4) (by with_unfolding_all rfl)) pe_int pe_int) pa_nil)))
  (pss_one (ps_if (pt_cmpR (op_inP hu65) (pe_ix (show IxR _ (rIxT K) from ix_tup) (pv 5) pe_int (fun _ _ => rfl)) (pv 4) (by with_unfolding_all rfl)) (pss_one (ps_expr (pe_bm PySem.F.plainAttrs_list PySem.F.slot_list_remove PySem.F.type_list_remove (mt_removeD hu65) (pv 4) (pa_cons (pe_ix (show IxR _ (rIxT K) from ix_tup) (pv 5) pe_int (fun _ _ => rfl)) pa_nil)))) pss_nil))))
  (pss_cons (ps_par (i := 6) (j := 7) (by rfl) sc__law_can_finish.nd rfl rfl (by decide) rfl rfl (pa_cons (pe_dispT hu (pe_callTy call_tuple_of (by rfl) Tx.b_tuple bb_tuple (pa_cons (pv 3) pa_nil)) pe_bl) (pa_cons (pe_lst (pa_cons (pe_callTy call_tuple_of (by rfl) Tx.b_tuple bb_tuple (pa_cons (pv 3) pa_nil)) pa_nil)) pa_nil)) (by rfl))
  (pss_cons (ps_for PassesOwn.never rfl (pi_range1 rfl Tx.b_range (pa_cons (pe_op op_mul pe_int (pe_callB call_len_seq (by rfl) Tx.b_len PySem.boot_len (pa_cons (pv 2) pa_nil))) pa_nil)) (pg_name (i := 8) sc__law_can_finish.nd rfl (.inl rfl)) (pss_cons (ps_set (i := 9) sc__law_can_finish.nd rfl (.inl rfl) (pe_lst pa_nil))
  (pss_cons (ps_for PassesOwn.never rfl (pi_list (pe_callTy call_list_of (by rfl) Tx.b_list bb_list (pa_cons (pv 7) pa_nil))) (pg_name (i := 10) sc__law_can_finish.nd rfl (.inl rfl)) (pss_cons (ps_set (i := 11) sc__law_can_finish.nd rfl (.inl rfl) (pe_callTy call_dictD (by rfl) Tx.b_dict bb_dict (pa_cons (pe_dget hu (pv 0) pe_str (fun _ _ => rfl)) pa_nil)))
  (pss_cons (ps_for PassesOwn.never rfl (pi_enum (by rfl) Tx.b_enumerate (pa_cons (pv 2) pa_nil)) (pg_tup rfl (pgs_cons (pg_name (i := 12) sc__law_can_finish.nd rfl (.inl rfl)) (pgs_cons (pg_name (i := 5) sc__law_can_finish.nd rfl (.inl rfl)) pgs_nil))) (pss_one (ps_set (i := 11) sc__law_can_finish.nd rfl (.inl rfl) (pe_c F__law_shift (hr.mono (by decide)) (pa_cons (pv 11) (pa_cons (pe_ifExp (pt_cmpR op_gt (pe_ix (show IxR _ (rIxT K) from ix_tup) (pv 10) (pv 12) (fun _ _ => rfl)) pe_int (nomark _)) (pe_ix (show IxR _ (rIxT K) from ix_tup) (pv 5) pe_int (fun _ _ => rfl)) (pe_lst pa_nil)) (pa_cons (pe_ifExp (pt_cmpR op_eq (pe_ix (show IxR _ (rIxT K) from ix_tup) (pv 10) (pv 12) (fun _ _ => rfl)) pe_int (nomark _)) (pe_ix (show IxR _ (rIxT K) from ix_tup) (pv 5) pe_int (fun _ _ => rfl)) (pe_lst pa_nil)) pa_nil)))))))
  (pss_one (ps_for PassesOwn.never rfl (pi_enum (by rfl) Tx.b_enumerate (pa_cons (pv 2) pa_nil)) (pg_tup rfl (pgs_cons (pg_name (i := 12) sc__law_can_finish.nd rfl (.inl rfl)) (pgs_cons (pg_name (i := 5) sc__law_can_finish.nd rfl (.inl rfl)) pgs_nil))) (pss_cons (ps_set (i := 13) sc__law_can_finish.nd rfl (.inl rfl) (pe_op op_catA (pe_op op_catA (pe_slice sl_tupA (pv 10) po_none (po_some (pv 12))) (pe_tup (pa_cons (pe_op op_add (pe_ix (show IxR _ (rIxT K) from ix_tup) (pv 10) (pv 12) (fun _ _ => rfl)) pe_int) pa_nil))) (pe_slice sl_tupA (pv 10) (po_some (pe_op op_add (pv 12) pe_int)) po_none)))
  (pss_cons (ps_set (i := 14) sc__law_can_finish.nd rfl (.inl rfl) (pe_or (pe_cmpR op_eq (pe_ix (show IxR _ (rIxT K) from ix_tup) (pv 10) (pv 12) (fun _ _ => rfl)) pe_int (nomark _)) (pe_one (pe_and (pe_cmpR op_eq (pe_ix (show IxR _ (rIxT K) from ix_tup) (pv 10) (pv 12) (fun _ _ => rfl)) pe_int (nomark _)) (pe_one (pe_c F__law_has_place (hr.mono (by decide)) (pa_cons (pv 0) (pa_cons (pv 11) (pa_cons (pe_ix (show IxR _ (rIxT K) from ix_tup) (pv 5) pe_int (fun _ _ => rfl)) pa_nil)))))))))
  (pss_one (ps_if (PW.pt (pw_and (pt_val (pv 14)) (pw_and1 (pt_cmp (pc_dnotin hu (pv 13) (pv 6)))))) (pss_cons (ps_dput hu (pv 6) (pv 13) pe_bl rfl)
  (pss_one (ps_expr (pe_bm PySem.F.plainAttrs_list PySem.F.slot_list_append PySem.F.type_list_append mt_append (pv 9) (pa_cons (pv 13) pa_nil))))) pss_nil)))))))))
  (pss_one (ps_set (i := 7) sc__law_can_finish.nd rfl (.inl rfl) (pv 9))))))
  (pss_one (ps_ret (pe_cmp (pc_din hu (pe_op op_mulT (pe_tup (pa_cons pe_int pa_nil)) (pe_callB call_len_seq (by rfl) Tx.b_len PySem.boot_len (pa_cons (pv 2) pa_nil))) (pv 6)) rfl))))))), ?_⟩
    have hwl : z.ws.length = L.length := Paired.length ch.ws
    obtain ⟨av, xs, rfl, hT, hA⟩ := id iv.tinv
    -- ways, flags, left
    refine ⟨_, rfl, z.c, _, rfl, c_get ch.at_ ck_ways, Nat.zero_le _, fun pf nf => ?_⟩
    have s1 : Same H (upd H pf (.lst [])) := Same.new nf
    have ef : upd H pf (.lst []) pf = some (.lst (vF [])) := upd_same
    generalize upd H pf (.lst []) = H1 at s1 ef
    refine ⟨_, rfl, av, xs, rfl, .inr (.inl (hT.sm s1)), fun pl nl => ⟨_, _, _, rfl, ?_⟩⟩
    have s2 : Same H1 (upd H1 pl (.lst xs)) := Same.new nl
    have el : upd H1 pl (.lst xs) pl = some (.lst xs) := upd_same
    have s02 := s1.trans s2
    have ef2 := s2 _ _ ef
    have hA2 := hA.mono (.same s02)
    have nl0 : H pl = none := s1.free nl
    have nfl : pf ≠ pl := ne_of_none ef nl
    generalize upd H1 pl (.lst xs) = H2 at s2 el s02 ef2 hA2
    clear s2 ef nl s1
    refine ⟨_, rfl, forW' (ch.same s02) (fun i σ H' => ∃ (fl : List Nat) (lf : List (Str × Str)) (zs : List V) (y5 : Option V), σ = [some (.ref z.c), some (.ref av), some (.ref z.lw), some (.ref pf), some (.ref pl), y5, none, none, none, none, none, none, none, none, none] ∧ Same H H' ∧ H' pf = some (.lst (vF fl)) ∧ H' pl = some (.lst zs) ∧ ImA H' zs (lf.map dMv) ∧
        fl ++ RR.mark (L.drop i) lf = RR.mark L B ∧ fl.length = i)
      ⟨[], B, xs, none, rfl, s02, ef2, el, hA2, rfl, rfl⟩ (fun i σ H' h => by
        obtain ⟨_, _, _, _, _, sm, _⟩ := h
        exact (ch.same sm).wl) ?_ ?_⟩
    · rintro i m x σ H' em ex ⟨fl, lf, zs, y5, rfl, sm, ef, el, iz, hm, hfl⟩
      have hi : i < L.length := (List.getElem?_eq_some_iff.mp em).1
      have wi : ∀ {H3}, Same H H3 → WayIt T H3 x m := fun s => (Paired.getP ch.ws ex em).same s
      rw [List.drop_eq_getElem_cons hi, (List.getElem?_eq_some_iff.mp em).2] at hm
      have hmk : RR.mark (m :: L.drop (i + 1)) lf = if m ∈ lf then 1 :: RR.mark (L.drop (i + 1)) (lf.erase m) else 0 :: RR.mark (L.drop (i + 1)) lf := rfl
      rw [hmk] at hm
      have hfs : (vF fl).length < sizeLine := small1000 (by rw [List.length_map]; omega)
      refine ⟨_, rfl, .inl ⟨rfl, _, .inl (.inl ef)⟩, ?_⟩
      refine ⟨_, rfl, tCi (r_way0 (wi sm) fun dv iv => ⟨_, rfl, r_inM el iz iv ⟨_, rfl, ?_⟩⟩)⟩
      by_cases hin : m ∈ lf
      · rw [if_pos hin] at hm
        refine iteP (decide_eq_true hin) ⟨pf, vF fl, .int 1, rfl, rfl, ef, hfs, ?_⟩
        have s4 : Same H (upd H' pf (.lst (vF fl ++ [.int 1]))) := Same.mut sm nf
        have el4 : upd H' pf (.lst (vF fl ++ [.int 1])) pl = some (.lst zs) := (upd_ne nfl.symm).trans el
        have iz4 := iz.mono (.lst (o := .lst (vF fl ++ [.int 1])) ef)
        have ef4 : upd H' pf (.lst (vF fl ++ [.int 1])) pf = some (.lst (vF (fl ++ [1]))) := by
          rw [upd_same]
          unfold vF
          rw [List.map_append]
          rfl
        generalize upd H' pf (.lst (vF fl ++ [.int 1])) = H4 at s4 el4 iz4 ef4
        refine ⟨_, rfl, tCi (r_way0 (wi s4) fun dv2 iv2 => ⟨_, rfl, r_inM el4 iz4 iv2 ⟨_, rfl, iteP (decide_eq_true hin) ?_⟩⟩)⟩
        refine ⟨_, rfl, .inl ⟨rfl, _, .inl (.inl el4)⟩, _, rfl, tCi (r_way0 (wi s4) fun dv3 iv3 => ⟨pl, zs, lf, m, dv3, rfl, rfl, el4, iz4, iv3, hin, fun zs' iz' => ?_⟩)⟩
        exact ⟨fl ++ [1], lf.erase m, zs', _, rfl, Same.mut s4 nl0, (upd_ne nfl).trans ef4, upd_same, iz', by rw [List.append_assoc]; exact hm, by rw [List.length_append, hfl]; rfl⟩
      · rw [if_neg hin] at hm
        refine iteN (decide_eq_false hin) ⟨pf, vF fl, .int 0, rfl, rfl, ef, hfs, ?_⟩
        have s4 : Same H (upd H' pf (.lst (vF fl ++ [.int 0]))) := Same.mut sm nf
        have el4 : upd H' pf (.lst (vF fl ++ [.int 0])) pl = some (.lst zs) := (upd_ne nfl.symm).trans el
        have iz4 := iz.mono (.lst (o := .lst (vF fl ++ [.int 0])) ef)
        have ef4 : upd H' pf (.lst (vF fl ++ [.int 0])) pf = some (.lst (vF (fl ++ [0]))) := by
          rw [upd_same]
          unfold vF
          rw [List.map_append]
          rfl
        generalize upd H' pf (.lst (vF fl ++ [.int 0])) = H4 at s4 el4 iz4 ef4
        refine ⟨_, rfl, tCi (r_way0 (wi s4) fun dv2 iv2 => ⟨_, rfl, r_inM el4 iz4 iv2 ⟨_, rfl, iteN (decide_eq_false hin) ?_⟩⟩)⟩
        exact ⟨fl ++ [0], lf, zs, _, rfl, s4, ef4, el4, iz4, by rw [List.append_assoc]; exact hm, by rw [List.length_append, hfl]; rfl⟩
    · rintro σ H3 ⟨fl, lf, zs, y5, rfl, s3, ef, el, iz, hm, hfl⟩
      rw [List.drop_length] at hm
      have hm' : fl = RR.mark L B := by
        rw [← hm]
        show fl = fl ++ []
        rw [List.append_nil]
      subst hm'
      clear hm el iz
      have h0 := RR.mark_len L B
      have h2 := RR.mark_le L B
      generalize hφ0 : RR.mark L B = φ0 at ef hfl h0 h2
      -- seen, edge
      intro ps nps
      have s4 : Same H3 (upd H3 ps (.dT [])) := Same.new nps
      have ep4 : upd H3 ps (.dT []) ps = some (.dT []) := upd_same
      have nps0 : H ps = none := s3.free nps
      have ef4 := s4 _ _ ef
      have s04 := s3.trans s4
      generalize upd H3 ps (.dT []) = H4 at s4 ep4 ef4 s04
      refine ⟨_, rfl, pf, vF φ0, rfl, .inl ⟨.inl (.inl ef4), fun t nt => ?_⟩⟩
      have s5 : Same H4 (upd H4 t (.tup (vF φ0))) := Same.new nt
      have et5 : upd H4 t (.tup (vF φ0)) t = some (.tup (vF φ0)) := upd_same
      have ep5 := s5 _ _ ep4
      have ef5 := s5 _ _ ef4
      have s05 := s04.trans s5
      generalize upd H4 t (.tup (vF φ0)) = H5 at s5 et5 ep5 ef5 s05
      refine ⟨kF φ0, t, rfl, by rw [kF_V]; exact et5, ep5, ?_⟩
      have ep6 : SeenAt (upd H5 ps (.dT [(kF φ0, .bl true)])) ps [φ0] := upd_same
      have s06 : Same H (upd H5 ps (.dT [(kF φ0, .bl true)])) := Same.mut s05 nps0
      have ef6 : upd H5 ps (.dT [(kF φ0, .bl true)]) pf = some (.lst (vF φ0)) := (upd_ne (ne_of ef5 ep5 fun z => nomatch z)).trans ef5
      generalize upd H5 ps (.dT [(kF φ0, .bl true)]) = H6 at ep6 s06 ef6
      clear s5 et5 ep5 ef5 s05 nt s4 ep4 ef4 s04
      refine ⟨_, rfl, pf, vF φ0, rfl, .inl ⟨.inl (.inl ef6), fun t2 nt2 => ?_⟩⟩
      have s7 : Same H6 (upd H6 t2 (.tup (vF φ0))) := Same.new nt2
      have et7 : upd H6 t2 (.tup (vF φ0)) t2 = some (.tup (vF φ0)) := upd_same
      generalize upd H6 t2 (.tup (vF φ0)) = H7 at s7 et7
      refine ⟨by show 1 ≤ sizeLine; decide, fun pe npe => ⟨_, _, rfl, ?_⟩⟩
      have s8 : Same H7 (upd H7 pe (.lst [.ref t2])) := Same.new npe
      have ee8 : EdgeAt (upd H7 pe (.lst [.ref t2])) pe [φ0] := ⟨_, upd_same, .cons ⟨t2, rfl, s8 _ _ et7⟩ .nil⟩
      have ep8 : SeenAt (upd H7 pe (.lst [.ref t2])) ps [φ0] := s8 _ _ (s7 _ _ ep6)
      have s08 := (s06.trans s7).trans s8
      generalize upd H7 pe (.lst [.ref t2]) = H8 at s8 ee8 ep8 s08
      clear s7 et7 s8 npe nt2 ep6 s06 ef6
      refine ⟨_, rfl, z.lw, z.ws, rfl, .inl (.inl (.inl (ch.same s08).wl)), _, _, rfl, rfl, .inl ⟨by decide, by decide⟩, _, rfl, by omega, by omega, ?_⟩
      have en : (2 * ((z.ws.length : Nat) : Int)).toNat = 2 * L.length := by omega
      rw [en]
      have hp := place_ok (T := T) s L
      refine for_range (fun k σ H' => ∃ (pe : Addr) (y5 y8 y9 y10 y11 y12 y13 y14 : Option V), σ = [some (.ref z.c), some (.ref av), some (.ref z.lw), some (.ref pf), some (.ref pl), y5, some (.ref ps), some (.ref pe), y8, y9, y10, y11, y12, y13, y14] ∧ Same H H' ∧ SeenAt H' ps (RR.laps (RR.mayF (placeF T s L)) RR.keyF L.length φ0 k).1 ∧ EdgeAt H' pe (RR.laps (RR.mayF (placeF T s L)) RR.keyF L.length φ0 k).2)
        ⟨pe, _, _, _, _, _, _, _, _, rfl, s08, ep8, ee8⟩ ?_ ?_
      · rintro k σ HL hk ⟨pe, y5, y8, y9, y10, y11, y12, y13, y14, rfl, sL, epL, eeL⟩
        have lo := RR.laps_ok (may := RR.mayF (placeF T s L)) (key := RR.keyF) (n := L.length) (x0 := φ0) k
        refine ⟨Nat.zero_le _, fun pl2 npl2 => ?_⟩
        have s9 : Same HL (upd HL pl2 (.lst [])) := Same.new npl2
        have e9 : upd HL pl2 (.lst []) pl2 = some (.lst []) := upd_same
        have npl0 : H pl2 = none := sL.free npl2
        have npsl : ps ≠ pl2 := ne_of_none epL npl2
        generalize upd HL pl2 (.lst []) = H9 at s9 e9
        obtain ⟨es, eeE, pE⟩ := eeL
        refine ⟨_, rfl, pe, es, rfl, .inl (.inl (.inl (s9 _ _ eeE))), fun pc npc => ?_⟩
        have s10 : Same H9 (upd H9 pc (.lst es)) := Same.new npc
        have ec : upd H9 pc (.lst es) pc = some (.lst es) := upd_same
        have npcs : pc ≠ ps := (ne_of_none (s9 _ _ epL) npc).symm
        have npcl : pc ≠ pl2 := (ne_of_none e9 npc).symm
        generalize upd H9 pc (.lst es) = HC at s10 ec
        have s90 := s9.trans s10
        have sC := sL.trans s90
        have epC := s90 _ _ epL
        have e9C := s10 _ _ e9
        have pEC : Paired (Tk HC) es (RR.laps (RR.mayF (placeF T s L)) RR.keyF L.length φ0 k).2 := Paired.mapP pE fun _ _ t => t.mono (KU.same s90)
        clear s9 e9 s10 npc s90 npl2 pE eeE
        refine forTk ec pEC (fun i σ H' => ∃ (y5 y10 y11 y12 y13 y14 : Option V), σ = [some (.ref z.c), some (.ref av), some (.ref z.lw), some (.ref pf), some (.ref pl), y5, some (.ref ps), some (.ref pe), some (.int (0 + (k : Nat))), some (.ref pl2), y10, y11, y12, y13, y14] ∧ Same H H' ∧ SameY ps pl2 HC H' ∧
            SeenAt H' ps (RR.goE (RR.mayF (placeF T s L)) RR.keyF L.length ((RR.laps (RR.mayF (placeF T s L)) RR.keyF L.length φ0 k).2.take i) ((RR.laps (RR.mayF (placeF T s L)) RR.keyF L.length φ0 k).1, [])).1 ∧
            EdgeAt H' pl2 (RR.goE (RR.mayF (placeF T s L)) RR.keyF L.length ((RR.laps (RR.mayF (placeF T s L)) RR.keyF L.length φ0 k).2.take i) ((RR.laps (RR.mayF (placeF T s L)) RR.keyF L.length φ0 k).1, [])).2)
          ⟨_, _, _, _, _, _, rfl, sC, SameY.of (Same.refl _), epC, [], e9C, .nil⟩ (fun i σ H' h => by
            obtain ⟨_, _, _, _, _, _, _, _, sy, _⟩ := h
            exact sy _ _ npcs npcl ec) ?_ ?_
        · rintro i φ x σ HF eφ tC ⟨y5, y10, y11, y12, y13, y14, rfl, sF, syF, epF, elF⟩
          have hφl : φ.length = L.length := by
            obtain ⟨n, rk⟩ := lo.from_ φ (lo.late φ (List.mem_of_getElem? eφ))
            exact (RR.rk_rch hp h0 rk).1
          have tF : Tk HF x φ := tC.mono (KU.sy epC e9C syF)
          have mid := fun j (hj : j ≤ L.length) => RR.mid_ok (j := j) (may := RR.mayF (placeF T s L)) (key := RR.keyF) (n := L.length) (x0 := φ0) (k := k) eφ hj
          generalize hst : RR.goE (RR.mayF (placeF T s L)) RR.keyF L.length ((RR.laps (RR.mayF (placeF T s L)) RR.keyF L.length φ0 k).2.take i) ((RR.laps (RR.mayF (placeF T s L)) RR.keyF L.length φ0 k).1, []) = st at epF elF mid
          have chF := ch.same sF
          obtain ⟨kvs, ed, id⟩ := chF.used
          refine ⟨_, rfl, z.c, _, rfl, c_get chF.at_ ck_used, z.pd, kvs, rfl, .inl ed, fun ph nph => ?_⟩
          have s11 : Same HF (upd HF ph (.dK kvs)) := Same.new nph
          have d11 : DL (upd HF ph (.dK kvs)) ph (gInts T (ld T s L φ 0)) := ⟨kvs, upd_same, by
            rw [gInts_congr (g := use T s) fun n _ => by unfold ld RR.hold; simp]
            exact id.mono (.same s11)⟩
          generalize upd HF ph (.dK kvs) = HA at s11 d11
          clear ed id nph
          refine ⟨_, rfl, forEW (ch.same (sF.trans s11)) (fun j σ H' => ∃ (ph : Addr) (y5 y12 : Option V), σ = [some (.ref z.c), some (.ref av), some (.ref z.lw), some (.ref pf), some (.ref pl), y5, some (.ref ps), some (.ref pe), some (.int (0 + (k : Nat))), some (.ref pl2), some x, some (.ref ph), y12, y13, y14] ∧ Same HA H' ∧ DL H' ph (gInts T (ld T s L φ j)))
            ⟨ph, _, _, rfl, Same.refl _, d11⟩ (fun j σ H' h => by
              obtain ⟨_, _, _, _, sm, _⟩ := h
              exact (ch.same ((sF.trans s11).trans sm)).wl) ?_ ?_⟩
          · rintro j m t x2 σ H' em ex ⟨ph, y5, y12, rfl, sA, d⟩ nt
            have hj : j < L.length := (List.getElem?_eq_some_iff.mp em).1
            have ek : φ[j]? = some (φ[j]'(by omega)) := List.getElem?_eq_getElem (by omega)
            have sn : Same H' (upd H' t (.tup [.int (j : Nat), x2])) := Same.new nt
            have sAn := sA.trans sn
            refine g_pair (r_asg (r_held ok (tF.mono (.same (s11.trans sAn))) ek ((Paired.getP ch.ws ex em).same ((sF.trans s11).trans sAn)) (d.same sn) fun p' H5 s5 d5 => ?_))
            refine ⟨p', _, _, rfl, sAn.trans s5, ?_⟩
            rw [gInts_congr fun n _ => ld_succ ok em ek n]
            exact d5
          · rintro σ HB ⟨ph, y5, y12, rfl, sA, dB⟩
            have sFB := s11.trans sA
            have sB := sF.trans sFB
            have dB' : DL HB ph (gInts T (RR.hold (ways T) (use T s) (L.zip φ))) := by
              have e : ld T s L φ L.length = RR.hold (ways T) (use T s) (L.zip φ) := by
                unfold ld
                rw [List.take_of_length_le (by rw [List.length_zip]; omega)]
              rw [← e]
              exact dB
            have epB := sFB _ _ epF
            have elB : EdgeAt HB pl2 st.2 := by
              obtain ⟨xs, e1, e2⟩ := elF
              exact ⟨xs, sFB _ _ e1, Paired.mapP e2 fun _ _ t => t.mono (KU.same sFB)⟩
            have syB : SameY ps pl2 HC HB := syF.trans (SameY.of sFB)
            have tB : Tk HB x φ := tF.mono (.same sFB)
            obtain ⟨xsB, exB, _⟩ := id elB
            clear sA dB s11 sFB d11
            refine ⟨_, rfl, forEW (ch.same sB) (fun j σ H' => ∃ (y5 y12 y13 y14 : Option V), σ = [some (.ref z.c), some (.ref av), some (.ref z.lw), some (.ref pf), some (.ref pl), y5, some (.ref ps), some (.ref pe), some (.int (0 + (k : Nat))), some (.ref pl2), some x, some (.ref ph), y12, y13, y14] ∧ Same H H' ∧ SameY ps pl2 HB H' ∧
                SeenAt H' ps (RR.goJ (RR.mayF (placeF T s L) φ) (RR.keyF φ) j st).1 ∧ EdgeAt H' pl2 (RR.goJ (RR.mayF (placeF T s L) φ) (RR.keyF φ) j st).2)
              ⟨_, _, _, _, rfl, sB, SameY.of (Same.refl _), epB, elB⟩ (fun j σ H' h => by
                obtain ⟨_, _, _, _, _, sm, _⟩ := h
                exact (ch.same sm).wl) ?_ ?_⟩
            · rintro j m t x2 σ H' em ex ⟨y5, y12, y13, y14, rfl, sJ, syJ, epJ, elJ⟩ nt
              have hj : j < L.length := (List.getElem?_eq_some_iff.mp em).1
              have ek : φ[j]? = some (φ[j]'(by omega)) := List.getElem?_eq_getElem (by omega)
              obtain ⟨m1, m2, m3⟩ := mid j (by omega)
              have hS : (RR.goJ (RR.mayF (placeF T s L) φ) (RR.keyF φ) j st).1.length ≤ 3 ^ 5 := Nat.le_trans (RR.laps_len hp h0 h2 m2 m1) (Nat.pow_le_pow_right (by decide) hL)
              have ku : KU HB H' := KU.sy epB exB syJ
              have d' := dB'.sy epB exB syJ
              have sn : Same H' (upd H' t (.tup [.int (j : Nat), x2])) := Same.new nt
              refine g_pair (r_asg (r_key (tB.mono (ku.trans (.same sn))) ek (by omega) fun yk H6 s6 tk => ?_))
              have s06 := sn.trans s6
              have sH6 := sJ.trans s06
              refine r_asg (r_may ok (ch.same sH6) (tB.mono (ku.trans (.same s06))) hφl ek em ((Paired.getP ch.ws ex em).same sH6) (d'.same s06) fun H7 s7 => ?_)
              have s07 := s06.trans s7
              have sH7 := sJ.trans s07
              have sy7 := syJ.trans (SameY.of s07)
              have ep7 := s07 _ _ epJ
              have tk7 := tk.mono (.same s7)
              have el7 : EdgeAt H7 pl2 (RR.goJ (RR.mayF (placeF T s L) φ) (RR.keyF φ) j st).2 := by
                obtain ⟨xs, e1, e2⟩ := elJ
                exact ⟨xs, s07 _ _ e1, Paired.mapP e2 fun _ _ t => t.mono (KU.same s07)⟩
              have step : RR.goJ (RR.mayF (placeF T s L) φ) (RR.keyF φ) (j + 1) st = if RR.mayF (placeF T s L) φ j = true then RR.addS (RR.goJ (RR.mayF (placeF T s L) φ) (RR.keyF φ) j st) (RR.keyF φ j) else RR.goJ (RR.mayF (placeF T s L) φ) (RR.keyF φ) j st := rfl
              rw [step]
              generalize RR.goJ (RR.mayF (placeF T s L) φ) (RR.keyF φ) j st = stj at hS m3 ep7 el7
              refine ⟨_, rfl, _, rfl, ?_⟩
              by_cases hmay : RR.mayF (placeF T s L) φ j = true
              · rw [if_pos hmay]
                refine iteP hmay ⟨_, rfl, _, rfl, ps, _, rfl, seen_get ep7 tk7, _, rfl, ?_⟩
                unfold RR.addS
                by_cases hin : RR.keyF φ j ∈ stj.1
                · rw [if_pos hin]
                  refine iteN (by rw [if_pos hin]; rfl) ?_
                  exact ⟨_, _, _, _, rfl, sH7, sy7, ep7, el7⟩
                · rw [if_neg hin]
                  refine iteP (by rw [if_neg hin]; rfl) ?_
                  refine ⟨_, rfl, _, rfl, ps, _, rfl, seen_put ep7 tk7 hin (small243 hS), ?_⟩
                  obtain ⟨xs7, ex7, px7⟩ := el7
                  have ku8 : KU H7 (upd H7 ps (.dT ((stj.1 ++ [RR.keyF φ j]).map fun φ => (kF φ, V.bl true)))) := KU.mut ep7 (.dt _)
                  have ex8 : upd H7 ps (.dT ((stj.1 ++ [RR.keyF φ j]).map fun φ => (kF φ, V.bl true))) pl2 = some (.lst xs7) := (upd_ne npsl.symm).trans ex7
                  refine ⟨_, rfl, .inl ⟨rfl, _, .inl (.inl ex8)⟩, _, rfl, pl2, xs7, yk, rfl, rfl, ex8, small1000 (by
                    have := Paired.length px7
                    have h5 : 3 ^ 5 = 243 := rfl
                    omega), ?_⟩
                  have ku9 : KU (upd H7 ps (.dT ((stj.1 ++ [RR.keyF φ j]).map fun φ => (kF φ, V.bl true)))) (upd (upd H7 ps (.dT ((stj.1 ++ [RR.keyF φ j]).map fun φ => (kF φ, V.bl true)))) pl2 (.lst (xs7 ++ [yk]))) := KU.mut ex8 (.lst _)
                  refine ⟨_, _, _, _, rfl, Same.mut (Same.mut sH7 nps0) npl0, sy7.up1.up2, (upd_ne npsl).trans upd_same, _, upd_same, ?_⟩
                  exact Paired.snoc (Paired.mapP px7 fun _ _ t => t.mono (ku8.trans ku9)) (tk7.mono (ku8.trans ku9))
              · rw [if_neg hmay]
                refine iteN (by simpa using hmay) ?_
                exact ⟨_, _, _, _, rfl, sH7, sy7, ep7, el7⟩
            · rintro σ H' ⟨y5, y12, y13, y14, rfl, sJ, syJ, epJ, elJ⟩
              refine ⟨_, _, _, _, _, _, rfl, sJ, syB.trans syJ, ?_, ?_⟩
              · rw [RR.goE_take eφ, hst]
                exact epJ
              · rw [RR.goE_take eφ, hst]
                exact elJ
        · rintro σ HF ⟨y5, y10, y11, y12, y13, y14, rfl, sF, syF, epF, elF⟩
          rw [List.take_length] at epF elF
          exact ⟨_, rfl, pl2, _, _, _, _, _, _, _, _, rfl, sF, epF, elF⟩
      · rintro σ HL ⟨pe, y5, y8, y9, y10, y11, y12, y13, y14, rfl, sL, epL, eeL⟩
        refine ⟨by show 1 ≤ sizeLine; decide, fun t nt => ?_⟩
        have s9 : Same HL (upd HL t (.tup [.int 2])) := Same.new nt
        have et : upd HL t (.tup [.int 2]) t = some (.tup [.int 2]) := upd_same
        generalize upd HL t (.tup [.int 2]) = H9 at s9 et
        refine ⟨_, rfl, z.lw, z.ws, rfl, .inl (.inl (.inl (ch.same (sL.trans s9)).wl)), t, .int 2, z.ws.length, rfl, rfl, et, by omega, fun p H10 s10 ep => ?_⟩
        have tk : Tk H10 (.ref p) (List.replicate L.length 2) := ⟨p, rfl, by
          rw [ep, hwl]
          unfold vF
          rw [List.map_replicate]
          rfl⟩
        refine ⟨_, rfl, ps, _, rfl, seen_get (s10 _ _ (s9 _ _ epL)) tk, q _ H10 ((sL.trans s9).trans s10) ?_⟩
        have key := RR.laps_mark (R := rest L B) hp sub (rest_perm B L sub)
        rw [hφ0] at key
        show _ ↔ ∃ O, O.Perm (rest L B) ∧ RR.goes (ways T) (room T) (RR.endU (ways T) (use T s) B) O
        rw [← key]
        split
        · rename_i h
          exact ⟨fun _ => h, fun _ => rfl⟩
        · rename_i h
          exact ⟨(fun z => by cases z), fun z => absurd z h⟩
end
end RW
end
section
set_option linter.all false
set_option maxRecDepth 100000
set_option autoImplicit false
set_option maxHeartbeats 4000000
/-! _law_is_right. -/
namespace RW
open PySem PySem.Spec PyProof.Rows L2
abbrev s__law_is_right : Stmt := topS 94
abbrev N__law_is_right : List Str := ["_law_case_here", "_law_waits_here", "_law_due", "_law_grove", "_law_heap", "_law_batch", "_law_shown", "_law_heard", "_law_steps"]
theorem sc__law_is_right : FnScope N__law_is_right ["_law_case_here", "_law_waits_here", "_law_due"] (defScope s__law_is_right) := ⟨rfl, rfl, rfl, by decide +kernel, rfl, by decide +kernel, by decide +kernel⟩

/-- data whose repr is told -/
structure ShowOk (d : PyData) : Prop where
  sh : d.showable = true
  nd : d.hasDict = false
  dp : d.depth ≤ 60
  sz : d.shown.length ≤ sizeLine
theorem tNi {σ : L2.St} {H : Hp} {Q : List V → Hp → Prop} (h : Q [] H) : tNil σ H Q := h
theorem r_repr {K : PySem.W.Frag} {H : Hp} {Q : VK} {a : Addr} {xs : List V} {ds : List PyData} (e : H a = some (.lst xs)) (i : ImA H xs ds) (ok : ShowOk (.list ds)) (q : Q (.str (PyData.list ds).shown) H) : rRepr K [.ref a] H Q :=
  ⟨a, .list ds, rfl, .lst (.inl (.inl e)) i.dp, ok.sh, ok.nd, ok.dp, ok.sz, q⟩
theorem show_two (b : Bool) : ShowOk (.list [.bool b, .bool b]) := by
  cases b
  · exact ⟨rfl, rfl, by decide, by decide⟩
  · exact ⟨rfl, rfl, by decide, by decide⟩
/-- what is shown -/
abbrev dAll (T : List Row) (s : List Int) (L A : List (Str × Str)) : List PyData := [dTree T, dInts s, dMvs L, dMvs A]
/-- a value that finishing gives -/
def StepV (T : List Row) (s : List Int) (L A : List (Str × Str)) (due : Bool) (d : PyData) : Prop := (due = false ∧ d = .none) ∨ (due = true ∧ ∃ O, d = dSteps A O ∧ Order T s L A O)
section
variable {P : Program} {w : World} {K : PySem.W.Frag} {mg : Str → Option Value} {base : Heap}
theorem fin_ask {T : List Row} {s : List Int} {L A : List (Str × Str)} {due : Bool} (hd : due = true ↔ ∃ O, Order T s L A O) {v u x y : V} {H : Hp} {Q : VK} (iv : Im H v (dTree T)) (iu : Im H u (dInts s)) (ix : Im H x (dMvs L)) (fx : Fz H x) (iy : Im H y (dMvs A)) (co : CaseOk T s L A)
    (q : ∀ v' H' d, Same H H' → Im H' v' d → StepV T s L A due d → Q v' H') : sp_finishing [v, u, x, y] H Q E0 := by
  refine ⟨T, s, L, A, v, u, x, y, rfl, iv, iu, ix, fx, iy, co, fun hno H' s' => q _ H' .none s' .non (.inl ⟨?_, rfl⟩), fun v' H' O s' i ho => q v' H' _ s' i (.inr ⟨hd.mpr ⟨O, ho⟩, O, rfl, ho⟩)⟩
  cases due with
  | false => rfl
  | true => exact absurd (hd.mp rfl) hno
def sp__law_is_right : Sp := fun vs H Q _ => ∃ (T : List Row) (s : List Int) (L A : List (Str × Str)) (z : CA) (v : V) (due : Bool), vs = [.ref z.c, v, .bl due] ∧ CaseH T s L H z ∧ Im H v (dMvs A) ∧ CaseOk T s L A ∧ (due = true ↔ ∃ O, Order T s L A O) ∧ ShowOk (.list (dAll T s L A)) ∧ ∀ H', Same H H' → Q (.bl true) H'
theorem ok__law_is_right (Tx : Txt mg) (F_can_finish : OkF P w K mg base "can_finish" ["tree", "stand", "lot", "asked"] 14 sp_can_finish) (N_can_finish : OkN P w K mg base "can_finish" s_can_finish ["tree", "stand", "lot", "asked"] 14 sp_can_finish)
    (F_finishing : OkF P w K mg base "finishing" ["tree", "stand", "lot", "asked"] 14 sp_finishing) (N_finishing : OkN P w K mg base "finishing" s_finishing ["tree", "stand", "lot", "asked"] 14 sp_finishing)
    (F__law_steps_right : OkF P w K mg base "_law_steps_right" ["_law_case_here", "_law_waits_here", "_law_steps"] 3 sp__law_steps_right) (hf : Has K mg "_law_is_right" s__law_is_right) : OkG P w K mg base "_law_is_right" ["_law_case_here", "_law_waits_here", "_law_due"] 15 sp__law_is_right := by
  refine Has.okG hf sc__law_is_right (fun _ _ _ _ _ _ us hl => match us, hl with | [_, _, _], _ => rfl) (fun vs H Q E h => ?_) (fun f cdv A outer sh H vs Q E hgd hr h => ?_)
  · obtain ⟨T, s, L, A, z, v, due, rfl, _⟩ := h
    rfl
  · obtain ⟨T, s, L, B, z, v, due, rfl, ch, iv, co, hd, ok, q⟩ := h
    have hu := hu_of hr
    have hu65 : (A.deeper (envOfC "_law_is_right" (defScope s__law_is_right) sh.heap.objs.size f cdv)).units + 65 < cLine := by
      have := hr.un
      omega
    refine ⟨_, (pss_cons (ps_par3 (i := 3) (j := 4) (l := 5) (by rfl) sc__law_is_right.nd rfl rfl rfl (by decide) (by decide) (by decide) rfl rfl rfl (pa_cons (pe_dget hu (pv 0) pe_str (fun _ _ => rfl)) (pa_cons (pe_dget hu (pv 0) pe_str (fun _ _ => rfl)) (pa_cons (pe_dget hu (pv 0) pe_str (fun _ _ => rfl)) pa_nil))) (by rfl))
  (pss_cons (ps_set (i := 6) sc__law_is_right.nd rfl (.inl rfl) (pe_callB (call_reprD hgd hu65) (by rfl) Tx.b_repr bb_repr (pa_cons (pe_lst (pa_cons (pv 3) (pa_cons (pv 4) (pa_cons (pv 5) (pa_cons (pv 1) pa_nil))))) pa_nil)))
  (pss_cons (ps_set (i := 7) sc__law_is_right.nd rfl (.inl rfl) (pe_lst (pa_cons (pe_c F_can_finish (hr.mono (by decide)) (pa_cons (pv 3) (pa_cons (pv 4) (pa_cons (pv 5) (pa_cons (pv 1) pa_nil))))) (pa_cons (pe_ckN N_can_finish (fun _ _ F => kb_can F) (hr.mono (by decide)) (pk_cons (pv 1) (pk_cons (pv 5) (pk_cons (pv 4) (pk_cons (pv 3) pk_nil))))) pa_nil))))
  (pss_cons (ps_for PassesOwn.never rfl (pi_list (pe_lst (pa_cons (pe_c F_finishing (hr.mono (by decide)) (pa_cons (pv 3) (pa_cons (pv 4) (pa_cons (pv 5) (pa_cons (pv 1) pa_nil))))) (pa_cons (pe_ckN N_finishing (fun _ _ F => kb_fin F) (hr.mono (by decide)) (pk_cons (pv 1) (pk_cons (pv 4) (pk_cons (pv 5) (pk_cons (pv 3) pk_nil))))) pa_nil)))) (pg_name (i := 8) sc__law_is_right.nd rfl (.inl rfl)) (pss_one (ps_if (PW.pt (pw_or (pt_cmpR op_eq (pe_cmp (pc_isN (pv 8)) rfl) (pv 2) (nomark _)) (pw_or1 (PW.pt (pw_and (pt_val (pv 2)) (pw_and1 (pt_not (pt_val (pe_c F__law_steps_right (hr.mono (by decide)) (pa_cons (pv 0) (pa_cons (pv 1) (pa_cons (pv 8) pa_nil)))))))))))) (pss_one (ps_ret pe_bl)) pss_nil)))
  (pss_one (ps_ret (pe_and (pe_cmpR op_eq (pe_callB (call_reprD hgd hu65) (by rfl) Tx.b_repr bb_repr (pa_cons (pv 7) pa_nil)) (pe_callB (call_reprD hgd hu65) (by rfl) Tx.b_repr bb_repr (pa_cons (pe_lst (pa_cons (pv 2) (pa_cons (pv 2) pa_nil))) pa_nil)) (nomark _)) (pe_one (pe_cmpR op_eq (pe_callB (call_reprD hgd hu65) (by rfl) Tx.b_repr bb_repr (pa_cons (pe_lst (pa_cons (pv 3) (pa_cons (pv 4) (pa_cons (pv 5) (pa_cons (pv 1) pa_nil))))) pa_nil)) (pv 6) (nomark _)))))))))), ?_⟩
    refine ⟨_, rfl, z.c, _, rfl, c_get ch.at_ ck_grove, _, rfl, z.c, _, rfl, c_get ch.at_ ck_heap, _, rfl, z.c, _, rfl, c_get ch.at_ ck_batch, _, _, _, rfl, ?_⟩
    refine ⟨_, rfl, _, rfl, _, rfl, _, rfl, by show 4 ≤ sizeLine; decide, fun l1 n1 => ?_⟩
    have s1 : Same H (upd H l1 (.lst [z.gv, z.hv, z.bv, v])) := Same.new n1
    have e1 : upd H l1 (.lst [z.gv, z.hv, z.bv, v]) l1 = some (.lst [z.gv, z.hv, z.bv, v]) := upd_same
    generalize upd H l1 (.lst [z.gv, z.hv, z.bv, v]) = H1 at s1 e1
    have iAll : ∀ {H'}, Same H H' → ImA H' [z.gv, z.hv, z.bv, v] (dAll T s L B) := fun s' => .cons (ch.gv.mono (.same s')) (.cons (ch.hv.mono (.same s')) (.cons (ch.bv.mono (.same s')) (.cons (iv.mono (.same s')) .nil)))
    refine tNi (r_repr e1 (iAll s1) ok ?_)
    -- heard
    have ask : ∀ {H' : Hp} {R : VK}, Same H H' → (∀ H'', Same H' H'' → R (.bl due) H'') → sp_can_finish [z.gv, z.hv, z.bv, v] H' R E0 := fun s' q' =>
      ⟨T, s, L, B, _, _, _, _, rfl, ch.gv.mono (.same s'), ch.hv.mono (.same s'), ch.bv.mono (.same s'), ch.fz.sm s', iv.mono (.same s'), co, fun b H'' s'' hb => by
        have : b = due := by
          rw [Bool.eq_iff_iff, hb, hd]
        rw [this]
        exact q' H'' s''⟩
    refine ⟨_, rfl, _, rfl, _, rfl, _, rfl, tNi (ask s1 fun H2 s2 => ?_)⟩
    refine ⟨_, rfl, _, rfl, _, rfl, _, rfl, tNi (ask (s1.trans s2) fun H3 s3 => ?_)⟩
    refine ⟨by show 2 ≤ sizeLine; decide, fun l2 n2 => ?_⟩
    have s03 := (s1.trans s2).trans s3
    have s4 : Same H3 (upd H3 l2 (.lst [.bl due, .bl due])) := Same.new n2
    have e4 : upd H3 l2 (.lst [.bl due, .bl due]) l2 = some (.lst [.bl due, .bl due]) := upd_same
    generalize upd H3 l2 (.lst [.bl due, .bl due]) = H4 at s4 e4
    have s04 := s03.trans s4
    clear s1 e1 s2 s3 s4 s03
    have fin : ∀ {H' : Hp} {R : VK}, Same H H' → (∀ v' H'' d, Same H' H'' → Im H'' v' d → StepV T s L B due d → R v' H'') → sp_finishing [z.gv, z.hv, z.bv, v] H' R E0 := fun s' q' =>
      fin_ask hd (ch.gv.mono (.same s')) (ch.hv.mono (.same s')) (ch.bv.mono (.same s')) (ch.fz.sm s') (iv.mono (.same s')) co q'
    refine ⟨_, rfl, _, rfl, _, rfl, _, rfl, tNi (fin s04 fun v5 H5 d5 s5 i5 p5 => ?_)⟩
    refine ⟨_, rfl, _, rfl, _, rfl, _, rfl, tNi (fin (s04.trans s5) fun v6 H6 d6 s6 i6 p6 => ?_)⟩
    refine ⟨by show 2 ≤ sizeLine; decide, fun l7 n7 => ?_⟩
    have s7 : Same H6 (upd H6 l7 (.lst [v5, v6])) := Same.new n7
    have e7 : upd H6 l7 (.lst [v5, v6]) l7 = some (.lst [v5, v6]) := upd_same
    generalize upd H6 l7 (.lst [v5, v6]) = H7 at s7 e7
    have i7 : ImA H7 [v5, v6] ([d5, d6].map id) := .cons (i5.mono (.same (s6.trans s7))) (.cons (i6.mono (.same s7)) .nil)
    have s47 := (s5.trans s6).trans s7
    have s07 := s04.trans s47
    have e4' := s47 _ _ e4
    refine forL (ds := [d5, d6]) (enc := id) e7 i7 (fun i σ H' => ∃ y8, σ = [some (.ref z.c), some v, some (.bl due), some z.gv, some z.hv, some z.bv, some (.str (PyData.list (dAll T s L B)).shown), some (.ref l2), y8] ∧ Same H7 H') ⟨none, rfl, Same.refl _⟩ (fun i σ H' h => by
      obtain ⟨_, _, sm⟩ := h
      exact ⟨.same sm, sm _ _ e7⟩) ?_ ?_
    · rintro i d x σ H' e ⟨y8, rfl, sm⟩ ix
      have hv : StepV T s L B due d := by
        have := List.mem_of_getElem? e
        rcases List.mem_cons.mp this with rfl | this
        · exact p5
        · rw [List.mem_singleton.mp this]
          exact p6
      replace ix : Im H' x d := ix
      have s0' := s07.trans sm
      rcases hv with ⟨rfl, rfl⟩ | ⟨rfl, O, rfl, ho⟩
      · cases ix
        refine ⟨_, rfl, _, rfl, rfl, _, rfl, iteN rfl ⟨_, rfl, _, rfl, iteF ?_⟩⟩
        exact iteF ⟨_, rfl, sm⟩
      · obtain ⟨ax, xs, rfl, hT, hA⟩ := id ix.tinv
        have hn : decide (V.ref ax = V.non) = false := decide_eq_false fun z => nomatch z
        refine ⟨_, rfl, _, rfl, rfl, _, rfl, iteN (by rw [hn]; rfl) ⟨_, rfl, _, rfl, iteT ?_⟩⟩
        refine ⟨_, rfl, _, rfl, _, rfl, T, s, L, B, O, z, v, _, rfl, ch.same s0', co.fit.ok, fun m hm => co.lo.mo.mv m hm, co.lo.mo.few, iv.mono (.same s0'), ix, co.ao.sub, ho, fun H8 s8 => ⟨_, rfl, ?_⟩⟩
        exact iteF ⟨_, rfl, sm.trans s8⟩
    · rintro σ H8 ⟨y8, rfl, s8⟩
      have e8 := s8 _ _ e4'
      have s08 := s07.trans s8
      refine ⟨_, rfl, tNi (r_repr e8 (.cons (.bl due) (.cons (.bl due) .nil)) (show_two due) ?_)⟩
      refine ⟨_, rfl, _, rfl, by show 2 ≤ sizeLine; decide, fun l9 n9 => ?_⟩
      have s9 : Same H8 (upd H8 l9 (.lst [.bl due, .bl due])) := Same.new n9
      have e9 : upd H8 l9 (.lst [.bl due, .bl due]) l9 = some (.lst [.bl due, .bl due]) := upd_same
      generalize upd H8 l9 (.lst [.bl due, .bl due]) = H9 at s9 e9
      refine tNi (r_repr e9 (.cons (.bl due) (.cons (.bl due) .nil)) (show_two due) ⟨rfl, _, rfl, iteP (decide_eq_true rfl) ?_⟩)
      refine ⟨_, rfl, _, rfl, _, rfl, _, rfl, by show 4 ≤ sizeLine; decide, fun l10 n10 => ?_⟩
      have s10 : Same H9 (upd H9 l10 (.lst [z.gv, z.hv, z.bv, v])) := Same.new n10
      have e10 : upd H9 l10 (.lst [z.gv, z.hv, z.bv, v]) l10 = some (.lst [z.gv, z.hv, z.bv, v]) := upd_same
      generalize upd H9 l10 (.lst [z.gv, z.hv, z.bv, v]) = H10 at s10 e10
      have s010 := (s08.trans s9).trans s10
      refine tNi (r_repr e10 (iAll s010) ok ⟨_, rfl, rfl, ?_⟩)
      rw [decide_eq_true rfl]
      exact q H10 s010
end
end RW
end
section
set_option linter.all false
set_option maxRecDepth 100000
set_option autoImplicit false
set_option maxHeartbeats 4000000
/-! _law_scenes, _law_scene. -/
namespace RW
open PySem PySem.Spec PyProof.Rows L2
abbrev s__law_scenes : Stmt := topS 85
abbrev N__law_scenes : List Str := ["_law_some"]
theorem sc__law_scenes : FnScope N__law_scenes [] (defScope s__law_scenes) := ⟨rfl, rfl, rfl, by decide +kernel, rfl, by decide +kernel, by decide +kernel⟩

/-- the written scenes -/
def scn1 : List Str := ["a-1,b-1|11|ab,ba", "at2,bt1,c-1,t-3|1110|ab,bc,ca", "at2,bt1,c-1,t-2|1110|ab,bc,ca"]
def scn2 : List Str := ["ap1,bp1,p-3,q-1|1111|ab,ba,pq,qp", "ap1,bq1,p-1,q-1|1100|ab,ba", "a-2,b-1,c-1|211|ab,ac,ba,ca"]
def scn3 : List Str := ["ap1,bp1,cp1,dp1,p-5,q-1|111111|ab,ba,cd,dc,pq,qp", "a-2,b-1,ca1,da1|0111|bc,cd,db"]
def scn4 : List Str := ["ap1,bp1,p-2,q-1|1001|-p,aq,qb", "ap2,bp1,p-3|110|-a,ab,ba", "ap1,b-1,cp1,p-2|1110|ab,bc,ca"]
def scn5 : List Str := ["ap1,bp1,pt2,q-1,rt1,t-3|100110|-t,aq,qr,rb", "ac1,bd1,c-2,d-2|1111|ad,bc,cb,da", "ap1,p-1|10|ap"]
def scn6 : List Str := ["ep1,fp1,gq1,hq1,p-2,q-2|111100|eg,fh,ge,hf", "ap1,bq1,c-1,p-2,q-1|11110|ab,ba,cp,pc"]
def scn7 : List Str := ["a-2,b-2|22|ab,ab,ba,ba", "a-2,b-1|11|-a,ab,ba", "a-1,b-1|10|", "a-0,b-1|01|"]
def scn8 : List Str := ["a-2,b-1|21|a-,ab,ba"]
def scenes : List Str := scn1 ++ scn2 ++ scn3 ++ scn4 ++ scn5 ++ scn6 ++ scn7 ++ scn8
theorem r_catL {H : Hp} {Q : VK} {a b : Addr} {xs ys : List Str} (ea : H a = some (.lst (xs.map .str))) (eb : H b = some (.lst (ys.map .str))) (hl : xs.length + ys.length ≤ 1000) (q : ∀ p H', Same H H' → H p = none → H' p = some (.lst ((xs ++ ys).map .str)) → Q (.ref p) H') : rCat (.ref a) (.ref b) H Q := by
  refine ⟨a, b, _, _, rfl, rfl, ea, eb, by rw [List.length_map, List.length_map]; exact Nat.le_of_lt (small1000 hl), fun p np => q p _ (Same.new np) np ?_⟩
  rw [upd_same, List.map_append]
section
variable {P : Program} {w : World} {K : PySem.W.Frag} {mg : Str → Option Value} {base : Heap}
def sp__law_scenes : Sp := fun vs H Q _ => vs = [] ∧ ∀ l H', Same H H' → H l = none → H' l = some (.lst (scenes.map .str)) → Q (.ref l) H'
theorem ok__law_scenes (hf : Has K mg "_law_scenes" s__law_scenes) : OkF P w K mg base "_law_scenes" [] 1 sp__law_scenes := by
  refine Has.ok hf sc__law_scenes (fun _ _ _ _ _ _ us hl => match us, hl with | [], _ => rfl) (fun vs H Q E h => ?_) (fun f cdv A outer sh H vs Q E hr h => ?_)
  · rw [h.1]
    rfl
  · obtain ⟨rfl, q⟩ := h
    refine ⟨_, (pss_cons (ps_set (i := 0) sc__law_scenes.nd rfl (.inl rfl) (pe_lst (pa_cons pe_str (pa_cons pe_str (pa_cons pe_str pa_nil)))))
  (pss_cons (ps_set (i := 0) sc__law_scenes.nd rfl (.inl rfl) (pe_op op_cat (pv 0) (pe_lst (pa_cons pe_str (pa_cons pe_str (pa_cons pe_str pa_nil))))))
  (pss_cons (ps_set (i := 0) sc__law_scenes.nd rfl (.inl rfl) (pe_op op_cat (pv 0) (pe_lst (pa_cons pe_str (pa_cons pe_str pa_nil)))))
  (pss_cons (ps_set (i := 0) sc__law_scenes.nd rfl (.inl rfl) (pe_op op_cat (pv 0) (pe_lst (pa_cons pe_str (pa_cons pe_str (pa_cons pe_str pa_nil))))))
  (pss_cons (ps_set (i := 0) sc__law_scenes.nd rfl (.inl rfl) (pe_op op_cat (pv 0) (pe_lst (pa_cons pe_str (pa_cons pe_str (pa_cons pe_str pa_nil))))))
  (pss_cons (ps_set (i := 0) sc__law_scenes.nd rfl (.inl rfl) (pe_op op_cat (pv 0) (pe_lst (pa_cons pe_str (pa_cons pe_str pa_nil)))))
  (pss_cons (ps_set (i := 0) sc__law_scenes.nd rfl (.inl rfl) (pe_op op_cat (pv 0) (pe_lst (pa_cons pe_str (pa_cons pe_str (pa_cons pe_str (pa_cons pe_str pa_nil)))))))
  (pss_one (ps_ret (pe_op op_cat (pv 0) (pe_lst (pa_cons pe_str pa_nil)))))))))))), ?_⟩
    have go : ∀ (H0 : Hp) (a : Addr) (xs ys : List Str) (R : VK), Same H H0 → H0 a = some (.lst (xs.map .str)) → xs.length + ys.length ≤ 1000 → ys.length ≤ 900 → (∀ p H', Same H H' → H p = none → H' p = some (.lst ((xs ++ ys).map .str)) → R (.ref p) H') →
        (ys.map V.str).length ≤ sizeLine ∧ ∀ l, H0 l = none → rCat (.ref a) (.ref l) (upd H0 l (.lst (ys.map .str))) R := fun H0 a xs ys R s0 e0 h1 h2 q' =>
      ⟨by rw [List.length_map]; exact Nat.le_of_lt (small1000 (by omega)), fun l nl => r_catL ((Same.new nl : Same H0 _) _ _ e0) upd_same h1 fun p H' s' np e' => q' p H' ((s0.trans (Same.new nl)).trans s') ((s0.trans (Same.new nl)).free np) e'⟩
    refine ⟨by show 3 ≤ sizeLine; decide, fun l nl => ?_⟩
    have s1 : Same H (upd H l (.lst (scn1.map .str))) := Same.new nl
    have e1 : upd H l (.lst (scn1.map .str)) l = some (.lst (scn1.map .str)) := upd_same
    refine ⟨_, rfl, go _ l scn1 scn2 _ s1 e1 (by decide) (by decide) fun l2 H2 s2 _ e2 => ?_⟩
    refine ⟨_, rfl, go _ l2 _ scn3 _ s2 e2 (by decide) (by decide) fun l3 H3 s3 _ e3 => ?_⟩
    refine ⟨_, rfl, go _ l3 _ scn4 _ s3 e3 (by decide) (by decide) fun l4 H4 s4 _ e4 => ?_⟩
    refine ⟨_, rfl, go _ l4 _ scn5 _ s4 e4 (by decide) (by decide) fun l5 H5 s5 _ e5 => ?_⟩
    refine ⟨_, rfl, go _ l5 _ scn6 _ s5 e5 (by decide) (by decide) fun l6 H6 s6 _ e6 => ?_⟩
    refine ⟨_, rfl, go _ l6 _ scn7 _ s6 e6 (by decide) (by decide) fun l7 H7 s7 _ e7 => ?_⟩
    exact ⟨_, rfl, go _ l7 _ scn8 _ s7 e7 (by decide) (by decide) fun l8 H8 s8 n8 e8 => q l8 H8 s8 n8 e8⟩
end
end RW
end
section
set_option linter.all false
set_option maxRecDepth 100000
set_option autoImplicit false
set_option maxHeartbeats 4000000
/-! _law_scene. -/
namespace RW
open PySem PySem.Spec PyProof.Rows L2
abbrev s__law_scene : Stmt := topS 86
abbrev N__law_scene : List Str := ["_law_code", "_law_rows", "_law_files", "_law_deeds", "_law_grove", "_law_batch", "_law_row", "_law_deed", "_law_sign"]
theorem sc__law_scene : FnScope N__law_scene ["_law_code"] (defScope s__law_scene) := ⟨rfl, rfl, rfl, by decide +kernel, rfl, by decide +kernel, by decide +kernel⟩

/-- what a code says -/
def sgn (r : Str) (i : Nat) : Str := ⟨#[r.cps.toList.getD i 0]⟩
def noDash (x : Str) : Str := Txt.replace x "-" ""
def rowOf (r : Str) : Row := (sgn r 0, noDash (sgn r 1), (PySem.intText? (sgn r 2)).getD 0)
def mvOf (d : Str) : Str × Str := (noDash (sgn d 0), noDash (sgn d 1))
def digit (c : Nat) : Int := (PySem.intText? (sign c)).getD 0
def scR (a : Str) : List Row := (Txt.split a ",").map rowOf
def scF (b : Str) : List Int := b.cps.toList.map digit
def scM (c : Str) : List (Str × Str) := ((Txt.split c ",").filter fun d => decide (d ≠ E')).map mvOf
/-- that a code can be read -/
structure CodeOk (z a b c : Str) : Prop where
  sp : Txt.split z "|" = [a, b, c]
  lz : z.length ≤ 900
  la : a.length ≤ 900
  lb : b.cps.size ≤ 900
  lc : c.length ≤ 900
  na : (Txt.split a ",").length ≤ 60
  nc : (Txt.split c ",").length ≤ 60
  ra : ∀ r, r ∈ Txt.split a "," → r.cps.toList.length = 3 ∧ (PySem.intText? (sgn r 2)).isSome = true
  rb : ∀ x, x ∈ b.cps.toList → (PySem.intText? (sign x)).isSome = true
  rc : ∀ d, d ∈ Txt.split c "," → d = E' ∨ d.cps.toList.length = 2
theorem tTi {t : TA} {σ : L2.St} {H : Hp} {Q : VK} (h : t σ H fun xs H1 => xs.length ≤ sizeLine ∧ ∀ p, H1 p = none → Q (.ref p) (upd H1 p (.tup xs))) : tTup t σ H Q := h
theorem tCsi {te : TE} {t : TA} {σ : L2.St} {H : Hp} {Q : List V → Hp → Prop} (h : te σ H fun x H1 => t σ H1 fun xs H2 => Q (x :: xs) H2) : tCons te t σ H Q := h
theorem tupF_new {H : Hp} {acc : List V} {ds : List PyData} {l : Addr} {o : Obj} (i : ImA H acc ds) (nl : H l = none) (ho : o.dict = none) :
    Same H (upd H l (.frz o (.tup acc))) ∧ Fz (upd H l (.frz o (.tup acc))) (.ref l) ∧ Im (upd H l (.frz o (.tup acc))) (.ref l) (.tuple ds) :=
  ⟨Same.new nl, ⟨l, o, acc, rfl, upd_same, ho⟩, .tup (.inr ⟨o, upd_same⟩) (i.mono (.new nl))⟩
theorem r_sgn {H : Hp} {Q : VK} {r : Str} {i : Nat} (hi : i < r.cps.toList.length) (hr : r.cps.toList.length ≤ 900) (q : Q (.str (sgn r i)) H) : rIxS (.str r) (.int (i : Nat)) H Q := by
  refine ⟨r, _, r.cps.toList.getD i 0, rfl, rfl, ?_, ?_, q⟩
  · have e : r.length = r.cps.toList.length := by simp [Str.length]
    rw [e]
    exact Nat.le_of_lt (small1000 (by omega))
  · rw [atI_nat _ _ hi, List.getD_eq_getElem?_getD, List.getElem?_eq_getElem hi]
    rfl
theorem r_dash {to : TE} {σ : L2.St} {H : Hp} {Q : VK} {r : Str} {i : Nat} (hi : i < r.cps.toList.length) (hr : r.cps.toList.length ≤ 900) (h : ∀ R : VK, R (.str r) H → to σ H R) (q : Q (.str (noDash (sgn r i))) H) : tReplI to (i : Nat) "-" "" σ H Q := by
  refine h _ ⟨r, r.cps.toList.getD i 0, rfl, ?_, ?_, q⟩
  · have e : r.length = r.cps.toList.length := by simp [Str.length]
    rw [e]
    exact Nat.le_of_lt (small1000 (by omega))
  · rw [atI_nat _ _ hi, List.getD_eq_getElem?_getD, List.getElem?_eq_getElem hi]
    rfl
section
variable {P : Program} {w : World} {K : PySem.W.Frag} {mg : Str → Option Value} {base : Heap}
def sp__law_scene : Sp := fun vs H Q _ => ∃ (z a b c : Str), vs = [.str z] ∧ CodeOk z a b c ∧
  ∀ t gv hv bv H' L, Same H H' → H' t = some (.tup [gv, hv, bv]) → Im H' gv (dTree (scR a)) → Im H' hv (dInts (scF b)) → Im H' bv (dMvs L) → Fz H' bv → L.Perm (scM c) → L.Pairwise (fun a b => PySem.W.dataLe false dMv a b = true) → Q (.ref t) H'
theorem ok__law_scene (Tx : Txt mg) (hf : Has K mg "_law_scene" s__law_scene) : OkF P w K mg base "_law_scene" ["_law_code"] 1 sp__law_scene := by
  refine Has.ok hf sc__law_scene (fun _ _ _ _ _ _ us hl => match us, hl with | [_], _ => rfl) (fun vs H Q E h => ?_) (fun f cdv A outer sh H vs Q E hr h => ?_)
  · obtain ⟨z, a, b, c, rfl, _⟩ := h
    rfl
  · obtain ⟨z, a, b, c, rfl, ok, q⟩ := h
    have hu65 : (A.deeper (envOfC "_law_scene" (defScope s__law_scene) sh.heap.objs.size f cdv)).units + 65 < cLine := by
      have := hr.un
      omega
    refine ⟨_, (pss_cons (ps_asg (pe_bm PySem.F.plainAttrs_str PySem.F.slot_str_split PySem.F.type_str_split mt_split (pv 0) (pa_cons pe_str pa_nil)) (pg_unl rfl (pgs_cons (pg_name (i := 1) sc__law_scene.nd rfl (.inl rfl)) (pgs_cons (pg_name (i := 2) sc__law_scene.nd rfl (.inl rfl)) (pgs_cons (pg_name (i := 3) sc__law_scene.nd rfl (.inl rfl)) pgs_nil)))))
  (pss_cons (ps_set (i := 4) sc__law_scene.nd rfl (.inl rfl) (pe_callTy cr_tupF (by rfl) Tx.b_tuple bb_tuple (pa_cons (pe_lc (own := [("_law_row", 6)]) (g := (gName 6)) (tt := tYes) rfl sc__law_scene.nd (pi_list (pe_bm PySem.F.plainAttrs_str PySem.F.slot_str_split PySem.F.type_str_split mt_split (pv 1) (pa_cons pe_str pa_nil))) (blkOk_by (own := [("_law_row", 6)]) (N := N__law_scene) (sc := defScope s__law_scene) (by decide +kernel)) (fun _ _ _ _ _ => (pg_name (i := 6) sc__law_scene.nd rfl (.inl rfl))) (fun _ _ _ _ _ => pts_nil) (fun _ _ _ _ _ => (pe_tup (pa_cons (pe_ix ix_str (pv 6) pe_int (fun _ _ => rfl)) (pa_cons (pe_replI (pv 6)) (pa_cons (pe_callTy call_int_str (by rfl) Tx.b_int bb_int (pa_cons (pe_ix ix_str (pv 6) pe_int (fun _ _ => rfl)) pa_nil)) pa_nil)))))) pa_nil)))
  (pss_cons (ps_setLc (i := 5) (own := [("_law_deed", 7)]) (g := (gName 7)) rfl sc__law_scene.nd rfl rfl (sw_true rfl rfl rfl (by decide +kernel)) (pi_list (pe_bm PySem.F.plainAttrs_str PySem.F.slot_str_split PySem.F.type_str_split mt_split (pv 3) (pa_cons pe_str pa_nil))) (blkOk_by (own := [("_law_deed", 7)]) (N := N__law_scene) (sc := defScope s__law_scene) (by decide +kernel)) (fun _ _ _ _ _ => (pg_name (i := 7) sc__law_scene.nd rfl (.inl rfl))) (fun _ _ _ _ _ => pts_one (pt_cmpR op_ne (pv 7) pe_str (nomark _))) (fun _ _ _ _ _ => (pe_tup (pa_cons (pe_replI (pv 7)) (pa_cons (pe_replI (pv 7)) pa_nil)))))
  (pss_one (ps_ret (pe_tup (pa_cons (pv 4) (pa_cons (pe_callTy cr_tupF (by rfl) Tx.b_tuple bb_tuple (pa_cons (pe_lc (own := [("_law_sign", 8)]) (g := (gName 8)) (tt := tYes) rfl sc__law_scene.nd (pi_str (pv 2)) (blkOk_by (own := [("_law_sign", 8)]) (N := N__law_scene) (sc := defScope s__law_scene) (by decide +kernel)) (fun _ _ _ _ _ => (pg_name (i := 8) sc__law_scene.nd rfl (.inl rfl))) (fun _ _ _ _ _ => pts_nil) (fun _ _ _ _ _ => (pe_callTy call_int_str (by rfl) Tx.b_int bb_int (pa_cons (pv 8) pa_nil)))) pa_nil)) (pa_cons (pe_callTy cr_tupF (by rfl) Tx.b_tuple bb_tuple (pa_cons (pe_callB (cr_sortD sortOk_mv hu65) (by rfl) Tx.b_sorted bb_sorted (pa_cons (pv 5) pa_nil)) pa_nil)) pa_nil))))))))), ?_⟩
    have le2 : ∀ {n : Nat}, n ≤ 900 → n + 2 ≤ sizeLine := fun h => Nat.le_of_lt (small1000 (by omega))
    refine ⟨_, rfl, rfl, z, "|", rfl, rfl, rfl, le2 ok.lz, fun l1 n1 => ?_⟩
    have s1 : Same H (upd H l1 (.lst ((Txt.split z "|").map .str))) := Same.new n1
    have e1 : upd H l1 (.lst ((Txt.split z "|").map .str)) l1 = some (.lst [.str a, .str b, .str c]) := by
      rw [upd_same, ok.sp]
      rfl
    generalize upd H l1 (.lst ((Txt.split z "|").map .str)) = H1 at s1 e1
    refine ⟨l1, _, rfl, .inl (.inl e1), rfl, _, _, rfl, _, _, rfl, _, _, rfl, rfl, ?_⟩
    -- the rows
    refine ⟨_, rfl, rfl, a, ",", rfl, rfl, rfl, le2 ok.la, fun l2 n2 => ?_⟩
    have s2 : Same H1 (upd H1 l2 (.lst ((Txt.split a ",").map .str))) := Same.new n2
    have e2 : upd H1 l2 (.lst ((Txt.split a ",").map .str)) l2 = some (.lst ((Txt.split a ",").map .str)) := upd_same
    generalize upd H1 l2 (.lst ((Txt.split a ",").map .str)) = H2 at s2 e2
    have s02 := s1.trans s2
    have na := ok.na
    refine lcL (ds := Txt.split a ",") (enc := PyData.str) e2 (ImA.ofStrs _) (by omega) (fun _ => true) (fun r => dRow (rowOf r)) ?_ ?_
    · intro r x H3 Qt Qf hr s3 ix ht _
      rw [ix.sinv]
      obtain ⟨h3, hi⟩ := ok.ra r hr
      obtain ⟨n, hn⟩ := Option.isSome_iff_exists.mp hi
      refine ⟨rfl, _, rfl, tCi (r_sgn (i := 0) (by omega) (by omega) (r_dash (i := 1) (by omega) (by omega) (fun R h => ⟨_, rfl, h⟩) ⟨_, rfl, tCi (r_sgn (i := 2) (by omega) (by omega) ⟨sgn r 2, n, rfl, hn, (by show 1 ≤ 640; decide), ?_⟩)⟩))⟩
      refine r_tup (.cons (.str (sgn r 0)) (.cons (.str (noDash (sgn r 1))) (.cons (.int n) .nil))) (by show 3 ≤ 1000; decide) fun t nt it => ht rfl _ _ (Same.new nt) ?_
      have en : (rowOf r).2.2 = n := by
        unfold rowOf
        rw [hn]
        rfl
      unfold dRow
      rw [en]
      exact it
    · intro D H3 acc nD s3 e3 i3
      rw [filter_true] at i3
      refine tNi ⟨D, acc, rfl, .inl (.inl e3), fun g ob ng hob => ?_⟩
      obtain ⟨s4, fg, i4⟩ := tupF_new i3 ng hob
      generalize upd H3 g (.frz ob (.tup acc)) = H4 at s4 fg i4 ⊢
      have i4' : Im H4 (.ref g) (dTree (scR a)) := by
        show Im _ _ (.tuple (((Txt.split a ",").map rowOf).map dRow))
        rw [List.map_map]
        exact i4
      have s04 := (s02.trans s3).trans s4
      clear s3 e3 i3 nD s4 ng fg i4
      -- the moves
      refine ⟨_, rfl, rfl, c, ",", rfl, rfl, rfl, le2 ok.lc, fun l5 n5 => ?_⟩
      have s5 : Same H4 (upd H4 l5 (.lst ((Txt.split c ",").map .str))) := Same.new n5
      have e5 : upd H4 l5 (.lst ((Txt.split c ",").map .str)) l5 = some (.lst ((Txt.split c ",").map .str)) := upd_same
      generalize upd H4 l5 (.lst ((Txt.split c ",").map .str)) = H5 at s5 e5
      have s05 := s04.trans s5
      have nc := ok.nc
      refine lcL (ds := Txt.split c ",") (enc := PyData.str) e5 (ImA.ofStrs _) (by omega) (fun d => decide (d ≠ E')) (fun d => dMv (mvOf d)) ?_ ?_
      · intro d x H6 Qt Qf hd s6 ix ht hf'
        rw [ix.sinv]
        refine ⟨rfl, _, rfl, rfl, _, rfl, ?_⟩
        by_cases he : d = E'
        · exact iteN (by rw [he]; rfl) (hf' (decide_eq_false fun z => z he) _ (Same.refl _))
        · have h2 : d.cps.toList.length = 2 := (ok.rc d hd).resolve_left he
          refine iteP (by rw [decide_eq_false fun z => he (V.str.inj z)]; rfl) ?_
          refine tTi (tCsi (r_dash (r := d) (i := 0) (by omega) (by omega) (fun R h => ⟨_, rfl, h⟩) (tCsi (r_dash (r := d) (i := 1) (by omega) (by omega) (fun R h => ⟨_, rfl, h⟩) (tNi ?_)))))
          exact r_tup (.cons (.str (noDash (sgn d 0))) (.cons (.str (noDash (sgn d 1))) .nil)) (by show 2 ≤ 1000; decide) fun t nt it => ht (decide_eq_true he) _ _ (Same.new nt) it
      · intro D H6 acc nD s6 e6 i6
        have s06 := s05.trans s6
        -- the files
        refine ⟨_, rfl, _, rfl, lcS (z := b) (by have := ok.lb; omega) (fun x => .int (digit x)) ?_ ?_⟩
        · intro x H7 Qt Qf hx s7 ht
          obtain ⟨n, hn⟩ := Option.isSome_iff_exists.mp (ok.rb x hx)
          refine ⟨rfl, _, rfl, sign x, n, rfl, hn, by show 1 ≤ 640; decide, ht _ _ (Same.refl _) ?_⟩
          have en : digit x = n := by
            unfold digit
            rw [hn]
            rfl
          rw [en]
          exact .int n
        · intro D2 H7 acc2 nD2 s7 e7 i7
          refine tNi ⟨D2, acc2, rfl, .inl (.inl e7), fun hv ob nh hob => ?_⟩
          obtain ⟨s8, fh, i8⟩ := tupF_new i7 nh hob
          generalize upd H7 hv (.frz ob (.tup acc2)) = H8 at s8 fh i8 ⊢
          have i8' : Im H8 (.ref hv) (dInts (scF b)) := by
            show Im _ _ (.tuple ((b.cps.toList.map digit).map .int))
            rw [List.map_map]
            exact i8
          have s68 := s7.trans s8
          have e8 := s68 _ _ e6
          have i68 : ImA H8 acc ((scM c).map dMv) := by
            unfold scM
            rw [List.map_map]
            exact i6.mono (.same s68)
          refine ⟨_, rfl, D, acc, scM c, rfl, e8, i68, ?_, fun p xs L np pm pw ip => ?_⟩
          · unfold scM
            rw [List.length_map]
            have := List.length_filter_le (fun d => decide (d ≠ E')) (Txt.split c ",")
            omega
          have s9 : Same H8 (upd H8 p (.lst xs)) := Same.new np
          have e9 : upd H8 p (.lst xs) p = some (.lst xs) := upd_same
          generalize upd H8 p (.lst xs) = H9 at s9 e9 ip
          refine tNi ⟨p, xs, rfl, .inl (.inl e9), fun bv ob nb hob => ?_⟩
          obtain ⟨s10, fb, i10⟩ := tupF_new ip nb hob
          generalize upd H9 bv (.frz ob (.tup xs)) = H10 at s10 fb i10 ⊢
          refine ⟨by show 3 ≤ sizeLine; decide, fun t nt => ?_⟩
          have s11 : Same H10 (upd H10 t (.tup [.ref g, .ref hv, .ref bv])) := Same.new nt
          have s811 := (s9.trans s10).trans s11
          have s411 := ((s5.trans s6).trans s68).trans s811
          exact q t (.ref g) (.ref hv) (.ref bv) _ L (s04.trans s411) upd_same (i4'.mono (.same s411)) (i8'.mono (.same s811)) (i10.mono (.same s11)) (fb.sm s11) pm pw
end
end RW
end
section
set_option linter.all false
set_option maxRecDepth 100000
set_option autoImplicit false
set_option maxHeartbeats 4000000
/-! What the cases of the law are: the written ones. -/
namespace RW
open PySem PySem.Spec PyProof.Rows L2
/-- a tree, a stand and a lot that fit, with small numbers -/
structure Good (T : List Row) (s : List Int) (L : List (Str × Str)) : Prop where
  fit : TreeFit T
  so : StandOk T s
  lo : LotOk T s L
  smT : ∀ r, r ∈ T → r.2.2 ≤ 1000
  smS : ∀ i, i ∈ s → i ≤ 1000
  pw : L.Pairwise fun a b => PySem.W.dataLe false dMv a b = true
/-- the same ahead of the sort -/
structure Good0 (T : List Row) (s : List Int) (L : List (Str × Str)) : Prop where
  fit : TreeFit T
  so : StandOk T s
  mv : ∀ m, m ∈ L → MvOk T m
  nm : ∀ m, m ∈ L → MvN m
  few : L.length ≤ 60
  files : ∀ x, x ∈ names T → ((L.map (·.1)).count x : Int) ≤ cnt T s x
  smT : ∀ r, r ∈ T → r.2.2 ≤ 1000
  smS : ∀ i, i ∈ s → i ≤ 1000
theorem sorted_pw {L : List (Str × Str)} (h : L.Pairwise fun a b => PySem.W.dataLe false dMv a b = true) : MvSorted L := by
  induction L with
  | nil => intro k a b ha; cases ha
  | cons x L ih =>
    rw [List.pairwise_cons] at h
    intro k a b ha hb
    cases k with
    | zero =>
      cases ha
      have := h.1 b (List.mem_of_getElem? hb)
      rw [PySem.W.dataLe_eq] at this
      simpa [mvLt] using this
    | succ k => exact ih h.2 k a b ha hb
theorem Good0.lot {T : List Row} {s : List Int} {L0 L : List (Str × Str)} (h : Good0 T s L0) (p : L.Perm L0) (pw : L.Pairwise fun a b => PySem.W.dataLe false dMv a b = true) : Good T s L :=
  ⟨h.fit, h.so, ⟨⟨fun m hm => h.mv m (p.mem_iff.mp hm), fun m hm => h.nm m (p.mem_iff.mp hm), sorted_pw pw, by rw [p.length_eq]; exact h.few⟩, fun x hx => by rw [(p.map (·.1)).count_eq]; exact h.files x hx⟩, h.smT, h.smS, pw⟩
/-! ### decided -/
def TreeP (T : List Row) : Prop := T ≠ [] ∧ T.length ≤ 20 ∧ (names T).Nodup ∧ E' ∉ names T ∧ (∀ r, r ∈ T → r.2.1 = E' ∨ r.2.1 ∈ names T) ∧
  (∀ r, r ∈ T → 1 ≤ (ways T r.1).length ∧ (ways T r.1).length ≤ T.length ∧ (r.2.1 = E' ∨ (ways T r.2.1).length < (ways T r.1).length)) ∧ (∀ r, r ∈ T → RowOk r) ∧ ∀ p, p ∈ T.zip (T.drop 1) → p.1.1.cps.toList < p.2.1.cps.toList
instance (r : Row) : Decidable (RowOk r) := by unfold RowOk; infer_instance
instance (T : List Row) : Decidable (TreeP T) := by unfold TreeP; infer_instance
theorem TreeP.fit {T : List Row} (h : TreeP T) : TreeFit T := by
  obtain ⟨h1, h2, h3, h4, h5, h6, h7, h8⟩ := h
  refine ⟨⟨h1, h2, h3, h4, h5, fun x => (ways T x).length, h6⟩, h7, fun k a b ha hb => ?_⟩
  refine h8 (a, b) (List.mem_of_getElem? (i := k) ?_)
  rw [List.getElem?_zip_eq_some, List.getElem?_drop]
  exact ⟨ha, by rw [Nat.add_comm]; exact hb⟩
instance (T : List Row) (x : Str) : Decidable (Spot T x) := by unfold Spot; infer_instance
instance (T : List Row) (m : Str × Str) : Decidable (MvOk T m) := by unfold MvOk; infer_instance
instance (m : Str × Str) : Decidable (MvN m) := by unfold MvN; infer_instance
instance (T : List Row) (s : List Int) : Decidable (StandOk T s) := by unfold StandOk; infer_instance
def Good0P (T : List Row) (s : List Int) (L : List (Str × Str)) : Prop := TreeP T ∧ StandOk T s ∧ (∀ m, m ∈ L → MvOk T m) ∧ (∀ m, m ∈ L → MvN m) ∧ L.length ≤ 60 ∧ (∀ x, x ∈ names T → ((L.map (·.1)).count x : Int) ≤ cnt T s x) ∧ (∀ r, r ∈ T → r.2.2 ≤ 1000) ∧ ∀ i, i ∈ s → i ≤ 1000
instance (T : List Row) (s : List Int) (L : List (Str × Str)) : Decidable (Good0P T s L) := by unfold Good0P; infer_instance
theorem Good0P.good {T : List Row} {s : List Int} {L : List (Str × Str)} (h : Good0P T s L) : Good0 T s L := by
  obtain ⟨h1, h2, h3, h4, h5, h6, h7, h8⟩ := h
  exact ⟨h1.fit, h2, h3, h4, h5, h6, h7, h8⟩
def CodeP (z a b c : Str) : Prop := z.length ≤ 900 ∧ a.length ≤ 900 ∧ b.cps.size ≤ 900 ∧ c.length ≤ 900 ∧ (Txt.split a ",").length ≤ 60 ∧ (Txt.split c ",").length ≤ 60 ∧
  (∀ r, r ∈ Txt.split a "," → r.cps.toList.length = 3 ∧ (PySem.intText? (sgn r 2)).isSome = true) ∧ (∀ x, x ∈ b.cps.toList → (PySem.intText? (sign x)).isSome = true) ∧ ∀ d, d ∈ Txt.split c "," → d = E' ∨ d.cps.toList.length = 2
instance (z a b c : Str) : Decidable (CodeP z a b c) := by unfold CodeP; infer_instance
def codeB (z : Str) : Bool := match Txt.split z "|" with
  | [a, b, c] => decide (CodeP z a b c) && decide (Good0P (scR a) (scF b) (scM c))
  | _ => false
theorem code_ok {z : Str} (h : codeB z = true) : ∃ a b c, CodeOk z a b c ∧ Good0 (scR a) (scF b) (scM c) := by
  unfold codeB at h
  split at h
  · rename_i a b c e
    rw [Bool.and_eq_true] at h
    obtain ⟨h1, h2, h3, h4, h5, h6, h7, h8, h9⟩ := of_decide_eq_true h.1
    exact ⟨a, b, c, ⟨e, h1, h2, h3, h4, h5, h6, h7, h8, h9⟩, (of_decide_eq_true h.2).good⟩
  · cases h
theorem scenes_ok : scenes.all codeB = true := by decide +kernel
end RW
end
section
set_option linter.all false
set_option maxRecDepth 100000
set_option autoImplicit false
set_option maxHeartbeats 4000000
/-! Orders decided; what repr shows. -/
namespace RW
open PySem PySem.Spec PyProof.Rows L2
/-- whether a few moves have an order that goes -/
def canOrd (T : List Row) : Nat → (Str → Int) → List (Str × Str) → Bool
  | 0, _, L => L.isEmpty
  | n + 1, h, L => L.isEmpty || L.any fun m => (gains T m).all (fun f => decide (h f < room T f)) && canOrd T n (RR.after (ways T) h m) (L.erase m)
theorem canOrd_iff (T : List Row) : ∀ (n : Nat) (h : Str → Int) (L : List (Str × Str)), L.length ≤ n → (canOrd T n h L = true ↔ ∃ O, O.Perm L ∧ RR.goes (ways T) (room T) h O)
  | 0, h, L, hl => by
    have : L = [] := List.length_eq_zero_iff.mp (by omega)
    subst this
    exact ⟨fun _ => ⟨[], .refl _, trivial⟩, fun _ => rfl⟩
  | n + 1, h, L, hl => by
    unfold canOrd
    rw [Bool.or_eq_true, List.any_eq_true]
    constructor
    · rintro (e | ⟨m, hm, e⟩)
      · exact ⟨[], by rw [List.isEmpty_iff.mp e], trivial⟩
      · rw [Bool.and_eq_true, List.all_eq_true] at e
        obtain ⟨O, p, g⟩ := (canOrd_iff T n _ (L.erase m) (by rw [List.length_erase_of_mem hm]; omega)).mp e.2
        exact ⟨m :: O, (p.cons m).trans (List.perm_cons_erase hm).symm, fun f hf => of_decide_eq_true (e.1 f (gains_mem.mpr hf)), g⟩
    · rintro ⟨O, p, g⟩
      cases O with
      | nil => exact .inl (by rw [p.symm.eq_nil]; rfl)
      | cons m O =>
        have hm : m ∈ L := p.mem_iff.mp List.mem_cons_self
        refine .inr ⟨m, hm, ?_⟩
        rw [Bool.and_eq_true, List.all_eq_true]
        refine ⟨fun f hf => decide_eq_true (g.1 f (gains_mem.mp hf)), (canOrd_iff T n _ (L.erase m) (by rw [List.length_erase_of_mem hm]; omega)).mpr ⟨O, ?_, g.2⟩⟩
        have := p.erase m
        rwa [List.erase_cons_head] at this
theorem rest_congr {L L0 A : List (Str × Str)} (p : L.Perm L0) : (rest L A).Perm (rest L0 A) := by
  rw [List.perm_iff_count]
  intro m
  rw [rest_count, rest_count, p.count_eq]
/-- an order of the others, decided ahead of the sort -/
def dueB (T : List Row) (s : List Int) (L0 A : List (Str × Str)) : Bool := canOrd T (rest L0 A).length (RR.endU (ways T) (use T s) A) (rest L0 A)
theorem due_iff {T : List Row} {s : List Int} {L L0 A : List (Str × Str)} (p : L.Perm L0) : dueB T s L0 A = true ↔ ∃ O, Order T s L A O := by
  unfold dueB
  rw [canOrd_iff T _ _ _ (Nat.le_refl _)]
  have q := rest_congr (A := A) p
  exact ⟨fun ⟨O, p', g⟩ => ⟨O, p'.trans q.symm, g⟩, fun ⟨O, p', g⟩ => ⟨O, p'.trans q, g⟩⟩
/-! ### what is shown -/
/-- a number as data: small -/
def Sm (i : Int) : Prop := 0 ≤ i ∧ i ≤ 1000
/-- data that show, of so much weight and depth -/
structure Lf (w k : Nat) (d : PyData) : Prop where
  ls : d.leavesShort 13 = true
  sh : d.showable = true
  nd : d.hasDict = false
  we : d.weight ≤ w
  dp : d.depth ≤ k
structure LfA (w k : Nat) (ds : List PyData) : Prop where
  ls : PyData.leavesShortAll 13 ds = true
  sh : PyData.showableAll ds = true
  nd : PyData.hasDictAll ds = false
  we : PyData.weightAll ds ≤ w
  dp : PyData.depthAll ds ≤ k
theorem LfA.nil (k : Nat) : LfA 0 k [] := ⟨rfl, rfl, rfl, Nat.le_refl _, Nat.zero_le _⟩
theorem LfA.cons {w v k : Nat} {d : PyData} {ds : List PyData} (h : Lf w k d) (g : LfA v k ds) : LfA (w + 1 + v) k (d :: ds) := by
  refine ⟨?_, ?_, ?_, ?_, ?_⟩
  · simp only [PyData.leavesShortAll, h.ls, g.ls, Bool.and_self]
  · simp only [PyData.showableAll, h.sh, g.sh, Bool.and_self]
  · simp only [PyData.hasDictAll, h.nd, g.nd, Bool.or_self]
  · have := h.we
    have := g.we
    simp only [PyData.weightAll]
    omega
  · have := h.dp
    have := g.dp
    simp only [PyData.depthAll]
    omega
theorem LfA.le {w v k : Nat} {ds : List PyData} (h : LfA w k ds) (hl : w ≤ v) : LfA v k ds := ⟨h.ls, h.sh, h.nd, Nat.le_trans h.we hl, h.dp⟩
theorem LfA.map {α : Type} {enc : α → PyData} {w k : Nat} : ∀ (l : List α), (∀ x, x ∈ l → Lf w k (enc x)) → LfA (l.length * (w + 1)) k (l.map enc)
  | [], _ => (LfA.nil k).le (Nat.zero_le _)
  | x :: l, h => by
    have h1 := LfA.cons (h x List.mem_cons_self) (LfA.map l fun y hy => h y (List.mem_cons_of_mem _ hy))
    rw [List.map_cons]
    refine h1.le ?_
    rw [List.length_cons, Nat.succ_mul]
    omega
theorem LfA.tup {w k : Nat} {ds : List PyData} (h : LfA w k ds) : Lf w (k + 1) (.tuple ds) := by
  refine ⟨?_, ?_, ?_, ?_, ?_⟩
  · simpa only [PyData.leavesShort] using h.ls
  · simpa only [PyData.showable] using h.sh
  · simpa only [PyData.hasDict] using h.nd
  · simpa only [PyData.weight] using h.we
  · have := h.dp
    simp only [PyData.depth]
    omega
theorem LfA.lst {w k : Nat} {ds : List PyData} (h : LfA w k ds) : Lf w (k + 1) (.list ds) := by
  refine ⟨?_, ?_, ?_, ?_, ?_⟩
  · simpa only [PyData.leavesShort] using h.ls
  · simpa only [PyData.showable] using h.sh
  · simpa only [PyData.hasDict] using h.nd
  · simpa only [PyData.weight] using h.we
  · have := h.dp
    simp only [PyData.depth]
    omega
theorem Lf.mono {w v k j : Nat} {d : PyData} (h : Lf w k d) (h1 : w ≤ v) (h2 : k ≤ j) : Lf v j d := ⟨h.ls, h.sh, h.nd, Nat.le_trans h.we h1, Nat.le_trans h.dp h2⟩
theorem leaf_int {i : Int} (h : Sm i) : Lf 11 0 (.int i) := by
  obtain ⟨h0, h1⟩ := h
  have hn : i.natAbs ≤ 1000 := by omega
  have hlog : i.natAbs.log2 ≤ 10 := by
    by_cases h0 : i.natAbs = 0
    · rw [h0]
      decide
    · have : i.natAbs.log2 < 10 := (Nat.log2_lt h0).mpr (by omega)
      omega
  refine ⟨?_, ?_, rfl, ?_, Nat.le_refl _⟩
  · have h12 : (10 : Nat) ^ 12 = 1000000000000 := rfl
    have := PyData.intsShortAll_ints [i] fun n hn' => by
      rw [List.mem_singleton.mp hn']
      omega
    simpa [PyData.intsShortAll, PyData.intsShort, PyData.leavesShort] using this
  · simp only [PyData.showable, decide_eq_true_eq]
    omega
  · simp only [PyData.weight]
    split <;> omega
theorem leaf_spot {x : Str} (h : x = E' ∨ NameOk x) : Lf 8 0 (.str x) := by
  have hx : x.cps.size ≤ 8 ∧ ∀ c, c ∈ x.cps.toList → c < 16 ^ 8 := by
    rcases h with rfl | ⟨_, h2, h3⟩
    · exact ⟨by decide, by decide⟩
    · refine ⟨h2, fun c hc => ?_⟩
      have hall : ∀ c, c ∈ ("abcdefghijklmnopqrstuvwxyz" : Str).cps.toList → c < 16 ^ 8 := by decide +kernel
      exact hall c (h3 c hc)
  refine ⟨?_, rfl, rfl, ?_, Nat.le_refl _⟩
  · simp only [PyData.leavesShort, List.all_eq_true, decide_eq_true_eq]
    exact hx.2
  · simp only [PyData.weight]
    exact hx.1
theorem leaf_row {r : Row} (h : RowOk r) (hs : r.2.2 ≤ 1000) : Lf 30 1 (dRow r) :=
  (LfA.tup (LfA.cons (leaf_spot (.inr h.1)) (LfA.cons (leaf_spot h.2.1) (LfA.cons ((leaf_int ⟨h.2.2.2, hs⟩).mono (Nat.le_refl _) (Nat.le_refl _)) (LfA.nil 0))))).mono (by decide) (by decide)
theorem leaf_mv {m : Str × Str} (h : MvN m) : Lf 18 1 (dMv m) :=
  (LfA.tup (LfA.cons (leaf_spot h.1) (LfA.cons (leaf_spot h.2.1) (LfA.nil 0)))).mono (by decide) (by decide)
theorem leaf_mvs {T : List Row} {L : List (Str × Str)} (h : MovesOk T L) : Lf 1140 2 (dMvs L) :=
  (LfA.tup (LfA.map L fun m hm => leaf_mv (h.nm m hm))).mono (by have := h.few; omega) (by decide)
theorem Good.show_ {T : List Row} {s : List Int} {L A : List (Str × Str)} (g : Good T s L) (ha : MovesOk T A) : ShowOk (.list (dAll T s L A)) := by
  have hT := g.fit.ok.len
  have h1 : Lf 620 2 (dTree T) := (LfA.tup (LfA.map T fun r hr => leaf_row (g.fit.row r hr) (g.smT r hr))).mono (by omega) (by decide)
  have h2 : Lf 240 2 (dInts s) := (LfA.tup (LfA.map s fun i hi => leaf_int ⟨g.so.2.1 i hi, g.smS i hi⟩)).mono (by have := g.so.1; omega) (by decide)
  have h := LfA.lst (LfA.cons h1 (LfA.cons h2 (LfA.cons (leaf_mvs g.lo.mo) (LfA.cons (leaf_mvs ha) (LfA.nil 2)))))
  exact ⟨h.sh, h.nd, Nat.le_trans h.dp (by decide), PyData.shown_fits (by decide) (Nat.le_refl _) h.ls (Nat.le_trans h.we (by decide))⟩
end RW
end
section
set_option linter.all false
set_option maxRecDepth 100000
set_option autoImplicit false
set_option maxHeartbeats 400000
/-! _law_by_hand. -/
namespace RW
open PySem PySem.Spec PyProof.Rows L2
abbrev s__law_by_hand : Stmt := topS 95
abbrev N__law_by_hand : List Str := ["_law_codes", "_law_some", "_law_k", "_law_waits_here", "_law_due", "_law_grove", "_law_heap", "_law_batch"]
theorem sc__law_by_hand : FnScope N__law_by_hand [] (defScope s__law_by_hand) := ⟨rfl, rfl, rfl, by decide +kernel, rfl, by decide +kernel, by decide +kernel⟩

/-! ### written data -/
def RE (σ : L2.St) (te : TE) (d : PyData) : Prop := ∀ (H : Hp) (Q : VK), (∀ y H', Same H H' → Im H' y d → Q y H') → te σ H Q
def RA (σ : L2.St) (t : TA) (ds : List PyData) : Prop := ∀ (H : Hp) (Q : List V → Hp → Prop), (∀ ys H', Same H H' → ImA H' ys ds → Q ys H') → t σ H Q
section
variable {σ : L2.St} {te : TE} {t : TA} {d : PyData} {ds : List PyData}
theorem RA.nil : RA σ tNil [] := fun H Q q => q _ _ (Same.refl _) .nil
theorem RA.cons (h : RE σ te d) (g : RA σ t ds) : RA σ (tCons te t) (d :: ds) := fun H Q q => h H _ fun y H1 s1 i1 => g H1 _ fun ys H2 s2 i2 => q _ H2 (s1.trans s2) (.cons (i1.mono (.same s2)) i2)
theorem RE.tup (h : RA σ t ds) (hl : ds.length ≤ 1000) : RE σ (tTup t) (.tuple ds) := fun H Q q => h H _ fun ys H1 s1 i1 => r_tup i1 hl fun p np ip => q _ _ (s1.trans (Same.new np)) ip
theorem RE.int (i : Int) : RE σ (tC (.int i)) (.int i) := fun H Q q => q _ _ (Same.refl _) (.int i)
theorem RE.str (x : Str) : RE σ (tC (.str x)) (.str x) := fun H Q q => q _ _ (Same.refl _) (.str x)
theorem RE.bl (b : Bool) : RE σ (tC (.bl b)) (.bool b) := fun H Q q => q _ _ (Same.refl _) (.bl b)
end
theorem tSqa {te : TE} {i : Nat} {u : TS} {D : L2.Ends} {σ : L2.St} {H : Hp} (h : te σ H fun x H1 => u D (σ.set i (some x)) H1) : tSeq (tAsg te (gName i)) u D σ H := h
theorem tSqi {t u : TS} {D : L2.Ends} {σ : L2.St} {H : Hp} (h : t { D with nx := u D } σ H) : tSeq t u D σ H := h
theorem tLsi {t : TA} {σ : L2.St} {H : Hp} {Q : VK} (h : t σ H fun xs H1 => xs.length ≤ sizeLine ∧ ∀ p, H1 p = none → Q (.ref p) (upd H1 p (.lst xs))) : tLst t σ H Q := h
abbrev Item := Int × List (Str × Str) × Bool
def encI (p : Item) : PyData := .tuple [.int p.1, dMvs p.2.1, .bool p.2.2]
theorem re_one {σ : L2.St} (k : Int) (a b : Str) (d : Bool) : RE σ (tTup (tCons (tC (.int k)) (tCons (tTup (tCons (tTup (tCons (tC (.str a)) (tCons (tC (.str b)) tNil))) tNil)) (tCons (tC (.bl d)) tNil)))) (encI (k, [(a, b)], d)) :=
  .tup (.cons (.int k) (.cons (.tup (.cons (.tup (.cons (.str a) (.cons (.str b) .nil)) (by show 2 ≤ 1000; decide)) .nil) (by show 1 ≤ 1000; decide)) (.cons (.bl d) .nil))) (by show 3 ≤ 1000; decide)
theorem re_none {σ : L2.St} (k : Int) (d : Bool) : RE σ (tTup (tCons (tC (.int k)) (tCons (tTup tNil) (tCons (tC (.bl d)) tNil)))) (encI (k, [], d)) :=
  .tup (.cons (.int k) (.cons (.tup .nil (by show 0 ≤ 1000; decide)) (.cons (.bl d) .nil))) (by show 3 ≤ 1000; decide)
def codes4 : List Str := ["a-2,b-1|11|-a,ab,ba", "a-2,b-1|21|ba", "ap1,bp1,p-2,q-1|1001|-p,aq,qb", "a-2,b-1,c-1|111|ab,ba,ca"]
def items1 : List Item := [(0, [("", "a")], false), (0, [("b", "a")], true), (0, [], true), (1, [], false), (2, [("q", "b")], true)]
def items2 : List Item := [(2, [("", "p")], false), (3, [("c", "a")], false), (3, [("b", "a")], true), (2, [], true)]
def HandP (T : List Row) (s : List Int) (L0 A : List (Str × Str)) (due : Bool) : Prop := A.length ≤ 1 ∧ (∀ m, m ∈ A → MvOk T m) ∧ (∀ m, m ∈ A → MvN m) ∧ (∀ m, m ∈ A → A.count m ≤ L0.count m) ∧ (∀ f, f ∈ names T → held T s A f ≤ room T f) ∧ dueB T s L0 A = due
instance (T : List Row) (s : List Int) (L0 A : List (Str × Str)) (due : Bool) : Decidable (HandP T s L0 A due) := by unfold HandP; infer_instance
def handB (p : Item) : Bool := match codes4[p.1.toNat]? with
  | some z => match Txt.split z "|" with
    | [a, b, c] => decide (0 ≤ p.1 ∧ CodeP z a b c) && decide (Good0P (scR a) (scF b) (scM c)) && decide (HandP (scR a) (scF b) (scM c) p.2.1 p.2.2)
    | _ => false
  | none => false
theorem hand_ok {p : Item} (h : handB p = true) : ∃ (k : Nat) (z a b c : Str), p.1 = (k : Int) ∧ codes4[k]? = some z ∧ CodeOk z a b c ∧ Good0 (scR a) (scF b) (scM c) ∧ HandP (scR a) (scF b) (scM c) p.2.1 p.2.2 := by
  unfold handB at h
  split at h
  · rename_i z ez
    split at h
    · rename_i a b c e
      rw [Bool.and_eq_true, Bool.and_eq_true] at h
      obtain ⟨h0, h1, h2, h3, h4, h5, h6, h7, h8, h9⟩ := of_decide_eq_true h.1.1
      exact ⟨p.1.toNat, z, a, b, c, by omega, ez, ⟨e, h1, h2, h3, h4, h5, h6, h7, h8, h9⟩, (of_decide_eq_true h.1.2).good, of_decide_eq_true h.2⟩
    · cases h
  · cases h
theorem hands_ok : (items1 ++ items2).all handB = true := by decide +kernel
theorem HandP.asked {T : List Row} {s : List Int} {L L0 A : List (Str × Str)} {due : Bool} (h : HandP T s L0 A due) (p : L.Perm L0) : AskOk T s L A := by
  obtain ⟨h1, h2, h3, h4, h5, _⟩ := h
  refine ⟨⟨h2, h3, fun k a b ha hb => ?_, by omega⟩, fun m => ?_, h5⟩
  · have := (List.getElem?_eq_some_iff.mp hb).1
    omega
  · rw [p.count_eq]
    by_cases hm : m ∈ A
    · exact h4 m hm
    · rw [List.count_eq_zero.mpr hm]
      exact Nat.zero_le _
section
variable {P : Program} {w : World} {K : PySem.W.Frag} {mg : Str → Option Value} {base : Heap}
def sp__law_by_hand : Sp := fun vs H Q _ => vs = [] ∧ ∀ H', Same H H' → Q (.bl true) H'
theorem ok__law_by_hand (F__law_scene : OkF P w K mg base "_law_scene" ["_law_code"] 1 sp__law_scene) (F__law_case : OkF P w K mg base "_law_case" ["_law_grove", "_law_heap", "_law_batch"] 3 sp__law_case)
    (F__law_is_right : OkG P w K mg base "_law_is_right" ["_law_case_here", "_law_waits_here", "_law_due"] 15 sp__law_is_right) (hf : Has K mg "_law_by_hand" s__law_by_hand) : OkG P w K mg base "_law_by_hand" [] 16 sp__law_by_hand := by
  refine Has.okG hf sc__law_by_hand (fun _ _ _ _ _ _ us hl => match us, hl with | [], _ => rfl) (fun vs H Q E h => ?_) (fun f cdv A outer sh H vs Q E hgd hr h => ?_)
  · rw [h.1]
    rfl
  · obtain ⟨rfl, q⟩ := h
    refine ⟨_, (pss_cons (ps_set (i := 0) sc__law_by_hand.nd rfl (.inl rfl) (pe_lst (pa_cons pe_str (pa_cons pe_str (pa_cons pe_str (pa_cons pe_str pa_nil))))))
  (pss_cons (ps_set (i := 1) sc__law_by_hand.nd rfl (.inl rfl) (pe_lst (pa_cons (pe_tup (pa_cons pe_int (pa_cons (pe_tup (pa_cons (pe_tup (pa_cons pe_str (pa_cons pe_str pa_nil))) pa_nil)) (pa_cons pe_bl pa_nil)))) (pa_cons (pe_tup (pa_cons pe_int (pa_cons (pe_tup (pa_cons (pe_tup (pa_cons pe_str (pa_cons pe_str pa_nil))) pa_nil)) (pa_cons pe_bl pa_nil)))) (pa_cons (pe_tup (pa_cons pe_int (pa_cons (pe_tup pa_nil) (pa_cons pe_bl pa_nil)))) (pa_cons (pe_tup (pa_cons pe_int (pa_cons (pe_tup pa_nil) (pa_cons pe_bl pa_nil)))) (pa_cons (pe_tup (pa_cons pe_int (pa_cons (pe_tup (pa_cons (pe_tup (pa_cons pe_str (pa_cons pe_str pa_nil))) pa_nil)) (pa_cons pe_bl pa_nil)))) pa_nil)))))))
  (pss_cons (ps_set (i := 1) sc__law_by_hand.nd rfl (.inl rfl) (pe_op op_cat (pv 1) (pe_lst (pa_cons (pe_tup (pa_cons pe_int (pa_cons (pe_tup (pa_cons (pe_tup (pa_cons pe_str (pa_cons pe_str pa_nil))) pa_nil)) (pa_cons pe_bl pa_nil)))) (pa_cons (pe_tup (pa_cons pe_int (pa_cons (pe_tup (pa_cons (pe_tup (pa_cons pe_str (pa_cons pe_str pa_nil))) pa_nil)) (pa_cons pe_bl pa_nil)))) (pa_cons (pe_tup (pa_cons pe_int (pa_cons (pe_tup (pa_cons (pe_tup (pa_cons pe_str (pa_cons pe_str pa_nil))) pa_nil)) (pa_cons pe_bl pa_nil)))) (pa_cons (pe_tup (pa_cons pe_int (pa_cons (pe_tup pa_nil) (pa_cons pe_bl pa_nil)))) pa_nil)))))))
  (pss_cons (ps_for PassesOwn.never rfl (pi_list (pv 1)) (pg_tup rfl (pgs_cons (pg_name (i := 2) sc__law_by_hand.nd rfl (.inl rfl)) (pgs_cons (pg_name (i := 3) sc__law_by_hand.nd rfl (.inl rfl)) (pgs_cons (pg_name (i := 4) sc__law_by_hand.nd rfl (.inl rfl)) pgs_nil)))) (pss_cons (ps_asg (pe_c F__law_scene (hr.mono (by decide)) (pa_cons (pe_ix (show IxR _ (rIxL K) from ix_list) (pv 0) (pv 2) (fun _ _ => rfl)) pa_nil)) (pg_tup rfl (pgs_cons (pg_name (i := 5) sc__law_by_hand.nd rfl (.inl rfl)) (pgs_cons (pg_name (i := 6) sc__law_by_hand.nd rfl (.inl rfl)) (pgs_cons (pg_name (i := 7) sc__law_by_hand.nd rfl (.inl rfl)) pgs_nil)))))
  (pss_one (ps_if (pt_not (pt_val (pe_g F__law_is_right hgd (hr.mono (by decide)) (pa_cons (pe_c F__law_case (hr.mono (by decide)) (pa_cons (pv 5) (pa_cons (pv 6) (pa_cons (pv 7) pa_nil)))) (pa_cons (pv 3) (pa_cons (pv 4) pa_nil)))))) (pss_one (ps_ret pe_bl)) pss_nil))))
  (pss_one (ps_ret pe_bl)))))), ?_⟩
    refine tSqa (tLsi (RA.cons (.str _) (RA.cons (.str _) (RA.cons (.str _) (RA.cons (.str _) RA.nil))) H _ fun ys0 H0 s0 i0 => ?_))
    have ey : ys0 = codes4.map .str := i0.strs
    subst ey
    refine ⟨by show 4 ≤ sizeLine; decide, fun l1 n1 => ?_⟩
    have s1 : Same H (upd H0 l1 (.lst (codes4.map .str))) := s0.trans (Same.new n1)
    have e1 : upd H0 l1 (.lst (codes4.map .str)) l1 = some (.lst (codes4.map .str)) := upd_same
    generalize upd H0 l1 (.lst (codes4.map .str)) = H1 at s1 e1 ⊢
    refine tSqa (tLsi (RA.cons (re_one 0 "" "a" false) (RA.cons (re_one 0 "b" "a" true) (RA.cons (re_none 0 true) (RA.cons (re_none 1 false) (RA.cons (re_one 2 "q" "b" true) RA.nil)))) H1 _ fun ys H2 s2 i2 => ?_))
    refine ⟨by rw [i2.len]; show 5 ≤ sizeLine; decide, fun l3 n3 => ?_⟩
    have s3 : Same H2 (upd H2 l3 (.lst ys)) := Same.new n3
    have e3 : upd H2 l3 (.lst ys) l3 = some (.lst ys) := upd_same
    have i3 : ImA (upd H2 l3 (.lst ys)) ys (items1.map encI) := i2.mono (.same s3)
    generalize upd H2 l3 (.lst ys) = H3 at s3 e3 i3 ⊢
    refine tSqa ⟨_, rfl, ?_⟩
    show tLst _ _ _ _
    refine tLsi (RA.cons (re_one 2 "" "p" false) (RA.cons (re_one 3 "c" "a" false) (RA.cons (re_one 3 "b" "a" true) (RA.cons (re_none 2 true) RA.nil))) H3 _ fun zs H4 s4 i4 => ?_)
    refine ⟨by rw [i4.len]; show 4 ≤ sizeLine; decide, fun l5 n5 => ?_⟩
    have s5 : Same H4 (upd H4 l5 (.lst zs)) := Same.new n5
    have e5 : upd H4 l5 (.lst zs) l5 = some (.lst zs) := upd_same
    have i5 : ImA (upd H4 l5 (.lst zs)) zs (items2.map encI) := i4.mono (.same s5)
    generalize upd H4 l5 (.lst zs) = H5 at s5 e5 i5 ⊢
    have s35 := s4.trans s5
    have ly : ys.length = 5 := i3.len
    have lz : zs.length = 4 := i5.len
    refine ⟨l3, l5, ys, zs, rfl, rfl, s35 _ _ e3, e5, by rw [ly, lz]; decide, fun l6 n6 => ?_⟩
    have s6 : Same H5 (upd H5 l6 (.lst (ys ++ zs))) := Same.new n6
    have e6 : upd H5 l6 (.lst (ys ++ zs)) l6 = some (.lst (ys ++ zs)) := upd_same
    have i6 : ImA (upd H5 l6 (.lst (ys ++ zs))) (ys ++ zs) ((items1 ++ items2).map encI) := by
      rw [List.map_append]
      exact ((i3.mono (.same s35)).app i5).mono (.same s6)
    generalize upd H5 l6 (.lst (ys ++ zs)) = H6 at s6 e6 i6 ⊢
    have s16 := ((s2.trans s3).trans s35).trans s6
    have s06 := s1.trans s16
    have e16 := s16 _ _ e1
    refine tSqi ⟨_, rfl, forL (ds := items1 ++ items2) (enc := encI) e6 i6 (fun i σ H' => ∃ y2 y3 y4 y5 y6 y7, σ = [some (.ref l1), some (.ref l6), y2, y3, y4, y5, y6, y7] ∧ Same H6 H') ⟨_, _, _, _, _, _, rfl, Same.refl _⟩ (fun i σ H' h => by
      obtain ⟨_, _, _, _, _, _, _, sm⟩ := h
      exact ⟨.same sm, sm _ _ e6⟩) ?_ ?_⟩
    · rintro i d x σ H' e ⟨y2, y3, y4, y5, y6, y7, rfl, sm⟩ ix
      have hd : handB d = true := by
        have h := hands_ok
        rw [List.all_eq_true] at h
        exact h d (List.mem_of_getElem? e)
      obtain ⟨k, z, a, b, c, ek, ez, cok, good, hand⟩ := hand_ok hd
      obtain ⟨k', B, due⟩ := d
      replace ek : k' = (k : Int) := ek
      subst ek
      refine g_tup3 ix fun v w u iv iw iu => ?_
      rw [iv.iinv, iu.binv]
      have ec := sm _ _ e16
      have hk : k < codes4.length := (List.getElem?_eq_some_iff.mp ez).1
      refine ⟨_, rfl, _, rfl, l1, _, _, .str z, rfl, rfl, .inl (.inl ec), by rw [atI_nat _ _ (by rw [List.length_map]; exact hk), List.getElem?_map, ez]; rfl, z, a, b, c, rfl, cok, fun t gv hv bv H7 L s7 et ig ih ib fb pm pw => ?_⟩
      refine ⟨t, _, rfl, .inl (.inl et), rfl, _, _, rfl, _, _, rfl, _, _, rfl, rfl, ?_⟩
      have gd := good.lot pm pw
      refine ⟨_, rfl, _, rfl, _, rfl, scR a, scF b, L, _, _, _, rfl, ig, ih, ib, fb, gd.fit.ok, gd.so.1, fun m hm => gd.lo.mo.mv m hm, gd.lo.mo.few, fun z8 H8 s8 ch _ => ?_⟩
      have co : CaseOk (scR a) (scF b) L B := ⟨gd.fit, gd.so, gd.lo, hand.asked pm⟩
      have hdue : due = true ↔ ∃ O, Order (scR a) (scF b) L B O := by
        have h6 : dueB (scR a) (scF b) (scM c) B = due := hand.2.2.2.2.2
        rw [← h6]
        exact due_iff pm
      refine ⟨_, rfl, _, rfl, scR a, scF b, L, B, z8, w, due, rfl, ch, iw.mono (.same (s7.trans s8)), co, hdue, gd.show_ co.ao.mo, fun H9 s9 => ⟨_, rfl, iteF ?_⟩⟩
      exact ⟨_, _, _, _, _, _, rfl, ((sm.trans s7).trans s8).trans s9⟩
    · rintro σ H' ⟨y2, y3, y4, y5, y6, y7, rfl, sm⟩
      exact q H' (s06.trans sm)
end
end RW
end
section
set_option linter.all false
set_option maxRecDepth 100000
set_option autoImplicit false
set_option maxHeartbeats 1000000
/-! _law_rounds. -/
namespace RW
open PySem PySem.Spec PyProof.Rows L2
abbrev s__law_rounds : Stmt := topS 87
abbrev N__law_rounds : List Str := ["_law_feed_here", "_law_names_here", "_law_most", "_law_found", "_law_lap", "_law_ring", "_law_deed", "_law_turn", "_law_j"]
theorem sc__law_rounds : FnScope N__law_rounds ["_law_feed_here", "_law_names_here", "_law_most"] (defScope s__law_rounds) := ⟨rfl, rfl, rfl, by decide +kernel, rfl, by decide +kernel, by decide +kernel⟩

/-- a move between these spots -/
def MvOf (ns : List Str) (m : Str × Str) : Prop := (m.1 = E' ∨ m.1 ∈ ns) ∧ (m.2 = E' ∨ m.2 ∈ ns) ∧ m.1 ≠ m.2
/-- the place ahead, around -/
def prevI (n j : Nat) : Nat := if j = 0 then n - 1 else j - 1
theorem at_prev {α : Type} (xs : List α) (j : Nat) (hj : j < xs.length) : atI xs (0 + (j : Int) - 1) = xs[prevI xs.length j]? := by
  unfold atI ixN prevI
  by_cases h : j = 0
  · subst h
    have e : (0 + ((0 : Nat) : Int) - 1) = -1 := rfl
    rw [e, if_neg (by decide), if_pos (by omega), if_pos rfl]
    have : (-1 + (xs.length : Int)).toNat = xs.length - 1 := by omega
    simp only [this, Option.bind_some]
  · rw [if_neg h]
    have e : (0 + (j : Int) - 1) = ((j - 1 : Nat) : Int) := by omega
    rw [e, if_pos (by omega), if_pos (by omega)]
    simp only [Int.toNat_natCast, Option.bind_some]
theorem r_ixS {K : PySem.W.Frag} {H : Hp} {Q : VK} {D : Addr} {rs : List Str} {i : Int} {x : Str} (e : H D = some (.lst (rs.map .str))) (h : atI (rs.map V.str) i = some (.str x)) (q : Q (.str x) H) : rIxL K (.ref D) (.int i) H Q :=
  ⟨D, _, i, _, rfl, rfl, .inl (.inl e), h, q⟩
theorem cut_take {xs : List V} {n : Int} (h : 0 ≤ n) : cutV xs none (some n) = xs.take n.toNat := by
  unfold cutV
  rw [HT.sIx_none, List.drop_zero, Nat.sub_zero]
  obtain ⟨k, rfl⟩ : ∃ k : Nat, n = (k : Int) := ⟨n.toNat, by omega⟩
  rw [HT.sIx_nat, Int.toNat_natCast]
  by_cases hk : k ≤ xs.length
  · congr 1
    omega
  · rw [List.take_of_length_le (by omega), List.take_of_length_le (by omega)]
section
variable {P : Program} {w : World} {K : PySem.W.Frag} {mg : Str → Option Value} {base : Heap}
def sp__law_rounds : Sp := fun vs H Q _ => ∃ (p a l : Addr) (ns : List Str) (n : Int), vs = [.ref p, .ref l, .int n] ∧ Feed H p a ∧ H l = some (.lst (ns.map .str)) ∧ ns ≠ [] ∧ ns.length ≤ 12 ∧ 0 ≤ n ∧ n ≤ 60 ∧
  ∀ v H' L, SameX p H H' → Feed H' p a → Im H' v (dMvs L) → Fz H' v → L.Pairwise (fun a b => PySem.W.dataLe false dMv a b = true) → (∀ m, m ∈ L → MvOf ns m) → (L.length : Int) ≤ n → Q v H'
theorem ok__law_rounds (Tx : Txt mg) (F__law_draw : OkF P w K mg base "_law_draw" ["_law_feed_here", "_law_many"] 1 sp__law_draw) (F__law_any : OkF P w K mg base "_law_any" ["_law_feed_here", "_law_some"] 2 sp__law_any) (hf : Has K mg "_law_rounds" s__law_rounds) :
    OkF P w K mg base "_law_rounds" ["_law_feed_here", "_law_names_here", "_law_most"] 3 sp__law_rounds := by
  refine Has.ok hf sc__law_rounds (fun _ _ _ _ _ _ us hl => match us, hl with | [_, _, _], _ => rfl) (fun vs H Q E h => ?_) (fun f cdv A outer sh H vs Q E hr h => ?_)
  · obtain ⟨p, a, l, ns, n, rfl, _⟩ := h
    rfl
  · obtain ⟨p, a, l, ns, n, rfl, fd, el, hne, hns, hn0, hn1, q⟩ := h
    have hu := hu_of hr
    have hu65 : (A.deeper (envOfC "_law_rounds" (defScope s__law_rounds) sh.heap.objs.size f cdv)).units + 65 < cLine := by
      have := hr.un
      omega
    refine ⟨_, (pss_cons (ps_set (i := 3) sc__law_rounds.nd rfl (.inl rfl) (pe_lst pa_nil))
  (pss_cons (ps_for PassesOwn.never rfl (pi_range1 rfl Tx.b_range (pa_cons (pe_op op_add pe_int (pe_c F__law_draw (hr.mono (by decide)) (pa_cons (pv 0) (pa_cons (pe_callB (call_max2 rfl) (by rfl) Tx.b_max bb_max (pa_cons pe_int (pa_cons (pe_op op_fdivN (pv 2) pe_int) pa_nil))) pa_nil)))) pa_nil)) (pg_name (i := 4) sc__law_rounds.nd rfl (.inl rfl)) (pss_cons (ps_set (i := 5) sc__law_rounds.nd rfl (.inr rfl) (pe_lc (own := [("_law_turn", 7)]) (g := (gName 7)) (tt := tYes) rfl sc__law_rounds.nd (pi_range1 rfl Tx.b_range (pa_cons (pe_op op_add pe_int (pe_c F__law_draw (hr.mono (by decide)) (pa_cons (pv 0) (pa_cons pe_int pa_nil)))) pa_nil)) (blkOk_by (own := [("_law_turn", 7)]) (N := N__law_rounds) (sc := defScope s__law_rounds) (by decide +kernel)) (fun _ _ _ _ _ => (pg_name (i := 7) sc__law_rounds.nd rfl (.inl rfl))) (fun _ _ _ _ _ => pts_nil) (fun _ _ _ _ _ => (pe_c F__law_any (hr.mono (by decide)) (pa_cons (pv 0) (pa_cons (pv 1) pa_nil))))))
  (pss_one (ps_set (i := 3) sc__law_rounds.nd rfl (.inl rfl) (pe_op op_cat (pv 3) (pe_lc (own := [("_law_j", 8)]) (g := (gName 8)) rfl sc__law_rounds.nd (pi_range1 rfl Tx.b_range (pa_cons (pe_callB call_len_seq (by rfl) Tx.b_len PySem.boot_len (pa_cons (pv 5) pa_nil)) pa_nil)) (blkOk_by (own := [("_law_j", 8)]) (N := N__law_rounds) (sc := defScope s__law_rounds) (by decide +kernel)) (fun _ _ _ _ _ => (pg_name (i := 8) sc__law_rounds.nd rfl (.inl rfl))) (fun _ _ _ _ _ => pts_one (pt_cmpR op_ne (pe_ix (show IxR _ (rIxL K) from ix_list) (pv 5) (pe_op op_sub (pv 8) pe_int) (fun _ _ => rfl)) (pe_ix (show IxR _ (rIxL K) from ix_list) (pv 5) (pv 8) (fun _ _ => rfl)) (nomark _))) (fun _ _ _ _ _ => (pe_tup (pa_cons (pe_ix (show IxR _ (rIxL K) from ix_list) (pv 5) (pe_op op_sub (pv 8) pe_int) (fun _ _ => rfl)) (pa_cons (pe_ix (show IxR _ (rIxL K) from ix_list) (pv 5) (pv 8) (fun _ _ => rfl)) pa_nil))))))))))
  (pss_cons (ps_for PassesOwn.never rfl (pi_range1 rfl Tx.b_range (pa_cons (pe_c F__law_any (hr.mono (by decide)) (pa_cons (pv 0) (pa_cons (pe_lst (pa_cons pe_int (pa_cons pe_int (pa_cons pe_int (pa_cons pe_int pa_nil))))) pa_nil))) pa_nil)) (pg_name (i := 4) sc__law_rounds.nd rfl (.inl rfl)) (pss_cons (ps_set (i := 6) sc__law_rounds.nd rfl (.inl rfl) (pe_tup (pa_cons (pe_c F__law_any (hr.mono (by decide)) (pa_cons (pv 0) (pa_cons (pe_op op_cat (pv 1) (pe_lst (pa_cons pe_str pa_nil))) pa_nil))) (pa_cons (pe_c F__law_any (hr.mono (by decide)) (pa_cons (pv 0) (pa_cons (pe_op op_cat (pv 1) (pe_lst (pa_cons pe_str pa_nil))) pa_nil))) pa_nil))))
  (pss_one (ps_if (pt_cmpR op_ne (pe_ix (show IxR _ (rIxT K) from ix_tup) (pv 6) pe_int (fun _ _ => rfl)) (pe_ix (show IxR _ (rIxT K) from ix_tup) (pv 6) pe_int (fun _ _ => rfl)) (nomark _)) (pss_one (ps_expr (pe_bm PySem.F.plainAttrs_list PySem.F.slot_list_append PySem.F.type_list_append mt_append (pv 3) (pa_cons (pv 6) pa_nil)))) pss_nil))))
  (pss_one (ps_ret (pe_callTy cr_tupF (by rfl) Tx.b_tuple bb_tuple (pa_cons (pe_callB (cr_sortD sortOk_mv hu65) (by rfl) Tx.b_sorted bb_sorted (pa_cons (pe_slice sl_list (pv 3) po_none (po_some (pv 2))) pa_nil)) pa_nil))))))), ?_⟩
    have hpos : 0 < ns.length := List.length_pos_iff.mpr hne
    have lp : l ≠ p := by
      obtain ⟨_, _, _, _, hp, _⟩ := fd
      exact ne_of el hp fun z => nomatch z
    refine ⟨Nat.zero_le _, fun l1 n1 => ?_⟩
    have s1 : Same H (upd H l1 (.lst [])) := Same.new n1
    have e1 : upd H l1 (.lst []) l1 = some (.lst []) := upd_same
    have fd1 := fd.same s1
    generalize upd H l1 (.lst []) = H1 at s1 e1 fd1
    refine ⟨_, rfl, _, rfl, _, _, rfl, rfl, ⟨by decide, by decide⟩, _, _, rfl, ?_⟩
    have e3 : n.fdiv 3 = n / 3 := Int.fdiv_eq_ediv_of_nonneg _ (by decide)
    rw [e3]
    obtain ⟨M, hM, hM2, hM3⟩ : ∃ M : Int, (if n / 3 > 2 then n / 3 else 2) = M ∧ 0 < M ∧ M ≤ 60 := ⟨_, rfl, by split <;> omega, by split <;> omega⟩
    rw [hM]
    refine ⟨p, a, M, rfl, fd1, hM2, by omega, fun r H2 sx2 fd2 h0 h1 => ⟨_, _, rfl, rfl, _, rfl, by omega, by omega, ?_⟩⟩
    have sx02 := (SameX.of s1).trans sx2
    have lp1 : l1 ≠ p := (fd.np n1).1.symm
    have e12 := sx2 _ _ lp1 e1
    refine for_range (fun i σ H' => ∃ (lf : Addr) (fs : List (Str × Str)) (xs : List V) (y4 y5 y6 y7 y8 : Option V), σ = [some (.ref p), some (.ref l), some (.int n), some (.ref lf), y4, y5, y6, y7, y8] ∧ SameX p H H' ∧ H lf = none ∧ lf ≠ p ∧ Feed H' p a ∧ H' lf = some (.lst xs) ∧ ImA H' xs (fs.map dMv) ∧ (∀ m, m ∈ fs → MvOf ns m) ∧ fs.length ≤ 3 * i)
      ⟨l1, [], [], none, none, none, none, none, rfl, sx02, n1, lp1, fd2, e12, .nil, (fun m hm => nomatch hm), Nat.le_refl _⟩ ?_ ?_
    · rintro i σ H3 hi ⟨lf, fs, xs, y4, y5, y6, y7, y8, rfl, sx3, nlf, lfp, fd3, elf, ifs, hfs, hlen⟩
      have hi60 : i < 61 := by omega
      refine ⟨_, rfl, p, a, 2, rfl, fd3, by decide, by decide, fun r2 H4 sx4 fd4 h20 h21 => ⟨_, _, rfl, rfl, _, rfl, by omega, by omega, fun D nD => ?_⟩⟩
      have hnp := fd4.np nD
      refine lc_range (fun j H' => SameX p H4 H' ∧ Feed H' p a ∧ ∃ rs : List Str, H' D = some (.lst (rs.map .str)) ∧ rs.length = j ∧ ∀ x, x ∈ rs → x ∈ ns) ⟨SameX.of (Same.new nD), fd4.other hnp.1 hnp.2, [], upd_same, rfl, (fun x hx => nomatch hx)⟩ ?_ ?_
      · rintro j H5 hj ⟨sx5, fd5, rs, eD, hrs, hin⟩
        have sx05 := (sx3.trans sx4).trans sx5
        refine ⟨rfl, _, rfl, _, rfl, p, a, l, _, rfl, fd5, sx05 _ _ lp el, (fun z => hne (List.map_eq_nil_iff.mp z)), by rw [List.length_map]; omega, fun v H6 sx6 fd6 hv => ?_⟩
        obtain ⟨x, hx, rfl⟩ := List.mem_map.mp hv
        have eD6 := sx6 _ _ hnp.1.symm eD
        refine ⟨_, eD6, by rw [List.length_map, sizeLine_eq]; omega, (sx5.trans sx6).mutN nD, fd6.other hnp.1 hnp.2, rs ++ [x], ?_, by rw [List.length_append, hrs]; rfl, fun y hy => ?_⟩
        · rw [upd_same, List.map_append]
          rfl
        · rcases List.mem_append.mp hy with hy | hy
          · exact hin y hy
          · rw [List.mem_singleton.mp hy]
            exact hx
      · rintro H5 ⟨sx5, fd5, rs, eD, hrs, hin⟩
        have hrs3 : rs.length ≤ 3 := by omega
        have sx35 := sx4.trans sx5
        have sx05 := sx3.trans sx35
        have elf5 := sx35 _ _ lfp elf
        obtain ⟨_, _, _, _, hp3, _⟩ := id fd3
        have kt35 : KT H3 H5 := .sx hp3 (.dk _) sx35
        have hml : (rs.map V.str).length = rs.length := List.length_map _
        refine ⟨_, rfl, _, rfl, D, _, rfl, .inl (.inl (.inl eD)), _, rfl, by omega, by omega, fun D2 nD2 => ?_⟩
        refine lc_data walk_range (List.range rs.length) (by rw [List.length_range, hml, Int.toNat_natCast]) (by rw [List.length_range]; omega) nD2 (fun _ _ => trivial) (fun j => decide (rs.getD (prevI rs.length j) E' ≠ rs.getD j E')) (fun j => dMv (rs.getD (prevI rs.length j) E', rs.getD j E')) (fun i H x H' _ _ y => by rw [y.1]; exact Same.refl _) ?_ ?_
        · rintro j d x H6 H6' Qt Qf e s6 ⟨rfl, rfl⟩ ht hf'
          have hj : j < rs.length := by
            have := (List.getElem?_eq_some_iff.mp e).1
            rwa [List.length_range] at this
          have hd : d = j := by
            rw [List.getElem?_range hj] at e
            exact (Option.some.inj e).symm
          subst hd
          have eD6 := s6 _ _ eD
          have hpj : prevI rs.length d < rs.length := by
            unfold prevI
            split <;> omega
          have a1 : atI (rs.map V.str) (0 + (d : Int) - 1) = some (.str (rs.getD (prevI rs.length d) E')) := by
            rw [at_prev _ _ (by rw [hml]; exact hj), hml, List.getElem?_map, List.getD_eq_getElem?_getD, List.getElem?_eq_getElem hpj]
            rfl
          have a2 : atI (rs.map V.str) (0 + (d : Int)) = some (.str (rs.getD d E')) := by
            have : (0 + (d : Int)) = ((d : Nat) : Int) := by omega
            rw [this, atI_nat _ _ (by rw [hml]; exact hj), List.getElem?_map, List.getD_eq_getElem?_getD, List.getElem?_eq_getElem hj]
            rfl
          refine ⟨rfl, _, rfl, _, rfl, _, _, rfl, rfl, r_ixS eD6 a1 ⟨_, rfl, _, rfl, r_ixS eD6 a2 ⟨rfl, _, rfl, ?_⟩⟩⟩
          by_cases he : rs.getD (prevI rs.length d) E' = rs.getD d E'
          · exact iteN (by rw [he, decide_eq_true rfl]; rfl) (hf' (decide_eq_false fun z => z he) _ (Same.refl _))
          · refine iteP (by rw [decide_eq_false fun z => he (V.str.inj z)]; rfl) ?_
            refine ⟨_, rfl, _, rfl, _, _, rfl, rfl, r_ixS eD6 a1 ⟨_, rfl, _, rfl, r_ixS eD6 a2 ?_⟩⟩
            exact r_tup (.cons (.str _) (.cons (.str _) .nil)) (by show 2 ≤ 1000; decide) fun t nt it => ht (decide_eq_true he) _ _ (Same.new nt) it
        · intro H6 acc s6 e6 i6
          have elf6 := s6 _ _ elf5
          have ll : xs.length = fs.length := by rw [ifs.len, List.length_map]
          have la : acc.length ≤ 3 := by
            rw [i6.len, List.length_map]
            refine Nat.le_trans (List.length_filter_le _ _) ?_
            rw [List.length_range]
            exact hrs3
          refine ⟨lf, D2, xs, acc, rfl, rfl, elf6, e6, by rw [sizeLine_eq]; omega, fun l7 n7 => ?_⟩
          have s7 : Same H6 (upd H6 l7 (.lst (xs ++ acc))) := Same.new n7
          have sx6 : SameX p H H6 := sx05.trans (SameX.of s6)
          have fd6 := fd5.same s6
          have l7p : l7 ≠ p := (fd6.np n7).1.symm
          refine ⟨l7, fs ++ ((List.range rs.length).filter fun j => decide (rs.getD (prevI rs.length j) E' ≠ rs.getD j E')).map fun j => (rs.getD (prevI rs.length j) E', rs.getD j E'), xs ++ acc, _, _, _, _, _, rfl, sx6.trans (SameX.of s7), sx6.free l7p n7, l7p, fd6.same s7, upd_same, ?_, fun m hm => ?_, ?_⟩
          · rw [List.map_append, List.map_map]
            exact (((ifs.mono kt35).mono (.same s6)).app i6).mono (.same s7)
          · rcases List.mem_append.mp hm with hm | hm
            · exact hfs m hm
            · obtain ⟨j, hj, rfl⟩ := List.mem_map.mp hm
              obtain ⟨hj1, hj2⟩ := List.mem_filter.mp hj
              have hjl : j < rs.length := List.mem_range.mp hj1
              have hpj : prevI rs.length j < rs.length := by
                unfold prevI
                split <;> omega
              have g : ∀ k, k < rs.length → rs.getD k E' ∈ ns := fun k hk => by
                rw [List.getD_eq_getElem?_getD, List.getElem?_eq_getElem hk]
                exact hin _ (List.getElem_mem hk)
              exact ⟨.inr (g _ hpj), .inr (g _ hjl), of_decide_eq_true hj2⟩
          · rw [List.length_append, List.length_map]
            have := List.length_filter_le (fun j => decide (rs.getD (prevI rs.length j) E' ≠ rs.getD j E')) (List.range rs.length)
            rw [List.length_range] at this
            omega
    · rintro σ H3 ⟨lf, fs, xs, y4, y5, y6, y7, y8, rfl, sx3, nlf, lfp, fd3, elf, ifs, hfs, hlen⟩
      have hfl : fs.length ≤ 183 := by omega
      refine ⟨_, rfl, by show 4 ≤ sizeLine; decide, fun lq nq => ?_⟩
      have sq : Same H3 (upd H3 lq (.lst [.int 0, .int 0, .int 1, .int 2])) := Same.new nq
      have eq : upd H3 lq (.lst [.int 0, .int 0, .int 1, .int 2]) lq = some (.lst [.int 0, .int 0, .int 1, .int 2]) := upd_same
      generalize upd H3 lq (.lst [.int 0, .int 0, .int 1, .int 2]) = H4 at sq eq
      refine ⟨p, a, lq, _, rfl, fd3.same sq, eq, (fun z => nomatch z), by show 4 < 1000; decide, fun v H5 sx5 fd5 hv => ?_⟩
      obtain ⟨r5, rfl, hr0, hr2⟩ : ∃ r : Int, v = .int r ∧ 0 ≤ r ∧ r ≤ 2 := by
        simp only [List.mem_cons, List.not_mem_nil, or_false] at hv
        rcases hv with rfl | rfl | rfl | rfl
        · exact ⟨0, rfl, by decide, by decide⟩
        · exact ⟨0, rfl, by decide, by decide⟩
        · exact ⟨1, rfl, by decide, by decide⟩
        · exact ⟨2, rfl, by decide, by decide⟩
      have sx35 : SameX p H3 H5 := (SameX.of sq).trans sx5
      have kt35 : KT H3 H5 := by
        obtain ⟨_, _, _, _, hp3, _⟩ := id fd3
        exact .sx hp3 (.dk _) sx35
      refine ⟨r5, rfl, by omega, by omega, for_range (fun i σ H' => ∃ (fs : List (Str × Str)) (xs : List V) (y4 y6 : Option V), σ = [some (.ref p), some (.ref l), some (.int n), some (.ref lf), y4, y5, y6, y7, y8] ∧ SameX p H H' ∧ Feed H' p a ∧ H' lf = some (.lst xs) ∧ ImA H' xs (fs.map dMv) ∧ (∀ m, m ∈ fs → MvOf ns m) ∧ fs.length ≤ 183 + i)
        ⟨fs, xs, _, _, rfl, sx3.trans sx35, fd5, sx35 _ _ lfp elf, ifs.mono kt35, hfs, hfl⟩ ?_ ?_⟩
      · rintro i σ H6 hi ⟨fs, xs, y4, y6, rfl, sx6, fd6, elf, ifs, hfs, hlen⟩
        have cat : ∀ {H' : Hp} {R : VK}, SameX p H H' → Feed H' p a → (∀ v H'', SameX p H' H'' → Feed H'' p a → (∃ x, v = .str x ∧ (x = E' ∨ x ∈ ns)) → R v H'') →
            tOp rCat (tVar 1) (tLst (tCons (tC (.str "")) tNil)) [some (.ref p), some (.ref l), some (.int n), some (.ref lf), some (.int (0 + (i : Nat))), y5, y6, y7, y8] H' fun v H'' => sp__law_any [.ref p, v] H'' R E0 := fun {H'} {R} sx' fd' q' => by
          refine ⟨_, rfl, by show 1 ≤ sizeLine; decide, fun lz nz => r_catL (xs := ns) (ys := [E']) ((Same.new nz : Same H' _) _ _ (sx' _ _ lp el)) upd_same (by show ns.length + 1 ≤ 1000; omega) fun lc H7 s7 nc ec => ?_⟩
          have s07 : Same H' H7 := (Same.new nz).trans s7
          refine ⟨p, a, lc, _, rfl, fd'.same s07, ec, (fun z => by simp at z), by rw [List.length_map, List.length_append]; show ns.length + 1 < 1000; omega, fun v H8 sx8 fd8 hv => q' v H8 ((SameX.of s07).trans sx8) fd8 ?_⟩
          obtain ⟨x, hx, rfl⟩ := List.mem_map.mp hv
          refine ⟨x, rfl, ?_⟩
          rcases List.mem_append.mp hx with hx | hx
          · exact .inr hx
          · exact .inl (List.mem_singleton.mp hx)
        refine ⟨_, rfl, ?_⟩
        refine cat sx6 fd6 fun v1 H7 sx7 fd7 hv1 => ?_
        obtain ⟨x1, rfl, hx1⟩ := hv1
        refine ⟨_, rfl, ?_⟩
        refine cat (sx6.trans sx7) fd7 fun v2 H8 sx8 fd8 hv2 => ?_
        obtain ⟨x2, rfl, hx2⟩ := hv2
        refine ⟨by show 2 ≤ sizeLine; decide, fun t nt => ?_⟩
        have s9 : Same H8 (upd H8 t (.tup [.str x1, .str x2])) := Same.new nt
        have it : Im (upd H8 t (.tup [.str x1, .str x2])) (.ref t) (dMv (x1, x2)) := .tup (.inl upd_same) (.cons (.str _) (.cons (.str _) .nil))
        generalize upd H8 t (.tup [.str x1, .str x2]) = H9 at s9 it
        have sx69 : SameX p H6 H9 := (sx7.trans sx8).trans (SameX.of s9)
        have kt69 : KT H6 H9 := by
          obtain ⟨_, _, _, _, hp6, _⟩ := id fd6
          exact .sx hp6 (.dk _) sx69
        have elf9 := sx69 _ _ lfp elf
        have fd9 := fd8.same s9
        refine ⟨_, rfl, tCi (r_mv0 it ⟨_, rfl, tCi (r_mv1 it ⟨rfl, _, rfl, ?_⟩)⟩)⟩
        by_cases he : x1 = x2
        · exact iteN (by rw [he, decide_eq_true rfl]; rfl) ⟨fs, xs, _, _, rfl, sx6.trans sx69, fd9, elf9, ifs.mono kt69, hfs, by omega⟩
        · refine iteP (by rw [decide_eq_false fun z => he (V.str.inj z)]; rfl) ?_
          have ll : xs.length = fs.length := by rw [ifs.len, List.length_map]
          refine ⟨_, rfl, .inl ⟨rfl, _, .inl (.inl elf9)⟩, _, rfl, lf, xs, _, rfl, rfl, elf9, by rw [sizeLine_eq]; omega, ?_⟩
          have k10 : KT H9 (upd H9 lf (.lst (xs ++ [.ref t]))) := .lst elf9
          have hna : a ≠ lf := (fd.np nlf).2
          refine ⟨fs ++ [(x1, x2)], xs ++ [.ref t], _, _, rfl, (sx6.trans sx69).mutN nlf, fd9.other lfp.symm hna, upd_same, ?_, fun m hm => ?_, by rw [List.length_append]; show fs.length + 1 ≤ _; omega⟩
          · rw [List.map_append]
            exact ((ifs.mono kt69).mono k10).app (.cons (it.mono k10) .nil)
          · rcases List.mem_append.mp hm with hm | hm
            · exact hfs m hm
            · rw [List.mem_singleton.mp hm]
              exact ⟨hx1, hx2, he⟩
      · rintro σ H6 ⟨fs, xs, y4, y6, rfl, sx6, fd6, elf, ifs, hfs, hlen⟩
        refine ⟨_, rfl, _, rfl, _, rfl, lf, xs, rfl, .inl (.inl elf), fun pc npc => ?_⟩
        rw [cut_take hn0]
        have sc : Same H6 (upd H6 pc (.lst (xs.take n.toNat))) := Same.new npc
        have ec : upd H6 pc (.lst (xs.take n.toNat)) pc = some (.lst (xs.take n.toNat)) := upd_same
        have ic : ImA (upd H6 pc (.lst (xs.take n.toNat))) (xs.take n.toNat) ((fs.take n.toNat).map dMv) := by
          rw [List.map_take]
          exact (ifs.mono (.same sc)).take _
        generalize upd H6 pc (.lst (xs.take n.toNat)) = H7 at sc ec ic ⊢
        have hlt : (fs.take n.toNat).length ≤ n.toNat := by
          rw [List.length_take]
          omega
        refine tNi ⟨pc, _, fs.take n.toNat, rfl, ec, ic, by omega, fun p2 xs2 L np2 pm pw ip => ?_⟩
        have s8 : Same H7 (upd H7 p2 (.lst xs2)) := Same.new np2
        have e8 : upd H7 p2 (.lst xs2) p2 = some (.lst xs2) := upd_same
        generalize upd H7 p2 (.lst xs2) = H8 at s8 e8 ip ⊢
        refine tNi ⟨p2, xs2, rfl, .inl (.inl e8), fun g ob ng hob => ?_⟩
        obtain ⟨s9, fg, ig⟩ := tupF_new ip ng hob
        have s69 := (sc.trans s8).trans s9
        refine q (.ref g) _ L (sx6.trans (SameX.of s69)) (fd6.same s69) ig fg pw (fun m hm => hfs m (List.mem_of_mem_take (pm.mem_iff.mp hm))) ?_
        have := pm.length_eq
        omega
end
end RW
end
section
set_option linter.all false
set_option maxRecDepth 100000
set_option autoImplicit false
set_option maxHeartbeats 1000000
/-! Drawn cases: what they are. -/
namespace RW
open PySem PySem.Spec PyProof.Rows L2
/-! ### trees of one skeleton -/
abbrev sk (r : Row) : Str × Str := (r.1, r.2.1)
theorem sk_names {T T' : List Row} (h : T.map sk = T'.map sk) : names T = names T' := by
  have := congrArg (List.map (·.1)) h
  rw [List.map_map, List.map_map] at this
  exact this
theorem sk_par {x : Str} : ∀ {T T' : List Row}, T.map sk = T'.map sk → par T x = par T' x
  | [], [], _ => rfl
  | [], _ :: _, h => by cases h
  | _ :: _, [], h => by cases h
  | r :: T, r' :: T', h => by
    rw [List.map_cons, List.map_cons] at h
    injection h with h1 h2
    have ih := sk_par (x := x) h2
    have e1 : r.1 = r'.1 := by
      have : (sk r).1 = (sk r').1 := by rw [h1]
      exact this
    have e2 : r.2.1 = r'.2.1 := by
      have : (sk r).2 = (sk r').2 := by rw [h1]
      exact this
    unfold par at ih ⊢
    rw [List.find?_cons, List.find?_cons, e1]
    by_cases hx : r'.1 = x
    · rw [decide_eq_true hx]
      exact e2
    · rw [decide_eq_false hx]
      exact ih
theorem sk_waysN {T T' : List Row} (h : T.map sk = T'.map sk) : ∀ (k : Nat) (x : Str), waysN T k x = waysN T' k x
  | 0, _ => rfl
  | k + 1, x => by
    unfold waysN
    rw [sk_names h, sk_par h, sk_waysN h k]
theorem sk_ways {T T' : List Row} (h : T.map sk = T'.map sk) (x : Str) : ways T x = ways T' x := by
  have hl : T.length = T'.length := by
    have := congrArg List.length h
    rwa [List.length_map, List.length_map] at this
  unfold ways
  rw [hl]
  exact sk_waysN h _ _
theorem sk_use {T T' : List Row} (h : T.map sk = T'.map sk) (s : List Int) (f : Str) : use T s f = use T' s f := by
  unfold use useN
  rw [sk_names h]
  congr 1
  exact List.map_congr_left fun d _ => by rw [sk_ways h]
theorem use_le {T : List Row} {B : Int} (hB : 0 ≤ B) {s : List Int} (h : ∀ c, c ∈ s → c ≤ B) (f : Str) : use T s f ≤ B * s.length := by
  have key : ∀ l : List (Str × Int), (∀ d, d ∈ l → d.2 ≤ B) → useN T l f ≤ B * l.length := by
    intro l
    induction l with
    | nil => intro _; exact Int.le_of_eq (by simp [useN])
    | cons d l ih =>
      intro q
      have h1 := ih fun e he => q e (List.mem_cons_of_mem _ he)
      have h2 := q d List.mem_cons_self
      unfold useN at h1 ⊢
      rw [List.map_cons, List.sum_cons, List.length_cons]
      have h3 : (if f ∈ ways T d.1 then d.2 else 0) ≤ B := by split <;> omega
      have h4 : B * ((l.length + 1 : Nat) : Int) = B * (l.length : Int) + B := by
        rw [Int.natCast_add, Int.mul_add]
        simp
      omega
  have h1 := key ((names T).zip s) fun d hd => h _ (List.of_mem_zip hd).2
  refine Int.le_trans h1 (Int.mul_le_mul_of_nonneg_left ?_ hB)
  rw [List.length_zip]
  omega
theorem use_nonneg {T : List Row} {s : List Int} (h : ∀ c, c ∈ s → 0 ≤ c) (f : Str) : 0 ≤ use T s f := by
  have key : ∀ l : List (Str × Int), (∀ d, d ∈ l → 0 ≤ d.2) → 0 ≤ useN T l f := by
    intro l
    induction l with
    | nil => intro _; exact Int.le_of_eq (by simp [useN])
    | cons d l ih =>
      intro q
      have h1 := ih fun e he => q e (List.mem_cons_of_mem _ he)
      have h2 := q d List.mem_cons_self
      unfold useN at h1 ⊢
      rw [List.map_cons, List.sum_cons]
      have h3 : 0 ≤ (if f ∈ ways T d.1 then d.2 else 0) := by split <;> omega
      omega
  exact key _ fun d hd => h _ (List.of_mem_zip hd).2
theorem idx_at {l : List Str} (nd : l.Nodup) : ∀ {j : Nat} {x : Str}, l[j]? = some x → l.idxOf x = j := by
  induction l with
  | nil => intro j x h; cases h
  | cons a l ih =>
    rw [List.nodup_cons] at nd
    intro j x h
    rw [List.idxOf_cons]
    cases j with
    | zero =>
      cases h
      simp
    | succ j =>
      have hx : x ∈ l := List.mem_of_getElem? h
      have ne : (a == x) = false := by
        simpa using fun e : a = x => nd.1 (by rw [e]; exact hx)
      rw [ne]
      show l.idxOf x + 1 = j + 1
      rw [ih nd.2 h]
/-- names, their parents, in the drawn order -/
structure ParOk (ns : List Str) (pr : Str → Str) : Prop where
  nd : ns.Nodup
  nm : ∀ x, x ∈ ns → NameOk x
  ne : ns ≠ []
  few : ns.length ≤ 12
  up : ∀ x, x ∈ ns → pr x = E' ∨ (pr x ∈ ns ∧ ns.idxOf (pr x) < ns.idxOf x)
theorem not_nameE : ¬ NameOk E' := fun h => absurd h.1 (by decide)
/-- the rows in their order -/
def rows0 (ys : List Str) (pr : Str → Str) : List Row := ys.map fun x => (x, pr x, 0)
theorem rows0_names (ys : List Str) (pr : Str → Str) : names (rows0 ys pr) = ys := by
  unfold names rows0
  rw [List.map_map]
  exact List.map_id ys
theorem drawn_tree {ns ys : List Str} {pr : Str → Str} (h : ParOk ns pr) (p : ys.Perm ns) {T : List Row} (hT : T.map sk = (rows0 ys pr).map sk) : TreeOk T := by
  have hn : names T = ys := by rw [sk_names hT, rows0_names]
  have hl : T.length = ns.length := by
    rw [← p.length_eq, ← hn]
    unfold names
    rw [List.length_map]
  have hr : ∀ r, r ∈ T → r.1 ∈ ns ∧ r.2.1 = pr r.1 := fun r hr => by
    have h1 : sk r ∈ (rows0 ys pr).map sk := by
      rw [← hT]
      exact List.mem_map_of_mem hr
    obtain ⟨q, hq, e⟩ := List.mem_map.mp h1
    obtain ⟨x, hx, rfl⟩ := List.mem_map.mp hq
    have e1 : x = r.1 := congrArg Prod.fst e
    have e2 : pr x = r.2.1 := congrArg Prod.snd e
    subst e1
    exact ⟨p.mem_iff.mp hx, e2.symm⟩
  refine ⟨fun z => ?_, by have := h.few; omega, by rw [hn]; exact p.nodup_iff.mpr h.nd, fun z => ?_, fun r hr' => ?_, fun x => ns.idxOf x + 1, fun r hr' => ?_⟩
  · rw [z] at hl
    exact h.ne (List.length_eq_zero_iff.mp hl.symm)
  · rw [hn] at z
    exact not_nameE (h.nm _ (p.mem_iff.mp z))
  · obtain ⟨h1, h2⟩ := hr r hr'
    rw [h2, hn]
    exact (h.up r.1 h1).imp id fun z => p.mem_iff.mpr z.1
  · obtain ⟨h1, h2⟩ := hr r hr'
    have hi := List.idxOf_lt_length_of_mem h1
    refine ⟨Nat.succ_le_succ (Nat.zero_le _), by show ns.idxOf r.1 + 1 ≤ T.length; omega, ?_⟩
    rw [h2]
    exact (h.up r.1 h1).imp id fun z => Nat.succ_lt_succ z.2
theorem asc_str : ∀ (ys : List Str), sortedS ys = true → ys.Nodup → ∀ (k : Nat) (a b : Str), ys[k]? = some a → ys[k + 1]? = some b → a.cps.toList < b.cps.toList
  | [], _, _, k, a, b, h, _ => by cases h
  | [x], _, _, k, a, b, _, h => by
    cases k <;> cases h
  | x :: y :: r, so, nd, k, a, b, ha, hb => by
    have so' : (!ltCps y.cps.toList x.cps.toList && risingS y r) = true := so
    rw [Bool.and_eq_true, Bool.not_eq_true'] at so'
    rw [List.nodup_cons] at nd
    cases k with
    | zero =>
      cases ha
      cases hb
      have h1 : ¬ (y.cps.toList < x.cps.toList) := fun z => by
        have := so'.1
        rw [ltCps_eq, decide_eq_true z] at this
        cases this
      have ne : x.cps.toList ≠ y.cps.toList := fun e => nd.1 (by
        have : x = y := by
          obtain ⟨⟨cx⟩⟩ := x
          obtain ⟨⟨cy⟩⟩ := y
          have e' : cx = cy := e
          rw [e']
        rw [this]
        exact List.mem_cons_self)
      rcases List.le_total x.cps.toList y.cps.toList with h | h
      · exact Classical.byContradiction fun z => ne (List.le_antisymm h z)
      · exact absurd (List.le_antisymm h h1) fun e => ne e.symm
    | succ k => exact asc_str (y :: r) so'.2 nd.2 k a b ha hb
theorem drawn_good {ns ys : List Str} {pr : Str → Str} (h : ParOk ns pr) (p : ys.Perm ns) (so : sortedS ys = true) {T : List Row} {hs : List Int} {L : List (Str × Str)} (hT : T.map sk = (rows0 ys pr).map sk)
    (hr : ∀ r, r ∈ T → use (rows0 ys pr) hs r.1 ≤ r.2.2 ∧ r.2.2 ≤ 1000) (hl : hs.length = ys.length) (hn : ∀ c, c ∈ hs → 0 ≤ c ∧ c ≤ 1000) (mv : ∀ m, m ∈ L → MvOf ns m) (pw : L.Pairwise fun a b => PySem.W.dataLe false dMv a b = true) (few : L.length ≤ 60)
    (files : ∀ (j : Nat) x, ys[j]? = some x → ∃ c, hs[j]? = some c ∧ ((L.map (·.1)).count x : Int) ≤ c) : Good T hs L := by
  have ok := drawn_tree h p hT
  have hnm : names T = ys := by rw [sk_names hT, rows0_names]
  have hTl : T.length = ys.length := by
    rw [← hnm]
    unfold names
    rw [List.length_map]
  have row : ∀ r, r ∈ T → r.1 ∈ ns ∧ r.2.1 = pr r.1 := fun r hr => by
    have h1 : sk r ∈ (rows0 ys pr).map sk := by
      rw [← hT]
      exact List.mem_map_of_mem hr
    obtain ⟨q, hq, e⟩ := List.mem_map.mp h1
    obtain ⟨x, hx, rfl⟩ := List.mem_map.mp hq
    have e1 : x = r.1 := congrArg Prod.fst e
    have e2 : pr x = r.2.1 := congrArg Prod.snd e
    subst e1
    exact ⟨p.mem_iff.mp hx, e2.symm⟩
  have spot : ∀ x, x = E' ∨ x ∈ ns → Spot T x := fun x hx => hx.imp id fun z => by rw [hnm]; exact p.mem_iff.mpr z
  have nmo : ∀ x, x = E' ∨ x ∈ ns → x = E' ∨ NameOk x := fun x hx => hx.imp id (h.nm x)
  refine ⟨⟨ok, fun r hr' => ?_, fun k a b ha hb => ?_⟩, ⟨by omega, fun i hi => (hn i hi).1, fun f hf => ?_⟩, ⟨⟨fun m hm => ⟨spot _ (mv m hm).1, spot _ (mv m hm).2.1⟩, fun m hm => ⟨nmo _ (mv m hm).1, nmo _ (mv m hm).2.1, (mv m hm).2.2⟩, sorted_pw pw, few⟩, fun x hx => ?_⟩, fun r hr' => (hr r hr').2, fun i hi => (hn i hi).2, pw⟩
  · obtain ⟨h1, h2⟩ := row r hr'
    have hx := h.nm _ h1
    refine ⟨hx, ?_, fun z => ?_, Int.le_trans (use_nonneg (fun c hc => (hn c hc).1) r.1) (hr r hr').1⟩
    · rw [h2]
      exact (h.up _ h1).imp id fun z => h.nm _ z.1
    · rw [h2] at z
      rcases h.up _ h1 with e | ⟨_, e⟩
      · rw [e] at z
        rw [z] at hx
        exact not_nameE hx
      · rw [← z] at e
        omega
  · have e1 : ys[k]? = some a.1 := by
      rw [← hnm]
      unfold names
      rw [List.getElem?_map, ha]
      rfl
    have e2 : ys[k + 1]? = some b.1 := by
      rw [← hnm]
      unfold names
      rw [List.getElem?_map, hb]
      rfl
    exact asc_str ys so (p.nodup_iff.mpr h.nd) k _ _ e1 e2
  · obtain ⟨r, hr', rfl⟩ := names_row hf
    rw [room_row ok.nd hr', sk_use hT]
    exact (hr r hr').1
  · rw [hnm] at hx
    obtain ⟨j, hj, e⟩ := List.getElem_of_mem hx
    have ej : ys[j]? = some x := by rw [List.getElem?_eq_getElem hj, e]
    obtain ⟨c, ec, hc⟩ := files j x ej
    rw [cnt_at ok.nd (by rw [hnm]; exact ej) ec]
    exact hc
end RW
end
section
set_option linter.all false
set_option maxRecDepth 100000
set_option autoImplicit false
set_option maxHeartbeats 1000000
/-! _law_drawn: its parts. -/
namespace RW
open PySem PySem.Spec PyProof.Rows L2
theorem gput_new {g : Gd} {k : Str} {d : PyData} (h : k ∉ g.map (·.1)) : gput g k d = g ++ [(k, d)] := by
  unfold gput
  rw [if_neg]
  intro z
  obtain ⟨e, he, hd⟩ := List.any_eq_true.mp z
  exact h (List.mem_map.mpr ⟨e, he, of_decide_eq_true hd⟩)
/-- for k, x in enumerate(a list) -/
theorem forEL {α : Type} {K : PySem.W.Frag} {g : TG} {tb : TS} {E : L2.Ends} {σ : L2.St} {H1 : Hp} {a : Addr} {xs : List V} {ds : List α} {enc : α → PyData} (hL : H1 a = some (.lst xs)) (hA : ImA H1 xs (ds.map enc)) (Pv : Nat → L2.St → Hp → Prop) (h0 : Pv 0 σ H1) (hk : ∀ i σ H, Pv i σ H → KT H1 H ∧ H a = some (.lst xs))
    (hs : ∀ (i : Nat) d T x σ H, ds[i]? = some d → Pv i σ H → H T = none → Im H x (enc d) → g (.ref T) σ (upd H T (.tup [.int (i : Nat), x])) fun σ2 H2 => tb { E with nx := Pv (i + 1), ct := Pv (i + 1), bk := E.nx } σ2 H2)
    (hd : ∀ σ H, Pv ds.length σ H → E.nx σ H) : ∃ b ys, [V.ref a] = [V.ref b] ∧ SqL K H1 b ys ∧ ForR (Ite K b) g tb E σ H1 := by
  have hl : xs.length = ds.length := by rw [hA.len, List.length_map]
  refine ⟨a, xs, rfl, .inl (.inl hL), for_it walk_enum Pv h0 (fun i σ H _ p => .inl (.inl (hk i σ H p).2)) ?_ (by rw [hl]; exact hd)⟩
  rintro i x σ' H H' hi p ⟨T, x1, y1, rfl, nT, rfl, ex, ey⟩
  cases ex
  have e : ds[i]? = some (ds[i]'(by omega)) := List.getElem?_eq_getElem (by omega)
  exact hs i _ T y1 σ' H e p nT (get_enc (hA.mono (hk _ _ _ p).1) e ey)
/-- one of a few ints -/
theorem r_anyI {p a : Addr} {H : Hp} {R : VK} {is : List Int} (hne : is ≠ []) (hl : is.length ≤ 100) (fd : Feed H p a) (q : ∀ i H', i ∈ is → SameX p H H' → Feed H' p a → R (.int i) H') :
    (is.map V.int).length ≤ sizeLine ∧ ∀ l, H l = none → sp__law_any [.ref p, .ref l] (upd H l (.lst (is.map .int))) R E0 := by
  refine ⟨by rw [List.length_map]; exact Nat.le_of_lt (small1000 (by omega)), fun l nl => ⟨p, a, l, _, rfl, fd.same (Same.new nl), upd_same, (fun z => hne (List.map_eq_nil_iff.mp z)), by rw [List.length_map]; omega, fun v H' sx fd' hv => ?_⟩⟩
  obtain ⟨i, hi, rfl⟩ := List.mem_map.mp hv
  exact q i H' hi ((SameX.of (Same.new nl)).trans sx) fd'
section
variable {K : PySem.W.Frag} {p a l4 : Addr} {ns : List Str} {i : Nat} {x : Str} {v : V} {y1 y2 y3 y5 y8 y9 y10 y11 y12 y13 y14 y15 y16 y17 y18 y19 y20 : Option V}
/-- the parent that is drawn -/
theorem r_over {H : Hp} {Q : VK} (fd : Feed H p a) (el : H l4 = some (.lst (ns.map .str))) (lp : l4 ≠ p) (hi : i < ns.length) (hns : ns.length ≤ 12) (q : ∀ y H', SameX p H H' → Feed H' p a → (y = E' ∨ ∃ j, j < i ∧ ns[j]? = some y) → Q (.str y) H') :
    tIf (tOr (tTest (tOp rEq (tVar 6) (tC (.int 0)))) (tTest (tOp rEq (tCall sp__law_draw [] E0 (tCons (tVar 0) (tCons (tC (.int 3)) tNil))) (tC (.int 0))))) (tC (.str "")) (tOp (rIxL K) (tVar 4) (tCall sp__law_draw [] E0 (tCons (tVar 0) (tCons (tVar 6) tNil))))
      [some (.ref p), y1, y2, y3, some (.ref l4), y5, some (.int (i : Nat)), some v, y8, y9, y10, y11, y12, y13, y14, y15, y16, y17, y18, y19, y20] H Q := by
  refine ⟨_, rfl, rfl, _, rfl, ?_⟩
  by_cases h0 : i = 0
  · exact iteP (by rw [h0]; rfl) (q E' H (SameX.refl _ _) fd (.inl rfl))
  refine iteN (decide_eq_false fun z => h0 (by have := V.int.inj z; omega)) ⟨_, rfl, p, a, 3, rfl, fd, by decide, by decide, fun r H1 sx1 fd1 hr0 hr1 => ⟨rfl, _, rfl, ?_⟩⟩
  by_cases hr : V.int r = V.int 0
  · exact iteP (decide_eq_true hr) (q E' H1 sx1 fd1 (.inl rfl))
  refine iteN (decide_eq_false hr) ⟨_, rfl, _, rfl, _, rfl, p, a, (i : Int), rfl, fd1, by omega, by omega, fun r2 H2 sx2 fd2 h20 h21 => ?_⟩
  obtain ⟨k, rfl⟩ : ∃ k : Nat, r2 = (k : Int) := ⟨r2.toNat, by omega⟩
  have hk : k < ns.length := by omega
  have sx := sx1.trans sx2
  have ek : ns[k]? = some ns[k] := List.getElem?_eq_getElem hk
  refine r_ixS (sx _ _ lp el) ?_ (q ns[k] H2 sx fd2 (.inr ⟨k, by omega, ek⟩))
  rw [atI_nat _ _ (by rw [List.length_map]; exact hk), List.getElem?_map, ek]
  rfl
/-- found.append((box, parent, space)) -/
theorem r_found {D : L2.Ends} {H : Hp} {pf : Addr} {xs : List V} {b c : Str} {sp : Int} {y0 y4 y6 : Option V} (e : H pf = some (.lst xs)) (hl : xs.length ≤ 900)
    (q : ∀ t H', Same H H' → H' pf = some (.lst xs) → Im H' (.ref t) (dRow (b, c, sp)) → D.nx [y0, y1, y2, y3, y4, y5, y6, some (.str b), y8, y9, y10, y11, y12, y13, y14, y15, some (.ref pf), some (.str c), y18, some (.int sp), y20] (upd H' pf (.lst (xs ++ [.ref t])))) :
    tDrop (tBM K "list" rAppend (tVar 16) (tCons (tTup (tCons (tVar 7) (tCons (tVar 17) (tCons (tVar 19) tNil)))) tNil)) D [y0, y1, y2, y3, y4, y5, y6, some (.str b), y8, y9, y10, y11, y12, y13, y14, y15, some (.ref pf), some (.str c), y18, some (.int sp), y20] H := by
  refine ⟨_, rfl, .inl ⟨rfl, _, .inl (.inl e)⟩, _, rfl, _, rfl, _, rfl, by show 3 ≤ sizeLine; decide, fun t nt => ?_⟩
  have s1 : Same H (upd H t (.tup [.str b, .str c, .int sp])) := Same.new nt
  exact ⟨pf, xs, _, rfl, rfl, s1 _ _ e, small1000 (by omega), q t _ s1 (s1 _ _ e) (.tup (.inl upd_same) (.cons (.str _) (.cons (.str _) (.cons (.int _) .nil))))⟩
end
end RW
end
section
set_option linter.all false
set_option maxRecDepth 100000
set_option autoImplicit false
set_option maxHeartbeats 2000000
/-! _law_drawn. -/
namespace RW
open PySem PySem.Spec PyProof.Rows L2
abbrev s__law_drawn : Stmt := topS 88
abbrev N__law_drawn : List Str := ["_law_feed_here", "_law_boxes_most", "_law_deeds_most", "_law_is_fit", "_law_names_here", "_law_over", "_law_k", "_law_box", "_law_batch", "_law_rows", "_law_heap", "_law_grove", "_law_ends", "_law_deed", "_law_now", "_law_late", "_law_found", "_law_parent", "_law_room", "_law_space", "_law_row"]
theorem sc__law_drawn : FnScope N__law_drawn ["_law_feed_here", "_law_boxes_most", "_law_deeds_most", "_law_is_fit"] (defScope s__law_drawn) := ⟨rfl, rfl, rfl, by decide +kernel, rfl, by decide +kernel, by decide +kernel⟩

theorem cnt_src (L : List (Str × Str)) (x : Str) : (L.map (·.1)).count x = (L.filter fun m => decide (m.1 = x)).length := by
  rw [List.count, List.countP_map, List.countP_eq_length_filter]
  rfl
theorem Fz.sx {p : Addr} {H H' : Hp} {v : V} {u : HO} (hp : H p = some u) (hu : NoT u) (s : SameX p H H') (h : Fz H v) : Fz H' v := by
  obtain ⟨a, o, xs, rfl, e, d⟩ := h
  refine ⟨a, o, xs, rfl, s _ _ (fun z => ?_) e, d⟩
  rw [z, hp] at e
  cases e
  exact hu.2 o xs rfl
section
variable {K : PySem.W.Frag} {p a pn pl : Addr} {b : Str} {sp now late : Int} {fit : Bool} {gn gl : Gd} {y1 y2 y4 y5 y6 y8 y9 y10 y11 y12 y13 y16 y17 y18 y20 : Option V}
/-- one less at the end, sometimes -/
theorem r_cut {u : TS} {D : L2.Ends} {H : Hp} (fd : Feed H p a) (dn : DL H pn gn) (en : gn.lookup b = some (.int now)) (dl : DL H pl gl) (el : gl.lookup b = some (.int late))
    (q : ∀ sp' H', (sp' = sp ∨ (sp' = late - 1 ∧ now < late)) → SameX p H H' → Feed H' p a → u D [some (.ref p), y1, y2, some (.bl fit), y4, y5, y6, some (.str b), y8, y9, y10, y11, y12, y13, some (.ref pn), some (.ref pl), y16, y17, y18, some (.int sp'), y20] H')
    (npl : pl ≠ p) (hp : ∀ H', SameX p H H' → DL H' pl gl) :
    tSeq (tIfS (tAnd (tNot (tB (tVar 3))) (tAnd (tTest (tOp (rI0 fun i j => V.bl (decide (j < i))) (tDGet (tVar 15) (tVar 7)) (tDGet (tVar 14) (tVar 7)))) (tTest (tOp rEq (tCall sp__law_draw [] E0 (tCons (tVar 0) (tCons (tC (.int 2)) tNil))) (tC (.int 0))))))
      (tAsg (tOp (rI0 fun i j => V.int (i - j)) (tDGet (tVar 15) (tVar 7)) (tC (.int 1))) (gName 19)) tNext) u D [some (.ref p), y1, y2, some (.bl fit), y4, y5, y6, some (.str b), y8, y9, y10, y11, y12, y13, some (.ref pn), some (.ref pl), y16, y17, y18, some (.int sp), y20] H := by
  refine ⟨_, rfl, _, rfl, ?_⟩
  cases fit with
  | true => exact iteN rfl (iteN rfl (q sp H (.inl rfl) (SameX.refl _ _) fd))
  | false =>
    refine iteP rfl ⟨_, rfl, _, rfl, r_get dl el fun v iv => ?_⟩
    rw [iv.iinv]
    refine ⟨_, rfl, _, rfl, r_get dn en fun v2 iv2 => ?_⟩
    rw [iv2.iinv]
    refine ⟨_, _, rfl, rfl, _, rfl, ?_⟩
    by_cases h : now < late
    · refine iteP (decide_eq_true h) ⟨_, rfl, p, a, 2, rfl, fd, by decide, by decide, fun r H1 sx1 fd1 _ _ => ⟨rfl, _, rfl, ?_⟩⟩
      by_cases h0 : V.int r = V.int 0
      · refine iteP (decide_eq_true h0) ⟨_, rfl, _, rfl, r_get (hp H1 sx1) el fun v3 iv3 => ?_⟩
        rw [iv3.iinv]
        exact ⟨_, _, rfl, rfl, q _ H1 (.inr ⟨rfl, h⟩) sx1 fd1⟩
      · exact iteN (decide_eq_false h0) (q sp H1 (.inl rfl) sx1 fd1)
    · exact iteN (decide_eq_false h) (iteN rfl (q sp H (.inl rfl) (SameX.refl _ _) fd))
end
theorem free_upd {H : Hp} {p q : Addr} {o : HO} (h : upd H p o q = none) : q ≠ p ∧ H q = none := by
  have ne : q ≠ p := fun e => by
    rw [e, upd_same] at h
    cases h
  exact ⟨ne, by rwa [upd_ne ne] at h⟩
section
variable {P : Program} {w : World} {K : PySem.W.Frag} {mg : Str → Option Value} {base : Heap}
def sp__law_drawn : Sp := fun vs H Q _ => ∃ (p a : Addr) (n : Int) (fit : Bool), vs = [.ref p, .int 7, .int n, .bl fit] ∧ Feed H p a ∧ 0 ≤ n ∧ n ≤ 60 ∧
  ∀ t gv hv bv H' T s L, SameX p H H' → Feed H' p a → H' t = some (.tup [gv, hv, bv]) → Im H' gv (dTree T) → Im H' hv (dInts s) → Im H' bv (dMvs L) → Fz H' bv → Good T s L → Q (.ref t) H'
theorem ok__law_drawn (Tx : Txt mg) (F__law_names : OkF P w K mg base "_law_names" ["_law_feed_here", "_law_many"] 3 sp__law_names) (F__law_draw : OkF P w K mg base "_law_draw" ["_law_feed_here", "_law_many"] 1 sp__law_draw)
    (F__law_rounds : OkF P w K mg base "_law_rounds" ["_law_feed_here", "_law_names_here", "_law_most"] 3 sp__law_rounds) (F__law_any : OkF P w K mg base "_law_any" ["_law_feed_here", "_law_some"] 2 sp__law_any)
    (F__law_used : OkF P w K mg base "_law_used" ["_law_grove", "_law_heap"] 2 sp__law_used) (hf : Has K mg "_law_drawn" s__law_drawn) :
    OkF P w K mg base "_law_drawn" ["_law_feed_here", "_law_boxes_most", "_law_deeds_most", "_law_is_fit"] 4 sp__law_drawn := by
  refine Has.ok hf sc__law_drawn (fun _ _ _ _ _ _ us hl => match us, hl with | [_, _, _, _], _ => rfl) (fun vs H Q E h => ?_) (fun f cdv A outer sh H vs Q E hr h => ?_)
  · obtain ⟨p, a, n, fit, rfl, _⟩ := h
    rfl
  · obtain ⟨p, a, n, fit, rfl, fd, hn0, hn1, q⟩ := h
    have hu := hu_of hr
    have hu65 : (A.deeper (envOfC "_law_drawn" (defScope s__law_drawn) sh.heap.objs.size f cdv)).units + 65 < cLine := by
      have := hr.un
      omega
    refine ⟨_, (pss_cons (ps_par (i := 4) (j := 5) (by rfl) sc__law_drawn.nd rfl rfl (by decide) rfl rfl (pa_cons (pe_c F__law_names (hr.mono (by decide)) (pa_cons (pv 0) (pa_cons (pe_op op_add pe_int (pe_c F__law_draw (hr.mono (by decide)) (pa_cons (pv 0) (pa_cons (pe_op op_sub (pv 1) pe_int) pa_nil)))) pa_nil))) (pa_cons pe_dnewK pa_nil)) (by rfl))
  (pss_cons (ps_for PassesOwn.never rfl (pi_enum (by rfl) Tx.b_enumerate (pa_cons (pv 4) pa_nil)) (pg_tup rfl (pgs_cons (pg_name (i := 6) sc__law_drawn.nd rfl (.inl rfl)) (pgs_cons (pg_name (i := 7) sc__law_drawn.nd rfl (.inr rfl)) pgs_nil))) (pss_one (ps_dput hu (pv 5) (pv 7) (pe_ifExp (PW.pt (pw_or (pt_cmpR op_eq (pv 6) pe_int (nomark _)) (pw_or1 (pt_cmpR op_eq (pe_c F__law_draw (hr.mono (by decide)) (pa_cons (pv 0) (pa_cons pe_int pa_nil))) pe_int (nomark _))))) pe_str (pe_ix (show IxR _ (rIxL K) from ix_list) (pv 4) (pe_c F__law_draw (hr.mono (by decide)) (pa_cons (pv 0) (pa_cons (pv 6) pa_nil))) (fun _ _ => rfl))) rfl)))
  (pss_cons (ps_par3 (i := 8) (j := 9) (l := 10) (by rfl) sc__law_drawn.nd rfl rfl rfl (by decide) (by decide) (by decide) rfl rfl rfl (pa_cons (pe_c F__law_rounds (hr.mono (by decide)) (pa_cons (pv 0) (pa_cons (pv 4) (pa_cons (pv 2) pa_nil)))) (pa_cons (pe_lst pa_nil) (pa_cons (pe_lst pa_nil) pa_nil))) (by rfl))
  (pss_cons (ps_for PassesOwn.never rfl (pi_list (pe_callB cr_sortedS (by rfl) Tx.b_sorted bb_sorted (pa_cons (pv 4) pa_nil))) (pg_name (i := 7) sc__law_drawn.nd rfl (.inr rfl)) (pss_cons (ps_expr (pe_bm PySem.F.plainAttrs_list PySem.F.slot_list_append PySem.F.type_list_append mt_append (pv 9) (pa_cons (pe_tup (pa_cons (pv 7) (pa_cons (pe_dget hu (pv 5) (pv 7) (fun _ _ => rfl)) (pa_cons pe_int pa_nil)))) pa_nil)))
  (pss_one (ps_expr (pe_bm PySem.F.plainAttrs_list PySem.F.slot_list_append PySem.F.type_list_append mt_append (pv 10) (pa_cons (pe_op op_add (pe_callB call_len_seq (by rfl) Tx.b_len PySem.boot_len (pa_cons (pe_lc (own := [("_law_deed", 13)]) (g := (gName 13)) rfl sc__law_drawn.nd (pi_tup (pv 8)) (blkOk_by (own := [("_law_deed", 13)]) (N := N__law_drawn) (sc := defScope s__law_drawn) (by decide +kernel)) (fun _ _ _ _ _ => (pg_name (i := 13) sc__law_drawn.nd rfl (.inl rfl))) (fun _ _ _ _ _ => pts_one (pt_cmpR op_eq (pe_ix (show IxR _ (rIxT K) from ix_tup) (pv 13) pe_int (fun _ _ => rfl)) (pv 7) (nomark _))) (fun _ _ _ _ _ => (pv 13))) pa_nil)) (pe_c F__law_any (hr.mono (by decide)) (pa_cons (pv 0) (pa_cons (pe_lst (pa_cons pe_int (pa_cons pe_int (pa_cons pe_int (pa_cons pe_int pa_nil))))) pa_nil)))) pa_nil))))))
  (pss_cons (ps_asg (pe_tup (pa_cons (pe_callTy cr_tupF (by rfl) Tx.b_tuple bb_tuple (pa_cons (pv 9) pa_nil)) (pa_cons (pe_callTy call_list_of (by rfl) Tx.b_list bb_list (pa_cons (pv 10) pa_nil)) pa_nil))) (pg_tup rfl (pgs_cons (pg_name (i := 11) sc__law_drawn.nd rfl (.inl rfl)) (pgs_cons (pg_name (i := 12) sc__law_drawn.nd rfl (.inr rfl)) pgs_nil))))
  (pss_cons (ps_for PassesOwn.never rfl (pi_tup (pv 8)) (pg_name (i := 13) sc__law_drawn.nd rfl (.inr rfl)) (pss_one (ps_set (i := 12) sc__law_drawn.nd rfl (.inr rfl) (pe_lc (own := [("_law_k", 6), ("_law_row", 20)]) (g := (gTup K 2 (gCons (gName 6) (gCons (gName 20) gNil)))) (tt := tYes) rfl sc__law_drawn.nd (pi_enumT (by rfl) Tx.b_enumerate (pa_cons (pv 11) pa_nil)) (blkOk_by (own := [("_law_k", 6), ("_law_row", 20)]) (N := N__law_drawn) (sc := defScope s__law_drawn) (by decide +kernel)) (fun _ _ _ _ _ => (pg_tup rfl (pgs_cons (pg_name (i := 6) sc__law_drawn.nd rfl (.inl rfl)) (pgs_cons (pg_name (i := 20) sc__law_drawn.nd rfl (.inl rfl)) pgs_nil)))) (fun _ _ _ _ _ => pts_nil) (fun _ _ _ _ _ => (pe_op op_sub_ib (pe_op op_add_ib (pe_ix (show IxR _ (rIxL K) from ix_list) (pv 12) (pv 6) (fun _ _ => rfl)) (pe_cmpR op_eq (pe_ix (show IxR _ (rIxT K) from ix_tup) (pv 20) pe_int (fun _ _ => rfl)) (pe_ix (show IxR _ (rIxT K) from ix_tup) (pv 13) pe_int (fun _ _ => rfl)) (nomark _))) (pe_cmpR op_eq (pe_ix (show IxR _ (rIxT K) from ix_tup) (pv 20) pe_int (fun _ _ => rfl)) (pe_ix (show IxR _ (rIxT K) from ix_tup) (pv 13) pe_int (fun _ _ => rfl)) (nomark _))))))))
  (pss_cons (ps_par3 (i := 14) (j := 15) (l := 16) (by rfl) sc__law_drawn.nd rfl rfl rfl (by decide) (by decide) (by decide) rfl rfl rfl (pa_cons (pe_c F__law_used (hr.mono (by decide)) (pa_cons (pv 11) (pa_cons (pv 10) pa_nil))) (pa_cons (pe_c F__law_used (hr.mono (by decide)) (pa_cons (pv 11) (pa_cons (pv 12) pa_nil))) (pa_cons (pe_lst pa_nil) pa_nil))) (by rfl))
  (pss_cons (ps_for PassesOwn.never rfl (pi_tup (pv 11)) (pg_tup rfl (pgs_cons (pg_name (i := 7) sc__law_drawn.nd rfl (.inr rfl)) (pgs_cons (pg_name (i := 17) sc__law_drawn.nd rfl (.inl rfl)) (pgs_cons (pg_name (i := 18) sc__law_drawn.nd rfl (.inl rfl)) pgs_nil)))) (pss_cons (ps_set (i := 19) sc__law_drawn.nd rfl (.inl rfl) (pe_op op_add (pe_callB (call_max2 rfl) (by rfl) Tx.b_max bb_max (pa_cons (pe_dget hu (pv 14) (pv 7) (fun _ _ => rfl)) (pa_cons (pe_dget hu (pv 15) (pv 7) (fun _ _ => rfl)) pa_nil))) (pe_c F__law_any (hr.mono (by decide)) (pa_cons (pv 0) (pa_cons (pe_lst (pa_cons pe_int (pa_cons pe_int (pa_cons pe_int (pa_cons pe_int (pa_cons pe_int (pa_cons pe_int pa_nil))))))) pa_nil)))))
  (pss_cons (ps_if (PW.pt (pw_and (pt_not (pt_val (pv 3))) (pw_and (pt_cmpR op_gt (pe_dget hu (pv 15) (pv 7) (fun _ _ => rfl)) (pe_dget hu (pv 14) (pv 7) (fun _ _ => rfl)) (nomark _)) (pw_and1 (pt_cmpR op_eq (pe_c F__law_draw (hr.mono (by decide)) (pa_cons (pv 0) (pa_cons pe_int pa_nil))) pe_int (nomark _)))))) (pss_one (ps_set (i := 19) sc__law_drawn.nd rfl (.inl rfl) (pe_op op_sub (pe_dget hu (pv 15) (pv 7) (fun _ _ => rfl)) pe_int))) pss_nil)
  (pss_one (ps_expr (pe_bm PySem.F.plainAttrs_list PySem.F.slot_list_append PySem.F.type_list_append mt_append (pv 16) (pa_cons (pe_tup (pa_cons (pv 7) (pa_cons (pv 17) (pa_cons (pv 19) pa_nil)))) pa_nil)))))))
  (pss_one (ps_ret (pe_tup (pa_cons (pe_callTy cr_tupF (by rfl) Tx.b_tuple bb_tuple (pa_cons (pv 16) pa_nil)) (pa_cons (pe_callTy cr_tupF (by rfl) Tx.b_tuple bb_tuple (pa_cons (pv 10) pa_nil)) (pa_cons (pv 8) pa_nil)))))))))))))), ?_⟩
    -- the names
    refine ⟨_, rfl, _, rfl, _, rfl, _, _, rfl, rfl, p, a, 6, rfl, fd, by decide, by decide, fun r H1 sx1 fd1 h0 h1 => ⟨_, _, rfl, rfl, p, a, _, rfl, fd1, by omega, by omega, fun l4 H2 ns sx2 n4 fd2 e4 hlen nd nm => ?_⟩⟩
    intro po npo
    have hns7 : ns.length ≤ 7 := by omega
    have hns2 : 2 ≤ ns.length := by omega
    have hne : ns ≠ [] := fun z => by rw [z] at hns2; simp at hns2
    have s3 : Same H2 (upd H2 po (.dK [])) := Same.new npo
    have l4p : l4 ≠ p := by
      obtain ⟨_, _, _, _, hp, _⟩ := id fd2
      exact ne_of e4 hp fun z => nomatch z
    have pop : po ≠ p := (fd2.np npo).1.symm
    have poa : po ≠ a := (fd2.np npo).2.symm
    have d3 : DL (upd H2 po (.dK [])) po ((ns.take 0).map fun x => (x, .str x)) := ⟨[], upd_same, .nil⟩
    have fd3 := fd2.same s3
    have e43 := s3 _ _ e4
    have l4o : l4 ≠ po := ne_of_none e4 npo
    have sx3 : SameX p H2 (upd H2 po (.dK [])) := SameX.of s3
    generalize upd H2 po (.dK []) = H3 at d3 fd3 e43 s3 sx3 ⊢
    refine ⟨_, _, rfl, ?_⟩
    refine ⟨_, rfl, forEL (ds := ns) (enc := PyData.str) e43 (ImA.ofStrs _) (fun i σ H' => ∃ (pr : Str → Str) (y6 y7 : Option V), σ = [some (.ref p), some (.int 7), some (.int n), some (.bl fit), some (.ref l4), some (.ref po), y6, y7, none, none, none, none, none, none, none, none, none, none, none, none, none] ∧ SameX p H2 H' ∧ KT H3 H' ∧ Feed H' p a ∧ H' l4 = some (.lst (ns.map .str)) ∧
        DL H' po ((ns.take i).map fun x => (x, .str (pr x))) ∧ ∀ x, x ∈ ns.take i → pr x = E' ∨ (pr x ∈ ns ∧ ns.idxOf (pr x) < ns.idxOf x))
      ⟨fun x => x, none, none, rfl, sx3, KT.refl _, fd3, e43, d3, (fun x hx => nomatch hx)⟩ (fun i σ H' h => by
        obtain ⟨_, _, _, _, _, kt, _, e, _⟩ := h
        exact ⟨kt, e⟩) ?_ ?_⟩
    · rintro i x t xv σ H4 ex ⟨pr, y6, y7, rfl, sx4, kt4, fd4, e44, d4, up⟩ nt ix
      rw [ix.sinv]
      have hi : i < ns.length := (List.getElem?_eq_some_iff.mp ex).1
      have st : Same H4 (upd H4 t (.tup [.int (i : Nat), .str x])) := Same.new nt
      have fd5 := fd4.same st
      have e45 := st _ _ e44
      have d5 := d4.same st
      refine g_pair ?_
      have sx5 := sx4.trans (SameX.of st)
      have kt5 := kt4.trans (.same st)
      generalize upd H4 t (.tup [.int (i : Nat), .str x]) = H5 at st fd5 e45 d5 sx5 kt5 ⊢
      refine r_over fd5 e45 l4p hi (by omega) fun y H6 sx6 fd6 hy => ?_
      obtain ⟨_, _, _, _, hp5, _⟩ := id fd5
      have kt56 : KT H5 H6 := .sx hp5 (.dk _) sx6
      have d6 := d5.sx sx6 hp5 pop
      have hidx : ns.idxOf x = i := idx_at nd ex
      have hy' : y = E' ∨ (y ∈ ns ∧ ns.idxOf y < ns.idxOf x) := hy.imp id fun ⟨j, hj, ej⟩ => ⟨List.mem_of_getElem? ej, by rw [idx_at nd ej, hidx]; exact hj⟩
      have et : ns.take (i + 1) = ns.take i ++ [x] := by rw [List.take_add_one, ex]; rfl
      have hxn : x ∉ ns.take i := fun z => by
        have nd' : (ns.take (i + 1)).Nodup := nd.sublist (List.take_sublist _ _)
        rw [et, List.nodup_append] at nd'
        exact nd'.2.2 _ z _ (List.mem_singleton.mpr rfl) rfl
      refine ⟨_, rfl, _, rfl, r_put d6 (by rw [List.length_map, List.length_take]; omega) (.str y) fun kvs kvs' e6 d7 => ?_⟩
      have k7 : KT H6 (upd H6 po (.dK kvs')) := .dk e6
      refine ⟨fun z => if z = x then y else pr z, _, _, rfl, (sx5.trans sx6).mutN npo, (kt5.trans kt56).trans k7, fd6.other pop.symm poa.symm, ?_, ?_, fun z hz => ?_⟩
      · rw [upd_ne l4o]
        exact sx6 _ _ l4p e45
      · rw [gput_new (by
          rw [List.map_map]
          intro z
          obtain ⟨u, hu', e⟩ := List.mem_map.mp z
          have e' : u = x := e
          rw [e'] at hu'
          exact hxn hu')] at d7
        rw [et, List.map_append]
        have e1 : ((ns.take i).map fun z => (z, PyData.str (if z = x then y else pr z))) = (ns.take i).map fun z => (z, PyData.str (pr z)) := List.map_congr_left fun z hz => by
          have : z ≠ x := fun e => hxn (by rw [← e]; exact hz)
          rw [if_neg this]
        rw [e1]
        simp only [List.map_cons, List.map_nil, if_true]
        exact d7
      · rw [et] at hz
        dsimp only
        by_cases e : z = x
        · rw [if_pos e, e]
          exact hy'
        · rw [if_neg e]
          rcases List.mem_append.mp hz with hz | hz
          · exact up z hz
          · exact absurd (List.mem_singleton.mp hz) e
    · rintro σ H4 ⟨pr, y6, y7, rfl, sx4, kt4, fd4, e44, d4, up⟩
      rw [List.take_length] at d4 up
      have pok : ParOk ns pr := ⟨nd, nm, hne, by omega, up⟩
      refine ⟨_, rfl, _, rfl, _, rfl, p, a, l4, ns, n, rfl, fd4, e44, hne, by omega, hn0, hn1, fun bv Hb L sx5 fd5 ib fb pw mv hlenL => ⟨Nat.zero_le _, fun pr9 n9 => ⟨Nat.zero_le _, fun ph n10 => ⟨_, _, _, rfl, ?_⟩⟩⟩⟩
      have hL60 : L.length ≤ 60 := by omega
      obtain ⟨_, _, _, _, hpb, _⟩ := id fd5
      obtain ⟨ph9, nphb⟩ := free_upd n10
      have sxHb : SameX p H Hb := (sx1.trans (sx2.trans sx4)).trans sx5
      have eb4 : Hb l4 = some (.lst (ns.map .str)) := sx5 _ _ l4p e44
      obtain ⟨_, _, _, _, hp4, _⟩ := id fd4
      have db : DL Hb po (ns.map fun x => (x, .str (pr x))) := d4.sx sx5 hp4 pop
      have pr9p : pr9 ≠ p := (fd5.np n9).1.symm
      have pr9a : pr9 ≠ a := (fd5.np n9).2.symm
      have php : ph ≠ p := (fd5.np nphb).1.symm
      have pha : ph ≠ a := (fd5.np nphb).2.symm
      have sxs : SameX p Hb (upd (upd Hb pr9 (.lst [])) ph (.lst [])) := ((SameX.refl p Hb).mutN n9).mutN nphb
      have fds : Feed (upd (upd Hb pr9 (.lst [])) ph (.lst [])) p a := (fd5.other pr9p.symm pr9a.symm).other php.symm pha.symm
      have e9s : upd (upd Hb pr9 (.lst [])) ph (.lst []) pr9 = some (.lst []) := by
        rw [upd_ne ph9.symm]
        exact upd_same
      have e10s : upd (upd Hb pr9 (.lst [])) ph (.lst []) ph = some (.lst []) := upd_same
      generalize upd (upd Hb pr9 (.lst [])) ph (.lst []) = Hs at sxs fds e9s e10s ⊢
      refine ⟨_, rfl, l4, ns, rfl, .inl (.inl (sxs _ _ l4p eb4)), by omega, fun ys ls perm so nls => ?_⟩
      have hys : ys.length = ns.length := perm.length_eq
      have sls : Same Hs (upd Hs ls (.lst (ys.map .str))) := Same.new nls
      have els : upd Hs ls (.lst (ys.map .str)) ls = some (.lst (ys.map .str)) := upd_same
      have sxt := sxs.trans (SameX.of sls)
      have fdt := fds.same sls
      have e9t := sls _ _ e9s
      have e10t := sls _ _ e10s
      have nls9 : ls ≠ pr9 := (ne_of_none e9s nls).symm
      have nls10 : ls ≠ ph := (ne_of_none e10s nls).symm
      generalize upd Hs ls (.lst (ys.map .str)) = Ht at sls els sxt fdt e9t e10t ⊢
      refine forL (ds := ys) (enc := PyData.str) els (ImA.ofStrs _) (fun i σ H' => ∃ (xs9 : List V) (hs : List Int) (y7 : Option V), σ = [some (.ref p), some (.int 7), some (.int n), some (.bl fit), some (.ref l4), some (.ref po), y6, y7, some bv, some (.ref pr9), some (.ref ph), none, none, none, none, none, none, none, none, none, none] ∧
        SameX p Hb H' ∧ KT Ht H' ∧ Feed H' p a ∧ H' ls = some (.lst (ys.map .str)) ∧ H' pr9 = some (.lst xs9) ∧ ImA H' xs9 ((rows0 (ys.take i) pr).map dRow) ∧ H' ph = some (.lst (hs.map .int)) ∧ hs.length = i ∧ (∀ c, c ∈ hs → 0 ≤ c ∧ c ≤ 61) ∧
        ∀ (j : Nat) x, ys[j]? = some x → j < i → ∃ c, hs[j]? = some c ∧ ((L.map (·.1)).count x : Int) ≤ c)
        ⟨[], [], _, rfl, sxt, KT.refl _, fdt, els, e9t, .nil, e10t, rfl, (fun c hc => nomatch hc), fun j x _ hj => absurd hj (Nat.not_lt_zero j)⟩ (fun i σ H' h => by
          obtain ⟨_, _, _, _, _, kt, _, e, _⟩ := h
          exact ⟨kt, e⟩) ?_ ?_
      · rintro i x xv σ H6 ex ⟨xs9, hs, y7, rfl, sx6, kt6, fd6, els6, e96, i96, e106, hlen6, hb6, cnt6⟩ ix
        rw [ix.sinv]
        have hi : i < ys.length := (List.getElem?_eq_some_iff.mp ex).1
        have hxn : x ∈ ns := perm.mem_iff.mp (List.mem_of_getElem? ex)
        have d6 := db.sx sx6 hpb pop
        have l9 : xs9.length = i := by
          rw [i96.len, List.length_map]
          unfold rows0
          rw [List.length_map, List.length_take]
          omega
        have elk : (ns.map fun x => (x, PyData.str (pr x))).lookup x = some (.str (pr x)) := look_map ns (fun x => x) (fun x => PyData.str (pr x)) (by rw [List.map_id']; exact nd) hxn
        refine ⟨_, rfl, .inl ⟨rfl, _, .inl (.inl e96)⟩, _, rfl, _, rfl, _, rfl, r_get d6 elk fun v iv => ?_⟩
        rw [iv.sinv]
        refine ⟨by show 3 ≤ sizeLine; decide, fun t nt => ⟨pr9, xs9, _, rfl, rfl, ?_⟩⟩
        have st : Same H6 (upd H6 t (.tup [.str x, .str (pr x), .int 0])) := Same.new nt
        have it : Im (upd H6 t (.tup [.str x, .str (pr x), .int 0])) (.ref t) (dRow (x, pr x, 0)) := .tup (.inl upd_same) (.cons (.str _) (.cons (.str _) (.cons (.int _) .nil)))
        generalize upd H6 t (.tup [.str x, .str (pr x), .int 0]) = H7 at st it ⊢
        have e97 := st _ _ e96
        refine ⟨e97, by rw [sizeLine_eq]; omega, ?_⟩
        have k8 : KT H7 (upd H7 pr9 (.lst (xs9 ++ [.ref t]))) := .lst e97
        have i98 : ImA (upd H7 pr9 (.lst (xs9 ++ [.ref t]))) (xs9 ++ [.ref t]) ((rows0 (ys.take (i + 1)) pr).map dRow) := by
          have et : ys.take (i + 1) = ys.take i ++ [x] := by rw [List.take_add_one, ex]; rfl
          rw [et]
          unfold rows0
          rw [List.map_append, List.map_append]
          exact ((i96.mono (.same st)).mono k8).app (.cons (it.mono k8) .nil)
        have sx8 : SameX p Hb (upd H7 pr9 (.lst (xs9 ++ [.ref t]))) := (sx6.trans (SameX.of st)).mutN n9
        have fd8 : Feed (upd H7 pr9 (.lst (xs9 ++ [.ref t]))) p a := (fd6.same st).other pr9p.symm pr9a.symm
        have kt8 := (kt6.trans (.same st)).trans k8
        have e98 : upd H7 pr9 (.lst (xs9 ++ [.ref t])) pr9 = some (.lst (xs9 ++ [.ref t])) := upd_same
        have e108 : upd H7 pr9 (.lst (xs9 ++ [.ref t])) ph = some (.lst (hs.map .int)) := by
          rw [upd_ne ph9]
          exact st _ _ e106
        have els8 : upd H7 pr9 (.lst (xs9 ++ [.ref t])) ls = some (.lst (ys.map .str)) := by
          rw [upd_ne nls9]
          exact st _ _ els6
        generalize upd H7 pr9 (.lst (xs9 ++ [.ref t])) = H8 at i98 sx8 fd8 kt8 e98 e108 els8 ⊢
        have ib8 := ib.mono (KT.sx hpb (.dk _) sx8)
        refine ⟨_, rfl, .inl ⟨rfl, _, .inl (.inl e108)⟩, _, rfl, lcT (enc := dMv) ib8 (by omega) (fun m => decide (m.1 = x)) dMv ?_ ?_⟩
        · intro m y H9 Qt Qf hm s9 iy ht hf'
          refine ⟨rfl, _, rfl, tCi (r_mv0 iy ⟨_, rfl, rfl, _, rfl, ?_⟩)⟩
          by_cases he : m.1 = x
          · exact iteP (by rw [he, decide_eq_true rfl]) ⟨_, rfl, ht (decide_eq_true he) _ _ (Same.refl _) iy⟩
          · exact iteN (by rw [decide_eq_false fun z => he (V.str.inj z)]) (hf' (decide_eq_false he) _ (Same.refl _))
        · intro D H9 acc nD s9 eD ia
          have hacc : acc.length = (L.filter fun m => decide (m.1 = x)).length := by rw [ia.len, List.length_map]
          have hacc60 : acc.length ≤ 60 := by
            rw [hacc]
            exact Nat.le_trans (List.length_filter_le _ _) hL60
          refine ⟨D, acc, rfl, .inl (.inl (.inl eD)), _, rfl, r_anyI (is := [0, 0, 0, 1]) (by decide) (by decide) (fd8.same s9) fun c H10 hc sx10 fd10 => ⟨_, _, rfl, rfl, ?_⟩⟩
          have hc01 : 0 ≤ c ∧ c ≤ 1 := by
            simp only [List.mem_cons, List.not_mem_nil, or_false] at hc
            omega
          have sx810 : SameX p H8 H10 := (SameX.of s9).trans sx10
          have e1010 := sx810 _ _ php e108
          obtain ⟨_, _, _, _, hp8, _⟩ := id fd8
          have kt810 : KT H8 H10 := .sx hp8 (.dk _) sx810
          have k11 : KT H10 (upd H10 ph (.lst (hs.map .int ++ [.int ((acc.length : Nat) + c)]))) := .lst e1010
          refine ⟨ph, hs.map .int, _, rfl, rfl, e1010, by rw [List.length_map, sizeLine_eq]; omega, ?_⟩
          refine ⟨_, hs ++ [(acc.length : Int) + c], _, rfl, (sx8.trans sx810).mutN nphb, (kt8.trans kt810).trans k11, fd10.other php.symm pha.symm, ?_, ?_, (i98.mono kt810).mono k11, ?_, by rw [List.length_append, hlen6]; rfl, fun d hd => ?_, fun j z hz hj => ?_⟩
          · rw [upd_ne nls10]
            exact sx810 _ _ (ne_of els8 hp8 fun z => nomatch z) els8
          · rw [upd_ne ph9.symm]
            exact sx810 _ _ pr9p e98
          · rw [upd_same, List.map_append]
            rfl
          · rcases List.mem_append.mp hd with hd | hd
            · exact hb6 d hd
            · rw [List.mem_singleton.mp hd]
              omega
          · by_cases hji : j < i
            · obtain ⟨c', e1, e2⟩ := cnt6 j z hz hji
              exact ⟨c', by rw [List.getElem?_append_left (by omega)]; exact e1, e2⟩
            · have : j = i := by omega
              subst this
              rw [ex] at hz
              cases hz
              refine ⟨(acc.length : Int) + c, by rw [List.getElem?_append_right (by omega), hlen6, Nat.sub_self]; rfl, ?_⟩
              rw [cnt_src, ← hacc]
              omega
      · rintro σ H6 ⟨xs9, hs, y7, rfl, sx6, kt6, fd6, els6, e96, i96, e106, hlen6, hb6, cnt6⟩
        rw [List.take_length] at i96
        have cnt : ∀ (j : Nat) x, ys[j]? = some x → ∃ c, hs[j]? = some c ∧ ((L.map (·.1)).count x : Int) ≤ c := fun j x e => cnt6 j x e (List.getElem?_eq_some_iff.mp e).1
        refine ⟨_, rfl, ?_⟩
        refine tNi ⟨pr9, xs9, rfl, .inl (.inl e96), fun ga ob nga hob => ?_⟩
        have s7 : Same H6 (upd H6 ga (.frz ob (.tup xs9))) := Same.new nga
        have hga : upd H6 ga (.frz ob (.tup xs9)) ga = some (.frz ob (.tup xs9)) := upd_same
        have e107 := s7 _ _ e106
        have i97 := i96.mono (KT.same s7)
        have fd7 := fd6.same s7
        have sx7 := sx6.trans (SameX.of s7)
        generalize upd H6 ga (.frz ob (.tup xs9)) = H7 at s7 hga e107 i97 fd7 sx7 ⊢
        refine ⟨_, rfl, ?_⟩
        refine tNi ⟨ph, hs.map .int, rfl, .inl (.inl (.inl e107)), fun le nle => ⟨by show 2 ≤ sizeLine; decide, fun t nt => ?_⟩⟩
        have nleb : Hb le = none := sx7.free (fd7.np nle).1.symm nle
        have nlp : le ≠ p := (fd7.np nle).1.symm
        have s8 : Same H7 (upd H7 le (.lst (hs.map .int))) := Same.new nle
        have ele : upd H7 le (.lst (hs.map .int)) le = some (.lst (hs.map .int)) := upd_same
        generalize upd H7 le (.lst (hs.map .int)) = H8 at s8 ele nt ⊢
        have s9 : Same H8 (upd H8 t (.tup [.ref ga, .ref le])) := Same.new nt
        refine g_pair ?_
        have s79 := s8.trans s9
        have hg9 := s79 _ _ hga
        have ele9 := s9 _ _ ele
        have e109 := s79 _ _ e107
        have i99 := i97.mono (KT.same s79)
        have fd9 := fd7.same s79
        have sx9 := sx7.trans (SameX.of s79)
        generalize upd H8 t (.tup [.ref ga, .ref le]) = H9 at s9 s79 hg9 ele9 e109 i99 fd9 sx9 ⊢
        have ib9 := ib.mono (KT.sx hpb (.dk _) sx9)
        have hgl : xs9.length = ys.length := by
          rw [i97.len, List.length_map]
          unfold rows0
          rw [List.length_map]
        refine ⟨_, rfl, forT (ds := L) (enc := dMv) ib9 (fun i σ H' => ∃ (es : List Int) (le : Addr) (y13 : Option V), σ = [some (.ref p), some (.int 7), some (.int n), some (.bl fit), some (.ref l4), some (.ref po), y6, y7, some bv, some (.ref pr9), some (.ref ph), some (.ref ga), some (.ref le), y13, none, none, none, none, none, none, none] ∧
          Same H9 H' ∧ H' le = some (.lst (es.map .int)) ∧ es.length = ys.length ∧ ∀ c, c ∈ es → c ≤ 61 + (i : Nat))
          ⟨hs, le, none, rfl, Same.refl _, ele9, hlen6, fun c hc => by have := (hb6 c hc).2; omega⟩ (fun i σ H' h => by
            obtain ⟨_, _, _, _, s, _⟩ := h
            exact .same s) ?_ ?_⟩
        · rintro i m mv' σ H10 em ⟨es, le, y13, rfl, s10, el10, hes, hbe⟩ im
          have hg10 := s10 _ _ hg9
          refine ⟨_, rfl, ga, xs9, rfl, .inl (.inr ⟨ob, hg10⟩), fun D nD => ?_⟩
          refine lc_data walk_enumT (List.range ys.length) (by rw [List.length_range, hgl]) (by rw [List.length_range]; omega) nD (fun H' s => .inl (.inr ⟨ob, s _ _ hg10⟩)) (fun _ => true) (fun k => .int (es.getD k 0 + b2i (decide (V.str (ys.getD k E') = V.str m.2)) - b2i (decide (V.str (ys.getD k E') = V.str m.1)))) (fun i H x H' _ _ y => by
            obtain ⟨T, x1, y1, rfl, nT, rfl, _, _⟩ := y
            exact Same.new nT) ?_ ?_
          · rintro k d x HA HB Qt Qf e sA ⟨T, x1, y1, rfl, nT, rfl, ex, ey⟩ ht hf'
            cases ex
            have hk : k < ys.length := by
              have := (List.getElem?_eq_some_iff.mp e).1
              rwa [List.length_range] at this
            have hd : d = k := by
              rw [List.getElem?_range hk] at e
              exact (Option.some.inj e).symm
            subst hd
            have sB : Same HA (upd HA T (.tup [.int (d : Nat), y1])) := Same.new nT
            have sAB := sA.trans sB
            have er : (rows0 ys pr)[d]? = some (ys.getD d E', pr (ys.getD d E'), 0) := by
              unfold rows0
              rw [List.getElem?_map, List.getD_eq_getElem?_getD, List.getElem?_eq_getElem hk]
              rfl
            have iy := get_enc ((i99.mono (.same (s10.trans sAB)))) er ey
            have elB := sAB _ _ el10
            have ee : atI (es.map V.int) (d : Int) = some (.int (es.getD d 0)) := by
              rw [atI_nat _ _ (by rw [List.length_map]; omega), List.getElem?_map, List.getD_eq_getElem?_getD, List.getElem?_eq_getElem (by omega)]
              rfl
            have imB := im.mono (KT.same sAB)
            refine g_pair ⟨rfl, iteP (B := Qf (upd HA T (.tup [.int (d : Nat), y1]))) rfl ?_⟩
            refine ⟨_, rfl, _, rfl, ⟨le, _, _, _, rfl, rfl, .inl (.inl elB), ee, ?_⟩⟩
            refine ⟨_, rfl, tCi (r_row0 iy ⟨_, rfl, tCi (r_mv1 imB ⟨rfl, _, _, rfl, rfl, ?_⟩)⟩)⟩
            refine ⟨_, rfl, tCi (r_row0 iy ⟨_, rfl, tCi (r_mv0 imB ⟨rfl, _, _, rfl, rfl, ht rfl _ _ (Same.refl _) (.int _)⟩)⟩)⟩
          · intro HC acc sC eC iC
            rw [List.filter_eq_self.mpr fun _ _ => rfl] at iC
            have eacc : acc = ((List.range ys.length).map fun k => (es.getD k 0 + b2i (decide (V.str (ys.getD k E') = V.str m.2)) - b2i (decide (V.str (ys.getD k E') = V.str m.1)))).map .int := by
              refine ImA.ints (H := HC) ?_
              rw [List.map_map]
              exact iC
            rw [eacc] at eC
            refine ⟨_, D, _, rfl, s10.trans sC, eC, by rw [List.length_map, List.length_range], fun c hc => ?_⟩
            obtain ⟨k, hk, rfl⟩ := List.mem_map.mp hc
            have hk' : k < es.length := by rw [hes]; exact List.mem_range.mp hk
            have hb : es.getD k 0 ≤ 61 + (i : Nat) := by
              rw [List.getD_eq_getElem?_getD, List.getElem?_eq_getElem hk']
              exact hbe _ (List.getElem_mem hk')
            have b1 : ∀ b : Bool, 0 ≤ b2i b ∧ b2i b ≤ 1 := fun b => by cases b <;> exact ⟨by decide, by decide⟩
            have h1 := (b1 (decide (V.str (ys.getD k E') = V.str m.2))).2
            have h2 := (b1 (decide (V.str (ys.getD k E') = V.str m.1))).1
            omega
        · rintro σ H10 ⟨es, le, y13, rfl, s10, el10, hes, hbe⟩
          have hg10 := s10 _ _ hg9
          have e110 := s10 _ _ e109
          have i910 := i99.mono (KT.same s10)
          have fd10 := fd9.same s10
          have sx10 := sx9.trans (SameX.of s10)
          have iG : Im H10 (.ref ga) (dTree (rows0 ys pr)) := .tup (.inr ⟨ob, hg10⟩) i910
          have tok := drawn_tree pok perm (T := rows0 ys pr) rfl
          have hTl : (rows0 ys pr).length = ys.length := by
            unfold rows0
            rw [List.length_map]
          have hnT : names (rows0 ys pr) = ys := rows0_names ys pr
          refine ⟨_, rfl, _, rfl, rows0 ys pr, hs, _, ph, rfl, iG, .inl e110, by omega, tok, fun pn Hn sn nn dn => ⟨_, rfl, _, rfl, rows0 ys pr, es, _, le, rfl, iG.mono (.same sn), .inl (sn _ _ el10), by omega, tok, fun pl Hl sl nl dl => ⟨Nat.zero_le _, fun pf nf => ⟨_, _, _, rfl, ?_⟩⟩⟩⟩
          obtain ⟨_, _, _, _, hp10, _⟩ := id fd10
          have pnp : pn ≠ p := (fd10.np nn).1.symm
          have plp : pl ≠ p := ((fd10.same sn).np nl).1.symm
          have s10l := sn.trans sl
          have fdl := fd10.same s10l
          obtain ⟨_, _, _, _, hpl, _⟩ := id fdl
          have pfp : pf ≠ p := (fdl.np nf).1.symm
          have pfa : pf ≠ a := (fdl.np nf).2.symm
          have dnl := dn.same sl
          have sx0 : SameX p Hl (upd Hl pf (.lst [])) := SameX.of (Same.new nf)
          have fdx : Feed (upd Hl pf (.lst [])) p a := fdl.same (Same.new nf)
          have epx : upd Hl pf (.lst []) pf = some (.lst []) := upd_same
          have iGl := iG.mono (KT.same s10l)
          have iGx := iGl.mono (KT.same (Same.new (o := .lst []) nf))
          have sxHbl := sx10.trans (SameX.of s10l)
          have e10l := s10l _ _ e110
          generalize upd Hl pf (.lst []) = Hx at sx0 fdx epx iGx ⊢
          have nonneg : ∀ c, c ∈ hs → 0 ≤ c := fun c hc => (hb6 c hc).1
          have hL7 : ys.length ≤ 7 := by omega
          have now_le : ∀ b, 0 ≤ use (rows0 ys pr) hs b ∧ use (rows0 ys pr) hs b ≤ 847 := fun b => ⟨use_nonneg nonneg b, by
            have := use_le (T := rows0 ys pr) (B := 121) (by decide) (fun c hc => by have := (hb6 c hc).2; omega) b
            omega⟩
          have late_le : ∀ b, use (rows0 ys pr) es b ≤ 847 := fun b => by
            have := use_le (T := rows0 ys pr) (B := 121) (by decide) (fun c hc => by have := hbe c hc; omega) b
            omega
          obtain ⟨Pv, hPv⟩ : ∃ Pv : Nat → L2.St → Hp → Prop, ∀ i σ H', Pv i σ H' ↔ ∃ (rs : List Row) (xsf : List V) (y7' y17 y18 y19 : Option V), σ = [some (.ref p), some (.int 7), some (.int n), some (.bl fit), some (.ref l4), some (.ref po), y6, y7', some bv, some (.ref pr9), some (.ref ph), some (.ref ga), some (.ref le), y13, some (.ref pn), some (.ref pl), some (.ref pf), y17, y18, y19, none] ∧
            SameX p Hl H' ∧ KT Hx H' ∧ Feed H' p a ∧ H' pf = some (.lst xsf) ∧ ImA H' xsf (rs.map dRow) ∧ rs.map sk = ((rows0 ys pr).take i).map sk ∧ ∀ r, r ∈ rs → use (rows0 ys pr) hs r.1 ≤ r.2.2 ∧ r.2.2 ≤ 1000 := ⟨_, fun _ _ _ => Iff.rfl⟩
          refine ⟨_, rfl, forT (ds := rows0 ys pr) (enc := dRow) iGx Pv ((hPv _ _ _).mpr ⟨[], [], y7, none, none, none, rfl, sx0, KT.refl _, fdx, epx, .nil, rfl, fun r hr => nomatch hr⟩) (fun i σ H' h => by
            obtain ⟨_, _, _, _, _, _, _, _, kt, _⟩ := (hPv _ _ _).mp h
            exact kt) ?_ ?_⟩
          · intro i r x σ H11 er hinv ix
            obtain ⟨rs, xsf, y7', y17, y18, y19, rfl, sx11, kt11, fd11, epf, ixs, hsk, hrs⟩ := (hPv _ _ _).mp hinv
            refine g_tup3 ix fun v w u iv iw iu => ?_
            rw [iv.sinv, iw.sinv, iu.iinv]
            have hrn : r.1 ∈ names (rows0 ys pr) := List.mem_map.mpr ⟨r, List.mem_of_getElem? er, rfl⟩
            have lr : rs.length = i := by
              have := congrArg List.length hsk
              rw [List.length_map, List.length_map, List.length_take] at this
              have := (List.getElem?_eq_some_iff.mp er).1
              omega
            have lx : xsf.length = i := by rw [ixs.len, List.length_map, lr]
            have hi : i < (rows0 ys pr).length := (List.getElem?_eq_some_iff.mp er).1
            have inv : ∀ (sp : Int) H12, SameX p H11 H12 → Feed H12 p a → use (rows0 ys pr) hs r.1 ≤ sp → sp ≤ 1000 → ∀ t H13, Same H12 H13 → H13 pf = some (.lst xsf) → Im H13 (.ref t) (dRow (r.1, r.2.1, sp)) →
                Pv (i + 1) [some (.ref p), some (.int 7), some (.int n), some (.bl fit), some (.ref l4), some (.ref po), y6, some (.str r.1), some bv, some (.ref pr9), some (.ref ph), some (.ref ga), some (.ref le), y13, some (.ref pn), some (.ref pl), some (.ref pf), some (.str r.2.1), some (.int r.2.2), some (.int sp), none] (upd H13 pf (.lst (xsf ++ [.ref t]))) := fun sp H12 sx12 fd12 h1 h2 t H13 s13 e13 it => by
              obtain ⟨_, _, _, _, hp11, _⟩ := id fd11
              have kt12 : KT H11 H12 := .sx hp11 (.dk _) sx12
              have k14 : KT H13 (upd H13 pf (.lst (xsf ++ [.ref t]))) := .lst e13
              refine (hPv _ _ _).mpr ⟨rs ++ [(r.1, r.2.1, sp)], xsf ++ [.ref t], _, _, _, _, rfl, ((sx11.trans sx12).trans (SameX.of s13)).mutN nf, ((kt11.trans kt12).trans (.same s13)).trans k14, (fd12.same s13).other pfp.symm pfa.symm, upd_same, ?_, ?_, fun q hq => ?_⟩
              · rw [List.map_append]
                exact ((ixs.mono (kt12.trans (.same s13))).mono k14).app (.cons (it.mono k14) .nil)
              · rw [List.map_append, hsk, List.take_add_one, er, List.map_append]
                rfl
              · rcases List.mem_append.mp hq with hq | hq
                · exact hrs q hq
                · rw [List.mem_singleton.mp hq]
                  exact ⟨h1, h2⟩
            have dn11 := dnl.sx sx11 hpl pnp
            have dl11 := dl.sx sx11 hpl plp
            obtain ⟨hn0', hn1'⟩ := now_le r.1
            have hl1' := late_le r.1
            refine ⟨_, rfl, _, rfl, r_get dn11 (gInts_look hrn) fun v1 iv1 => ?_⟩
            rw [iv1.iinv]
            refine ⟨_, rfl, _, rfl, r_get dl11 (gInts_look hrn) fun v2 iv2 => ?_⟩
            rw [iv2.iinv]
            refine ⟨_, _, rfl, _, rfl, r_anyI (is := [0, 0, 0, 0, 1, 2]) (by decide) (by decide) fd11 fun c H12 hc sx12 fd12 => ⟨_, _, rfl, rfl, ?_⟩⟩
            have hc02 : 0 ≤ c ∧ c ≤ 2 := by
              simp only [List.mem_cons, List.not_mem_nil, or_false] at hc
              omega
            have hsp1 : use (rows0 ys pr) hs r.1 ≤ (if use (rows0 ys pr) es r.1 > use (rows0 ys pr) hs r.1 then use (rows0 ys pr) es r.1 else use (rows0 ys pr) hs r.1) + c := by split <;> omega
            have hsp2 : (if use (rows0 ys pr) es r.1 > use (rows0 ys pr) hs r.1 then use (rows0 ys pr) es r.1 else use (rows0 ys pr) hs r.1) + c ≤ 1000 := by split <;> omega
            have dn12 := dnl.sx (sx11.trans sx12) hpl pnp
            have dl12 := dl.sx (sx11.trans sx12) hpl plp
            have epf12 := sx12 _ _ pfp epf
            have hx900 : xsf.length ≤ 900 := by omega
            refine r_cut fd12 dn12 (gInts_look hrn) dl12 (gInts_look hrn) (fun sp' H13 hsp sx13 fd13 => ?_) plp (fun H' sx' => dl.sx ((sx11.trans sx12).trans sx') hpl plp)
            refine r_found (sx13 _ _ pfp epf12) hx900 fun t H14 s14 e14 it => inv sp' H13 (sx12.trans sx13) fd13 ?_ ?_ t H14 s14 e14 it
            · rcases hsp with e | ⟨e, h⟩
              · rw [e]
                exact hsp1
              · omega
            · rcases hsp with e | ⟨e, h⟩
              · rw [e]
                exact hsp2
              · omega
          · intro σ H11 hinv
            obtain ⟨rs, xsf, y7', y17, y18, y19, rfl, sx11, kt11, fd11, epf, ixs, hsk, hrs⟩ := (hPv _ _ _).mp hinv
            rw [List.take_length] at hsk
            have sxHbE := sxHbl.trans sx11
            have epE := sx11 _ _ php e10l
            have ibE := ib.mono (KT.sx hpb (.dk _) sxHbE)
            have fbE := fb.sx hpb (.dk _) sxHbE
            refine ⟨_, rfl, ?_⟩
            refine tNi ⟨pf, xsf, rfl, .inl (.inl epf), fun g1 o1 n1 h1 => ?_⟩
            obtain ⟨s12, _, i12⟩ := tupF_new ixs n1 h1
            have ep12 := s12 _ _ epE
            have fd12 := fd11.same s12
            have ib12 := ibE.mono (KT.same s12)
            have fb12 := fbE.sm s12
            generalize upd H11 g1 (.frz o1 (.tup xsf)) = H12 at s12 i12 ep12 fd12 ib12 fb12 ⊢
            refine ⟨_, rfl, ?_⟩
            refine tNi ⟨ph, hs.map .int, rfl, .inl (.inl ep12), fun g2 o2 n2 h2 => ?_⟩
            obtain ⟨s13, _, i13⟩ := tupF_new (ImA.ofInts hs) n2 h2
            have i13' := i12.mono (KT.same s13)
            have fd13 := fd12.same s13
            have ib13 := ib12.mono (KT.same s13)
            have fb13 := fb12.sm s13
            generalize upd H12 g2 (.frz o2 (.tup (hs.map .int))) = H13 at s13 i13 i13' fd13 ib13 fb13 ⊢
            refine ⟨_, rfl, by show 3 ≤ sizeLine; decide, fun t nt => ?_⟩
            have st : Same H13 (upd H13 t (.tup [.ref g1, .ref g2, bv])) := Same.new nt
            refine q t (.ref g1) (.ref g2) bv _ rs hs L (((sxHb.trans sxHbE).trans (SameX.of (s12.trans s13))).trans (SameX.of st)) (fd13.same st) upd_same (i13'.mono (.same st)) (i13.mono (.same st)) (ib13.mono (.same st)) (fb13.sm st) ?_
            exact drawn_good pok perm so hsk hrs (by omega) (fun c hc => by have := hb6 c hc; omega) mv pw hL60 cnt
end
end RW
end
section
set_option linter.all false
set_option maxRecDepth 100000
set_option autoImplicit false
set_option maxHeartbeats 2000000
/-! _law_some_case. -/
namespace RW
open PySem PySem.Spec PyProof.Rows L2
abbrev s__law_some_case : Stmt := topS 89
abbrev N__law_some_case : List Str := ["_law_feed_here", "_law_boxes_most", "_law_deeds_most", "_law_is_fit", "_law_grove", "_law_heap", "_law_batch"]
theorem sc__law_some_case : FnScope N__law_some_case ["_law_feed_here", "_law_boxes_most", "_law_deeds_most", "_law_is_fit"] (defScope s__law_some_case) := ⟨rfl, rfl, rfl, by decide +kernel, rfl, by decide +kernel, by decide +kernel⟩

section
variable {P : Program} {w : World} {K : PySem.W.Frag} {mg : Str → Option Value} {base : Heap}
def sp__law_some_case : Sp := fun vs H Q _ => ∃ (p a : Addr) (n : Int) (fit : Bool), vs = [.ref p, .int 7, .int n, .bl fit] ∧ Feed H p a ∧ 0 ≤ n ∧ n ≤ 60 ∧
  ∀ (z : CA) H' T s L, SameX p H H' → Feed H' p a → CaseH T s L H' z → NotP p z → Good T s L → Q (.ref z.c) H'
theorem ok__law_some_case (F__law_draw : OkF P w K mg base "_law_draw" ["_law_feed_here", "_law_many"] 1 sp__law_draw) (F__law_any : OkF P w K mg base "_law_any" ["_law_feed_here", "_law_some"] 2 sp__law_any)
    (F__law_scenes : OkF P w K mg base "_law_scenes" [] 1 sp__law_scenes) (F__law_scene : OkF P w K mg base "_law_scene" ["_law_code"] 1 sp__law_scene) (F__law_case : OkF P w K mg base "_law_case" ["_law_grove", "_law_heap", "_law_batch"] 3 sp__law_case)
    (F__law_misfits : OkF P w K mg base "_law_misfits" ["_law_case_here"] 2 sp__law_misfits) (F__law_drawn : OkF P w K mg base "_law_drawn" ["_law_feed_here", "_law_boxes_most", "_law_deeds_most", "_law_is_fit"] 4 sp__law_drawn)
    (hf : Has K mg "_law_some_case" s__law_some_case) :
    OkF P w K mg base "_law_some_case" ["_law_feed_here", "_law_boxes_most", "_law_deeds_most", "_law_is_fit"] 5 sp__law_some_case := by
  refine Has.ok hf sc__law_some_case (fun _ _ _ _ _ _ us hl => match us, hl with | [_, _, _, _], _ => rfl) (fun vs H Q E h => ?_) (fun f cdv A outer sh H vs Q E hr h => ?_)
  · obtain ⟨p, a, n, fit, rfl, _⟩ := h
    rfl
  · obtain ⟨p, a, n, fit, rfl, fd, hn0, hn1, q⟩ := h
    have hu := hu_of hr
    have hu65 : (A.deeper (envOfC "_law_some_case" (defScope s__law_some_case) sh.heap.objs.size f cdv)).units + 65 < cLine := by
      have := hr.un
      omega
    refine ⟨_, (pss_cons (ps_if (pt_cmpR op_eq (pe_c F__law_draw (hr.mono (by decide)) (pa_cons (pv 0) (pa_cons pe_int pa_nil))) pe_int (nomark _)) (pss_cons (ps_asg (pe_c F__law_scene (hr.mono (by decide)) (pa_cons (pe_c F__law_any (hr.mono (by decide)) (pa_cons (pv 0) (pa_cons (pe_c0 F__law_scenes (hr.mono (by decide))) pa_nil))) pa_nil)) (pg_tup rfl (pgs_cons (pg_name (i := 4) sc__law_some_case.nd rfl (.inl rfl)) (pgs_cons (pg_name (i := 5) sc__law_some_case.nd rfl (.inl rfl)) (pgs_cons (pg_name (i := 6) sc__law_some_case.nd rfl (.inl rfl)) pgs_nil)))))
  (pss_one (ps_if (PW.pt (pw_or (pt_cmpR op_eq (pe_cmpR (op_eqP hu65) (pe_c F__law_misfits (hr.mono (by decide)) (pa_cons (pe_c F__law_case (hr.mono (by decide)) (pa_cons (pv 4) (pa_cons (pv 5) (pa_cons (pv 6) pa_nil)))) pa_nil)) (pe_lst pa_nil) (nomark _)) (pv 3) (nomark _)) (pw_or1 (pt_not (pt_val (pv 3)))))) (pss_one (ps_ret (pe_c F__law_case (hr.mono (by decide)) (pa_cons (pv 4) (pa_cons (pv 5) (pa_cons (pv 6) pa_nil)))))) pss_nil))) pss_nil)
  (pss_cons (ps_asg (pe_c F__law_drawn (hr.mono (by decide)) (pa_cons (pv 0) (pa_cons (pv 1) (pa_cons (pv 2) (pa_cons (pv 3) pa_nil))))) (pg_tup rfl (pgs_cons (pg_name (i := 4) sc__law_some_case.nd rfl (.inl rfl)) (pgs_cons (pg_name (i := 5) sc__law_some_case.nd rfl (.inl rfl)) (pgs_cons (pg_name (i := 6) sc__law_some_case.nd rfl (.inl rfl)) pgs_nil)))))
  (pss_one (ps_ret (pe_c F__law_case (hr.mono (by decide)) (pa_cons (pv 4) (pa_cons (pv 5) (pa_cons (pv 6) pa_nil)))))))), ?_⟩
    refine ⟨_, rfl, p, a, 3, rfl, fd, by decide, by decide, fun r H1 sx1 fd1 _ _ => ⟨rfl, _, rfl, ?_⟩⟩
    have drawn : ∀ {D : L2.Ends} {H2 : Hp} {y4 y5 y6 : Option V}, SameX p H H2 → Feed H2 p a → D.rt = Q →
        tSeq (tAsg (tCall sp__law_drawn [] E0 (tCons (tVar 0) (tCons (tVar 1) (tCons (tVar 2) (tCons (tVar 3) tNil))))) (gTup K 3 (gCons (gName 4) (gCons (gName 5) (gCons (gName 6) gNil)))))
          (tRet (tCall sp__law_case [] E0 (tCons (tVar 4) (tCons (tVar 5) (tCons (tVar 6) tNil))))) D [some (.ref p), some (.int 7), some (.int n), some (.bl fit), y4, y5, y6] H2 := fun {D H2 y4 y5 y6} sx2 fd2 hD => by
      refine ⟨_, rfl, _, rfl, _, rfl, _, rfl, p, a, n, fit, rfl, fd2, hn0, hn1, fun t gv hv bv H3 T s L sx3 fd3 et ig ih ib fb good => ?_⟩
      refine ⟨t, _, rfl, .inl (.inl et), rfl, _, _, rfl, _, _, rfl, _, _, rfl, rfl, ?_⟩
      refine ⟨_, rfl, _, rfl, _, rfl, T, s, L, _, _, _, rfl, ig, ih, ib, fb, good.fit.ok, good.so.1, fun m hm => good.lo.mo.mv m hm, good.lo.mo.few, fun z8 H8 s8 ch np => ?_⟩
      obtain ⟨_, _, _, _, hp3, _⟩ := id fd3
      show D.rt _ _
      rw [hD]
      exact q z8 H8 T s L ((sx2.trans sx3).trans (SameX.of s8)) (fd3.same s8) ch (np _ _ hp3) good
    by_cases h0 : V.int r = V.int 0
    · refine iteP (decide_eq_true h0) ?_
      refine ⟨_, rfl, rfl, fun l H2 s2 n2 e2 => ?_⟩
      refine ⟨p, a, l, _, rfl, fd1.same s2, e2, by decide, by decide, fun v H3 sx3 fd3 hv => ?_⟩
      obtain ⟨zc, hz, rfl⟩ := List.mem_map.mp hv
      have hcode : codeB zc = true := by
        have h := scenes_ok
        rw [List.all_eq_true] at h
        exact h zc hz
      obtain ⟨c1, c2, c3, cok, good0⟩ := code_ok hcode
      refine ⟨zc, c1, c2, c3, rfl, cok, fun t gv hv' bv H4 L s4 et ig ih ib fb pm pw => ?_⟩
      have good := good0.lot pm pw
      have sx4 : SameX p H H4 := ((sx1.trans (SameX.of s2)).trans sx3).trans (SameX.of s4)
      have fd4 := fd3.same s4
      refine ⟨t, _, rfl, .inl (.inl et), rfl, _, _, rfl, _, _, rfl, _, _, rfl, rfl, ?_⟩
      obtain ⟨_, _, _, _, hp4, _⟩ := id fd4
      refine ⟨_, rfl, _, rfl, _, rfl, scR c1, scF c2, L, _, _, _, rfl, ig, ih, ib, fb, good.fit.ok, good.so.1, fun m hm => good.lo.mo.mv m hm, good.lo.mo.few, fun z5 H5 s5 ch5 _ => ?_⟩
      refine ⟨_, _, L, z5, rfl, ch5, good.fit.ok, fun m hm => good.lo.mo.mv m hm, good.lo.mo.few, fun lm ms H6 s6 n6 e6 => ?_⟩
      refine ⟨Nat.zero_le _, fun l7 n7 => r_eqNil ((Same.new n7 : Same H6 _) _ _ e6) (ImA.ofStrs ms) upd_same (plain_strs ms) ?_⟩
      have s7 : Same H6 (upd H6 l7 (.lst [])) := Same.new n7
      generalize upd H6 l7 (.lst []) = H7 at s7 ⊢
      have s47 := (s5.trans s6).trans s7
      obtain ⟨_, _, _, _, hp7, _⟩ := id (fd4.same s47)
      have fin : ∀ {H8 : Hp} {R : VK}, Same H7 H8 → R = Q → ∃ (T : List Row) (s : List Int) (L' : List (Str × Str)) (v u x : V), [gv, hv', bv] = [v, u, x] ∧ Im H8 v (dTree T) ∧ Im H8 u (dInts s) ∧ Im H8 x (dMvs L') ∧ Fz H8 x ∧ TreeOk T ∧ T.length = s.length ∧ (∀ m, m ∈ L' → MvOk T m) ∧ L'.length ≤ 60 ∧
          ∀ z H', Same H8 H' → CaseH T s L' H' z → (∀ p o, H8 p = some o → NotP p z) → R (.ref z.c) H' := fun {H8 R} s8 hR => by
        have s48 := s47.trans s8
        refine ⟨scR c1, scF c2, L, _, _, _, rfl, ig.mono (.same s48), ih.mono (.same s48), ib.mono (.same s48), fb.sm s48, good.fit.ok, good.so.1, fun m hm => good.lo.mo.mv m hm, good.lo.mo.few, fun z9 H9 s9 ch9 np9 => ?_⟩
        rw [hR]
        exact q z9 H9 _ _ L (sx4.trans (SameX.of (s48.trans s9))) (fd4.same (s48.trans s9)) ch9 (np9 _ _ (s8 _ _ hp7)) good
      refine ⟨_, rfl, rfl, _, rfl, ?_⟩
      by_cases hk : V.bl (decide (ms.map PyData.str = [])) = V.bl fit
      · exact iteP (decide_eq_true hk) (iteP rfl ⟨_, rfl, _, rfl, _, rfl, fin (Same.refl _) rfl⟩)
      · refine iteN (decide_eq_false hk) ⟨_, rfl, _, rfl, ?_⟩
        cases fit with
        | true => exact iteN rfl (drawn (sx4.trans (SameX.of s47)) (fd4.same s47) rfl)
        | false => exact iteP rfl ⟨_, rfl, _, rfl, _, rfl, fin (Same.refl _) rfl⟩
    · exact iteN (decide_eq_false h0) (drawn sx1 fd1 rfl)
end
end RW
end
section
set_option linter.all false
set_option maxRecDepth 100000
set_option autoImplicit false
set_option maxHeartbeats 2000000
/-! law. -/
namespace RW
open PySem PySem.Spec PyProof.Rows L2
abbrev s_law : Stmt := topS 96
abbrev N_law : List Str := ["_law_script", "_law_feed_here", "_law_lap", "_law_case_here", "_law_waits_here"]
theorem sc_law : FnScope N_law ["_law_script"] (defScope s_law) := ⟨rfl, rfl, rfl, by decide +kernel, rfl, by decide +kernel, by decide +kernel⟩

theorem Good.case_ {T : List Row} {s : List Int} {L A : List (Str × Str)} (h : Good T s L) (w : WaitOk T s L A) : CaseOk T s L A := by
  have hin : ∀ m, m ∈ A → m ∈ L := fun m hm => w.sub.subset hm
  exact ⟨h.fit, h.so, h.lo, ⟨fun m hm => h.lo.mo.mv m (hin m hm), fun m hm => h.lo.mo.nm m (hin m hm), sorted_pw (h.pw.sublist w.sub), Nat.le_trans w.sub.length_le h.lo.mo.few⟩, fun m => w.sub.count_le m, w.fit⟩
theorem held_nil (T : List Row) (s : List Int) (f : Str) : held T s [] f = use T s f := by
  unfold held gainN
  simp
theorem wait_nil {T : List Row} {s : List Int} {L : List (Str × Str)} (h : Good T s L) : WaitOk T s L [] :=
  ⟨List.nil_sublist _, fun f hf => by rw [held_nil]; exact h.so.2.2 f hf⟩
section
variable {P : Program} {w : World} {K : PySem.W.Frag} {mg : Str → Option Value} {base : Heap}
def sp_law : Sp := fun vs H Q _ => ∃ (a : Addr) (ns : List Int), vs = [.ref a] ∧ SqL K H a (ns.map .int) ∧ ns.length ≤ 63 ∧ ∀ H', Q (.bl true) H'
theorem fn_law {f : Addr} {fd : FuncData} (Tx : Txt mg) (F__law_feed : OkF P w K mg base "_law_feed" ["_law_script"] 1 (sp__law_feed (K := K))) (F__law_by_hand : OkG P w K mg base "_law_by_hand" [] 16 sp__law_by_hand)
    (F__law_some_case : OkF P w K mg base "_law_some_case" ["_law_feed_here", "_law_boxes_most", "_law_deeds_most", "_law_is_fit"] 5 sp__law_some_case)
    (F__law_draw : OkF P w K mg base "_law_draw" ["_law_feed_here", "_law_many"] 1 sp__law_draw) (F__law_any : OkF P w K mg base "_law_any" ["_law_feed_here", "_law_some"] 2 sp__law_any)
    (F__law_waits : OkF P w K mg base "_law_waits" ["_law_feed_here", "_law_case_here"] 3 sp__law_waits)
    (F__law_can_finish : OkF P w K mg base "_law_can_finish" ["_law_case_here", "_law_waits_here"] 2 sp__law_can_finish)
    (F__law_is_right : OkG P w K mg base "_law_is_right" ["_law_case_here", "_law_waits_here", "_law_due"] 15 sp__law_is_right)
    (hf : Fun K "law" "law" s_law f fd) : FnG P w K mg base 17 f fd ["_law_script"] (sp_law (K := K)) := by
  refine fun_okG hf sc_law (fun vs H Q E h => ?_) (fun cdv A outer sh H vs Q E hgd hr h => ?_)
  · obtain ⟨a, ns, rfl, _⟩ := h
    rfl
  · obtain ⟨a0, ns, rfl, hs, hns, q⟩ := h
    have hu := hu_of hr
    have hu65 : (A.deeper (envOfC "law" (defScope s_law) sh.heap.objs.size f cdv)).units + 65 < cLine := by
      have := hr.un
      omega
    refine ⟨_, (pss_cons (ps_set (i := 1) sc_law.nd rfl (.inl rfl) (pe_c F__law_feed (hr.mono (by decide)) (pa_cons (pv 0) pa_nil)))
  (pss_cons (ps_if (pt_not (pt_val (pe_g0 F__law_by_hand hgd (hr.mono (by decide))))) (pss_one (ps_ret pe_bl)) pss_nil)
  (pss_cons (ps_for PassesOwn.never rfl (pi_range1 rfl Tx.b_range (pa_cons pe_int pa_nil)) (pg_name (i := 2) sc_law.nd rfl (.inl rfl)) (pss_cons (ps_set (i := 3) sc_law.nd rfl (.inl rfl) (pe_c F__law_some_case (hr.mono (by decide)) (pa_cons (pv 1) (pa_cons pe_int (pa_cons (pe_c F__law_any (hr.mono (by decide)) (pa_cons (pv 1) (pa_cons (pe_lst (pa_cons pe_int (pa_cons pe_int (pa_cons pe_int (pa_cons pe_int pa_nil))))) pa_nil))) (pa_cons (pe_cmpR op_eq (pe_c F__law_draw (hr.mono (by decide)) (pa_cons (pv 1) (pa_cons pe_int pa_nil))) pe_int (nomark _)) pa_nil))))))
  (pss_one (ps_if (pt_cmpR op_lt (pe_callB call_len_seq (by rfl) Tx.b_len PySem.boot_len (pa_cons (pe_dget hu (pv 3) pe_str (fun _ _ => rfl)) pa_nil)) pe_int (nomark _)) (pss_cons (ps_set (i := 4) sc_law.nd rfl (.inl rfl) (pe_ifExp (pt_cmpR op_gt (pe_c F__law_draw (hr.mono (by decide)) (pa_cons (pv 1) (pa_cons pe_int pa_nil))) pe_int (nomark _)) (pe_c F__law_waits (hr.mono (by decide)) (pa_cons (pv 1) (pa_cons (pv 3) pa_nil))) (pe_tup pa_nil)))
  (pss_one (ps_if (pt_not (pt_val (pe_g F__law_is_right hgd (hr.mono (by decide)) (pa_cons (pv 3) (pa_cons (pv 4) (pa_cons (pe_c F__law_can_finish (hr.mono (by decide)) (pa_cons (pv 3) (pa_cons (pv 4) pa_nil))) pa_nil)))))) (pss_one (ps_ret pe_bl)) pss_nil))) pss_nil))))
  (pss_one (ps_ret pe_bl))))), ?_⟩
    refine ⟨_, rfl, a0, ns, rfl, hs, hns, fun p a H1 s1 np na fd1 => ?_⟩
    refine ⟨rfl, fun H2 s2 => ⟨_, rfl, iteF ?_⟩⟩
    refine ⟨3, rfl, by decide, by decide, ?_⟩
    refine for_range (fun i σ H' => ∃ (y2 y3 y4 : Option V), σ = [some (.ref a0), some (.ref p), y2, y3, y4] ∧ Feed H' p a) ⟨none, none, none, rfl, fd1.same s2⟩ ?_ ?_
    · rintro i σ H3 hi ⟨y2, y3, y4, rfl, fd3⟩
      refine ⟨_, rfl, _, rfl, r_anyI (is := [3, 4, 4, 5]) (by decide) (by decide) fd3 fun n H4 hn sx4 fd4 => ?_⟩
      have hn5 : 3 ≤ n ∧ n ≤ 5 := by
        simp only [List.mem_cons, List.not_mem_nil, or_false] at hn
        omega
      refine ⟨_, rfl, p, a, 2, rfl, fd4, by decide, by decide, fun r H5 sx5 fd5 _ _ => ⟨rfl, ?_⟩⟩
      refine ⟨p, a, n, _, rfl, fd5, by omega, by omega, fun z H6 T s L sx6 fd6 ch np6 good => ?_⟩
      obtain ⟨ab, bs, hbv, hbT, hbA⟩ := ch.bv.tinv
      have hbl : bs.length = L.length := by rw [hbA.len, List.length_map]
      refine ⟨_, rfl, z.c, _, rfl, c_get ch.at_ ck_batch, ab, bs, by rw [hbv], .inr (.inl hbT), _, _, rfl, rfl, _, rfl, ?_⟩
      by_cases h6 : (bs.length : Int) < 6
      · refine iteP (decide_eq_true h6) ?_
        have fin : ∀ {D : L2.Ends} {H7 : Hp} {v : V} {A : List (Str × Str)} {y : Option V}, CaseH T s L H7 z → Feed H7 p a → Im H7 v (dMvs A) → WaitOk T s L A → (∀ H8, Feed H8 p a → D.nx [some (.ref a0), some (.ref p), y, some (.ref z.c), some v] H8) →
            tIfS (tNot (tB (tCall sp__law_is_right [] E0 (tCons (tVar 3) (tCons (tVar 4) (tCons (tCall sp__law_can_finish [] E0 (tCons (tVar 3) (tCons (tVar 4) tNil))) tNil)))))) (tRet (tC (.bl false))) tNext D [some (.ref a0), some (.ref p), y, some (.ref z.c), some v] H7 := fun {D H7 v A y} ch7 fd7 iv wt q' => by
          have co := good.case_ wt
          refine ⟨_, rfl, _, rfl, _, rfl, _, rfl, T, s, L, A, z, v, rfl, ch7, good.fit.ok, fun m hm => good.lo.mo.mv m hm, by omega, iv, fun m => wt.sub.count_le m, fun b H8 s8 hb => ?_⟩
          refine ⟨T, s, L, A, z, v, b, rfl, ch7.same s8, iv.mono (.same s8), co, hb, good.show_ co.ao.mo, fun H9 s9 => ⟨_, rfl, iteF ?_⟩⟩
          exact q' H9 (fd7.same (s8.trans s9))
        refine ⟨_, rfl, p, a, 3, rfl, fd6, by decide, by decide, fun r7 H7 sx7 fd7 _ _ => ⟨_, _, rfl, rfl, _, rfl, ?_⟩⟩
        obtain ⟨_, _, _, _, hp6, _⟩ := id fd6
        have ch7 := ch.sx sx7 hp6 np6
        by_cases hr7 : 0 < r7
        · refine iteP (decide_eq_true hr7) ⟨_, rfl, _, rfl, T, s, L, z, p, a, rfl, fd7, ch7, np6, good.fit.ok, fun m hm => good.lo.mo.mv m hm, good.lo.mo.few, good.so.2.2, fun v H8 A sx8 fd8 iv wt => ?_⟩
          obtain ⟨_, _, _, _, hp7, _⟩ := id fd7
          exact fin (ch7.sx sx8 hp7 np6) fd8 iv wt fun H9 fd9 => ⟨_, _, _, rfl, fd9⟩
        · refine iteN (decide_eq_false hr7) ⟨Nat.zero_le _, fun t nt => ?_⟩
          have st : Same H7 (upd H7 t (.tup [])) := Same.new nt
          exact fin (A := []) (ch7.same st) (fd7.same st) (.tup (.inl upd_same) .nil) (wait_nil good) fun H9 fd9 => ⟨_, _, _, rfl, fd9⟩
      · exact iteN (decide_eq_false h6) ⟨_, _, _, rfl, fd6⟩
    · rintro σ H3 ⟨y2, y3, y4, rfl, fd3⟩
      exact q H3
end
end RW
end
section
set_option linter.all false
set_option maxRecDepth 100000
set_option autoImplicit false
set_option maxHeartbeats 0
/-! The join. -/
namespace RW
open PySem PySem.Spec PyProof.Rows L2
section
variable {P : Program} {w : World} {K : PySem.W.Frag} {mg : Str → Option Value} {hp : Heap}
theorem funP {x : Str} {n : Nat} {f : Addr} {fd : FuncData} (F : FunD K x x (defArgs (topS n)) (defBody (topS n)) (defScope (topS n)) [] [] f fd) : Fun K x x (topS n) f fd := by
  obtain ⟨oc, od, dV, kV, doc, pm, an, cdv, ct, osl, e, lk, hcd, hD, _⟩ := F.ex
  rcases hD with ⟨_, rfl⟩ | ⟨z, _⟩
  · exact ⟨⟨oc, od, kV, doc, pm, an, cdv, ct, osl, e, lk, hcd⟩, F.kp⟩
  · exact absurd rfl z
theorem hasP (inK : K.In hp) (atG : hp.Ns mainGlobals mg) (c : He.SaysD fcs dfs K) (i j : Nat) {x : Str} {n : Nat} (hi : dfs[i]? = some (dP x n)) (hj : fcs[j]? = some (.glo x)) : Has K mg x (topS n) := by
  obtain ⟨fd, F⟩ := c.def_ i hi
  exact ⟨_, fd, He.glo_ok inK atG (c.fact j hj), funP F⟩
theorem hasD (inK : K.In hp) (atG : hp.Ns mainGlobals mg) (c : He.SaysD fcs dfs K) (i j : Nat) {x : Str} {n : Nat} {v : He.Dv} (hi : dfs[i]? = some (dD x n v)) (hj : fcs[j]? = some (.glo x)) : HasD K mg x (topS n) (v.v K) := by
  obtain ⟨fd, F⟩ := c.def_ i hi
  exact ⟨_, fd, He.glo_ok inK atG (c.fact j hj), F⟩
/-- the law keeps its promise behind the top -/
theorem joined (inK : K.In hp) (atG : hp.Ns mainGlobals mg) (z : SaysN K) : ∃ fd : FuncData, mg "law" = some (.ref (He.ga K "law")) ∧ (∀ (s : Shared) (u : Value), BindsTo s fd ⟨[u], []⟩ [("_law_script", u)]) ∧
    ∀ base : Heap, FnG P w K mg base 17 (He.ga K "law") fd ["_law_script"] (sp_law (K := K)) := by
  have c : He.SaysD fcs dfs K := congrArg (fun y : Bool × He.AlD => y.2) z
  obtain ⟨fd, FD⟩ := c.def_ 77 (d := dP "law" 96) rfl
  have F : Fun K "law" "law" s_law (He.ga K "law") fd := funP FD
  have bnd := FunD.bindsA (ps := ["_law_script"]) FD fun _ _ _ _ _ _ us hl => match us, hl with | [_], _ => rfl
  refine ⟨fd, He.glo_ok inK atG (c.fact 77 rfl), fun s u => bnd s [u] rfl, fun base => ?_⟩
  have Tx : Txt mg := ⟨He.free_ok inK atG (c.fact 78 rfl), He.free_ok inK atG (c.fact 79 rfl), He.free_ok inK atG (c.fact 80 rfl), He.free_ok inK atG (c.fact 81 rfl), He.free_ok inK atG (c.fact 82 rfl), He.free_ok inK atG (c.fact 83 rfl), He.free_ok inK atG (c.fact 84 rfl), He.free_ok inK atG (c.fact 85 rfl), He.free_ok inK atG (c.fact 86 rfl), He.free_ok inK atG (c.fact 87 rfl), He.free_ok inK atG (c.fact 88 rfl), He.free_ok inK atG (c.fact 89 rfl), He.free_ok inK atG (c.fact 90 rfl), He.free_ok inK atG (c.fact 91 rfl), He.free_ok inK atG (c.fact 92 rfl), He.free_ok inK atG (c.fact 93 rfl), He.str_ok inK atG (c.fact 94 rfl), He.int_ok inK atG (c.fact 95 rfl), He.str_ok inK atG (c.fact 96 rfl), He.str_ok inK atG (c.fact 97 rfl)⟩
  have nil : ∃ a, (He.Dv.adr (He.dflAt ("has_ring_in", none) 0)).v K = .ref a ∧ ∀ HH, SqT K HH a [] := ⟨_, rfl, fun HH => nilT_ok (congrArg (fun y : Bool × He.AlD => y.1) z) HH⟩
  have H_names_in : Has K mg "names_in" s_names_in := hasP inK atG c 0 0 rfl rfl
  have H_parents_by : Has K mg "parents_by" s_parents_by := hasP inK atG c 1 1 rfl rfl
  have H_rooms_by : Has K mg "rooms_by" s_rooms_by := hasP inK atG c 2 2 rfl rfl
  have H_ways_by : Has K mg "ways_by" s_ways_by := hasP inK atG c 3 3 rfl rfl
  have H_counts_by : Has K mg "counts_by" s_counts_by := hasP inK atG c 4 4 rfl rfl
  have H_uses_by : Has K mg "uses_by" s_uses_by := hasP inK atG c 5 5 rfl rfl
  have H_frees_by : Has K mg "frees_by" s_frees_by := hasP inK atG c 6 6 rfl rfl
  have H_entered_in : Has K mg "entered_in" s_entered_in := hasP inK atG c 7 7 rfl rfl
  have H_left_in : Has K mg "left_in" s_left_in := hasP inK atG c 8 8 rfl rfl
  have H_crossed_in : Has K mg "crossed_in" s_crossed_in := hasP inK atG c 9 9 rfl rfl
  have H_can_go : Has K mg "can_go" s_can_go := hasP inK atG c 10 10 rfl rfl
  have H_stand_by : Has K mg "stand_by" s_stand_by := hasP inK atG c 11 11 rfl rfl
  have H_is_integer : Has K mg "is_integer" s_is_integer := hasP inK atG c 12 12 rfl rfl
  have H_is_number : Has K mg "is_number" s_is_number := hasP inK atG c 13 13 rfl rfl
  have H_is_name : Has K mg "is_name" s_is_name := hasP inK atG c 14 14 rfl rfl
  have H_is_spot : Has K mg "is_spot" s_is_spot := hasP inK atG c 15 15 rfl rfl
  have H_is_pair : Has K mg "is_pair" s_is_pair := hasP inK atG c 16 16 rfl rfl
  have H_is_triple : Has K mg "is_triple" s_is_triple := hasP inK atG c 17 17 rfl rfl
  have H_is_folder : Has K mg "is_folder" s_is_folder := hasP inK atG c 18 18 rfl rfl
  have H_is_move : Has K mg "is_move" s_is_move := hasP inK atG c 19 19 rfl rfl
  have H_first_ringed : Has K mg "first_ringed" s_first_ringed := hasP inK atG c 20 20 rfl rfl
  have H_first_unparented : Has K mg "first_unparented" s_first_unparented := hasP inK atG c 21 21 rfl rfl
  have H_tree_fault : Has K mg "tree_fault" s_tree_fault := hasP inK atG c 22 22 rfl rfl
  have H_stand_fault : Has K mg "stand_fault" s_stand_fault := hasP inK atG c 23 23 rfl rfl
  have H_is_move_of : Has K mg "is_move_of" s_is_move_of := hasP inK atG c 24 24 rfl rfl
  have H_moves_fault : Has K mg "moves_fault" s_moves_fault := hasP inK atG c 25 25 rfl rfl
  have H_lot_fault : Has K mg "lot_fault" s_lot_fault := hasP inK atG c 26 26 rfl rfl
  have H_held_by : Has K mg "held_by" s_held_by := hasP inK atG c 27 27 rfl rfl
  have H_asked_fault : Has K mg "asked_fault" s_asked_fault := hasP inK atG c 28 28 rfl rfl
  have H_want : HasD K mg "want" s_want _ := hasD inK atG c 29 29 rfl rfl
  have H_want_tree : Has K mg "want_tree" s_want_tree := hasP inK atG c 30 30 rfl rfl
  have H_want_stand : Has K mg "want_stand" s_want_stand := hasP inK atG c 31 31 rfl rfl
  have H_want_lot : Has K mg "want_lot" s_want_lot := hasP inK atG c 32 32 rfl rfl
  have H_want_case : Has K mg "want_case" s_want_case := hasP inK atG c 33 33 rfl rfl
  have H_want_lots : Has K mg "want_lots" s_want_lots := hasP inK atG c 34 34 rfl rfl
  have H_counts_at : Has K mg "counts_at" s_counts_at := hasP inK atG c 35 35 rfl rfl
  have H_misfits_at : Has K mg "misfits_at" s_misfits_at := hasP inK atG c 36 36 rfl rfl
  have H_crossed_by : Has K mg "crossed_by" s_crossed_by := hasP inK atG c 37 37 rfl rfl
  have H_loose_in : HasD K mg "loose_in" s_loose_in _ := hasD inK atG c 38 38 rfl rfl
  have H_arrows_by : Has K mg "arrows_by" s_arrows_by := hasP inK atG c 39 39 rfl rfl
  have H_turned_arrows : Has K mg "turned_arrows" s_turned_arrows := hasP inK atG c 40 40 rfl rfl
  have H_reached_by : Has K mg "reached_by" s_reached_by := hasP inK atG c 41 41 rfl rfl
  have H_outermost_of : Has K mg "outermost_of" s_outermost_of := hasP inK atG c 42 42 rfl rfl
  have H_greatest_by : Has K mg "greatest_by" s_greatest_by := hasP inK atG c 43 43 rfl rfl
  have H_greatest_in : HasD K mg "greatest_in" s_greatest_in _ := hasD inK atG c 44 44 rfl rfl
  have H_has_ring_in : HasD K mg "has_ring_in" s_has_ring_in _ := hasD inK atG c 45 45 rfl rfl
  have H_lot_less : Has K mg "lot_less" s_lot_less := hasP inK atG c 46 46 rfl rfl
  have H_is_let_in : Has K mg "is_let_in" s_is_let_in := hasP inK atG c 47 47 rfl rfl
  have H_calm_moves : Has K mg "calm_moves" s_calm_moves := hasP inK atG c 48 48 rfl rfl
  have H_first_let : Has K mg "first_let" s_first_let := hasP inK atG c 49 49 rfl rfl
  have H_order_by : Has K mg "order_by" s_order_by := hasP inK atG c 50 50 rfl rfl
  have H_want_asked : Has K mg "want_asked" s_want_asked := hasP inK atG c 51 51 rfl rfl
  have H_others_order : Has K mg "others_order" s_others_order := hasP inK atG c 52 52 rfl rfl
  have H_can_finish : Has K mg "can_finish" s_can_finish := hasP inK atG c 53 53 rfl rfl
  have H_finishing : Has K mg "finishing" s_finishing := hasP inK atG c 54 54 rfl rfl
  have H__law_feed : Has K mg "_law_feed" s__law_feed := hasP inK atG c 55 55 rfl rfl
  have H__law_draw : Has K mg "_law_draw" s__law_draw := hasP inK atG c 56 56 rfl rfl
  have H__law_any : Has K mg "_law_any" s__law_any := hasP inK atG c 57 57 rfl rfl
  have H__law_names : Has K mg "_law_names" s__law_names := hasP inK atG c 58 58 rfl rfl
  have H__law_ups : Has K mg "_law_ups" s__law_ups := hasP inK atG c 59 59 rfl rfl
  have H__law_used : Has K mg "_law_used" s__law_used := hasP inK atG c 60 60 rfl rfl
  have H__law_in : Has K mg "_law_in" s__law_in := hasP inK atG c 61 61 rfl rfl
  have H__law_case : Has K mg "_law_case" s__law_case := hasP inK atG c 62 62 rfl rfl
  have H__law_shift : Has K mg "_law_shift" s__law_shift := hasP inK atG c 63 63 rfl rfl
  have H__law_has_place : Has K mg "_law_has_place" s__law_has_place := hasP inK atG c 64 64 rfl rfl
  have H__law_misfits : Has K mg "_law_misfits" s__law_misfits := hasP inK atG c 65 65 rfl rfl
  have H__law_scenes : Has K mg "_law_scenes" s__law_scenes := hasP inK atG c 66 66 rfl rfl
  have H__law_scene : Has K mg "_law_scene" s__law_scene := hasP inK atG c 67 67 rfl rfl
  have H__law_rounds : Has K mg "_law_rounds" s__law_rounds := hasP inK atG c 68 68 rfl rfl
  have H__law_drawn : Has K mg "_law_drawn" s__law_drawn := hasP inK atG c 69 69 rfl rfl
  have H__law_some_case : Has K mg "_law_some_case" s__law_some_case := hasP inK atG c 70 70 rfl rfl
  have H__law_held : Has K mg "_law_held" s__law_held := hasP inK atG c 71 71 rfl rfl
  have H__law_waits : Has K mg "_law_waits" s__law_waits := hasP inK atG c 72 72 rfl rfl
  have H__law_can_finish : Has K mg "_law_can_finish" s__law_can_finish := hasP inK atG c 73 73 rfl rfl
  have H__law_steps_right : Has K mg "_law_steps_right" s__law_steps_right := hasP inK atG c 74 74 rfl rfl
  have H__law_is_right : Has K mg "_law_is_right" s__law_is_right := hasP inK atG c 75 75 rfl rfl
  have H__law_by_hand : Has K mg "_law_by_hand" s__law_by_hand := hasP inK atG c 76 76 rfl rfl
  have r_names_in := ok_names_in (P := P) (w := w) (base := base) Tx H_names_in
  have r_parents_by := ok_parents_by (P := P) (w := w) (base := base) H_parents_by
  have r_rooms_by := ok_rooms_by (P := P) (w := w) (base := base) H_rooms_by
  have r_ways_by := ok_ways_by (P := P) (w := w) (base := base) r_parents_by r_names_in H_ways_by
  have r_counts_by := ok_counts_by (P := P) (w := w) (base := base) Tx r_names_in H_counts_by
  have r_uses_by := ok_uses_by (P := P) (w := w) (base := base) Tx r_names_in r_ways_by r_counts_by H_uses_by
  have r_frees_by := ok_frees_by (P := P) (w := w) (base := base) r_rooms_by r_uses_by H_frees_by
  have r_entered_in := ok_entered_in (P := P) (w := w) (base := base) Tx r_ways_by H_entered_in
  have r_left_in := ok_left_in (P := P) (w := w) (base := base) r_entered_in H_left_in
  have r_crossed_in := ok_crossed_in (P := P) (w := w) (base := base) Tx r_entered_in r_left_in H_crossed_in
  have r_can_go := ok_can_go (P := P) (w := w) (base := base) Tx r_names_in r_frees_by r_entered_in H_can_go
  have r_stand_by := ok_stand_by (P := P) (w := w) (base := base) Tx r_names_in H_stand_by
  have r_is_integer := ok_is_integer (P := P) (w := w) (base := base) Tx H_is_integer
  have r_is_number := ok_is_number (P := P) (w := w) (base := base) Tx r_is_integer H_is_number
  have r_is_name := ok_is_name (P := P) (w := w) (base := base) Tx H_is_name
  have r_is_spot := ok_is_spot (P := P) (w := w) (base := base) Tx r_is_name H_is_spot
  have r_is_pair := ok_is_pair (P := P) (w := w) (base := base) Tx H_is_pair
  have r_is_triple := ok_is_triple (P := P) (w := w) (base := base) Tx H_is_triple
  have r_is_folder := ok_is_folder (P := P) (w := w) (base := base) Tx r_is_triple r_is_name r_is_spot r_is_number H_is_folder
  have r_is_move := ok_is_move (P := P) (w := w) (base := base) Tx r_is_pair r_is_spot H_is_move
  have r_first_ringed := ok_first_ringed (P := P) (w := w) (base := base) Tx r_parents_by r_names_in H_first_ringed
  have r_first_unparented := ok_first_unparented (P := P) (w := w) (base := base) Tx r_parents_by r_names_in H_first_unparented
  have r_tree_fault := ok_tree_fault (P := P) (w := w) (base := base) Tx r_is_folder r_first_unparented r_first_ringed H_tree_fault
  have r_stand_fault := ok_stand_fault (P := P) (w := w) (base := base) Tx r_is_number r_frees_by r_names_in H_stand_fault
  have r_is_move_of := ok_is_move_of (P := P) (w := w) (base := base) Tx r_is_move r_parents_by H_is_move_of
  have r_moves_fault := ok_moves_fault (P := P) (w := w) (base := base) Tx r_is_move_of H_moves_fault
  have r_lot_fault := ok_lot_fault (P := P) (w := w) (base := base) Tx r_moves_fault r_counts_by r_names_in H_lot_fault
  have r_held_by := ok_held_by (P := P) (w := w) (base := base) Tx r_uses_by r_entered_in H_held_by
  have r_asked_fault := ok_asked_fault (P := P) (w := w) (base := base) Tx r_is_move_of r_held_by r_rooms_by r_names_in H_asked_fault
  have r_want := ok_want (P := P) (w := w) (base := base) H_want
  have r_want_tree := ok_want_tree (P := P) (w := w) (base := base) Tx r_want r_tree_fault H_want_tree
  have r_want_stand := ok_want_stand (P := P) (w := w) (base := base) Tx r_want r_stand_fault H_want_stand
  have r_want_lot := ok_want_lot (P := P) (w := w) (base := base) Tx r_want r_lot_fault H_want_lot
  have r_want_case := ok_want_case (P := P) (w := w) (base := base) Tx r_want_tree r_want_stand H_want_case
  have r_want_lots := ok_want_lots (P := P) (w := w) (base := base) Tx r_want_case r_want_lot H_want_lots
  have r_counts_at := ok_counts_at (P := P) (w := w) (base := base) r_stand_by H_counts_at
  have r_misfits_at := ok_misfits_at (P := P) (w := w) (base := base) Tx r_frees_by r_counts_at H_misfits_at
  have r_crossed_by := ok_crossed_by (P := P) (w := w) (base := base) Tx r_crossed_in H_crossed_by
  have r_loose_in := ok_loose_in (P := P) (w := w) (base := base) Tx r_frees_by r_crossed_by H_loose_in
  have r_arrows_by := ok_arrows_by (P := P) (w := w) (base := base) Tx H_arrows_by
  have r_turned_arrows := ok_turned_arrows (P := P) (w := w) (base := base) H_turned_arrows
  have r_reached_by := ok_reached_by (P := P) (w := w) (base := base) Tx H_reached_by
  have r_outermost_of := ok_outermost_of (P := P) (w := w) (base := base) Tx r_parents_by H_outermost_of
  have r_greatest_by := ok_greatest_by (P := P) (w := w) (base := base) Tx r_arrows_by r_turned_arrows r_reached_by r_outermost_of H_greatest_by
  have r_greatest_in := ok_greatest_in (P := P) (w := w) (base := base) r_greatest_by r_loose_in H_greatest_in
  have r_has_ring_in := ok_has_ring_in (P := P) (w := w) (base := base) Tx r_greatest_in H_has_ring_in
  have r_lot_less := ok_lot_less (P := P) (w := w) (base := base) Tx H_lot_less
  have r_is_let_in := ok_is_let_in (P := P) (w := w) (base := base) nil r_has_ring_in r_lot_less r_stand_by r_can_go H_is_let_in
  have r_calm_moves := ok_calm_moves (P := P) (w := w) (base := base) Tx r_frees_by r_entered_in r_can_go H_calm_moves
  have r_first_let := ok_first_let (P := P) (w := w) (base := base) Tx r_calm_moves r_is_let_in H_first_let
  have r_order_by := ok_order_by (P := P) (w := w) (base := base) Tx nil r_has_ring_in r_misfits_at r_first_let r_lot_less r_stand_by H_order_by
  have r_want_asked := ok_want_asked (P := P) (w := w) (base := base) Tx r_want_lots r_want r_asked_fault H_want_asked
  have r_others_order := ok_others_order (P := P) (w := w) (base := base) Tx r_stand_by r_order_by H_others_order
  have r_can_finish := ok_can_finish (P := P) (w := w) (base := base) r_want_asked r_others_order H_can_finish
  have r_finishing := ok_finishing (P := P) (w := w) (base := base) Tx r_want_asked r_others_order H_finishing
  have r__law_feed := ok__law_feed (P := P) (w := w) (base := base) Tx H__law_feed
  have r__law_draw := ok__law_draw (P := P) (w := w) (base := base) Tx H__law_draw
  have r__law_any := ok__law_any (P := P) (w := w) (base := base) Tx r__law_draw H__law_any
  have r__law_names := ok__law_names (P := P) (w := w) (base := base) Tx r__law_any r__law_draw H__law_names
  have r__law_ups := ok__law_ups (P := P) (w := w) (base := base) Tx H__law_ups
  have r__law_used := ok__law_used (P := P) (w := w) (base := base) Tx r__law_ups H__law_used
  have r__law_in := ok__law_in (P := P) (w := w) (base := base) Tx H__law_in
  have r__law_case := ok__law_case (P := P) (w := w) (base := base) Tx r__law_ups r__law_in r__law_used H__law_case
  have r__law_shift := ok__law_shift (P := P) (w := w) (base := base) Tx H__law_shift
  have r__law_has_place := ok__law_has_place (P := P) (w := w) (base := base) Tx H__law_has_place
  have r__law_misfits := ok__law_misfits (P := P) (w := w) (base := base) Tx r__law_shift H__law_misfits
  have r__law_scenes := ok__law_scenes (P := P) (w := w) (base := base) H__law_scenes
  have r__law_scene := ok__law_scene (P := P) (w := w) (base := base) Tx H__law_scene
  have r__law_rounds := ok__law_rounds (P := P) (w := w) (base := base) Tx r__law_draw r__law_any H__law_rounds
  have r__law_drawn := ok__law_drawn (P := P) (w := w) (base := base) Tx r__law_names r__law_draw r__law_rounds r__law_any r__law_used H__law_drawn
  have r__law_some_case := ok__law_some_case (P := P) (w := w) (base := base) r__law_draw r__law_any r__law_scenes r__law_scene r__law_case r__law_misfits r__law_drawn H__law_some_case
  have r__law_held := ok__law_held (P := P) (w := w) (base := base) Tx r__law_in r__law_shift H__law_held
  have r__law_waits := ok__law_waits (P := P) (w := w) (base := base) Tx r__law_draw r__law_in r__law_held r__law_has_place H__law_waits
  have r__law_can_finish := ok__law_can_finish (P := P) (w := w) (base := base) Tx r__law_shift r__law_has_place H__law_can_finish
  have r__law_steps_right := ok__law_steps_right (P := P) (w := w) (base := base) Tx r__law_in r__law_shift r__law_held r__law_has_place H__law_steps_right
  have r__law_is_right := ok__law_is_right (P := P) (w := w) (base := base) Tx (r_can_finish.okF fun _ _ _ _ _ _ us hl => match us, hl with | [_, _, _, _], _ => rfl) r_can_finish (r_finishing.okF fun _ _ _ _ _ _ us hl => match us, hl with | [_, _, _, _], _ => rfl) r_finishing r__law_steps_right H__law_is_right
  have r__law_by_hand := ok__law_by_hand (P := P) (w := w) (base := base) r__law_scene r__law_case r__law_is_right H__law_by_hand
  have r_law := fn_law (P := P) (w := w) (base := base) Tx r__law_feed r__law_by_hand r__law_some_case r__law_draw r__law_any r__law_waits r__law_can_finish r__law_is_right F
  exact r_law
end
def oneHp (a : Addr) (o : HO) : Hp := fun b => if b = a then some o else none
/-! ### from the law's promise, where no repr is under way, to the walk's end -/
section
variable {P : Program} {w : World} {K : PySem.W.Frag} {mg mb : Str → Option Value} {k : Nat} {fa a : Addr} {fd : FuncData} {x : Str} {sp : Sp} {s0 : Shared} {us : List Value} {is : List Int}
/-- over one heap of the layer, in which at most the script is tracked -/
theorem callOver (inK : K.In s0.heap) (atG : s0.heap.Ns mainGlobals mg) (atB : s0.heap.Ns builtinsNs mb) (boot : ∀ y : Str, y ≠ "__name__" → mb y = bootBuiltins y) (free : s0.heap.NoLimit) (noGens : s0.gens = #[])
    (script : s0.heap.get? a = some { cls := .type "list", data := .seq us.toArray }) (room : Room k callerA) (F : ∀ b : Heap, K.In b → b.Ns mainGlobals mg → FnG P w K mg b k fa fd [x] sp) (bind : ∀ (s : Shared) (u : Value), BindsTo s fd ⟨[u], []⟩ [(x, u)])
    (HH : Hp) (only : Only HH) (good : sp [.ref a] HH (fun v _ => v = .bl true) E0) (laid : HOk P w HH s0.heap) (here : ∀ b, HH b ≠ none → b = a) (own : HH a ≠ none → K.lookup a = none) :
    codeAny (model P w) callerA (.call (.ref fa) ⟨[.ref a], []⟩) (fun r s' => r = .ok (.ret (.bool true)) ∧ OldK s0.heap s'.heap ∧ s'.os = s0.os ∧ AllBare s'.gens) s0 := by
  have keepB : ∀ {b : Addr} {o : Obj}, s0.heap.get? b = some o → HH b = none → (hidT s0.heap HH).get? b = some o := fun e1 e2 => hidT_get e1 e2
  have scr : ∀ {b : Addr} {u : HO}, HH b = some u → b = a := fun e => here _ (by rw [e]; exact fun z => nomatch z)
  have dictN : ∀ {b : Addr} {o : Obj} {es : Array DictEntry} {ep : Nat}, s0.heap.get? b = some o → o.data = .dict es ep → HH b = none := fun {b o es ep} e1 e2 => by
    cases hb : HH b with
    | none => rfl
    | some u =>
      obtain rfl := scr hb
      rw [script] at e1
      obtain rfl := Option.some.inj e1
      exact nomatch (show Data.seq us.toArray _ = Data.dict es ep from e2)
  have nsB : ∀ {b : Addr} {m : Str → Option Value}, s0.heap.Ns b m → (hidT s0.heap HH).Ns b m := fun {b m} z => by
    obtain ⟨o, es, ep, e1, e2, r⟩ := z
    exact ⟨o, es, ep, keepB e1 (dictN e1 e2), e2, r⟩
  have inB : K.In (hidT s0.heap HH) := fun b o e1 => by
    refine keepB (inK b o e1) ?_
    cases hb : HH b with
    | none => rfl
    | some u =>
      obtain rfl := scr hb
      rw [own (by rw [hb]; exact fun z => nomatch z)] at e1
      exact nomatch e1
  obtain ⟨m1, f1, f2⟩ := id free
  have modB : Mod K mg (hidT s0.heap HH) := ⟨inB, nsB atG, ⟨mb, nsB atB, boot⟩, ⟨m1, nsB f1, f2⟩⟩
  have envB : Env0 P w K mg (hidT s0.heap HH) callerA [] s0 HH := ⟨rfl, modB, fun b o e1 => of_hidT e1, Nat.le_of_eq (hidT_size _ _), trivial, (fun b hb => nomatch hb), laid, .of_eq noGens⟩
  refine codeAny_mono ((F _ inB (nsB atG)).go callerA [] s0 HH ⟨[.ref a], []⟩ [.ref a] [.ref a] _ E0 rfl room envB (bind s0 (.ref a)) (.cons rfl .nil) good) fun r s' ends => ?_
  cases r with
  | error e => exact False.elim ends
  | ok fl =>
    cases fl with
    | ret u =>
      obtain ⟨v, H2, os, bare, un, laid2, rel, tr⟩ := ends
      obtain rfl : v = .bl true := tr
      obtain rfl : u = Value.bool true := rel
      refine ⟨rfl, OldK.of_keep fun b o e1 => ?_, os, bare⟩
      cases hb : HH b with
      | none => exact un.keep b o e1 hb (fun z => nomatch z) (by simp)
      | some u =>
        rcases only b with z | ⟨ob, xs, z⟩
        · rw [hb] at z
          exact nomatch z
        · obtain ⟨g1, _⟩ := laid b _ z
          obtain ⟨g2, _⟩ := laid2 b _ (un.frzs b ob _ z)
          rw [g1] at e1
          obtain rfl := Option.some.inj e1
          exact g2
    | next => exact False.elim ends
    | brk => exact False.elim ends
    | cont => exact False.elim ends
theorem callLaw (inK : K.In s0.heap) (atG : s0.heap.Ns mainGlobals mg) (atB : s0.heap.Ns builtinsNs mb) (boot : ∀ y : Str, y ≠ "__name__" → mb y = bootBuiltins y) (free : s0.heap.NoLimit) (noGens : s0.gens = #[])
    (script : s0.heap.get? a = some { cls := .type "list", data := .seq us.toArray }) (whole : IntsAre us is) (few : is.length ≤ sizeLine) (room : Room k callerA) (F : ∀ b : Heap, K.In b → b.Ns mainGlobals mg → FnG P w K mg b k fa fd [x] sp)
    (bind : ∀ (s : Shared) (u : Value), BindsTo s fd ⟨[u], []⟩ [(x, u)]) (good : ∀ HH : Hp, SqL K HH a (is.map V.int) → sp [.ref a] HH (fun v _ => v = .bl true) E0) :
    codeAny (model P w) callerA (.call (.ref fa) ⟨[.ref a], []⟩) (fun r s' => r = .ok (.ret (.bool true)) ∧ OldK s0.heap s'.heap ∧ s'.os = s0.os ∧ AllBare s'.gens) s0 := by
  have vals := vals_ints whole
  have len := whole.length
  cases lk : K.lookup a with
  | none =>
    refine callOver inK atG atB boot free noGens script room F bind (oneHp a (.frz { cls := .type "list", data := .seq us.toArray } (.lst (is.map V.int)))) (fun b => ?_) (good _ (.inl (.inr ⟨_, if_pos rfl⟩))) (fun b u z => ?_) (fun b z => ?_) fun _ => lk
    · by_cases e : b = a
      · exact .inr ⟨_, _, if_pos e⟩
      · exact .inl (if_neg e)
    · by_cases e : b = a
      · have z2 := (if_pos e).symm.trans z
        obtain rfl := Option.some.inj z2
        subst e
        exact ⟨script, by rw [List.length_map]; exact few, us, _, vals, script⟩
      · exact nomatch (if_neg e).symm.trans z
    · exact Classical.byContradiction fun e => z (if_neg e)
  | some o =>
    have eo := inK a o lk
    rw [script] at eo
    obtain rfl := Option.some.inj eo
    refine callOver inK atG atB boot free noGens script room F bind (fun _ => none) (fun _ => .inl rfl) (good _ (.inr ⟨_, us.toArray, _, lk, rfl, rfl, rfl, by rw [List.size_toArray, len]; exact few, by simpa using vals⟩)) (fun b u z => nomatch z) (fun b z => absurd rfl z) fun z => absurd rfl z
end
/-- the walk's end of a law -/
theorem walkLaw {l : PySem.W.OpenLaw} {n k : Nat} {q : Program} {loose : List Str} {XP : (Str → Option Value) → Heap → Prop} {YP : World → Heap → Prop} {d : DefRec} {x : Str} (most : l.most = some n) (few : n ≤ sizeLine) (plain : d.params.defaults = []) (room : Room k callerA)
    (F : ∀ (w : World) (mg : Str → Option Value) (fa : Addr) (hp : Heap), YP w hp → hp.Ns mainGlobals mg → mg d.name = some (.ref fa) → ∃ (K : PySem.W.Frag) (fd : FuncData) (sp : Sp), K.In hp ∧ (∀ (s : Shared) (u : Value), BindsTo s fd ⟨[u], []⟩ [(x, u)]) ∧
        (∀ (HH : Hp) (a : Addr) (is : List Int), is.length ≤ n → SqL K HH a (is.map V.int) → sp [.ref a] HH (fun v _ => v = .bl true) E0) ∧ ∀ b : Heap, K.In b → b.Ns mainGlobals mg → FnG l.prog w K mg b k fa fd [x] sp) :
    PySem.W.WalkO q loose XP YP l.row.toRowW d [] (fun f vs => PySem.call f vs) := by
  refine Att.attach_call most plain fun w _ s1 mg mb fa o pm cd doc a us is top told ho hd hcd named obj whole hlen noGens => ?_
  obtain ⟨K, fd, sp, inK, bind, good, run⟩ := F w mg fa _ told top.T.g named
  exact callLaw inK top.T.g top.T.b top.T.builtins top.T.nolimit noGens obj whole (Nat.le_trans hlen few) room run bind fun HH sq => good HH a is hlen sq
end RW
end
set_option maxRecDepth 100000
set_option maxHeartbeats 0
open PySem PySem.W PySem.Calls PyProof.Rows
theorem PySem.Challenge.cw_roomrings_k59_whole_finishing_holds : PySem.Challenge.rw_roomrings_k59_whole_finishing.Holds := by
  w_on; o_law
  refine HandSHeadRun.head_any (r := RW.lawR) (q := view RW.lawR.prog [96]) (H := RW.hkN) (ob := RW.obN) (M := 4000) (loose := RW.loosN) (d := HandSHeadRun.topDef RW.lawR.prog 96) (kwd := []) RW.obN_eq (by kernel_rfl) (fun s => by kernel_rfl) RW.runN (by kernel_rfl) (by kernel_rfl) (by kernel_rfl) (by rfl)
    (by first | assumption | decide +kernel) (by decide +kernel) ⟨rfl, rfl, rfl, rfl, rfl, by decide +kernel⟩ ?hw ?hc
  case hw => w_witness2
  case hc =>
    refine RW.walkLaw (l := RW.lawP) (n := 63) (k := 17) (x := "_law_script") rfl (by decide) (by kernel_rfl) ⟨rfl, by decide, by decide⟩ ?F
    intro w mg fa hp told atG named
    obtain ⟨K, inK, z⟩ := told
    have named2 : mg ("law" : PySem.Str) = some (.ref fa) := by
      have e : (HandSHeadRun.topDef RW.lawR.prog 96).name = ("law" : PySem.Str) := by kernel_rfl
      rw [← e]
      exact named
    obtain ⟨fd, e0, bind, run⟩ := RW.joined (P := RW.lawP.prog) (w := w) inK atG z
    obtain rfl : fa = He.ga K "law" := PySem.Value.ref.inj (Option.some.inj (named2.symm.trans e0))
    exact ⟨K, fd, RW.sp_law (K := K), inK, bind, fun HH a is hl sq => ⟨a, is, rfl, sq, hl, fun _ => rfl⟩, fun b _ _ => run b⟩
