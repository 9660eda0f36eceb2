import PyProof.Rows.All
import Wide.All
import OpenK.AllK
import Wide.FinOn
import HandS.ForMost
import HandS.ForExc
import KE.KeyNested
import KE.KDictWalk
import KE.KDictCopyH
import KE.KDictList
import PyProof.Rows.SeqRoads
import HandS.IsInst
import HandS.Iter
import HandS.WideBits
import HandS.TupAny
import HandS.Style
import HandS.Conv
import PyProof.StrBlock2
import HandS.Deep
import HandS.RaiseMore
import HandS.More
import HandS.Small
import HandS.WideMore
import HandS.Defaults
import HandS.EndBits
import HandS.HeadEnd
import HandS.Zip
import HandS.Codes
import HandS.Head0
import HandS.Head1
import HandS.Head2
import HandS.HeadHook1
import HandS.WordsExc
import PyProof.ExcBaseAll.ValueError
import PyProof.EqKinds
import PyProof.FactsAll.dict
import PyProof.NeKinds
import KE.KDictZip
import KE.KItemsList
import HandS.ListItems
import HandS.MapObj
import PyProof.ZipIter
import HandS.SortInts
import HandS.SortRule
import HandS.DictTup
import KE.KDictDisplayH
import HandS.Flt
import HandS.ListEq
import HandS.DictEq
import HandS.DeepEq
import HandS.ExcIs
import HandS.Exc
import HandS.HeadHook2
import HandS.StrMore
import HandS.ReplaceLit
import PyProof.MeetsStr3
import PyProof.ToksMono
import HandS.Text
import HandS.Sort
import PyProof.DictFindH
import PyProof.DictRoadsH
import Lean
import KE.KStateDown
import HandS.Base
import HandS.Call
import HandS.Ends
import HandS.Words
import PySem.Challenge.RW_laidfields_k17_what_is_a_value
set_option Elab.async false
set_option linter.all false
set_option maxRecDepth 100000
set_option maxHeartbeats 0
set_option exponentiation.threshold 2000
namespace LK
open PySem L2
def top (i : Nat) : Stmt := PySem.Challenge.pw_laidfields_k17_what_is_a_value.main.body.getD i (.Pass ⟨0, 0, 0, 0⟩)
abbrev s_is_whole_number : Stmt := top 1
abbrev s_is_whole_within : Stmt := top 2
abbrev s_is_value : Stmt := top 4
abbrev s__law_pool : Stmt := top 6
abbrev s__law_take : Stmt := top 7
abbrev s__law_rounded : Stmt := top 8
abbrev s__law_room : Stmt := top 9
abbrev s__law_names : Stmt := top 10
abbrev s__law_kind : Stmt := top 11
abbrev s__law_copy : Stmt := top 12
abbrev s__law_same : Stmt := top 13
abbrev s__law_top : Stmt := top 14
abbrev s__law_value : Stmt := top 15
abbrev s__law_is_value : Stmt := top 16
abbrev s__law_bad_record : Stmt := top 17
abbrev s__law_bad_row : Stmt := top 18
abbrev s__law_bad_value : Stmt := top 19
abbrev s__law_turned : Stmt := top 20
abbrev s__law_right : Stmt := top 21
abbrev s_law : Stmt := top 22
def D_is_whole_number : He.DefD := ⟨("is_whole_number", none), "is_whole_number", "is_whole_number", defArgs s_is_whole_number, defBody s_is_whole_number, defScope s_is_whole_number, [], []⟩
def D_is_whole_within : He.DefD := ⟨("is_whole_within", none), "is_whole_within", "is_whole_within", defArgs s_is_whole_within, defBody s_is_whole_within, defScope s_is_whole_within, [], []⟩
def D_is_value : He.DefD := ⟨("is_value", none), "is_value", "is_value", defArgs s_is_value, defBody s_is_value, defScope s_is_value, [], []⟩
def D__law_pool : He.DefD := ⟨("_law_pool", none), "_law_pool", "_law_pool", defArgs s__law_pool, defBody s__law_pool, defScope s__law_pool, [], []⟩
def D__law_take : He.DefD := ⟨("_law_take", none), "_law_take", "_law_take", defArgs s__law_take, defBody s__law_take, defScope s__law_take, [], []⟩
def D__law_rounded : He.DefD := ⟨("_law_rounded", none), "_law_rounded", "_law_rounded", defArgs s__law_rounded, defBody s__law_rounded, defScope s__law_rounded, [], []⟩
def D__law_room : He.DefD := ⟨("_law_room", none), "_law_room", "_law_room", defArgs s__law_room, defBody s__law_room, defScope s__law_room, [], []⟩
def D__law_names : He.DefD := ⟨("_law_names", none), "_law_names", "_law_names", defArgs s__law_names, defBody s__law_names, defScope s__law_names, [], []⟩
def D__law_kind : He.DefD := ⟨("_law_kind", none), "_law_kind", "_law_kind", defArgs s__law_kind, defBody s__law_kind, defScope s__law_kind, [], []⟩
def D__law_copy : He.DefD := ⟨("_law_copy", none), "_law_copy", "_law_copy", defArgs s__law_copy, defBody s__law_copy, defScope s__law_copy, [], []⟩
def D__law_same : He.DefD := ⟨("_law_same", none), "_law_same", "_law_same", defArgs s__law_same, defBody s__law_same, defScope s__law_same, [], []⟩
def D__law_top : He.DefD := ⟨("_law_top", none), "_law_top", "_law_top", defArgs s__law_top, defBody s__law_top, defScope s__law_top, [], []⟩
def D__law_value : He.DefD := ⟨("_law_value", none), "_law_value", "_law_value", defArgs s__law_value, defBody s__law_value, defScope s__law_value, [], []⟩
def D__law_is_value : He.DefD := ⟨("_law_is_value", none), "_law_is_value", "_law_is_value", defArgs s__law_is_value, defBody s__law_is_value, defScope s__law_is_value, [], []⟩
def D__law_bad_record : He.DefD := ⟨("_law_bad_record", none), "_law_bad_record", "_law_bad_record", defArgs s__law_bad_record, defBody s__law_bad_record, defScope s__law_bad_record, [], []⟩
def D__law_bad_row : He.DefD := ⟨("_law_bad_row", none), "_law_bad_row", "_law_bad_row", defArgs s__law_bad_row, defBody s__law_bad_row, defScope s__law_bad_row, [], []⟩
def D__law_bad_value : He.DefD := ⟨("_law_bad_value", none), "_law_bad_value", "_law_bad_value", defArgs s__law_bad_value, defBody s__law_bad_value, defScope s__law_bad_value, [], []⟩
def D__law_turned : He.DefD := ⟨("_law_turned", none), "_law_turned", "_law_turned", defArgs s__law_turned, defBody s__law_turned, defScope s__law_turned, [], []⟩
def D__law_right : He.DefD := ⟨("_law_right", none), "_law_right", "_law_right", defArgs s__law_right, defBody s__law_right, defScope s__law_right, [], []⟩
def D_law : He.DefD := ⟨("law", none), "law", "law", defArgs s_law, defBody s_law, defScope s_law, [], []⟩
def fn : List He.DefD := [D_is_whole_number, D_is_whole_within, D_is_value, D__law_pool, D__law_take, D__law_rounded, D__law_room, D__law_names, D__law_kind, D__law_copy, D__law_same, D__law_top, D__law_value, D__law_is_value, D__law_bad_record, D__law_bad_row, D__law_bad_value, D__law_turned, D__law_right, D_law]
def fa : List He.Fa := [.glo "is_whole_number", .glo "is_whole_within", .glo "is_value", .glo "_law_pool", .glo "_law_take", .glo "_law_rounded", .glo "_law_room", .glo "_law_names", .glo "_law_kind", .glo "_law_copy", .glo "_law_same", .glo "_law_top", .glo "_law_value", .glo "_law_is_value", .glo "_law_bad_record", .glo "_law_bad_row", .glo "_law_bad_value", .glo "_law_turned", .glo "_law_right", .glo "law", .free "bool", .free "dict", .free "int", .free "isinstance", .free "len", .free "list", .free "max", .free "min", .free "range", .free "sorted", .free "str", .free "tuple", .free "zip"]
abbrev R : PySem.W.OpenRow := PySem.W.OpenLaw.row PySem.Challenge.rw_laidfields_k17_what_is_a_value
abbrev hk : PySem.W.Hook := He.hookD 5 fa fn
def ob (s : PySem.W.SharedT) : He.AlD := He.obsDG 5 fa fn (HandSHeadRun.getT s)
theorem ob_eq (s : PySem.W.SharedT) : ob s = hk.obs s.abs := He.obsDG_eq (HandSHeadRun.getT_eq s)
theorem run (w : World) : HandSHeadRun.RunEq R (PySem.W.view R.prog [22]) hk ob 4000 [("is_whole_number" : PySem.Str), ("is_whole_within" : PySem.Str), ("is_value" : PySem.Str), ("_law_pool" : PySem.Str), ("_law_take" : PySem.Str), ("_law_rounded" : PySem.Str), ("_law_room" : PySem.Str), ("_law_names" : PySem.Str), ("_law_kind" : PySem.Str), ("_law_copy" : PySem.Str), ("_law_same" : PySem.Str), ("_law_top" : PySem.Str), ("_law_value" : PySem.Str), ("_law_is_value" : PySem.Str), ("_law_bad_record" : PySem.Str), ("_law_bad_row" : PySem.Str), ("_law_bad_value" : PySem.Str), ("_law_turned" : PySem.Str), ("_law_right" : PySem.Str)] w := by
  intro os
  kernel_rfl
end LK
/-! DL: a def's reading over plain data. Part 1: data, what stands for it, the state of a frame, the lifted readings. -/
namespace DL
open PySem L2
abbrev Frag := PySem.W.Frag
/-- a key of any kind: a whole number or a text, None, True, a tuple of one text -/
inductive KX where | k (κ : Key) | non | tru | tup (s : Str)
deriving DecidableEq
/-- the key up to == -/
def KX.nk : KX → NestedKey
  | .k (.inl i) => .num i
  | .k (.inr x) => .text x
  | .non => .none
  | .tru => .num 1
  | .tup s => .tup [.text s]
/-- how keys hash -/
abbrev HX := NestedKey → Int
/-- the entries of a dict with keys of any kind: key, the key's own value, value -/
def XD (hx : HX) (a : Addr) (ws : List (KX × V × V)) : Heap → Prop := fun h => ws.length ≤ sizeLine ∧ (a == sysModules) = false ∧ ∃ o es ep, h.get? a = some o ∧ o.ExactDict ∧ o.data = .dict es ep ∧
  Paired (fun (w : KX × V × V) (e : DictEntry) => e.hash = hx w.1.nk ∧ RelV w.2.1 e.key ∧ RelV w.2.2 e.val) ws es.toList ∧ (ws.map fun w => w.1.nk).Nodup
/-- v is the key -/
def XKR (F : Hp) (v : V) : KX → Prop
  | .k κ => v = kV κ
  | .non => v = .non
  | .tru => v = .bl true
  | .tup s => ∃ b, v = .ref b ∧ F b = some (.tup [.str s])
theorem XKR.mono {F F' : Hp} (e : Same F F') {v : V} {k : KX} (h : XKR F v k) : XKR F' v k := by
  cases k with
  | tup s => obtain ⟨b, h1, h2⟩ := h; exact ⟨b, h1, e _ _ h2⟩
  | _ => exact h
/-- plain data -/
inductive Dat where
  | non | bl (b : Bool) | int (i : Int) | str (s : Str)
  | lst (xs : List Dat) | tup (xs : List Dat)
  | dk (kvs : List (Key × Dat)) | dt (kvs : List (List Key × Dat))
  /-- a dict with keys of any kind -/
  | dx (hx : HX) (kvs : List (KX × Dat))
  /-- a list of ints that is read only (the script) -/
  | scr (ns : List Int)
  /-- an address alone: of what lies there nothing is said -/
  | ptr (a : Addr)
/-- v stands for the data, over the part F of the heap that does not change -/
inductive Rep (K : Frag) (F : Hp) : V → Dat → Prop where
  | non : Rep K F .non .non
  | bl (b : Bool) : Rep K F (.bl b) (.bl b)
  | int (i : Int) : Rep K F (.int i) (.int i)
  | str (s : Str) : Rep K F (.str s) (.str s)
  | lst {a : Addr} {vs : List V} {xs : List Dat} : F a = some (.lst vs) → vs.length = xs.length → (∀ (i : Nat) (v : V) (x : Dat), vs[i]? = some v → xs[i]? = some x → Rep K F v x) → Rep K F (.ref a) (.lst xs)
  | tup {a : Addr} {vs : List V} {xs : List Dat} : F a = some (.tup vs) → vs.length = xs.length → (∀ (i : Nat) (v : V) (x : Dat), vs[i]? = some v → xs[i]? = some x → Rep K F v x) → Rep K F (.ref a) (.tup xs)
  | dk {a : Addr} {o : Obj} {ws : List (Key × V)} {kvs : List (Key × Dat)} : F a = some (.frz o (.dK ws)) → ws.map (·.1) = kvs.map (·.1) → (∀ (i : Nat) (k k' : Key) (v : V) (x : Dat), ws[i]? = some (k, v) → kvs[i]? = some (k', x) → Rep K F v x) → Rep K F (.ref a) (.dk kvs)
  | dt {a : Addr} {o : Obj} {ws : List (List Key × V)} {kvs : List (List Key × Dat)} : F a = some (.frz o (.dT ws)) → ws.map (·.1) = kvs.map (·.1) → (∀ (i : Nat) (k k' : List Key) (v : V) (x : Dat), ws[i]? = some (k, v) → kvs[i]? = some (k', x) → Rep K F v x) → Rep K F (.ref a) (.dt kvs)
  | dx {a : Addr} {o : Obj} {hx : HX} {ws : List (KX × V × V)} {kvs : List (KX × Dat)} : F a = some (.frz o (.ext (XD hx a ws))) → ws.map (·.1) = kvs.map (·.1) → (∀ (i : Nat) (w : KX × V × V), ws[i]? = some w → XKR F w.2.1 w.1) → (∀ (i : Nat) (w : KX × V × V) (p : KX × Dat), ws[i]? = some w → kvs[i]? = some p → Rep K F w.2.2 p.2) → Rep K F (.ref a) (.dx hx kvs)
  | scr {a : Addr} {ns : List Int} : SqL K F a (ns.map V.int) → Rep K F (.ref a) (.scr ns)
  | ptr (a : Addr) : Rep K F (.ref a) (.ptr a)
theorem Rep.mono {K : Frag} {F F' : Hp} (e : Same F F') {v : V} {x : Dat} (h : Rep K F v x) : Rep K F' v x := by
  induction h with
  | non => exact .non
  | bl b => exact .bl b
  | int i => exact .int i
  | str s => exact .str s
  | lst h l _ ih => exact .lst (e _ _ h) l ih
  | tup h l _ ih => exact .tup (e _ _ h) l ih
  | dk h l _ ih => exact .dk (e _ _ h) l ih
  | dt h l _ ih => exact .dt (e _ _ h) l ih
  | dx h l g _ ih => exact .dx (e _ _ h) l (fun i w q => (g i w q).mono e) ih
  | scr h => exact .scr (e.seq h)
  | ptr a => exact .ptr a
/-- a row of values -/
structure Reps (K : Frag) (F : Hp) (vs : List V) (xs : List Dat) : Prop where
  len : vs.length = xs.length
  at_ : ∀ (i : Nat) (v : V) (x : Dat), vs[i]? = some v → xs[i]? = some x → Rep K F v x
structure RepsK {κ : Type} (K : Frag) (F : Hp) (ws : List (κ × V)) (kvs : List (κ × Dat)) : Prop where
  keys : ws.map (·.1) = kvs.map (·.1)
  at_ : ∀ (i : Nat) (k k' : κ) (v : V) (x : Dat), ws[i]? = some (k, v) → kvs[i]? = some (k', x) → Rep K F v x
structure RepsX (K : Frag) (F : Hp) (ws : List (KX × V × V)) (kvs : List (KX × Dat)) : Prop where
  keys : ws.map (·.1) = kvs.map (·.1)
  own : ∀ (i : Nat) (w : KX × V × V), ws[i]? = some w → XKR F w.2.1 w.1
  at_ : ∀ (i : Nat) (w : KX × V × V) (p : KX × Dat), ws[i]? = some w → kvs[i]? = some p → Rep K F w.2.2 p.2
theorem RepsX.mono {K : Frag} {F F' : Hp} {ws : List (KX × V × V)} {kvs : List (KX × Dat)} (e : Same F F') (r : RepsX K F ws kvs) : RepsX K F' ws kvs :=
  ⟨r.keys, fun i w h => (r.own i w h).mono e, fun i w p h1 h2 => (r.at_ i w p h1 h2).mono e⟩
section
variable {K : Frag} {F F' : Hp} {vs ws : List V} {xs ys : List Dat} {v : V} {x : Dat}
theorem Reps.nil : Reps K F [] [] := ⟨rfl, fun i v x h => by simp at h⟩
theorem Reps.cons (h : Rep K F v x) (r : Reps K F vs xs) : Reps K F (v :: vs) (x :: xs) := ⟨congrArg (· + 1) r.len, fun i u y h1 h2 => by
  cases i with
  | zero => simp at h1 h2; subst h1; subst h2; exact h
  | succ i => exact r.at_ i u y (by simpa using h1) (by simpa using h2)⟩
theorem Reps.mono (e : Same F F') (r : Reps K F vs xs) : Reps K F' vs xs := ⟨r.len, fun i v x h1 h2 => (r.at_ i v x h1 h2).mono e⟩
theorem Reps.append (r : Reps K F vs xs) (q : Reps K F ws ys) : Reps K F (vs ++ ws) (xs ++ ys) := ⟨by rw [List.length_append, List.length_append, r.len, q.len], fun i v x h1 h2 => by
  by_cases hi : i < vs.length
  · rw [List.getElem?_append_left hi] at h1
    rw [List.getElem?_append_left (by rw [← r.len]; exact hi)] at h2
    exact r.at_ i v x h1 h2
  · rw [List.getElem?_append_right (by omega)] at h1
    rw [List.getElem?_append_right (by have := r.len; omega), ← r.len] at h2
    exact q.at_ _ v x h1 h2⟩
theorem Reps.uncons {ws : List V} (r : Reps K F ws (x :: xs)) : ∃ v vs, ws = v :: vs ∧ Rep K F v x ∧ Reps K F vs xs := by
  cases ws with
  | nil => have := r.len; simp at this
  | cons v vs => exact ⟨v, vs, rfl, r.at_ 0 v x rfl rfl, by have := r.len; simp at this; exact this, fun i u y h1 h2 => r.at_ (i + 1) u y (by simpa using h1) (by simpa using h2)⟩
theorem Reps.unnil {ws : List V} (r : Reps K F ws []) : ws = [] := List.eq_nil_of_length_eq_zero (by have := r.len; simpa using this)
theorem Reps.get {i : Nat} (r : Reps K F vs xs) (h : xs[i]? = some x) : ∃ v, vs[i]? = some v ∧ Rep K F v x := by
  have hi : i < xs.length := (List.getElem?_eq_some_iff.mp h).1
  have hv : i < vs.length := by rw [r.len]; exact hi
  exact ⟨vs[i], List.getElem?_eq_getElem hv, r.at_ i _ x (List.getElem?_eq_getElem hv) h⟩
theorem Reps.set {i : Nat} (r : Reps K F vs xs) (h : Rep K F v x) : Reps K F (vs.set i v) (xs.set i x) := ⟨by simp [r.len], fun j u y h1 h2 => by
  rw [List.getElem?_set] at h1 h2
  by_cases e : i = j
  · subst e
    simp only [if_true] at h1 h2
    split at h1
    · split at h2
      · cases h1; cases h2; exact h
      · cases h2
    · cases h1
  · rw [if_neg e] at h1 h2
    exact r.at_ j u y h1 h2⟩
theorem Reps.drop (r : Reps K F vs xs) (n : Nat) : Reps K F (vs.drop n) (xs.drop n) := ⟨by simp [r.len], fun i v x h1 h2 => r.at_ (n + i) v x (by rw [← List.getElem?_drop]; exact h1) (by rw [← List.getElem?_drop]; exact h2)⟩
theorem Reps.take (r : Reps K F vs xs) (n : Nat) : Reps K F (vs.take n) (xs.take n) := ⟨by simp [r.len], fun i v x h1 h2 => by
  rw [List.getElem?_take] at h1 h2
  split at h1
  · rename_i c
    rw [if_pos c] at h2
    exact r.at_ i v x h1 h2
  · cases h1⟩
theorem RepsK.mono {κ : Type} {ws : List (κ × V)} {kvs : List (κ × Dat)} (e : Same F F') (r : RepsK K F ws kvs) : RepsK K F' ws kvs := ⟨r.keys, fun i k k' v x h1 h2 => (r.at_ i k k' v x h1 h2).mono e⟩
end
/-! ### slots -/
/-- a thing of one's own that is neither a list nor a dict: what it is, told over the still part, the heap, its value and its addresses -/
structure Own where
  rep : Frag → Hp → Hp → V → (Addr → Prop) → Prop
  stay : ∀ {K : Frag} {F H F' H' : Hp} {v : V} {fp : Addr → Prop}, rep K F H v fp → Same F F' → (∀ a, fp a → H' a = H a) → rep K F' H' v fp
  /-- as data, once its one address is still -/
  dat : Option Dat
  frz : ∀ {K : Frag} {F H : Hp} {v : V} {fp : Addr → Prop} {x : Dat}, dat = some x → rep K F H v fp → ∃ (p : Addr) (o : HO), H p = some o ∧ (∀ a, fp a ↔ a = p) ∧ ∀ F', Same F F' → F' p = some o → Rep K F' v x
/-- an instance with two fields: a list of addresses (rows_laid) and a whole number (makes_there); the dicts of its own, by their addresses -/
structure HS where
  l : Addr
  rows : List Addr
  makes : Int
  cells : List (Addr × List (Key × Dat))
structure HF (fs : List (Str × V)) (l : Addr) (n : Int) : Prop where
  rows : fs.lookup ("rows_laid" : Str) = some (.ref l)
  makes : fs.lookup ("makes_there" : Str) = some (.int n)
  none : ∀ m : Str, m ≠ "rows_laid" → m ≠ "makes_there" → fs.lookup m = Option.none
  few : fs.length ≤ 100
/-- a list of lists of one's own: the outer one's address, the addresses in it, the inner ones by their addresses -/
structure GS where
  l : Addr
  rows : List Addr
  cells : List (Addr × List Dat)
inductive Slot where
  | d (x : Dat) | l (xs : List Dat) | k (kvs : List (Key × Dat)) | t (kvs : List (List Key × Dat)) | o (w : Own) | h (C : Addr) (S : HS) | g (G : GS) | hg (C : Addr) (S : HS) (G : GS) | xk (hx : HX) (kvs : List (KX × Dat))
abbrev Env := List (Option Slot)
def HRep (K : Frag) (F H : Hp) (C : Addr) (S : HS) (v : V) (fp : Addr → Prop) : Prop := ∃ p dx fs, v = .ref p ∧ H p = some (.ins C dx fs) ∧ HF fs S.l S.makes ∧ H S.l = some (.lst (S.rows.map V.ref)) ∧
    (∀ a kvs, (a, kvs) ∈ S.cells → ∃ ws, H a = some (.dK ws) ∧ RepsK K F ws kvs) ∧ (S.cells.map (·.1)).Nodup ∧ ∀ a, fp a ↔ a = p ∨ a = S.l ∨ a ∈ S.cells.map (·.1)
def GRep (K : Frag) (F H : Hp) (G : GS) (v : V) (fp : Addr → Prop) : Prop := v = .ref G.l ∧ H G.l = some (.lst (G.rows.map V.ref)) ∧
    (∀ a xs, (a, xs) ∈ G.cells → ∃ vs, H a = some (.lst vs) ∧ Reps K F vs xs) ∧ (G.l :: G.cells.map (·.1)).Nodup ∧ ∀ a, fp a ↔ a = G.l ∨ a ∈ G.cells.map (·.1)
theorem HRep.stay {K : Frag} {F H F' H' : Hp} {C : Addr} {S : HS} {v : V} {fp : Addr → Prop} (h : HRep K F H C S v fp) (e : Same F F') (k : ∀ a, fp a → H' a = H a) : HRep K F' H' C S v fp := by
  obtain ⟨p, dx, fs, rfl, hp, hf, hl, hc, nd, f⟩ := h
  refine ⟨p, dx, fs, rfl, (k p ((f p).mpr (.inl rfl))).trans hp, hf, (k _ ((f _).mpr (.inr (.inl rfl)))).trans hl, fun a kvs ha => ?_, nd, f⟩
  obtain ⟨ws, h1, h2⟩ := hc a kvs ha
  exact ⟨ws, (k a ((f a).mpr (.inr (.inr (List.mem_map_of_mem (f := Prod.fst) ha))))).trans h1, h2.mono e⟩
theorem GRep.stay {K : Frag} {F H F' H' : Hp} {G : GS} {v : V} {fp : Addr → Prop} (h : GRep K F H G v fp) (e : Same F F') (k : ∀ a, fp a → H' a = H a) : GRep K F' H' G v fp := by
  obtain ⟨rfl, hl, hc, nd, f⟩ := h
  refine ⟨rfl, (k _ ((f _).mpr (.inl rfl))).trans hl, fun a xs ha => ?_, nd, f⟩
  obtain ⟨vs, h1, h2⟩ := hc a xs ha
  exact ⟨vs, (k a ((f a).mpr (.inr (List.mem_map_of_mem (f := Prod.fst) ha)))).trans h1, h2.mono e⟩
def SlotRep (K : Frag) (F H : Hp) (s : Slot) (v : V) (fp : Addr → Prop) : Prop :=
  match s with
  | .d x => Rep K F v x ∧ ∀ a, ¬ fp a
  | .l xs => ∃ p vs, v = .ref p ∧ H p = some (.lst vs) ∧ Reps K F vs xs ∧ ∀ a, fp a ↔ a = p
  | .k kvs => ∃ p ws, v = .ref p ∧ H p = some (.dK ws) ∧ RepsK K F ws kvs ∧ ∀ a, fp a ↔ a = p
  | .t kvs => ∃ p ws, v = .ref p ∧ H p = some (.dT ws) ∧ RepsK K F ws kvs ∧ ∀ a, fp a ↔ a = p
  | .o w => w.rep K F H v fp
  | .h C S => ∃ p dx fs, v = .ref p ∧ H p = some (.ins C dx fs) ∧ HF fs S.l S.makes ∧ H S.l = some (.lst (S.rows.map V.ref)) ∧
    (∀ a kvs, (a, kvs) ∈ S.cells → ∃ ws, H a = some (.dK ws) ∧ RepsK K F ws kvs) ∧ (S.cells.map (·.1)).Nodup ∧ ∀ a, fp a ↔ a = p ∨ a = S.l ∨ a ∈ S.cells.map (·.1)
  | .g G => GRep K F H G v fp
  | .xk hx kvs => ∃ p ws, v = .ref p ∧ H p = some (.ext (XD hx p ws)) ∧ RepsX K F ws kvs ∧ ∀ a, fp a ↔ a = p
  | .hg C S G => ∃ t p fp1 fp2, v = .ref t ∧ F t = some (.tup [.ref p, .ref G.l]) ∧ HRep K F H C S (.ref p) fp1 ∧ GRep K F H G (.ref G.l) fp2 ∧ (∀ a, fp1 a → ¬ fp2 a) ∧ ∀ a, fp a ↔ fp1 a ∨ fp2 a
theorem SlotRep.stay {K : Frag} {F H F' H' : Hp} {s : Slot} {v : V} {fp : Addr → Prop} (h : SlotRep K F H s v fp) (e : Same F F') (k : ∀ a, fp a → H' a = H a) : SlotRep K F' H' s v fp := by
  cases s with
  | d x => exact ⟨h.1.mono e, h.2⟩
  | l xs =>
    obtain ⟨p, vs, rfl, hp, r, f⟩ := h
    exact ⟨p, vs, rfl, (k p ((f p).mpr rfl)).trans hp, r.mono e, f⟩
  | k kvs =>
    obtain ⟨p, vs, rfl, hp, r, f⟩ := h
    exact ⟨p, vs, rfl, (k p ((f p).mpr rfl)).trans hp, r.mono e, f⟩
  | t kvs =>
    obtain ⟨p, vs, rfl, hp, r, f⟩ := h
    exact ⟨p, vs, rfl, (k p ((f p).mpr rfl)).trans hp, r.mono e, f⟩
  | o w => exact w.stay h e k
  | h C S =>
    obtain ⟨p, dx, fs, rfl, hp, hf, hl, hc, nd, f⟩ := h
    refine ⟨p, dx, fs, rfl, (k p ((f p).mpr (.inl rfl))).trans hp, hf, (k _ ((f _).mpr (.inr (.inl rfl)))).trans hl, fun a kvs ha => ?_, nd, f⟩
    obtain ⟨ws, h1, h2⟩ := hc a kvs ha
    exact ⟨ws, (k a ((f a).mpr (.inr (.inr (List.mem_map_of_mem (f := Prod.fst) ha))))).trans h1, h2.mono e⟩
  | g G => exact GRep.stay h e k
  | xk hx kvs =>
    obtain ⟨p, vs, rfl, hp, r, f⟩ := h
    exact ⟨p, vs, rfl, (k p ((f p).mpr rfl)).trans hp, r.mono e, f⟩
  | hg C S G =>
    obtain ⟨t, p, fp1, fp2, rfl, ht, h1, h2, h3, f⟩ := h
    exact ⟨t, p, fp1, fp2, rfl, e _ _ ht, h1.stay e fun a z => k a ((f a).mpr (.inl z)), h2.stay e fun a z => k a ((f a).mpr (.inr z)), h3, f⟩
/-- what is fixed in a frame: the still part and the heap at its entry, the addresses lent to it, their slots -/
structure Fr where
  F : Hp
  H : Hp
  io : Nat → Addr → Prop
  ios : List (Nat × V)
/-- a tuple lies there -/
def IsT (H : Hp) (a : Addr) : Prop := ∃ xs, H a = some (.tup xs)
theorem IsT.back {H H' : Hp} {a : Addr} (s : Same H H') (h : IsT H' a) : H a = none ∨ IsT H a := by
  cases e : H a with
  | none => exact .inl rfl
  | some o =>
    obtain ⟨xs, hx⟩ := h
    rw [s _ _ e] at hx
    exact .inr ⟨xs, by rw [e]; exact hx⟩
theorem IsT.upd {H : Hp} {a p : Addr} {o : HO} (ho : ∀ xs, o ≠ .tup xs) (h : IsT (upd H p o) a) : IsT H a := by
  obtain ⟨xs, hx⟩ := h
  by_cases e : a = p
  · subst e
    rw [upd_same] at hx
    cases hx
    exact absurd rfl (ho xs)
  · rw [upd_ne e] at hx
    exact ⟨xs, hx⟩
theorem notT {H : Hp} {p : Addr} {o : HO} (ho : ∀ xs, o ≠ .tup xs) : ¬ IsT (L2.upd H p o) p := fun ⟨xs, h⟩ => by
  rw [upd_same] at h
  cases h
  exact ho xs rfl
/-- more was laid, nothing changed -/
structure Grow (F H F' H' : Hp) : Prop where
  ff : Same F F'
  hh : Same H H'
  fh : Same F' H'
  new : ∀ a, F' a ≠ none → F a ≠ none ∨ H a = none ∨ IsT H a
section
variable {F H F' H' F2 H2 : Hp} {p : Addr} {o : HO}
theorem Grow.refl (s : Same F H) : Grow F H F H := ⟨Same.refl F, Same.refl H, s, fun a h => .inl h⟩
theorem same_upd (h : H p = none) (o : HO) : Same H (upd H p o) := fun b u q => by rw [upd_ne (ne_of_none q h)]; exact q
theorem Grow.lay (s : Same F H) (h : H p = none) : Grow F H (upd F p o) (upd H p o) where
  ff := same_upd (s.free h) o
  hh := same_upd h o
  fh := fun b u q => by
    by_cases e : b = p
    · subst e; rw [upd_same] at q ⊢; exact q
    · rw [upd_ne e] at q ⊢; exact s b u q
  new := fun a q => by
    by_cases e : a = p
    · subst e; exact .inr (.inl h)
    · rw [upd_ne e] at q; exact .inl q
/-- laid, but not still -/
theorem Grow.own (s : Same F H) (h : H p = none) : Grow F H F (upd H p o) where
  ff := Same.refl F
  hh := same_upd h o
  fh := s.trans (same_upd h o)
  new := fun a q => .inl q
theorem Grow.trans (a : Grow F H F' H') (b : Grow F' H' F2 H2) : Grow F H F2 H2 where
  ff := a.ff.trans b.ff
  hh := a.hh.trans b.hh
  fh := b.fh
  new := fun x q => by
    rcases b.new x q with r | r | r
    · exact a.new x r
    · exact .inr (.inl (a.hh.free r))
    · exact .inr (r.back a.hh)
end
/-- the state of a frame -/
structure SR (K : Frag) (fr : Fr) (F H : Hp) (ρ : Env) (σ : St) (fps : Nat → Addr → Prop) : Prop where
  sub : Same F H
  le : Same fr.F F
  keep : ∀ a o, fr.H a = some o → (∀ i, ¬ fr.io i a) → H a = some o
  tr : ∀ a, fr.H a ≠ none → H a ≠ none
  fresh : ∀ a, F a ≠ none → fr.F a ≠ none ∨ fr.H a = none ∨ IsT fr.H a
  slots : ∀ (i : Nat) s, ρ[i]? = some (some s) → ∃ v, σ[i]? = some (some v) ∧ SlotRep K F H s v (fps i)
  own : ∀ i a, fps i a → F a = none ∧ H a ≠ none ∧ (fr.H a = none ∨ fr.io i a)
  apart : ∀ i j a, fps i a → fps j a → i = j
  io : ∀ p ∈ fr.ios, σ[p.1]? = some (some p.2)
  len : ρ.length = σ.length
  nt : ∀ i a, fps i a → ¬ IsT H a
  tk : ∀ a, IsT H a → fr.H a = none ∨ IsT fr.H a
section
variable {K : Frag} {fr : Fr} {F H F' H' : Hp} {ρ : Env} {σ : St} {fps : Nat → Addr → Prop}
theorem SR.grow (r : SR K fr F H ρ σ fps) (g : Grow F H F' H') : SR K fr F' H' ρ σ fps where
  sub := g.fh
  le := r.le.trans g.ff
  keep := fun a o e n => g.hh a o (r.keep a o e n)
  tr := fun a e h => r.tr a e (g.hh.free h)
  fresh := fun a e => by
    rcases g.new a e with h | h | h
    · exact r.fresh a h
    · right; left
      cases q : fr.H a with
      | none => rfl
      | some o => exact absurd h (r.tr a (by rw [q]; exact fun z => nomatch z))
    · exact .inr (r.tk a h)
  slots := fun i s e => by
    obtain ⟨v, h1, h2⟩ := r.slots i s e
    refine ⟨v, h1, h2.stay g.ff fun a ha => ?_⟩
    obtain ⟨_, h, _⟩ := r.own i a ha
    cases q : H a with
    | none => exact absurd q h
    | some o => exact g.hh a o q
  own := fun i a ha => by
    obtain ⟨h1, h2, h3⟩ := r.own i a ha
    refine ⟨?_, fun q => h2 (g.hh.free q), h3⟩
    cases q : F' a with
    | none => rfl
    | some o =>
      rcases g.new a (by rw [q]; exact fun z => nomatch z) with h | h | h
      · exact absurd h1 h
      · exact absurd h h2
      · exact absurd h (r.nt i a ha)
  apart := r.apart
  io := r.io
  len := r.len
  nt := fun i a ha h => by
    rcases h.back g.hh with q | q
    · exact (r.own i a ha).2.1 q
    · exact r.nt i a ha q
  tk := fun a h => by
    rcases h.back g.hh with q | q
    · left
      cases z : fr.H a with
      | none => rfl
      | some o => exact absurd q (r.tr a (by rw [z]; exact fun z => nomatch z))
    · exact r.tk a q
theorem getSet {α : Type} {l : List α} {i j : Nat} {x y : α} (h : (l.set i x)[j]? = some y) : (i = j ∧ x = y) ∨ (i ≠ j ∧ l[j]? = some y) := by
  rw [List.getElem?_set] at h
  by_cases e : i = j
  · rw [if_pos e] at h
    split at h
    · exact .inl ⟨e, Option.some.inj h⟩
    · cases h
  · rw [if_neg e] at h
    exact .inr ⟨e, h⟩
/-- a slot is given data -/
theorem SR.setD (r : SR K fr F H ρ σ fps) {i : Nat} {v : V} {x : Dat} (h : Rep K F v x) (hi : ∀ p ∈ fr.ios, p.1 ≠ i) : SR K fr F H (ρ.set i (some (.d x))) (σ.set i (some v)) (fun j a => j ≠ i ∧ fps j a) where
  sub := r.sub
  le := r.le
  keep := r.keep
  tr := r.tr
  fresh := r.fresh
  slots := fun j s e => by
    rcases getSet e with ⟨e1, e2⟩ | ⟨e1, e2⟩
    · subst e1
      cases e2
      have hl : i < σ.length := by
        rw [← r.len]
        have := (List.getElem?_eq_some_iff.mp e).1
        simpa using this
      exact ⟨v, by rw [List.getElem?_set_self hl], h, fun a q => q.1 rfl⟩
    · obtain ⟨u, h1, h2⟩ := r.slots j s e2
      refine ⟨u, by rw [List.getElem?_set_ne e1]; exact h1, ?_⟩
      have ef : (fun a => j ≠ i ∧ fps j a) = fps j := funext fun a => propext ⟨fun q => q.2, fun q => ⟨Ne.symm e1, q⟩⟩
      show SlotRep K F H s u (fun a => j ≠ i ∧ fps j a)
      rw [ef]
      exact h2
  own := fun j a q => r.own j a q.2
  apart := fun j k a q1 q2 => r.apart j k a q1.2 q2.2
  io := fun p hp => by rw [List.getElem?_set_ne (Ne.symm (hi p hp))]; exact r.io p hp
  len := by simp [r.len]
  nt := fun i a q => r.nt i a q.2
  tk := r.tk
/-- a slot is given a thing of its own -/
theorem SR.setO (r : SR K fr F H ρ σ fps) {i : Nat} {v : V} {s : Slot} {fp : Addr → Prop} (h : SlotRep K F H s v fp) (hf : ∀ a, fp a → F a = none ∧ H a ≠ none ∧ (fr.H a = none ∨ fr.io i a)) (hnt : ∀ a, fp a → ¬ IsT H a) (hd : ∀ j a, fp a → fps j a → j = i) (hi : ∀ p ∈ fr.ios, p.1 ≠ i) :
    SR K fr F H (ρ.set i (some s)) (σ.set i (some v)) (fun j a => if j = i then fp a else fps j a) where
  sub := r.sub
  le := r.le
  keep := r.keep
  tr := r.tr
  fresh := r.fresh
  slots := fun j s' e => by
    rcases getSet e with ⟨e1, e2⟩ | ⟨e1, e2⟩
    · subst e1
      cases e2
      have hl : i < σ.length := by
        rw [← r.len]
        have := (List.getElem?_eq_some_iff.mp e).1
        simpa using this
      refine ⟨v, by rw [List.getElem?_set_self hl], ?_⟩
      have ef : (fun a => if i = i then fp a else fps i a) = fp := funext fun a => if_pos rfl
      rw [ef]
      exact h
    · obtain ⟨u, h1, h2⟩ := r.slots j s' e2
      refine ⟨u, by rw [List.getElem?_set_ne e1]; exact h1, ?_⟩
      have ef : (fun a => if j = i then fp a else fps j a) = fps j := funext fun a => if_neg (Ne.symm e1)
      rw [ef]
      exact h2
  own := fun j a q => by
    by_cases c : j = i
    · simp only [if_pos c] at q; rw [c]; exact hf a q
    · simp only [if_neg c] at q; exact r.own j a q
  apart := fun j k a q1 q2 => by
    by_cases c : j = i
    · by_cases c' : k = i
      · rw [c, c']
      · simp only [if_pos c, if_neg c'] at q1 q2
        rw [c, hd k a q1 q2]
    · by_cases c' : k = i
      · simp only [if_neg c, if_pos c'] at q1 q2
        rw [c', hd j a q2 q1]
      · simp only [if_neg c, if_neg c'] at q1 q2
        exact r.apart j k a q1 q2
  io := fun p hp => by rw [List.getElem?_set_ne (Ne.symm (hi p hp))]; exact r.io p hp
  len := by simp [r.len]
  nt := fun j a q => by
    by_cases c : j = i
    · simp only [if_pos c] at q; exact hnt a q
    · simp only [if_neg c] at q; exact r.nt j a q
  tk := r.tk
/-- a thing in a slot is changed where it lies -/
theorem SR.write (r : SR K fr F H ρ σ fps) {i : Nat} {p : Addr} {s s' : Slot} {o : HO} (hs : ρ[i]? = some (some s)) (hp : fps i p) (h : ∀ v, σ[i]? = some (some v) → SlotRep K F (upd H p o) s' v (fps i)) (ho : ∀ xs, o ≠ .tup xs := by exact fun _ h => nomatch h) :
    SR K fr F (upd H p o) (ρ.set i (some s')) σ fps where
  sub := fun a u q => by
    rw [upd_ne]
    · exact r.sub a u q
    · intro e; subst e; rw [(r.own i a hp).1] at q; cases q
  le := r.le
  keep := fun a u q n => by
    rw [upd_ne]
    · exact r.keep a u q n
    · intro e
      subst e
      rcases (r.own i a hp).2.2 with z | z
      · rw [z] at q; cases q
      · exact n i z
  tr := fun a q z => by
    by_cases e : a = p
    · subst e; rw [upd_same] at z; cases z
    · rw [upd_ne e] at z; exact r.tr a q z
  fresh := r.fresh
  slots := fun j t e => by
    rcases getSet e with ⟨e1, e2⟩ | ⟨e1, e2⟩
    · subst e1
      cases e2
      obtain ⟨v, h1, _⟩ := r.slots i s hs
      exact ⟨v, h1, h v h1⟩
    · obtain ⟨v, h1, h2⟩ := r.slots j t e2
      refine ⟨v, h1, h2.stay (Same.refl F) fun a ha => upd_ne ?_⟩
      intro z
      subst z
      exact e1 (r.apart i j a hp ha)
  own := fun j a q => by
    obtain ⟨h1, h2, h3⟩ := r.own j a q
    refine ⟨h1, ?_, h3⟩
    by_cases e : a = p
    · subst e; rw [upd_same]; exact fun z => nomatch z
    · rw [upd_ne e]; exact h2
  apart := r.apart
  io := r.io
  len := by simp [r.len]
  nt := fun j a q h => r.nt j a q (h.upd ho)
  tk := fun a h => r.tk a (h.upd ho)
/-- a slot is forgotten -/
theorem SR.forget (r : SR K fr F H ρ σ fps) (i : Nat) : SR K fr F H (ρ.set i none) σ (fun j a => j ≠ i ∧ fps j a) where
  sub := r.sub
  le := r.le
  keep := r.keep
  tr := r.tr
  fresh := r.fresh
  slots := fun j s e => by
    rcases getSet e with ⟨e1, e2⟩ | ⟨e1, e2⟩
    · cases e2
    · obtain ⟨u, h1, h2⟩ := r.slots j s e2
      refine ⟨u, h1, ?_⟩
      have ef : (fun a => j ≠ i ∧ fps j a) = fps j := funext fun a => propext ⟨fun q => q.2, fun q => ⟨Ne.symm e1, q⟩⟩
      show SlotRep K F H s u (fun a => j ≠ i ∧ fps j a)
      rw [ef]
      exact h2
  own := fun j a q => r.own j a q.2
  apart := fun j k a q1 q2 => r.apart j k a q1.2 q2.2
  io := r.io
  len := by simp [r.len]
  nt := fun j a q => r.nt j a q.2
  tk := r.tk
end
end DL
/-! DL, part 2: the lifted readings, a def's promise over data, the call. -/
namespace DL
open PySem L2
abbrev XR := Value → Env → Prop
abbrev DE := Env → (Dat → Env → Prop) → XR → Prop
abbrev DO := Env → (Slot → Env → Prop) → XR → Prop
abbrev DT := Env → (Bool → Env → Prop) → XR → Prop
abbrev DA := Env → (List Dat → Env → Prop) → XR → Prop
structure DK where
  nx : Env → Prop
  rt : Slot → Env → Prop
  bk : Env → Prop
  ct : Env → Prop
  ex : XR
abbrev DS := DK → Env → Prop
abbrev DG := Dat → Env → (Env → Prop) → Prop
def Slot.toD : Slot → Option Dat
  | .d x => some x
  | .l xs => some (.lst xs)
  | .k kvs => some (.dk kvs)
  | .t kvs => some (.dt kvs)
  | .o w => w.dat
  | .h _ _ => none
  | .g _ => none
  | .hg _ _ _ => none
  | .xk hx kvs => some (.dx hx kvs)
/-- a new thing handed back -/
structure RetOk (K : Frag) (fr : Fr) (F H : Hp) (fps : Nat → Addr → Prop) (v : V) (r : Slot) (rf : Addr → Prop) : Prop where
  rep : SlotRep K F H r v rf
  own : ∀ a, rf a → F a = none ∧ H a ≠ none ∧ fr.H a = none
  apart : ∀ i a, rf a → ¬ fps i a
  nt : ∀ a, rf a → ¬ IsT H a
/-- what is fixed: the slots lent -/
abbrev Ios := List Nat × List Nat
structure FrOk (ios : Ios) (fr : Fr) : Prop where
  pins : ∀ p ∈ fr.ios, p.1 ∈ ios.1
  lent : ∀ i a, fr.io i a → i ∈ ios.2
  there : ∀ i a, fr.io i a → fr.H a ≠ none
def XOk (K : Frag) (W : WX) (fr : Fr) (σ : St) (X : XR) : Prop := ∀ cls F H ρ fps, SR K fr F H ρ σ fps → X cls ρ → W cls none σ H
def liftE (K : Frag) (W : WX) (ios : Ios) (d : DE) : TE := fun σ H Q => ∃ fr F ρ fps R X, FrOk ios fr ∧ SR K fr F H ρ σ fps ∧ d ρ R X ∧
  (∀ v F' H' x ρ' fps', SR K fr F' H' ρ' σ fps' → Same F F' → Rep K F' v x → R x ρ' → Q v H') ∧ XOk K W fr σ X
def liftO (K : Frag) (W : WX) (ios : Ios) (d : DO) : TE := fun σ H Q => ∃ fr F ρ fps R X, FrOk ios fr ∧ SR K fr F H ρ σ fps ∧ d ρ R X ∧
  (∀ v F' H' r rf ρ' fps', SR K fr F' H' ρ' σ fps' → Same F F' → RetOk K fr F' H' fps' v r rf → R r ρ' → Q v H') ∧ XOk K W fr σ X
def liftT (K : Frag) (W : WX) (ios : Ios) (d : DT) : TT := fun σ H Q => ∃ fr F ρ fps R X, FrOk ios fr ∧ SR K fr F H ρ σ fps ∧ d ρ R X ∧
  (∀ b F' H' ρ' fps', SR K fr F' H' ρ' σ fps' → Same F F' → R b ρ' → Q b H') ∧ XOk K W fr σ X
def liftA (K : Frag) (W : WX) (ios : Ios) (d : DA) : TA := fun σ H Q => ∃ fr F ρ fps R X, FrOk ios fr ∧ SR K fr F H ρ σ fps ∧ d ρ R X ∧
  (∀ vs F' H' xs ρ' fps', SR K fr F' H' ρ' σ fps' → Same F F' → Reps K F' vs xs → R xs ρ' → Q vs H') ∧ XOk K W fr σ X
structure SOk (K : Frag) (W : WX) (fr : Fr) (DD : DK) (D : Ends) : Prop where
  nx : ∀ F H ρ σ fps, SR K fr F H ρ σ fps → DD.nx ρ → D.nx σ H
  bk : ∀ F H ρ σ fps, SR K fr F H ρ σ fps → DD.bk ρ → D.bk σ H
  ct : ∀ F H ρ σ fps, SR K fr F H ρ σ fps → DD.ct ρ → D.ct σ H
  rt : ∀ F H ρ σ fps v r rf, SR K fr F H ρ σ fps → RetOk K fr F H fps v r rf → DD.rt r ρ → D.rt v H
  ex : ∀ cls F H ρ σ fps, SR K fr F H ρ σ fps → DD.ex cls ρ → W cls none σ H
def liftS (K : Frag) (W : WX) (ios : Ios) (d : DS) : TS := fun D σ H => ∃ fr F ρ fps DD, FrOk ios fr ∧ SR K fr F H ρ σ fps ∧ d DD ρ ∧ SOk K W fr DD D
section
variable (X : Cx) (W : WX) (ios : Ios)
abbrev JE (e : Expr) (d : DE) : Prop := PE X e (liftE X.K W ios d)
abbrev JO (e : Expr) (d : DO) : Prop := PE X e (liftO X.K W ios d)
abbrev JT (e : Expr) (d : DT) : Prop := PT X e (liftT X.K W ios d)
abbrev JW (e : Expr) (d : DT) : Prop := PW X e (liftT X.K W ios d)
abbrev JA (es : List Expr) (d : DA) : Prop := PA X es (liftA X.K W ios d)
abbrev JS (s : Stmt) (d : DS) : Prop := PS X s (liftS X.K W ios d)
abbrev JSs (ss : List Stmt) (d : DS) : Prop := PSs X ss (liftS X.K W ios d)
end
section
variable {X : Cx}
theorem pe_imp {e : Expr} {t t' : TE} (h : PE X e t) (i : ∀ σ H Q, t' σ H Q → t σ H Q) : PE X e t' := ⟨fun pins s σ H Q I q => h.run pins s σ H Q I (i _ _ _ q)⟩
theorem pt_imp {e : Expr} {t t' : TT} (h : PT X e t) (i : ∀ σ H Q, t' σ H Q → t σ H Q) : PT X e t' := ⟨fun pins s σ H Q I q => h.run pins s σ H Q I (i _ _ _ q)⟩
theorem pw_imp {e : Expr} {t t' : TT} (h : PW X e t) (i : ∀ σ H Q, t' σ H Q → t σ H Q) : PW X e t' := ⟨fun wh pins s σ H Q I q => h.run wh pins s σ H Q I (i _ _ _ q)⟩
theorem pa_imp {es : List Expr} {t t' : TA} (h : PA X es t) (i : ∀ σ H Q, t' σ H Q → t σ H Q) : PA X es t' := ⟨fun pos pins s σ H Q I q => h.run pos pins s σ H Q I (i _ _ _ q)⟩
theorem ps_imp {st : Stmt} {t t' : TS} (h : PS X st t) (i : ∀ D σ H, t' D σ H → t D σ H) : PS X st t' := ⟨fun pins s σ H D I q => h.run pins s σ H D I (i _ _ _ q)⟩
theorem pss_imp {st : List Stmt} {t t' : TS} (h : PSs X st t) (i : ∀ D σ H, t' D σ H → t D σ H) : PSs X st t' := ⟨fun pins s σ H D I q => h.run pins s σ H D I (i _ _ _ q)⟩
theorem pg_imp {e : Expr} {t t' : TG} (h : PG X e t) (i : ∀ v σ H Q, t' v σ H Q → t v σ H Q) : PG X e t' := ⟨fun pins s σ H x v Q I r q => h.run pins s σ H x v Q I r (i _ _ _ _ q)⟩
end
/-! ### arguments, some of them lent slots: pt says which (some i: slot i) -/
inductive VArgs (K : Frag) (F : Hp) (σ : St) : List (Option Nat) → List Dat → List V → Prop where
  | nil : VArgs K F σ [] [] []
  | slot {i : Nat} {v : V} {pt : List (Option Nat)} {xs : List Dat} {vs : List V} : σ[i]? = some (some v) → VArgs K F σ pt xs vs → VArgs K F σ (some i :: pt) xs (v :: vs)
  | dat {v : V} {x : Dat} {pt : List (Option Nat)} {xs : List Dat} {vs : List V} : Rep K F v x → VArgs K F σ pt xs vs → VArgs K F σ (none :: pt) (x :: xs) (v :: vs)
theorem VArgs.mono {K : Frag} {F F' : Hp} {σ : St} {pt : List (Option Nat)} {xs : List Dat} {vs : List V} (e : Same F F') (h : VArgs K F σ pt xs vs) : VArgs K F' σ pt xs vs := by
  induction h with
  | nil => exact .nil
  | slot h _ ih => exact .slot h ih
  | dat h _ ih => exact .dat (h.mono e) ih
def fillS (ρ : Env) : List (Option Nat) → List Dat → Option (List Slot)
  | [], [] => some []
  | some i :: pt, xs => match ρ[i]? with
    | some (some s) => (fillS ρ pt xs).map (s :: ·)
    | _ => none
  | none :: pt, x :: xs => (fillS ρ pt xs).map (.d x :: ·)
  | _, _ => none
def liftB (K : Frag) (W : WX) (ios : Ios) (pt : List (Option Nat)) (d : DA) : TA := fun σ H Q => ∃ fr F ρ fps R X, FrOk ios fr ∧ SR K fr F H ρ σ fps ∧ d ρ R X ∧
  (∀ vs F' H' xs ρ' fps', SR K fr F' H' ρ' σ fps' → Same F F' → VArgs K F' σ pt xs vs → R xs ρ' → Q vs H') ∧ XOk K W fr σ X
abbrev JB (X : Cx) (W : WX) (ios : Ios) (es : List Expr) (pt : List (Option Nat)) (d : DA) : Prop := PA X es (liftB X.K W ios pt d)
def iosFrom : Nat → List (Option Nat) → List Nat
  | _, [] => []
  | p, none :: pt => iosFrom (p + 1) pt
  | p, some _ :: pt => p :: iosFrom (p + 1) pt
def tgOf : List (Option Nat) → List Nat
  | [] => []
  | none :: pt => tgOf pt
  | some i :: pt => i :: tgOf pt
def outs (ios : List Nat) (ρ : Env) : List Slot := ios.filterMap fun i => (ρ[i]?).join
def putS (ρ : Env) : List Nat → List Slot → Env
  | i :: is, s :: ss => putS (ρ.set i (some s)) is ss
  | _, _ => ρ
abbrev DSpec := List Slot → (Slot → List Slot → Prop) → (Value → List Slot → Prop) → Prop
structure Args (K : Frag) (F : Hp) (ρ : Env) (σ : St) (pt : List (Option Nat)) (vs : List V) (as : List Slot) : Prop where
  lenV : vs.length = pt.length
  lenA : as.length = pt.length
  at_ : ∀ (p : Nat) (s : Slot) (v : V), as[p]? = some s → vs[p]? = some v → (∃ i, pt[p]? = some (some i) ∧ ρ[i]? = some (some s) ∧ σ[i]? = some (some v)) ∨ (pt[p]? = some none ∧ ∃ x, s = .d x ∧ Rep K F v x)
theorem args_of {K : Frag} {F : Hp} {ρ : Env} {σ : St} {pt : List (Option Nat)} {xs : List Dat} {vs : List V} (h : VArgs K F σ pt xs vs) : ∀ {as : List Slot}, fillS ρ pt xs = some as → Args K F ρ σ pt vs as := by
  induction h with
  | nil =>
    intro as e
    simp only [fillS] at e
    cases e
    exact ⟨rfl, rfl, fun p s v h => by simp at h⟩
  | @slot i v pt xs vs hσ _ ih =>
    intro as e
    simp only [fillS] at e
    split at e
    · rename_i s hs
      cases q : fillS ρ pt xs with
      | none => rw [q] at e; cases e
      | some r =>
        rw [q] at e
        cases e
        have a := ih q
        refine ⟨by simp [a.lenV], by simp [a.lenA], fun p s' v' h1 h2 => ?_⟩
        cases p with
        | zero =>
          simp at h1 h2
          subst h1; subst h2
          exact .inl ⟨i, rfl, hs, hσ⟩
        | succ p => exact a.at_ p s' v' (by simpa using h1) (by simpa using h2)
    · cases e
  | @dat v x pt xs vs hr _ ih =>
    intro as e
    simp only [fillS] at e
    cases q : fillS ρ pt xs with
    | none => rw [q] at e; cases e
    | some r =>
      rw [q] at e
      cases e
      have a := ih q
      refine ⟨by simp [a.lenV], by simp [a.lenA], fun p s' v' h1 h2 => ?_⟩
      cases p with
      | zero =>
        simp at h1 h2
        subst h1; subst h2
        exact .inr ⟨rfl, x, rfl, hr⟩
      | succ p => exact a.at_ p s' v' (by simpa using h1) (by simpa using h2)
theorem tg_at : ∀ (pt : List (Option Nat)) (n j i : Nat), (tgOf pt)[j]? = some i → ∃ p, (iosFrom n pt)[j]? = some (n + p) ∧ pt[p]? = some (some i)
  | [], n, j, i, h => by simp [tgOf] at h
  | none :: pt, n, j, i, h => by
    obtain ⟨p, h1, h2⟩ := tg_at pt (n + 1) j i h
    exact ⟨p + 1, by rw [show n + (p + 1) = n + 1 + p by omega]; exact h1, by simpa using h2⟩
  | some k :: pt, n, j, i, h => by
    cases j with
    | zero =>
      simp [tgOf] at h
      subst h
      exact ⟨0, rfl, rfl⟩
    | succ j =>
      obtain ⟨p, h1, h2⟩ := tg_at pt (n + 1) j i (by simpa [tgOf] using h)
      exact ⟨p + 1, by rw [show n + (p + 1) = n + 1 + p by omega]; simpa [iosFrom] using h1, by simpa using h2⟩
theorem tg_has : ∀ (pt : List (Option Nat)) (p i : Nat), pt[p]? = some (some i) → i ∈ tgOf pt
  | none :: pt, p, i, h => by
    cases p with
    | zero => simp at h
    | succ p => exact tg_has pt p i (by simpa using h)
  | some k :: pt, p, i, h => by
    cases p with
    | zero => simp at h; subst h; simp [tgOf]
    | succ p => exact List.mem_cons_of_mem _ (tg_has pt p i (by simpa using h))
theorem tg_inj : ∀ (pt : List (Option Nat)), (tgOf pt).Nodup → ∀ (p q i : Nat), pt[p]? = some (some i) → pt[q]? = some (some i) → p = q
  | none :: pt, nd, p, q, i, h1, h2 => by
    cases p with
    | zero => simp at h1
    | succ p =>
      cases q with
      | zero => simp at h2
      | succ q => rw [tg_inj pt nd p q i (by simpa using h1) (by simpa using h2)]
  | some k :: pt, nd, p, q, i, h1, h2 => by
    have nd' := List.nodup_cons.mp (show (k :: tgOf pt).Nodup from nd)
    cases p with
    | zero =>
      cases q with
      | zero => rfl
      | succ q =>
        simp at h1; subst h1
        exact absurd (tg_has pt q k (by simpa using h2)) nd'.1
    | succ p =>
      cases q with
      | zero =>
        simp at h2; subst h2
        exact absurd (tg_has pt p k (by simpa using h1)) nd'.1
      | succ q => rw [tg_inj pt nd'.2 p q i (by simpa using h1) (by simpa using h2)]
theorem putS_len : ∀ (is : List Nat) (ss : List Slot) (ρ : Env), (putS ρ is ss).length = ρ.length
  | [], ss, ρ => by cases ss <;> rfl
  | i :: is, [], ρ => rfl
  | i :: is, s :: ss, ρ => by
    show (putS (ρ.set i (some s)) is ss).length = _
    rw [putS_len is ss, List.length_set]
theorem putS_at : ∀ (is : List Nat) (ss : List Slot) (ρ : Env) (i : Nat) (s : Slot), ss.length = is.length → is.Nodup → (putS ρ is ss)[i]? = some (some s) → (∃ j : Nat, is[j]? = some i ∧ ss[j]? = some s) ∨ (i ∉ is ∧ ρ[i]? = some (some s))
  | [], ss, ρ, i, s, hl, nd, h => by
    cases ss with
    | nil => exact .inr ⟨by simp, h⟩
    | cons _ _ => simp at hl
  | k :: is, [], ρ, i, s, hl, nd, h => by simp at hl
  | k :: is, t :: ss, ρ, i, s, hl, nd, h => by
    have nd' := List.nodup_cons.mp nd
    rcases putS_at is ss (ρ.set k (some t)) i s (by simpa using hl) nd'.2 h with ⟨j, h1, h2⟩ | ⟨h1, h2⟩
    · exact .inl ⟨j + 1, by simpa using h1, by simpa using h2⟩
    · rcases getSet h2 with ⟨e1, e2⟩ | ⟨e1, e2⟩
      · subst e1
        cases e2
        exact .inl ⟨0, rfl, rfl⟩
      · exact .inr ⟨by simp; exact ⟨fun z => e1 z.symm, h1⟩, e2⟩
theorem outs_at : ∀ (ios : List Nat) (ρ : Env), (outs ios ρ).length = ios.length → ∀ (j : Nat) (s : Slot), (outs ios ρ)[j]? = some s → ∃ p, ios[j]? = some p ∧ ρ[p]? = some (some s)
  | [], ρ, _, j, s, h => by simp [outs] at h
  | p :: ios, ρ, hl, j, s, h => by
    unfold outs at hl h
    rw [List.filterMap_cons] at hl h
    have hle : (ios.filterMap fun i => (ρ[i]?).join).length ≤ ios.length := List.length_filterMap_le _ _
    split at hl
    · simp only [List.length_cons] at hl; omega
    · rename_i t ht
      rw [ht] at h
      have hl' : (outs ios ρ).length = ios.length := by simp only [List.length_cons] at hl; unfold outs; omega
      cases j with
      | zero =>
        simp at h
        subst h
        refine ⟨p, rfl, ?_⟩
        cases q : ρ[p]? with
        | none => rw [q] at ht; cases ht
        | some o =>
          rw [q] at ht
          simp at ht
          rw [ht]
      | succ j =>
        obtain ⟨p', h1, h2⟩ := outs_at ios ρ hl' j s (by unfold outs; simpa using h)
        exact ⟨p', by simpa using h1, h2⟩
theorem mem_ios : ∀ {pt : List (Option Nat)} {n p i : Nat}, pt[p]? = some (some i) → n + p ∈ iosFrom n pt
  | none :: pt, n, p, i, h => by
    cases p with
    | zero => simp at h
    | succ p => rw [show n + (p + 1) = n + 1 + p by omega]; exact mem_ios (pt := pt) (n := n + 1) (by simpa using h)
  | some k :: pt, n, p, i, h => by
    cases p with
    | zero => simp [iosFrom]
    | succ p =>
      rw [show n + (p + 1) = n + 1 + p by omega]
      exact List.mem_cons_of_mem _ (mem_ios (pt := pt) (n := n + 1) (by simpa using h))
/-! ### the promise -/
def iosV (ios : List Nat) (vs : List V) : List (Nat × V) := ios.filterMap fun i => (vs[i]?).map fun v => (i, v)
theorem iosV_mem {ios : List Nat} {vs : List V} {p : Nat × V} (h : p ∈ iosV ios vs) : p.1 ∈ ios ∧ vs[p.1]? = some p.2 := by
  obtain ⟨i, hi, e⟩ := List.mem_filterMap.mp h
  cases q : vs[i]? with
  | none => rw [q] at e; cases e
  | some v => rw [q] at e; cases e; exact ⟨hi, q⟩
theorem iosV_of {ios : List Nat} {vs : List V} {i : Nat} {v : V} (hi : i ∈ ios) (hv : vs[i]? = some v) : (i, v) ∈ iosV ios vs := List.mem_filterMap.mpr ⟨i, hi, by rw [hv]; rfl⟩
def frOf (F H : Hp) (fps : Nat → Addr → Prop) (ios : List Nat) (vs : List V) : Fr := ⟨F, H, fps, iosV ios vs⟩
def spD (K : Frag) (ios : List Nat) (S : DSpec) : Sp := fun vs H Q E => ∃ F args fps R X, (∀ i a, fps i a → i ∈ ios) ∧ SR K (frOf F H fps ios vs) F H (args.map some) (vs.map some) fps ∧ S args R X ∧
  (∀ F' H' ρ' σ' fps' v r rf, SR K (frOf F H fps ios vs) F' H' ρ' σ' fps' → RetOk K (frOf F H fps ios vs) F' H' fps' v r rf → R r (outs ios ρ') → Q v H') ∧
  (∀ cls F' H' ρ' σ' fps', SR K (frOf F H fps ios vs) F' H' ρ' σ' fps' → X cls (outs ios ρ') → E cls none H')
/-- a callee is entered -/
theorem SR.enter {K : Frag} {fr : Fr} {F H : Hp} {ρ : Env} {σ : St} {fps : Nat → Addr → Prop} {pt : List (Option Nat)} {vs : List V} {as : List Slot} (r : SR K fr F H ρ σ fps) (a : Args K F ρ σ pt vs as) (nd : (tgOf pt).Nodup) :
    SR K (frOf F H (fun p b => ∃ i, pt[p]? = some (some i) ∧ fps i b) (iosFrom 0 pt) vs) F H (as.map some) (vs.map some) (fun p b => ∃ i, pt[p]? = some (some i) ∧ fps i b) where
  sub := r.sub
  le := Same.refl F
  keep := fun a o e _ => e
  tr := fun a e => e
  fresh := fun a e => .inl e
  slots := fun p s e => by
    rw [List.getElem?_map] at e
    cases q : as[p]? with
    | none => rw [q] at e; cases e
    | some s' =>
      rw [q] at e
      cases e
      have hp : p < as.length := (List.getElem?_eq_some_iff.mp q).1
      have hv : p < vs.length := by rw [a.lenV, ← a.lenA]; exact hp
      refine ⟨vs[p], by rw [List.getElem?_map, List.getElem?_eq_getElem hv]; rfl, ?_⟩
      rcases a.at_ p s _ q (List.getElem?_eq_getElem hv) with ⟨i, h1, h2, h3⟩ | ⟨h1, x, e, h2⟩
      · obtain ⟨v, h4, h5⟩ := r.slots i s h2
        rw [h3] at h4
        cases h4
        have ef : (fun b => ∃ i, pt[p]? = some (some i) ∧ fps i b) = fps i := funext fun b => propext ⟨fun ⟨j, e1, e2⟩ => by rw [h1] at e1; cases e1; exact e2, fun z => ⟨i, h1, z⟩⟩
        show SlotRep K F H s vs[p] (fun b => ∃ i, pt[p]? = some (some i) ∧ fps i b)
        rw [ef]
        exact h5
      · subst e
        exact ⟨h2, fun b ⟨j, e1, _⟩ => by rw [h1] at e1; cases e1⟩
  own := fun p b ⟨i, h1, h2⟩ => ⟨(r.own i b h2).1, (r.own i b h2).2.1, .inr ⟨i, h1, h2⟩⟩
  apart := fun p q b ⟨i, h1, h2⟩ ⟨j, h3, h4⟩ => by
    have e := r.apart i j b h2 h4
    subst e
    exact tg_inj pt nd p q i h1 h3
  io := fun p hp => by
    obtain ⟨_, h⟩ := iosV_mem hp
    rw [List.getElem?_map, h]
    rfl
  len := by rw [List.length_map, List.length_map, a.lenA, a.lenV]
  nt := fun p b ⟨i, h1, h2⟩ => r.nt i b h2
  tk := fun a h => .inr h
/-- and left -/
theorem SR.back {K : Frag} {fr : Fr} {F H F' H' : Hp} {ρ ρ' : Env} {σ σ' : St} {fps fps' : Nat → Addr → Prop} {pt : List (Option Nat)} {vs : List V} {as : List Slot} (r : SR K fr F H ρ σ fps) (a : Args K F ρ σ pt vs as) (nd : (tgOf pt).Nodup)
    (c : SR K (frOf F H (fun p b => ∃ i, pt[p]? = some (some i) ∧ fps i b) (iosFrom 0 pt) vs) F' H' ρ' σ' fps') (hl : (outs (iosFrom 0 pt) ρ').length = (tgOf pt).length) (hi : (iosFrom 0 pt).length = (tgOf pt).length) :
    SR K fr F' H' (putS ρ (tgOf pt) (outs (iosFrom 0 pt) ρ')) σ (fun i b => (∃ p, pt[p]? = some (some i) ∧ fps' p b) ∨ (i ∉ tgOf pt ∧ fps i b)) := by
  have keepO : ∀ i b, i ∉ tgOf pt → fps i b → H' b = H b := fun i b hn hb => by
    obtain ⟨_, h2, _⟩ := r.own i b hb
    cases q : H b with
    | none => exact absurd q h2
    | some o =>
      refine c.keep b o q fun p ⟨j, h3, h4⟩ => ?_
      have e := r.apart i j b hb h4
      subst e
      exact hn (tg_has pt p i h3)
  have ownC : ∀ p i b, pt[p]? = some (some i) → fps' p b → F' b = none ∧ H' b ≠ none ∧ (H b = none ∨ ∃ j, pt[p]? = some (some j) ∧ fps j b) := fun p i b _ hb => c.own p b hb
  refine ⟨c.sub, r.le.trans c.le, fun b o e n => ?_, fun b e => c.tr b (r.tr b e), fun b e => ?_, fun i s e => ?_, fun i b hb => ?_, fun i j b h1 h2 => ?_, r.io, by rw [putS_len]; exact r.len, fun i b hb hT => ?_, fun b hT => ?_⟩
  · refine c.keep b o (r.keep b o e n) fun p ⟨j, _, h4⟩ => ?_
    rcases (r.own j b h4).2.2 with z | z
    · rw [z] at e; cases e
    · exact n j z
  · rcases c.fresh b e with h | h | h
    · exact r.fresh b h
    · right; left
      cases q : fr.H b with
      | none => rfl
      | some o => exact absurd h (r.tr b (by rw [q]; exact fun z => nomatch z))
    · exact .inr (r.tk b h)
  · rcases putS_at _ _ _ _ _ hl nd e with ⟨j, h1, h2⟩ | ⟨h1, h2⟩
    · obtain ⟨p, h3, h4⟩ := tg_at pt 0 j i h1
      obtain ⟨q, h5, h6⟩ := outs_at _ _ (hl.trans hi.symm) j s h2
      rw [h3] at h5
      cases h5
      rw [Nat.zero_add] at h6 h3
      obtain ⟨v, h7, h8⟩ := c.slots p s h6
      have hp : p < vs.length := by rw [a.lenV]; exact (List.getElem?_eq_some_iff.mp h4).1
      have hm : p ∈ iosFrom 0 pt := by simpa using mem_ios (n := 0) h4
      have h9 := c.io (p, vs[p]) (iosV_of hm (List.getElem?_eq_getElem hp))
      have h9 : σ'[p]? = some (some vs[p]) := h9
      rw [h7] at h9
      cases h9
      have ha : p < as.length := by rw [a.lenA]; exact (List.getElem?_eq_some_iff.mp h4).1
      rcases a.at_ p as[p] vs[p] (List.getElem?_eq_getElem ha) (List.getElem?_eq_getElem hp) with ⟨i', g1, g2, g3⟩ | ⟨g1, _⟩
      · rw [h4] at g1
        cases g1
        refine ⟨vs[p], g3, ?_⟩
        have ef : (fun b => (∃ p, pt[p]? = some (some i) ∧ fps' p b) ∨ (i ∉ tgOf pt ∧ fps i b)) = fps' p := funext fun b => propext ⟨fun z => by
          rcases z with ⟨q, z1, z2⟩ | ⟨z1, _⟩
          · rw [tg_inj pt nd p q i h4 z1]; exact z2
          · exact absurd (tg_has pt p i h4) z1, fun z => .inl ⟨p, h4, z⟩⟩
        rw [ef]
        exact h8
      · rw [h4] at g1; cases g1
    · obtain ⟨v, h3, h4⟩ := r.slots i s h2
      refine ⟨v, h3, ?_⟩
      have ef : (fun b => (∃ p, pt[p]? = some (some i) ∧ fps' p b) ∨ (i ∉ tgOf pt ∧ fps i b)) = fps i := funext fun b => propext ⟨fun z => by
        rcases z with ⟨q, z1, _⟩ | ⟨_, z⟩
        · exact absurd (tg_has pt q i z1) h1
        · exact z, fun z => .inr ⟨h1, z⟩⟩
      rw [ef]
      exact h4.stay c.le fun b hb => keepO i b h1 hb
  · rcases hb with ⟨p, h1, h2⟩ | ⟨h1, h2⟩
    · obtain ⟨g1, g2, g3⟩ := ownC p i b h1 h2
      refine ⟨g1, g2, ?_⟩
      rcases g3 with z | ⟨j, hj, z⟩
      · left
        cases w : fr.H b with
        | none => rfl
        | some o => exact absurd z (r.tr b (by rw [w]; exact fun z => nomatch z))
      · rw [h1] at hj
        cases hj
        exact (r.own i b z).2.2
    · obtain ⟨g1, g2, g3⟩ := r.own i b h2
      refine ⟨?_, by rw [keepO i b h1 h2]; exact g2, g3⟩
      cases w : F' b with
      | none => rfl
      | some o =>
        rcases c.fresh b (by rw [w]; exact fun z => nomatch z) with h | h | h
        · exact absurd g1 h
        · exact absurd h g2
        · exact absurd h (r.nt i b h2)
  · have key : ∀ i j b p, pt[p]? = some (some i) → fps' p b → j ∉ tgOf pt → fps j b → False := fun i j b p h1 h2 h3 h4 => by
      obtain ⟨_, _, g3⟩ := ownC p i b h1 h2
      rcases g3 with z | ⟨k, z1, z2⟩
      · exact (r.own j b h4).2.1 z
      · have e := r.apart k j b z2 h4
        subst e
        exact h3 (tg_has pt p k z1)
    rcases h1 with ⟨p, h1, h1'⟩ | ⟨h1, h1'⟩
    · rcases h2 with ⟨q, h2, h2'⟩ | ⟨h2, h2'⟩
      · have e := c.apart p q b h1' h2'
        subst e
        rw [h1] at h2
        cases h2
        rfl
      · exact (key i j b p h1 h1' h2 h2').elim
    · rcases h2 with ⟨q, h2, h2'⟩ | ⟨h2, h2'⟩
      · exact (key j i b q h2 h2' h1 h1').elim
      · exact r.apart i j b h1' h2'
  · rcases hb with ⟨p, h1, h2⟩ | ⟨h1, h2⟩
    · exact c.nt p b h2 hT
    · obtain ⟨xs, hx⟩ := hT
      exact r.nt i b h2 ⟨xs, by rw [← keepO i b h1 h2]; exact hx⟩
  · rcases c.tk b hT with h | h
    · left
      cases q : fr.H b with
      | none => rfl
      | some o => exact absurd h (r.tr b (by rw [q]; exact fun z => nomatch z))
    · exact r.tk b h
theorem ios_tg : ∀ (pt : List (Option Nat)) (n : Nat), (iosFrom n pt).length = (tgOf pt).length
  | [], _ => rfl
  | none :: pt, n => ios_tg pt (n + 1)
  | some _ :: pt, n => congrArg (· + 1) (ios_tg pt (n + 1))
/-- a def of the text, by its promise over data -/
def Has (P : Program) (w : World) (K : Frag) (mg : Str → Option Value) (base : Heap) (k : Nat) (x : Str) (ps : List Str) (ios : List Nat) (S : DSpec) : Prop :=
  ∃ f fd, FnOk P w K mg base (L2.CX P w) k f fd ps (spD K ios S) ∧ mg x = some (.ref f) ∧ PySem.W.keepIn K (.ref f) = true ∧ Binds K fd ps []
theorem Has.mono {P : Program} {w : World} {K : Frag} {mg : Str → Option Value} {base : Heap} {j k : Nat} {x : Str} {ps : List Str} {ios : List Nat} {S : DSpec} (h : Has P w K mg base j x ps ios S) (l : j ≤ k) : Has P w K mg base k x ps ios S := by
  obtain ⟨f, fd, h1, h2⟩ := h
  exact ⟨f, fd, h1.mono l, h2⟩
theorem spD_imp {K : Frag} {ios : List Nat} {S S' : DSpec} (h : ∀ a R X, S' a R X → S a R X) : ∀ vs H Q E, spD K ios S' vs H Q E → spD K ios S vs H Q E := fun vs H Q E ⟨F, args, fps, R, X, h0, h1, h2, h3⟩ => ⟨F, args, fps, R, X, h0, h1, h _ _ _ h2, h3⟩
theorem Has.imp {P : Program} {w : World} {K : Frag} {mg : Str → Option Value} {base : Heap} {k : Nat} {x : Str} {ps : List Str} {ios : List Nat} {S S' : DSpec} (h : Has P w K mg base k x ps ios S) (i : ∀ a R X, S' a R X → S a R X) : Has P w K mg base k x ps ios S' := by
  obtain ⟨f, fd, h1, h2⟩ := h
  exact ⟨f, fd, h1.imp (spD_imp i), h2⟩
def dCallO (pt : List (Option Nat)) (S : DSpec) (da : DA) : DO := fun ρ R X => da ρ (fun xs ρ1 => ∃ args, fillS ρ1 pt xs = some args ∧
  S args (fun r os => os.length = (tgOf pt).length ∧ R r (putS ρ1 (tgOf pt) os)) (fun c os => os.length = (tgOf pt).length ∧ X c (putS ρ1 (tgOf pt) os))) X
/-- either now, or behind the locking of one thing (a dict that becomes still is locked for good) -/
def Lk (H : Hp) (Q : Hp → Prop) : Prop := Q H ∨ ∃ d u, H d = some u ∧ Mut (some u) ∧ ∀ od, Q (upd H d (.frz od u))
theorem pe_lockA {X : Cx} {e : Expr} {t : TE} (h : PE X e t) : PE X e (fun σ H Q => t σ H fun v H1 => Lk H1 fun H2 => Q v H2) := ⟨fun pins s σ H Q I q => thn (h.run pins s σ H _ I q) fun v s1 ⟨x, H1, I1, r, q1⟩ => by
  rcases q1 with q1 | ⟨d, u, hd, mu, q1⟩
  · exact ⟨x, H1, I1, r, q1⟩
  · obtain ⟨od, I2⟩ := I1.lock hd mu
    exact ⟨x, _, I2, r, q1 od⟩⟩
theorem ps_lockA {X : Cx} {st : Stmt} {t : TS} (h : PS X st t) : PS X st (fun D σ H => t { D with nx := fun σ1 H1 => Lk H1 fun H2 => D.nx σ1 H2 } σ H) := ⟨fun pins s σ H D I q => thn (h.run pins s σ H _ I q) fun f s1 q => by
  cases f with
  | next =>
    obtain ⟨σ', H', I2, q⟩ := q
    rcases q with q | ⟨d, u, hd, mu, q⟩
    · exact ⟨σ', _, I2, q⟩
    · obtain ⟨od, I3⟩ := I2.lock hd mu
      exact ⟨σ', _, I3, q od⟩
  | brk => exact q
  | cont => exact q
  | ret v => exact q⟩
/-- a thing of one's own becomes still -/
theorem RetOk.still {K : Frag} {fr : Fr} {F H : Hp} {ρ : Env} {σ : St} {fps : Nat → Addr → Prop} {v : V} {r : Slot} {rf : Addr → Prop} {x : Dat} (h : RetOk K fr F H fps v r rf) (s : SR K fr F H ρ σ fps) (e : r.toD = some x) :
    Lk H fun H2 => ∃ F', SR K fr F' H2 ρ σ fps ∧ Same F F' ∧ Rep K F' v x := by
  have lay : ∀ (p : Addr) (o : HO), H p = some o → (∀ a, rf a ↔ a = p) → SR K fr (upd F p o) H ρ σ fps ∧ Same F (upd F p o) := fun p o hp hf => by
    obtain ⟨g1, g2, g3⟩ := h.own p ((hf p).mpr rfl)
    have sm : Same F (upd F p o) := same_upd g1 o
    refine ⟨⟨fun a u q => ?_, s.le.trans sm, s.keep, s.tr, fun a q => ?_, fun i t q => ?_, fun i a q => ?_, s.apart, s.io, s.len, s.nt, s.tk⟩, sm⟩
    · by_cases c : a = p
      · subst c; rw [upd_same] at q; cases q; exact hp
      · rw [upd_ne c] at q; exact s.sub a u q
    · by_cases c : a = p
      · subst c; exact .inr (.inl g3)
      · rw [upd_ne c] at q; exact s.fresh a q
    · obtain ⟨u, q1, q2⟩ := s.slots i t q
      exact ⟨u, q1, q2.stay sm fun _ _ => rfl⟩
    · obtain ⟨q1, q2, q3⟩ := s.own i a q
      refine ⟨?_, q2, q3⟩
      rw [upd_ne]
      · exact q1
      · intro z
        subst z
        exact h.apart i a ((hf a).mpr rfl) q
  have layL : ∀ (p : Addr) (o : HO), (∀ xs, o ≠ .tup xs) → (∀ a, rf a ↔ a = p) → SR K fr (upd F p o) (upd H p o) ρ σ fps ∧ Same F (upd F p o) := fun p o ho hf => by
    obtain ⟨g1, g2, g3⟩ := h.own p ((hf p).mpr rfl)
    have sm : Same F (upd F p o) := same_upd g1 o
    have ne : ∀ i a, fps i a → a ≠ p := fun i a q z => by subst z; exact h.apart i a ((hf a).mpr rfl) q
    refine ⟨⟨fun a u q => ?_, s.le.trans sm, fun a u q n => ?_, fun a q z => ?_, fun a q => ?_, fun i t q => ?_, fun i a q => ?_, s.apart, s.io, s.len, fun i a q h => s.nt i a q (h.upd ho), fun a h => s.tk a (h.upd ho)⟩, sm⟩
    · by_cases c : a = p
      · subst c; rw [upd_same] at q ⊢; exact q
      · rw [upd_ne c] at q ⊢; exact s.sub a u q
    · rw [upd_ne (fun z => by subst z; rw [g3] at q; cases q)]; exact s.keep a u q n
    · by_cases c : a = p
      · subst c; rw [upd_same] at z; cases z
      · rw [upd_ne c] at z; exact s.tr a q z
    · by_cases c : a = p
      · subst c; exact .inr (.inl g3)
      · rw [upd_ne c] at q; exact s.fresh a q
    · obtain ⟨u, q1, q2⟩ := s.slots i t q
      exact ⟨u, q1, q2.stay sm fun a ha => upd_ne (ne i a ha)⟩
    · obtain ⟨q1, q2, q3⟩ := s.own i a q
      rw [upd_ne (ne i a q), upd_ne (ne i a q)]
      exact ⟨q1, q2, q3⟩
  have hr := h.rep
  cases r with
  | d y => cases e; exact .inl ⟨F, s, Same.refl F, hr.1⟩
  | l xs =>
    cases e
    obtain ⟨p, vs, rfl, hp, q, f⟩ := hr
    obtain ⟨h1, h2⟩ := lay p _ hp f
    exact .inl ⟨_, h1, h2, .lst upd_same q.len (q.mono h2).at_⟩
  | k kvs =>
    cases e
    obtain ⟨p, vs, rfl, hp, q, f⟩ := hr
    refine .inr ⟨p, _, hp, trivial, fun od => ?_⟩
    obtain ⟨h1, h2⟩ := layL p (.frz od (.dK vs)) (fun _ h => nomatch h) f
    exact ⟨_, h1, h2, .dk upd_same q.keys (q.mono h2).at_⟩
  | t kvs =>
    cases e
    obtain ⟨p, vs, rfl, hp, q, f⟩ := hr
    refine .inr ⟨p, _, hp, trivial, fun od => ?_⟩
    obtain ⟨h1, h2⟩ := layL p (.frz od (.dT vs)) (fun _ h => nomatch h) f
    exact ⟨_, h1, h2, .dt upd_same q.keys (q.mono h2).at_⟩
  | h C S => cases e
  | g G => cases e
  | hg C S G => cases e
  | xk hx kvs =>
    cases e
    obtain ⟨p, vs, rfl, hp, q, f⟩ := hr
    refine .inr ⟨p, _, hp, trivial, fun od => ?_⟩
    obtain ⟨h1, h2⟩ := layL p (.frz od (.ext (XD hx p vs))) (fun _ h => nomatch h) f
    exact ⟨_, h1, h2, .dx upd_same q.keys (q.mono h2).own (q.mono h2).at_⟩
  | o w =>
    obtain ⟨p, o, hp, f, hw⟩ := w.frz e hr
    obtain ⟨h1, h2⟩ := lay p _ hp f
    exact .inl ⟨_, h1, h2, hw _ h2 upd_same⟩
theorem Lk.imp {H : Hp} {Q Q' : Hp → Prop} (h : Lk H Q) (i : ∀ H, Q H → Q' H) : Lk H Q' := by
  rcases h with h | ⟨d, u, h1, h2, h3⟩
  · exact .inl (i _ h)
  · exact .inr ⟨d, u, h1, h2, fun od => i _ (h3 od)⟩
section
variable {X : Cx} {W : WX} {ios : Ios}
/-- a new thing, taken as data -/
def dStill (d : DO) : DE := fun ρ R X => d ρ (fun r ρ1 => ∃ x, r.toD = some x ∧ R x ρ1) X
theorem je_still {e : Expr} {d : DO} (h : JO X W ios e d) : JE X W ios e (dStill d) := pe_imp (pe_lockA h) fun σ H Q ⟨fr, F, ρ, fps, R, XX, ok, sr, hd, hq, hx⟩ =>
  ⟨fr, F, ρ, fps, _, XX, ok, sr, hd, fun v F' H' r rf ρ' fps' s' sm ro ⟨x, e, hr⟩ => (ro.still s' e).imp fun H2 ⟨F2, s2, sm2, rp⟩ => hq v F2 H2 x ρ' fps' s2 (sm.trans sm2) rp hr, hx⟩
theorem jo_call {k : Nat} {x : Str} {ps : List Str} {cios : List Nat} {S : DSpec} {p pos : Pos} {e : Expr} {es : List Expr} {pt : List (Option Nat)} {da : DA} (h : Has X.prog X.w X.K X.mg X.base k x ps cios S) (hr : Room k X.A) (tk : Takes X W) (ha : JB X W ios (e :: es) pt da)
    (hi : iosFrom 0 pt = cios := by rfl) (nd : (tgOf pt).Nodup := by decide) (hg : Gl X x := by rfl) (hdb : (x == ("__debug__" : Str)) = false := by decide) (he : starEach (e :: es) X.env = (false, eval e X.env) :: starEach es X.env := by rfl) (hpl : (backTo pos (starEach es X.env)).any (·.1) = false := by rfl) :
    JO X W ios (.Call (.Name x p) (e :: es) [] pos) (dCallO pt S da) := by
  obtain ⟨f, fd, F, hm, hk, hb⟩ := h
  subst hi
  refine pe_imp (pe_callS F hr hg hm hk hb (fun σ => passAt tk σ) ha hdb he hpl) fun σ H Q ⟨fr, F0, ρ, fps, R, XX, ok, sr, hd, hq, hx⟩ => ?_
  refine ⟨fr, F0, ρ, fps, _, XX, ok, sr, hd, fun vs F1 H1 xs ρ1 fps1 s1 sm va ⟨as, hf, hS⟩ => ?_, hx⟩
  have a := args_of va hf
  refine ⟨F1, as, _, _, _, fun p b ⟨i, h1, _⟩ => by simpa using mem_ios (n := 0) h1, s1.enter a nd, hS, fun F2 H2 ρ2 σ2 fps2 v r rf c ro ⟨hl, hR⟩ => ?_, fun cls F2 H2 ρ2 σ2 fps2 c ⟨hl, hX⟩ => ?_⟩
  · have b := s1.back a nd c hl (ios_tg pt 0)
    refine hq v F2 H2 r rf _ _ b (sm.trans c.le) ⟨ro.rep, fun z hz => ?_, fun i z hz hc => ?_, ro.nt⟩ hR
    · obtain ⟨g1, g2, g3⟩ := ro.own z hz
      refine ⟨g1, g2, ?_⟩
      cases q : fr.H z with
      | none => rfl
      | some o => exact absurd g3 (s1.tr z (by rw [q]; exact fun z => nomatch z))
    · rcases hc with ⟨q, _, h2⟩ | ⟨_, h2⟩
      · exact ro.apart q z hz h2
      · exact (s1.own i z h2).2.1 (ro.own z hz).2.2
  · exact hx cls F2 H2 _ _ (s1.back a nd c hl (ios_tg pt 0)) hX
end
/-! ### the def -/
theorem SR.pad {K : Frag} {fr : Fr} {F H : Hp} {ρ : Env} {σ : St} {fps : Nat → Addr → Prop} (r : SR K fr F H ρ σ fps) (n : Nat) (hf : ∀ i a, ρ.length ≤ i → ¬ fps i a) : SR K fr F H (ρ ++ List.replicate n none) (σ ++ List.replicate n none) fps where
  sub := r.sub
  le := r.le
  keep := r.keep
  tr := r.tr
  fresh := r.fresh
  slots := fun i s e => by
    by_cases c : i < ρ.length
    · rw [List.getElem?_append_left c] at e
      obtain ⟨v, h1, h2⟩ := r.slots i s e
      exact ⟨v, by rw [List.getElem?_append_left (by rw [← r.len]; exact c)]; exact h1, h2⟩
    · rw [List.getElem?_append_right (by omega), List.getElem?_replicate] at e
      split at e <;> cases e
  own := r.own
  apart := r.apart
  io := fun p hp => by
    have h := r.io p hp
    rw [List.getElem?_append_left (List.getElem?_eq_some_iff.mp h).1]
    exact h
  len := by simp [r.len]
  nt := r.nt
  tk := r.tk
theorem SR.cut {K : Frag} {fr : Fr} {F H : Hp} {ρ : Env} {σ : St} {fps : Nat → Addr → Prop} (r : SR K fr F H ρ σ fps) : ∃ fps', SR K fr F H ρ σ fps' ∧ (∀ i a, fps' i a → fps i a) ∧ (∀ i a, ρ.length ≤ i → ¬ fps' i a) := by
  refine ⟨fun i a => i < ρ.length ∧ fps i a, ⟨r.sub, r.le, r.keep, r.tr, r.fresh, fun i s e => ?_, fun i a h => r.own i a h.2, fun i j a h1 h2 => r.apart i j a h1.2 h2.2, r.io, r.len, fun i a h => r.nt i a h.2, r.tk⟩, fun i a h => h.2, fun i a h q => by omega⟩
  obtain ⟨v, h1, h2⟩ := r.slots i s e
  have hi : i < ρ.length := (List.getElem?_eq_some_iff.mp e).1
  have ef : (fun a => i < ρ.length ∧ fps i a) = fps i := funext fun a => propext ⟨fun z => z.2, fun z => ⟨hi, z⟩⟩
  refine ⟨v, h1, ?_⟩
  show SlotRep K F H s v (fun a => i < ρ.length ∧ fps i a)
  rw [ef]
  exact h2
def kOf (ios : List Nat) (R : Slot → List Slot → Prop) (X : Value → List Slot → Prop) : DK := ⟨fun ρ => R (.d .non) (outs ios ρ), fun r ρ => R r (outs ios ρ), fun _ => False, fun _ => False, fun c ρ => X c (outs ios ρ)⟩
theorem frOf_ok {F H : Hp} {fps : Nat → Addr → Prop} {ios : List Nat} {vs : List V} (h : ∀ i a, fps i a → i ∈ ios) (ht : ∀ i a, fps i a → H a ≠ none) : FrOk (ios, ios) (frOf F H fps ios vs) := ⟨fun p hp => (iosV_mem hp).1, h, ht⟩
end DL
/-! DL, part 3: expressions. -/
namespace DL
open PySem L2
section
variable {X : Cx} {W : WX} {ios : Ios}
/-! ### names, constants -/
def dVar (i : Nat) : DE := fun ρ R _ => ∃ x, ρ[i]? = some (some (.d x)) ∧ R x ρ
def dC (x : Dat) : DE := fun ρ R _ => R x ρ
theorem je_var (i : Nat) {x : Str} {pos : Pos} (hN : X.N[i]? = some x := by rfl) (hv : Vis X.env.scope x := by first | exact Or.inl rfl | exact Or.inr (Or.inl rfl) | exact Or.inr (Or.inr rfl)) (hd : (x == ("__debug__" : Str)) = false := by decide)
    (hcd : (x == ("__classdict__" : Str)) = false := by decide) : JE X W ios (.Name x pos) (dVar i) := pe_imp (pe_var hN hv hd hcd) fun σ H Q ⟨fr, F, ρ, fps, R, XX, ok, sr, ⟨x, e, hR⟩, hq, hx⟩ => by
  obtain ⟨v, h1, h2⟩ := sr.slots i _ e
  exact ⟨v, h1, hq v F H x ρ fps sr (Same.refl F) h2.1 hR⟩
theorem je_c {e : Expr} {v : V} {x : Dat} (h : PE X e (tC v)) (hr : ∀ F, Rep X.K F v x) : JE X W ios e (dC x) := pe_imp h fun σ H Q ⟨fr, F, ρ, fps, R, XX, ok, sr, hR, hq, hx⟩ => hq v F H x ρ fps sr (Same.refl F) (hr F) hR
theorem je_int {i j pos} : JE X W ios (.Constant (.int i) j pos) (dC (.int i)) := je_c pe_int fun _ => .int i
theorem je_str {x j pos} : JE X W ios (.Constant (.str x) j pos) (dC (.str x)) := je_c pe_str fun _ => .str x
theorem je_bl {b j pos} : JE X W ios (.Constant (.bool b) j pos) (dC (.bl b)) := je_c pe_bl fun _ => .bl b
theorem je_non {j pos} : JE X W ios (.Constant .none j pos) (dC .non) := je_c pe_non fun _ => .non
/-! ### operators by data -/
abbrev F2 := Dat → Dat → (Dat → Prop) → Prop
def OLink (K : Frag) (r : R2) (g : F2) : Prop := ∀ F H x y vx vy T Q, Same F H → Rep K F vx x → Rep K F vy y → g x y T → (∀ v F' H' z, Grow F H F' H' → Rep K F' v z → T z → Q v H') → r vx vy H Q
def dOp (g : F2) (da db : DE) : DE := fun ρ R X => da ρ (fun x ρ1 => db ρ1 (fun y ρ2 => g x y fun z => R z ρ2) X) X
theorem lift_op {r : R2} {g : F2} {da db : DE} (hl : OLink X.K r g) (σ : St) (H : Hp) (Q : VK) (h : liftE X.K W ios (dOp g da db) σ H Q) : tOp r (liftE X.K W ios da) (liftE X.K W ios db) σ H Q := by
  obtain ⟨fr, F, ρ, fps, R, XX, ok, sr, hd, hq, hx⟩ := h
  refine ⟨fr, F, ρ, fps, _, XX, ok, sr, hd, fun vx F1 H1 x ρ1 fps1 s1 m1 r1 hd1 => ?_, hx⟩
  refine ⟨fr, F1, ρ1, fps1, _, XX, ok, s1, hd1, fun vy F2 H2 y ρ2 fps2 s2 m2 r2 hg => ?_, hx⟩
  exact hl F2 H2 x y vx vy _ Q s2.sub (r1.mono m2) r2 hg fun v F3 H3 z gr r3 hR => hq v F3 H3 z ρ2 fps2 (s2.grow gr) ((m1.trans m2).trans gr.ff) r3 hR
theorem je_bin {op : Operator} {r : R2} {g : F2} {a b : Expr} {da db : DE} {pos : Pos} (ho : OpR X (binaryOp op) r) (hl : OLink X.K r g) (ha : JE X W ios a da) (hb : JE X W ios b db) : JE X W ios (.BinOp a op b pos) (dOp g da db) :=
  pe_imp (pe_op ho ha hb) (lift_op hl)
theorem je_cmp {op : CmpOp} {r : R2} {g : F2} {a b : Expr} {da db : DE} {pos : Pos} (ho : OpR X (compareOp op) r) (hl : OLink X.K r g) (ha : JE X W ios a da) (hb : JE X W ios b db) (hm : behindInMarks op b = false := by first | exact nomark _ | rfl) :
    JE X W ios (.Compare a [op] [b] pos) (dOp g da db) := pe_imp (pe_cmpR ho ha hb hm) (lift_op hl)
/-- a value that is a truth, as a test -/
def dTest (d : DE) : DT := fun ρ R X => d ρ (fun x ρ1 => ∃ b, x = .bl b ∧ R b ρ1) X
theorem lift_test {t : TE} {d : DE} (h : ∀ σ H Q, liftE X.K W ios d σ H Q → t σ H Q) (σ : St) (H : Hp) (Q : Bool → Hp → Prop) (q : liftT X.K W ios (dTest d) σ H Q) : tTest t σ H Q := by
  obtain ⟨fr, F, ρ, fps, R, XX, ok, sr, hd, hq, hx⟩ := q
  refine h σ H _ ⟨fr, F, ρ, fps, _, XX, ok, sr, hd, fun v F1 H1 x ρ1 fps1 s1 m1 r1 ⟨b, e, hR⟩ => ?_, hx⟩
  subst e
  cases r1
  exact ⟨b, rfl, hq b F1 H1 ρ1 fps1 s1 m1 hR⟩
theorem jt_cmp {op : CmpOp} {r : R2} {g : F2} {a b : Expr} {da db : DE} {pos : Pos} (ho : OpR X (compareOp op) r) (hl : OLink X.K r g) (ha : JE X W ios a da) (hb : JE X W ios b db) (hm : behindInMarks op b = false := by first | exact nomark _ | rfl) :
    JT X W ios (.Compare a [op] [b] pos) (dTest (dOp g da db)) := pt_imp (pt_cmpR ho ha hb hm) (lift_test (lift_op hl))
theorem jt_val {e : Expr} {d : DE} (h : JE X W ios e d) (he : ∀ whole, isTrue e X.env whole = (do let v ← whole; standAt e.pos; holding [v] (truthy v)) := by intro _; rfl) : JT X W ios e (dTest d) :=
  pt_imp (pt_val h he) (lift_test (t := liftE X.K W ios d) fun _ _ _ q => q)
/-- a < b < c -/
def dChain (g g' : F2) (da db dc : DE) : DE := fun ρ R X => da ρ (fun x ρ1 => db ρ1 (fun y ρ2 => g x y fun z => ∃ b, z = .bl b ∧ (if b = true then dc ρ2 (fun u ρ3 => g' y u fun z => R z ρ3) X else R (.bl false) ρ2)) X) X
theorem lift_chain {r r' : R2} {g g' : F2} {da db dc : DE} (hl : OLink X.K r g) (hl' : OLink X.K r' g') (σ : St) (H : Hp) (Q : VK) (h : liftE X.K W ios (dChain g g' da db dc) σ H Q) :
    tChain r r' (liftE X.K W ios da) (liftE X.K W ios db) (liftE X.K W ios dc) σ H Q := by
  obtain ⟨fr, F, ρ, fps, R, XX, ok, sr, hd, hq, hx⟩ := h
  refine ⟨fr, F, ρ, fps, _, XX, ok, sr, hd, fun vx F1 H1 x ρ1 fps1 s1 m1 r1 hd1 => ?_, hx⟩
  refine ⟨fr, F1, ρ1, fps1, _, XX, ok, s1, hd1, fun vy F2 H2 y ρ2 fps2 s2 m2 r2 hg => ?_, hx⟩
  refine hl F2 H2 x y vx vy _ _ s2.sub (r1.mono m2) r2 hg fun v F3 H3 z gr r3 ⟨b, e, hR⟩ => ?_
  subst e
  cases r3
  refine ⟨b, rfl, ?_⟩
  have s3 := s2.grow gr
  cases b with
  | false =>
    rw [if_neg Bool.false_ne_true] at hR ⊢
    exact hq _ F3 H3 _ ρ2 fps2 s3 ((m1.trans m2).trans gr.ff) (.bl false) hR
  | true =>
    rw [if_pos rfl] at hR ⊢
    refine ⟨fr, F3, ρ2, fps2, _, XX, ok, s3, hR, fun vu F4 H4 u ρ4 fps4 s4 m4 r4 hg' => ?_, hx⟩
    exact hl' F4 H4 y u vy vu _ Q s4.sub ((r2.mono gr.ff).mono m4) r4 hg' fun v F5 H5 z gr5 r5 hR5 => hq v F5 H5 z ρ4 fps4 (s4.grow gr5) ((((m1.trans m2).trans gr.ff).trans m4).trans gr5.ff) r5 hR5
theorem je_chain {op op' : CmpOp} {r r' : R2} {g g' : F2} {a b c : Expr} {da db dc : DE} {pos : Pos} (ho : OpR X (compareOp op) r) (hl : OLink X.K r g) (ho' : OpR X (compareOp op') r') (hl' : OLink X.K r' g')
    (ha : JE X W ios a da) (hb : JE X W ios b db) (hc : JE X W ios c dc) (hm : lastMarks [op, op'] [b, c] = false := by rfl) : JE X W ios (.Compare a [op, op'] [b, c] pos) (dChain g g' da db dc) := pe_imp (pe_chain ho ho' ha hb hc hm) (lift_chain hl hl')
/-! ### and, or, not -/
def dAndV (da db : DE) : DE := fun ρ R X => da ρ (fun x ρ1 => ∃ c, x = .bl c ∧ if c = true then db ρ1 R X else R (.bl false) ρ1) X
def dOrV (da db : DE) : DE := fun ρ R X => da ρ (fun x ρ1 => ∃ c, x = .bl c ∧ if c = true then R (.bl true) ρ1 else db ρ1 R X) X
def dNotV (da : DE) : DE := fun ρ R X => da ρ (fun x ρ1 => ∃ c, x = .bl c ∧ R (.bl (!c)) ρ1) X
theorem je_one {op} {a : Expr} {d : DE} {pos : Pos} (h : JE X W ios a d) : JE X W ios (.BoolOp op [a] pos) d := pe_one h
theorem je_and {a b : Expr} {rest : List Expr} {da db : DE} {pos : Pos} (ha : JE X W ios a da) (hb : JE X W ios (.BoolOp .And (b :: rest) pos) db) : JE X W ios (.BoolOp .And (a :: b :: rest) pos) (dAndV da db) :=
  pe_imp (pe_and ha hb) fun σ H Q ⟨fr, F, ρ, fps, R, XX, ok, sr, hd, hq, hx⟩ => ⟨fr, F, ρ, fps, _, XX, ok, sr, hd, fun v F1 H1 x ρ1 fps1 s1 m1 r1 ⟨c, e, hR⟩ => by
    subst e
    cases r1
    refine ⟨c, rfl, ?_⟩
    cases c with
    | false =>
      rw [if_neg Bool.false_ne_true] at hR ⊢
      exact hq _ F1 H1 _ ρ1 fps1 s1 m1 (.bl false) hR
    | true =>
      rw [if_pos rfl] at hR ⊢
      exact ⟨fr, F1, ρ1, fps1, R, XX, ok, s1, hR, fun v F2 H2 x ρ2 fps2 s2 m2 r2 h2 => hq v F2 H2 x ρ2 fps2 s2 (m1.trans m2) r2 h2, hx⟩, hx⟩
theorem je_not {a : Expr} {da : DE} {pos : Pos} (ha : JE X W ios a da) : JE X W ios (.UnaryOp .Not a pos) (dNotV da) :=
  pe_imp (pe_not ha) fun σ H Q ⟨fr, F, ρ, fps, R, XX, ok, sr, hd, hq, hx⟩ => ⟨fr, F, ρ, fps, _, XX, ok, sr, hd, fun v F1 H1 x ρ1 fps1 s1 m1 r1 ⟨c, e, hR⟩ => by
    subst e
    cases r1
    exact ⟨c, rfl, hq _ F1 H1 _ ρ1 fps1 s1 m1 (.bl _) hR⟩, hx⟩
def dAnd (da db : DT) : DT := fun ρ R X => da ρ (fun c ρ1 => if c = true then db ρ1 R X else R false ρ1) X
def dOr (da db : DT) : DT := fun ρ R X => da ρ (fun c ρ1 => if c = true then R true ρ1 else db ρ1 R X) X
def dNot (da : DT) : DT := fun ρ R X => da ρ (fun c ρ1 => R (!c) ρ1) X
theorem jw_pt {e : Expr} {d : DT} (h : JW X W ios e d) : JT X W ios e d := PW.pt h
theorem jw_and1 {a : Expr} {d : DT} {pos : Pos} (h : JT X W ios a d) : JW X W ios (.BoolOp .And [a] pos) d := pw_and1 h
theorem jw_or1 {a : Expr} {d : DT} {pos : Pos} (h : JT X W ios a d) : JW X W ios (.BoolOp .Or [a] pos) d := pw_or1 h
theorem jw_and {a b : Expr} {rest : List Expr} {da db : DT} {pos : Pos} (ha : JT X W ios a da) (hb : JW X W ios (.BoolOp .And (b :: rest) pos) db) : JW X W ios (.BoolOp .And (a :: b :: rest) pos) (dAnd da db) :=
  pw_imp (pw_and ha hb) fun σ H Q ⟨fr, F, ρ, fps, R, XX, ok, sr, hd, hq, hx⟩ => ⟨fr, F, ρ, fps, _, XX, ok, sr, hd, fun c F1 H1 ρ1 fps1 s1 m1 hR => by
    cases c with
    | false =>
      rw [if_neg Bool.false_ne_true] at hR ⊢
      exact hq _ F1 H1 ρ1 fps1 s1 m1 hR
    | true =>
      rw [if_pos rfl] at hR ⊢
      exact ⟨fr, F1, ρ1, fps1, R, XX, ok, s1, hR, fun b F2 H2 ρ2 fps2 s2 m2 h2 => hq b F2 H2 ρ2 fps2 s2 (m1.trans m2) h2, hx⟩, hx⟩
theorem jw_or {a b : Expr} {rest : List Expr} {da db : DT} {pos : Pos} (ha : JT X W ios a da) (hb : JW X W ios (.BoolOp .Or (b :: rest) pos) db) : JW X W ios (.BoolOp .Or (a :: b :: rest) pos) (dOr da db) :=
  pw_imp (pw_or ha hb) fun σ H Q ⟨fr, F, ρ, fps, R, XX, ok, sr, hd, hq, hx⟩ => ⟨fr, F, ρ, fps, _, XX, ok, sr, hd, fun c F1 H1 ρ1 fps1 s1 m1 hR => by
    cases c with
    | true =>
      rw [if_pos rfl] at hR ⊢
      exact hq _ F1 H1 ρ1 fps1 s1 m1 hR
    | false =>
      rw [if_neg Bool.false_ne_true] at hR ⊢
      exact ⟨fr, F1, ρ1, fps1, R, XX, ok, s1, hR, fun b F2 H2 ρ2 fps2 s2 m2 h2 => hq b F2 H2 ρ2 fps2 s2 (m1.trans m2) h2, hx⟩, hx⟩
theorem jt_not {a : Expr} {d : DT} {pos : Pos} (h : JT X W ios a d) : JT X W ios (.UnaryOp .Not a pos) (dNot d) :=
  pt_imp (pt_not h) fun σ H Q ⟨fr, F, ρ, fps, R, XX, ok, sr, hd, hq, hx⟩ => ⟨fr, F, ρ, fps, _, XX, ok, sr, hd, fun c F1 H1 ρ1 fps1 s1 m1 hR => hq _ F1 H1 ρ1 fps1 s1 m1 hR, hx⟩
/-! ### arguments -/
def dNil : DA := fun ρ R _ => R [] ρ
def dCons (d : DE) (ds : DA) : DA := fun ρ R X => d ρ (fun x ρ1 => ds ρ1 (fun xs ρ2 => R (x :: xs) ρ2) X) X
theorem ja_nil : JA X W ios [] dNil := pa_imp pa_nil fun σ H Q ⟨fr, F, ρ, fps, R, XX, ok, sr, hd, hq, hx⟩ => hq [] F H [] ρ fps sr (Same.refl F) Reps.nil hd
theorem ja_cons {e : Expr} {es : List Expr} {d : DE} {ds : DA} (he : JE X W ios e d) (hs : JA X W ios es ds) (h1 : starEach (e :: es) X.env = (false, eval e X.env) :: starEach es X.env := by rfl) : JA X W ios (e :: es) (dCons d ds) :=
  pa_imp (pa_cons he hs h1) fun σ H Q ⟨fr, F, ρ, fps, R, XX, ok, sr, hd, hq, hx⟩ => ⟨fr, F, ρ, fps, _, XX, ok, sr, hd, fun v F1 H1 x ρ1 fps1 s1 m1 r1 hd1 =>
    ⟨fr, F1, ρ1, fps1, _, XX, ok, s1, hd1, fun vs F2 H2 xs ρ2 fps2 s2 m2 r2 hR => hq (v :: vs) F2 H2 (x :: xs) ρ2 fps2 s2 (m1.trans m2) (Reps.cons (r1.mono m2) r2) hR, hx⟩, hx⟩
theorem jb_nil : JB X W ios [] [] dNil := pa_imp pa_nil fun σ H Q ⟨fr, F, ρ, fps, R, XX, ok, sr, hd, hq, hx⟩ => hq [] F H [] ρ fps sr (Same.refl F) .nil hd
theorem jb_cons {e : Expr} {es : List Expr} {d : DE} {ds : DA} {pt : List (Option Nat)} (he : JE X W ios e d) (hs : JB X W ios es pt ds) (h1 : starEach (e :: es) X.env = (false, eval e X.env) :: starEach es X.env := by rfl) : JB X W ios (e :: es) (none :: pt) (dCons d ds) :=
  pa_imp (pa_cons he hs h1) fun σ H Q ⟨fr, F, ρ, fps, R, XX, ok, sr, hd, hq, hx⟩ => ⟨fr, F, ρ, fps, _, XX, ok, sr, hd, fun v F1 H1 x ρ1 fps1 s1 m1 r1 hd1 =>
    ⟨fr, F1, ρ1, fps1, _, XX, ok, s1, hd1, fun vs F2 H2 xs ρ2 fps2 s2 m2 r2 hR => hq (v :: vs) F2 H2 (x :: xs) ρ2 fps2 s2 (m1.trans m2) (.dat (r1.mono m2) r2) hR, hx⟩, hx⟩
def dLend (i : Nat) (ds : DA) : DA := fun ρ R X => (∃ s, ρ[i]? = some (some s)) ∧ ds ρ R X
theorem jb_slot (i : Nat) {x : Str} {pos : Pos} {es : List Expr} {ds : DA} {pt : List (Option Nat)} (hs : JB X W ios es pt ds) (hN : X.N[i]? = some x := by rfl) (hv : Vis X.env.scope x := by first | exact Or.inl rfl | exact Or.inr (Or.inl rfl) | exact Or.inr (Or.inr rfl)) (hd : (x == ("__debug__" : Str)) = false := by decide)
    (hcd : (x == ("__classdict__" : Str)) = false := by decide) (h1 : starEach (.Name x pos :: es) X.env = (false, eval (.Name x pos) X.env) :: starEach es X.env := by rfl) : JB X W ios (.Name x pos :: es) (some i :: pt) (dLend i ds) :=
  pa_imp (pa_cons (pe_var hN hv hd hcd) hs h1) fun σ H Q ⟨fr, F, ρ, fps, R, XX, ok, sr, ⟨⟨s, e⟩, hd⟩, hq, hx⟩ => by
    obtain ⟨v, g1, g2⟩ := sr.slots i s e
    exact ⟨v, g1, fr, F, ρ, fps, R, XX, ok, sr, hd, fun vs F2 H2 xs ρ2 fps2 s2 m2 r2 hR => hq (v :: vs) F2 H2 xs ρ2 fps2 s2 m2 (.slot g1 r2) hR, hx⟩
/-! ### displays -/
def dTup (d : DA) : DE := fun ρ R X => d ρ (fun xs ρ1 => xs.length ≤ sizeLine ∧ R (.tup xs) ρ1) X
def dLst (d : DA) : DO := fun ρ R X => d ρ (fun xs ρ1 => xs.length ≤ sizeLine ∧ R (.l xs) ρ1) X
theorem je_tup {es : List Expr} {k} {pos : Pos} {d : DA} (h : JA X W ios es d) : JE X W ios (.Tuple es k pos) (dTup d) :=
  pe_imp (pe_tup h) fun σ H Q ⟨fr, F, ρ, fps, R, XX, ok, sr, hd, hq, hx⟩ => ⟨fr, F, ρ, fps, _, XX, ok, sr, hd, fun vs F1 H1 xs ρ1 fps1 s1 m1 r1 ⟨hz, hR⟩ =>
    ⟨by rw [r1.len]; exact hz, fun p hp => by
      have g := Grow.lay (o := .tup vs) s1.sub hp
      exact hq _ _ _ (.tup xs) ρ1 fps1 (s1.grow g) (m1.trans g.ff) (.tup upd_same r1.len (r1.mono g.ff).at_) hR⟩, hx⟩
/-- a new list at p -/
theorem retL {K : Frag} {fr : Fr} {F H : Hp} {ρ : Env} {σ : St} {fps : Nat → Addr → Prop} {p : Addr} {vs : List V} {xs : List Dat} (s : SR K fr F H ρ σ fps) (hp : H p = none) (r : Reps K F vs xs) :
    SR K fr F (upd H p (.lst vs)) ρ σ fps ∧ RetOk K fr F (upd H p (.lst vs)) fps (.ref p) (.l xs) (fun a => a = p) := by
  refine ⟨s.grow (Grow.own s.sub hp), ⟨⟨p, vs, rfl, upd_same, r, fun a => Iff.rfl⟩, fun a ha => ?_, fun i a ha hi => ?_, fun a ha => by subst ha; exact notT (fun _ h => nomatch h)⟩⟩
  · subst ha
    refine ⟨s.sub.free hp, (by rw [upd_same]; exact (fun z => nomatch z)), ?_⟩
    cases q : fr.H a with
    | none => rfl
    | some o => exact absurd hp (s.tr a (by rw [q]; exact fun z => nomatch z))
  · subst ha
    exact (s.own i a hi).2.1 hp
theorem jo_lst {es : List Expr} {pos : Pos} {d : DA} (h : JA X W ios es d) : JO X W ios (.List es pos) (dLst d) :=
  pe_imp (pe_lst h) fun σ H Q ⟨fr, F, ρ, fps, R, XX, ok, sr, hd, hq, hx⟩ => ⟨fr, F, ρ, fps, _, XX, ok, sr, hd, fun vs F1 H1 xs ρ1 fps1 s1 m1 r1 ⟨hz, hR⟩ =>
    ⟨by rw [r1.len]; exact hz, fun p hp => by
      obtain ⟨a, b⟩ := retL s1 hp r1
      exact hq _ _ _ _ _ ρ1 fps1 a m1 b hR⟩, hx⟩
theorem je_lst {es : List Expr} {pos : Pos} {d : DA} (h : JA X W ios es d) : JE X W ios (.List es pos) (dStill (dLst d)) := je_still (jo_lst h)
def dDict0 : DO := fun ρ R _ => R (.k []) ρ
def dDictT : DO := fun ρ R _ => R (.t []) ρ
theorem retK {K : Frag} {fr : Fr} {F H : Hp} {ρ : Env} {σ : St} {fps : Nat → Addr → Prop} {p : Addr} {ws : List (Key × V)} {kvs : List (Key × Dat)} (s : SR K fr F H ρ σ fps) (hp : H p = none) (r : RepsK K F ws kvs) :
    SR K fr F (upd H p (.dK ws)) ρ σ fps ∧ RetOk K fr F (upd H p (.dK ws)) fps (.ref p) (.k kvs) (fun a => a = p) := by
  refine ⟨s.grow (Grow.own s.sub hp), ⟨⟨p, ws, rfl, upd_same, r, fun a => Iff.rfl⟩, fun a ha => ?_, fun i a ha hi => ?_, fun a ha => by subst ha; exact notT (fun _ h => nomatch h)⟩⟩
  · subst ha
    refine ⟨s.sub.free hp, (by rw [upd_same]; exact (fun z => nomatch z)), ?_⟩
    cases q : fr.H a with
    | none => rfl
    | some o => exact absurd hp (s.tr a (by rw [q]; exact fun z => nomatch z))
  · subst ha
    exact (s.own i a hi).2.1 hp
theorem repsK0 {κ : Type} {K : Frag} {F : Hp} : RepsK (κ := κ) K F [] [] := ⟨rfl, fun i k k' v x h => by simp at h⟩
theorem jo_dict0 {pos : Pos} : JO X W ios (.Dict [] [] pos) dDict0 := pe_imp pe_dnewK fun σ H Q ⟨fr, F, ρ, fps, R, XX, ok, sr, hd, hq, hx⟩ => fun p hp => by
  obtain ⟨a, b⟩ := retK sr hp (repsK0 (K := X.K) (F := F))
  exact hq _ _ _ _ _ ρ fps a (Same.refl F) b hd
/-! ### arithmetic -/
def fAdd : F2
  | .int i, .int j, T => T (.int (i + j))
  | .str a, .str b, T => a.length + b.length ≤ sizeLine ∧ T (.str (a ++ b))
  | .lst xs, .lst ys, T => xs.length + ys.length ≤ sizeLine ∧ T (.lst (xs ++ ys))
  | .tup xs, .tup ys, T => xs.length + ys.length ≤ sizeLine ∧ T (.tup (xs ++ ys))
  | _, _, _ => False
abbrev R2or (r r' : R2) : R2 := fun x y H Q => r x y H Q ∨ r' x y H Q
def rAddA (K : Frag) : R2 := R2or (rI0 fun i j => .int (i + j)) (R2or (fun x y H Q => ∃ i j, x = .str i ∧ y = .str j ∧ i.length + j.length ≤ sizeLine ∧ Q (.str (i ++ j)) H) (R2or rCat (rCatA K)))
theorem op_addA : OpR X (binaryOp .Add) (rAddA X.K) := op_add.or (op_add_str.or (op_cat.or op_catA))
theorem ol_add : OLink X.K (rAddA X.K) fAdd := by
  intro F H x y vx vy T Q s rx ry h k
  cases x <;> cases y <;> try exact h.elim
  case int.int i j =>
    cases rx; cases ry
    exact .inl ⟨i, j, rfl, rfl, k _ F H _ (Grow.refl s) (.int _) h⟩
  case str.str a b =>
    cases rx; cases ry
    exact .inr (.inl ⟨a, b, rfl, rfl, h.1, k _ F H _ (Grow.refl s) (.str _) h.2⟩)
  case lst.lst xs ys =>
    cases rx with
    | @lst a vs _ ha la ra =>
      cases ry with
      | @lst b ws _ hb lb rb =>
        refine .inr (.inr (.inl ⟨a, b, vs, ws, rfl, rfl, s _ _ ha, s _ _ hb, by rw [la, lb]; exact h.1, fun p hp => ?_⟩))
        have g := Grow.lay (o := .lst (vs ++ ws)) s hp
        have r := (Reps.append (⟨la, ra⟩ : Reps X.K F vs xs) (⟨lb, rb⟩ : Reps X.K F ws ys)).mono g.ff
        exact k _ _ _ _ g (.lst upd_same r.len r.at_) h.2
  case tup.tup xs ys =>
    cases rx with
    | @tup a vs _ ha la ra =>
      cases ry with
      | @tup b ws _ hb lb rb =>
        refine .inr (.inr (.inr ⟨a, b, vs, ws, rfl, rfl, SqT.of (s _ _ ha), SqT.of (s _ _ hb), by rw [la, lb]; exact h.1, fun e => ?_, fun _ e => ?_, fun _ _ p hp => ?_⟩))
        · have ex : xs = [] := List.eq_nil_of_length_eq_zero (by rw [← la, e]; rfl)
          subst ex
          exact k _ F H _ (Grow.refl s) (.tup hb lb rb) h.2
        · have ex : ys = [] := List.eq_nil_of_length_eq_zero (by rw [← lb, e]; rfl)
          subst ex
          have q := h.2
          rw [List.append_nil] at q
          exact k _ F H _ (Grow.refl s) (.tup ha la ra) q
        · have g := Grow.lay (o := .tup (vs ++ ws)) s hp
          have r := (Reps.append (⟨la, ra⟩ : Reps X.K F vs xs) (⟨lb, rb⟩ : Reps X.K F ws ys)).mono g.ff
          exact k _ _ _ _ g (.tup upd_same r.len r.at_) h.2
/-- ints to an int -/
def fI (C : Int → Int → Prop) (g : Int → Int → Int) : F2
  | .int i, .int j, T => C i j ∧ T (.int (g i j))
  | _, _, _ => False
theorem ol_I {C : Int → Int → Prop} {g : Int → Int → Int} : OLink X.K (rI C fun i j => .int (g i j)) (fI C g) := by
  intro F H x y vx vy T Q s rx ry h k
  cases x <;> cases y <;> try exact h.elim
  case int.int i j =>
    cases rx; cases ry
    exact ⟨i, j, rfl, rfl, h.1, k _ F H _ (Grow.refl s) (.int _) h.2⟩
def fSub : F2
  | .int i, .int j, T => T (.int (i - j))
  | _, _, _ => False
theorem ol_sub : OLink X.K (rI0 fun i j => .int (i - j)) fSub := by
  intro F H x y vx vy T Q s rx ry h k
  cases x <;> cases y <;> try exact h.elim
  case int.int i j =>
    cases rx; cases ry
    exact ⟨i, j, rfl, rfl, k _ F H _ (Grow.refl s) (.int _) h⟩
theorem op_mulM : OpR X (binaryOp .Mult) (rI IntMulOk fun i j => .int (i * j)) := opI fun _ _ _ _ _ _ _ hc q => PyProof.Rows.mul_int q hc
theorem op_mulS : OpR X (binaryOp .Mult) (fun x y H Q => ∃ a k, x = .str a ∧ y = .int k ∧ PySem.MulOk a k ∧ Q (.str (Txt.mul a k)) H) := by
  intro pins s σ H x y v u Q I rx ry h
  obtain ⟨a, k, rfl, rfl, hc, q⟩ := h
  obtain ⟨t, rfl⟩ := rx
  obtain ⟨t', rfl⟩ := ry
  exact SB.mul hc fun t2 k2 => ⟨.str _, H, I.tok _, ⟨_, rfl⟩, q⟩
def rMulA : R2 := R2or (rI IntMulOk fun i j => .int (i * j)) (R2or (fun x y H Q => ∃ a k, x = .str a ∧ y = .int k ∧ PySem.MulOk a k ∧ Q (.str (Txt.mul a k)) H) rRep)
theorem op_mulA : OpR X (binaryOp .Mult) rMulA := op_mulM.or (op_mulS.or op_rep)
def repD (xs : List Dat) (k : Int) : List Dat := (List.replicate k.toNat xs).flatten
def fMul : F2
  | .int i, .int j, T => IntMulOk i j ∧ T (.int (i * j))
  | .str a, .int k, T => PySem.MulOk a k ∧ T (.str (Txt.mul a k))
  | .lst xs, .int k, T => -(2 ^ 63) ≤ k ∧ k < 2 ^ 63 ∧ xs.length * k.toNat ≤ sizeLine ∧ T (.lst (repD xs k))
  | _, _, _ => False
theorem Reps.rep {K : Frag} {F : Hp} {vs : List V} {xs : List Dat} (r : Reps K F vs xs) : ∀ n : Nat, Reps K F (List.replicate n vs).flatten (List.replicate n xs).flatten
  | 0 => Reps.nil
  | n + 1 => by
    rw [List.replicate_succ, List.replicate_succ, List.flatten_cons, List.flatten_cons]
    exact r.append (Reps.rep r n)
theorem ol_mul : OLink X.K rMulA fMul := by
  intro F H x y vx vy T Q s rx ry h k
  cases x <;> cases y <;> try exact h.elim
  case int.int i j =>
    cases rx; cases ry
    exact .inl ⟨i, j, rfl, rfl, h.1, k _ F H _ (Grow.refl s) (.int _) h.2⟩
  case str.int a n =>
    cases rx; cases ry
    exact .inr (.inl ⟨a, n, rfl, rfl, h.1, k _ F H _ (Grow.refl s) (.str _) h.2⟩)
  case lst.int xs n =>
    cases ry
    cases rx with
    | @lst a vs _ ha la ra =>
      obtain ⟨h1, h2, h3, h4⟩ := h
      refine .inr (.inr ⟨a, n, vs, rfl, rfl, s _ _ ha, h1, h2, by rw [la]; exact h3, fun p hp => ?_⟩)
      have g := Grow.lay (o := .lst (List.replicate n.toNat vs).flatten) s hp
      have r := (Reps.rep (⟨la, ra⟩ : Reps X.K F vs xs) n.toNat).mono g.ff
      exact k _ _ _ _ g (.lst upd_same r.len r.at_) h4
def DivOk (_ j : Int) : Prop := 0 < j ∧ j.natAbs.log2 < 9000
abbrev fFdiv : F2 := fI DivOk fun i j => i / j
abbrev fMod : F2 := fI (fun _ j => 0 < j) fun i j => i % j
abbrev fPow : F2 := fI CPow fun i j => i ^ j.toNat
abbrev fShl : F2 := fI CPow fun i j => i * 2 ^ j.toNat
theorem op_fdivD : OpR X (binaryOp .FloorDiv) (rI DivOk fun i j => .int (i / j)) := op_fdivW
section
variable {a b : Expr} {da db : DE} {pos : Pos}
theorem je_add (ha : JE X W ios a da) (hb : JE X W ios b db) : JE X W ios (.BinOp a .Add b pos) (dOp fAdd da db) := je_bin op_addA ol_add ha hb
theorem je_sub (ha : JE X W ios a da) (hb : JE X W ios b db) : JE X W ios (.BinOp a .Sub b pos) (dOp fSub da db) := je_bin op_sub ol_sub ha hb
theorem je_mul (ha : JE X W ios a da) (hb : JE X W ios b db) : JE X W ios (.BinOp a .Mult b pos) (dOp fMul da db) := je_bin op_mulA ol_mul ha hb
theorem je_fdiv (ha : JE X W ios a da) (hb : JE X W ios b db) : JE X W ios (.BinOp a .FloorDiv b pos) (dOp fFdiv da db) := je_bin op_fdivD ol_I ha hb
theorem je_mod (ha : JE X W ios a da) (hb : JE X W ios b db) : JE X W ios (.BinOp a .Mod b pos) (dOp fMod da db) := je_bin op_mod ol_I ha hb
theorem je_pow (ha : JE X W ios a da) (hb : JE X W ios b db) : JE X W ios (.BinOp a .Pow b pos) (dOp fPow da db) := je_bin op_pow ol_I ha hb
theorem je_shl (ha : JE X W ios a da) (hb : JE X W ios b db) : JE X W ios (.BinOp a .LShift b pos) (dOp fShl da db) := je_bin op_shl ol_I ha hb
end
def dNeg (da : DE) : DE := fun ρ R X => da ρ (fun x ρ1 => ∃ i, x = .int i ∧ R (.int (-i)) ρ1) X
theorem je_neg {a : Expr} {da : DE} {pos : Pos} (ha : JE X W ios a da) : JE X W ios (.UnaryOp .USub a pos) (dNeg da) :=
  pe_imp (pe_un un_neg ha) fun σ H Q ⟨fr, F, ρ, fps, R, XX, ok, sr, hd, hq, hx⟩ => ⟨fr, F, ρ, fps, _, XX, ok, sr, hd, fun v F1 H1 x ρ1 fps1 s1 m1 r1 ⟨i, e, hR⟩ => by
    subst e
    cases r1
    exact ⟨i, rfl, hq _ F1 H1 _ ρ1 fps1 s1 m1 (.int _) hR⟩, hx⟩
/-! ### comparisons -/
def fB (g : Int → Int → Bool) : F2
  | .int i, .int j, T => T (.bl (g i j))
  | _, _, _ => False
theorem ol_B {g : Int → Int → Bool} : OLink X.K (rI0 fun i j => .bl (g i j)) (fB g) := by
  intro F H x y vx vy T Q s rx ry h k
  cases x <;> cases y <;> try exact h.elim
  case int.int i j =>
    cases rx; cases ry
    exact ⟨i, j, rfl, rfl, k _ F H _ (Grow.refl s) (.bl _) h⟩
abbrev fLt : F2 := fB fun i j => decide (i < j)
abbrev fLe : F2 := fB fun i j => decide (i ≤ j)
abbrev fGt : F2 := fB fun i j => decide (j < i)
abbrev fGe : F2 := fB fun i j => decide (j ≤ i)
mutual
def py : Dat → PyData
  | .non => .none | .bl b => .bool b | .int i => .int i | .str s => .str s
  | .lst xs => .list (pys xs) | .tup xs => .tuple (pys xs)
  | .dk _ => .dict [] | .dt _ => .dict [] | .dx _ _ => .dict [] | .scr _ => .dict [] | .ptr _ => .dict []
def pys : List Dat → List PyData
  | [] => []
  | x :: xs => py x :: pys xs
end
mutual
theorem dp_of {K : Frag} {F H : Hp} (s : Same F H) : ∀ {x : Dat} {v : V}, Rep K F v x → (py x).canLay0 = true → Dp K H v (py x)
  | .non, _, h, _ => by cases h; exact .non
  | .bl b, _, h, _ => by cases h; exact .bl b
  | .int i, _, h, _ => by cases h; exact .int i
  | .str z, _, h, _ => by cases h; exact .str z
  | .lst xs, _, h, c => by
    cases h with
    | lst h l r => exact .lst (SqL.of (s _ _ h)) (dps_of s ⟨l, r⟩ (by simpa [py, PyData.canLay0] using c))
  | .tup xs, _, h, c => by
    cases h with
    | tup h l r => exact .tup (SqT.of (s _ _ h)) (dps_of s ⟨l, r⟩ (by simpa [py, PyData.canLay0] using c))
  | .dk _, _, _, c => by simp [py, PyData.canLay0] at c
  | .dt _, _, _, c => by simp [py, PyData.canLay0] at c
  | .dx _ _, _, _, c => by simp [py, PyData.canLay0] at c
  | .scr _, _, _, c => by simp [py, PyData.canLay0] at c
  | .ptr _, _, _, c => by simp [py, PyData.canLay0] at c
theorem dps_of {K : Frag} {F H : Hp} (s : Same F H) : ∀ {xs : List Dat} {vs : List V}, Reps K F vs xs → PyData.canLayAll0 (pys xs) = true → DpAll K H vs (pys xs)
  | [], vs, r, _ => by rw [r.unnil]; exact .nil
  | x :: xs, vs, r, c => by
    obtain ⟨v, ws, rfl, h1, h2⟩ := r.uncons
    simp only [pys, PyData.canLayAll0, Bool.and_eq_true] at c
    exact .cons (dp_of s h1 c.1) (dps_of s h2 c.2)
end
def eqD (x y : Dat) : Bool := PyData.eqv (py x) (py y)
def shD (x : Dat) : Prop := SeqAt.shaped (py x) = true
/-- == of data: scalars of one kind at once, the rest by its shape -/
def fEq : F2
  | .int i, .int j, T => T (.bl (decide (i = j)))
  | .str a, .str b, T => T (.bl (decide (a = b)))
  | .bl a, .bl b, T => T (.bl (decide (a = b)))
  | .non, .non, T => T (.bl true)
  | x, y, T => shD x ∧ shD y ∧ T (.bl (eqD x y))
def fNe : F2
  | .int i, .int j, T => T (.bl (!decide (i = j)))
  | .str a, .str b, T => T (.bl (!decide (a = b)))
  | .bl a, .bl b, T => T (.bl (!decide (a = b)))
  | .non, .non, T => T (.bl false)
  | x, y, T => shD x ∧ shD y ∧ T (.bl (!eqD x y))
def rEqA (K : Frag) : R2 := R2or rEq (rEqD K)
def rNeA (K : Frag) : R2 := R2or rNe (rNeD K)
theorem op_eqA (hu : X.A.units + 64 < cLine) : OpR X (compareOp .Eq) (rEqA X.K) := op_eq.or (op_eqD hu)
theorem op_neA (hu : X.A.units + 64 < cLine) : OpR X (compareOp .NotEq) (rNeA X.K) := op_ne.or (op_neD hu)
theorem shD.lay {x : Dat} (h : shD x) : (py x).canLay0 = true := SeqAt.canLay_of_shaped h
theorem ol_eq : OLink X.K (rEqA X.K) fEq := by
  intro F H x y vx vy T Q s rx ry h k
  have gen : shD x ∧ shD y ∧ T (.bl (eqD x y)) → rEqA X.K vx vy H Q := fun ⟨h1, h2, h3⟩ =>
    .inr ⟨py x, py y, dp_of s rx h1.lay, dp_of s ry h2.lay, h1, h2, k _ F H _ (Grow.refl s) (.bl _) h3⟩
  cases x <;> cases y <;> first
    | exact gen h
    | (cases rx; cases ry; exact .inl ⟨rfl, k _ F H _ (Grow.refl s) (.bl _) (by simpa [fEq, fNe] using h)⟩)
theorem ol_ne : OLink X.K (rNeA X.K) fNe := by
  intro F H x y vx vy T Q s rx ry h k
  have gen : shD x ∧ shD y ∧ T (.bl (!eqD x y)) → rNeA X.K vx vy H Q := fun ⟨h1, h2, h3⟩ =>
    .inr ⟨py x, py y, dp_of s rx h1.lay, dp_of s ry h2.lay, h1, h2, k _ F H _ (Grow.refl s) (.bl _) h3⟩
  cases x <;> cases y <;> first
    | exact gen h
    | (cases rx; cases ry; exact .inl ⟨rfl, k _ F H _ (Grow.refl s) (.bl _) (by simpa [fEq, fNe] using h)⟩)
end
end DL
/-! DL, part 4: comparisons of data, items, slices, built-ins, methods. -/
namespace DL
open PySem L2
section
variable {X : Cx} {W : WX} {ios : Ios}
variable {a b : Expr} {da db : DE} {pos : Pos}
theorem je_eq (hu : X.A.units + 64 < cLine) (ha : JE X W ios a da) (hb : JE X W ios b db) : JE X W ios (.Compare a [.Eq] [b] pos) (dOp fEq da db) := je_cmp (op_eqA hu) ol_eq ha hb
theorem je_gt (ha : JE X W ios a da) (hb : JE X W ios b db) : JE X W ios (.Compare a [.Gt] [b] pos) (dOp fGt da db) := je_cmp op_gt ol_B ha hb
theorem jt_eq (hu : X.A.units + 64 < cLine) (ha : JE X W ios a da) (hb : JE X W ios b db) : JT X W ios (.Compare a [.Eq] [b] pos) (dTest (dOp fEq da db)) := jt_cmp (op_eqA hu) ol_eq ha hb
theorem jt_ne (hu : X.A.units + 64 < cLine) (ha : JE X W ios a da) (hb : JE X W ios b db) : JT X W ios (.Compare a [.NotEq] [b] pos) (dTest (dOp fNe da db)) := jt_cmp (op_neA hu) ol_ne ha hb
theorem jt_lt (ha : JE X W ios a da) (hb : JE X W ios b db) : JT X W ios (.Compare a [.Lt] [b] pos) (dTest (dOp fLt da db)) := jt_cmp op_lt ol_B ha hb
theorem jt_gt (ha : JE X W ios a da) (hb : JE X W ios b db) : JT X W ios (.Compare a [.Gt] [b] pos) (dTest (dOp fGt da db)) := jt_cmp op_gt ol_B ha hb
theorem jt_ge (ha : JE X W ios a da) (hb : JE X W ios b db) : JT X W ios (.Compare a [.GtE] [b] pos) (dTest (dOp fGe da db)) := jt_cmp op_ge ol_B ha hb
/-! ### is -/
def isNon : Dat → Bool
  | .non => true
  | _ => false
def fIsG (n : Bool → Bool) : F2
  | x, .non, T => T (.bl (n (isNon x)))
  | .bl a, .bl b, T => T (.bl (n (decide (a = b))))
  | _, _, _ => False
abbrev fIsnot : F2 := fIsG fun b => !b
theorem non_iff {K : Frag} {F : Hp} {v : V} {x : Dat} (r : Rep K F v x) : decide (v = .non) = isNon x := by
  cases r <;> simp [isNon]
def rIsnotA : R2 := R2or (fun x y H Q => y = .non ∧ Q (.bl (!decide (x = .non))) H) rNotB
theorem op_isnotA : OpR X (compareOp .IsNot) rIsnotA := op_notN.or op_notBl
theorem ol_isnot : OLink X.K rIsnotA fIsnot := by
  intro F H x y vx vy T Q s rx ry h k
  cases y with
  | non =>
    cases ry
    have h : T (.bl (!isNon x)) := by cases x <;> exact h
    exact .inl ⟨rfl, k _ F H _ (Grow.refl s) (by rw [non_iff rx]; exact .bl _) h⟩
  | bl b =>
    cases x <;> try exact h.elim
    cases rx; cases ry
    exact .inr ⟨_, _, rfl, rfl, k _ F H _ (Grow.refl s) (.bl _) h⟩
  | _ => cases x <;> exact h.elim
theorem jt_isnot (ha : JE X W ios a da) (hb : JE X W ios b db) : JT X W ios (.Compare a [.IsNot] [b] pos) (dTest (dOp fIsnot da db)) := jt_cmp op_isnotA ol_isnot ha hb
/-! ### dicts: a key's value -/
def valD {κ : Type} [DecidableEq κ] (kvs : List (κ × Dat)) (k : κ) : Option Dat := (kvs.find? fun kv => decide (kv.1 = k)).map (·.2)
def putD {κ : Type} [DecidableEq κ] (kvs : List (κ × Dat)) (k : κ) (v : Dat) : List (κ × Dat) := if (kvs.any fun kv => decide (kv.1 = k)) = true then kvs.map (fun kv => if kv.1 = k then (kv.1, v) else kv) else kvs ++ [(k, v)]
def keyOf : Dat → Option Key
  | .int i => some (.inl i)
  | .str s => some (.inr s)
  | _ => none
def keysOf : List Dat → Option (List Key)
  | [] => some []
  | x :: xs => match keyOf x, keysOf xs with
    | some k, some ks => some (k :: ks)
    | _, _ => none
theorem key_rep {K : Frag} {F : Hp} {v : V} {x : Dat} {k : Key} (r : Rep K F v x) (e : keyOf x = some k) : v = kV k := by
  cases x <;> simp only [keyOf] at e <;> cases e <;> cases r <;> rfl
theorem keys_rep {K : Frag} {F : Hp} : ∀ {xs : List Dat} {vs : List V} {ks : List Key}, Reps K F vs xs → keysOf xs = some ks → vs = ks.map kV
  | [], vs, ks, r, e => by
    cases e
    exact r.unnil
  | x :: xs, vs, ks, r, e => by
    obtain ⟨v, ws, rfl, h1, h2⟩ := r.uncons
    simp only [keysOf] at e
    split at e
    · rename_i k ks' e1 e2
      cases e
      rw [key_rep h1 e1, keys_rep h2 e2]
      rfl
    · cases e
theorem find_key {κ : Type} [DecidableEq κ] (k : κ) : ∀ (ws : List (κ × V)) (kvs : List (κ × Dat)), ws.map (·.1) = kvs.map (·.1) →
    (valV ws k = none ∧ valD kvs k = none) ∨ ∃ (i : Nat) (v : V) (x : Dat), ws[i]? = some (k, v) ∧ kvs[i]? = some (k, x) ∧ valV ws k = some v ∧ valD kvs k = some x
  | [], [], _ => .inl ⟨rfl, rfl⟩
  | [], _ :: _, h => by simp at h
  | _ :: _, [], h => by simp at h
  | (k1, v) :: ws, (k2, x) :: kvs, h => by
    simp only [List.map_cons, List.cons.injEq] at h
    obtain ⟨e, h⟩ := h
    subst e
    by_cases c : k1 = k
    · subst c
      exact .inr ⟨0, v, x, rfl, rfl, by simp [valV], by simp [valD]⟩
    · have ih := find_key k ws kvs h
      have e1 : valV ((k1, v) :: ws) k = valV ws k := by simp [valV, List.find?, c]
      have e2 : valD ((k1, x) :: kvs) k = valD kvs k := by simp [valD, List.find?, c]
      rw [e1, e2]
      rcases ih with ih | ⟨i, v', x', h1, h2, h3⟩
      · exact .inl ih
      · exact .inr ⟨i + 1, v', x', by simpa using h1, by simpa using h2, h3⟩
theorem RepsK.get {κ : Type} [DecidableEq κ] {K : Frag} {F : Hp} {ws : List (κ × V)} {kvs : List (κ × Dat)} (r : RepsK K F ws kvs) (k : κ) : (valV ws k).isSome = (valD kvs k).isSome ∧ ∀ x, valD kvs k = some x → ∃ v, valV ws k = some v ∧ Rep K F v x := by
  rcases find_key k ws kvs r.keys with ⟨h1, h2⟩ | ⟨i, v, x, h1, h2, h3, h4⟩
  · rw [h1, h2]
    exact ⟨rfl, fun x e => nomatch e⟩
  · rw [h3, h4]
    refine ⟨rfl, fun y e => ?_⟩
    cases e
    exact ⟨v, rfl, r.at_ i k k v x h1 h2⟩
theorem _root_.L2.DGet.kF {H : Hp} {a : Addr} {o : Obj} {kvs : List (Key × V)} {k : Key} (e : H a = some (.frz o (.dK kvs))) : DGet H a (kV k) (valV kvs k) := .inl ⟨kvs, k, .inr ⟨o, e⟩, rfl, rfl⟩
theorem _root_.L2.DGet.tF {H : Hp} {a b : Addr} {o : Obj} {kvs : List (List Key × V)} {k : List Key} (e : H a = some (.frz o (.dT kvs))) (eb : H b = some (.tup (k.map kV))) : DGet H a (.ref b) (valV kvs k) := .inr ⟨kvs, k, b, .inr ⟨o, e⟩, rfl, eb, rfl⟩
/-! ### in -/
theorem flat_rep {K : Frag} {F : Hp} {v : V} {x : Dat} (r : Rep K F v x) : flatV v = (match x with | .non => true | .bl _ => true | .int _ => true | .str _ => true | _ => false) := by
  cases r <;> rfl
def flatD : Dat → Bool
  | .non => true | .bl _ => true | .int _ => true | .str _ => true
  | _ => false
theorem flat_of {K : Frag} {F : Hp} {v : V} {x : Dat} (r : Rep K F v x) (h : flatD x = true) : flatV v = true := by
  rw [flat_rep r]
  cases x <;> first | rfl | (cases h; done)
def inD (x : Dat) (ys : List Dat) : Bool := ys.any fun y => eqD y x
theorem eq_flat {K : Frag} {F : Hp} {v u : V} {x y : Dat} (r : Rep K F v x) (q : Rep K F u y) (hx : flatD x = true) (hy : flatD y = true) : eqV u v = eqD y x := by
  cases r <;> first | (cases hx; done) | (cases q <;> first | (cases hy; done) | (simp only [eqV, eqD, py, PyData.eqv]; done) | rfl)
theorem in_flat {K : Frag} {F : Hp} {v : V} {x : Dat} (r : Rep K F v x) (hx : flatD x = true) : ∀ {ys : List Dat} {us : List V}, Reps K F us ys → ys.all flatD = true → us.all flatV = true ∧ inV v us = inD x ys
  | [], us, q, _ => by rw [q.unnil]; exact ⟨rfl, rfl⟩
  | y :: ys, us, q, h => by
    obtain ⟨u, ws, rfl, h1, h2⟩ := q.uncons
    simp only [List.all_cons, Bool.and_eq_true] at h
    obtain ⟨g1, g2⟩ := in_flat r hx h2 h.2
    have f : flatV u = true := flat_of h1 h.1
    refine ⟨by rw [List.all_cons, f, g1]; rfl, ?_⟩
    show (eqV u v || inV v ws) = (eqD y x || inD x ys)
    rw [eq_flat r h1 hx h.1, g2]
def strIn (a b : Str) : Bool := !(Builtin.Str.occurrences b a 0 b.length 1).isEmpty
def fInG (n : Bool → Bool) : F2
  | x, .lst ys, T => (flatD x = true ∧ ys.all flatD = true ∧ T (.bl (n (inD x ys)))) ∨ (shD x ∧ shD (.lst ys) ∧ T (.bl (n (inD x ys))))
  | x, .tup ys, T => flatD x = true ∧ ys.all flatD = true ∧ T (.bl (n (inD x ys)))
  | .str a, .str b, T => T (.bl (n (strIn a b)))
  | .int i, .dk kvs, T => T (.bl (n (valD kvs (.inl i)).isSome))
  | .str s, .dk kvs, T => T (.bl (n (valD kvs (.inr s)).isSome))
  | .tup ds, .dt kvs, T => ∃ ks, keysOf ds = some ks ∧ T (.bl (n (valD kvs ks).isSome))
  | _, _, _ => False
abbrev fIn : F2 := fInG fun b => b
abbrev fNotin : F2 := fInG fun b => !b
def rDIn (n : Bool → Bool) : R2 := fun y x H Q => ∃ a o, x = .ref a ∧ DGet H a y o ∧ Q (.bl (n o.isSome)) H
theorem op_dinA (hu : X.A.units + 1 < cLine) : OpR X (compareOp .In) (rDIn fun b => b) := by
  intro pins s σ H y x u v Q I ry rx h
  obtain ⟨a, o, rfl, g, q⟩ := h
  cases rx
  exact d_in hu I g ry fun s' I' => ⟨.bl o.isSome, H, I', rfl, q⟩
def rInA (K : Frag) : R2 := R2or (rIn K false) (R2or (rInD K) (R2or (fun x y H Q => ∃ i j, x = .str i ∧ y = .str j ∧ Q (.bl (!(Builtin.Str.occurrences j i 0 j.length 1).isEmpty)) H) (rDIn fun b => b)))
theorem op_inA (hu : X.A.units + 65 < cLine) : OpR X (compareOp .In) (rInA X.K) := op_in_seq.or ((op_inD hu).or (op_in_str.or (op_dinA (by omega))))
theorem any_pys (x : Dat) : ∀ ys : List Dat, (pys ys).any (fun z => PyData.eqv z (py x)) = inD x ys
  | [] => rfl
  | y :: ys => by
    show (PyData.eqv (py y) (py x) || (pys ys).any (fun z => PyData.eqv z (py x))) = (eqD y x || inD x ys)
    rw [any_pys x ys]
    rfl
theorem ol_in : OLink X.K (rInA X.K) fIn := by
  intro F H x y vx vy T Q s rx ry h k
  cases y with
  | lst ys =>
    have h : (flatD x = true ∧ ys.all flatD = true ∧ T (.bl (inD x ys))) ∨ (shD x ∧ shD (.lst ys) ∧ T (.bl (inD x ys))) := by cases x <;> exact h
    rcases h with ⟨h1, h2, h3⟩ | ⟨h1, h2, h3⟩
    · cases ry with
      | @lst b ws _ hb lb rb =>
        obtain ⟨g1, g2⟩ := in_flat rx h1 (⟨lb, rb⟩ : Reps X.K F ws ys) h2
        refine .inl ⟨b, ws, rfl, .inl (SqL.of (s _ _ hb)), flat_of rx h1, g1, ?_⟩
        simp only [Bool.false_eq_true, if_false]
        rw [g2]
        exact k _ F H _ (Grow.refl s) (.bl _) h3
    · refine .inr (.inl ⟨py x, pys ys, dp_of s rx h1.lay, dp_of s ry h2.lay, h1, h2, ?_⟩)
      rw [any_pys]
      exact k _ F H _ (Grow.refl s) (.bl _) h3
  | tup ys =>
    have h : flatD x = true ∧ ys.all flatD = true ∧ T (.bl (inD x ys)) := by cases x <;> exact h
    obtain ⟨h1, h2, h3⟩ := h
    cases ry with
    | @tup b ws _ hb lb rb =>
      obtain ⟨g1, g2⟩ := in_flat rx h1 (⟨lb, rb⟩ : Reps X.K F ws ys) h2
      refine .inl ⟨b, ws, rfl, .inr (SqT.of (s _ _ hb)), flat_of rx h1, g1, ?_⟩
      simp only [Bool.false_eq_true, if_false]
      rw [g2]
      exact k _ F H _ (Grow.refl s) (.bl _) h3
  | str b =>
    cases x <;> try exact h.elim
    rename_i a
    cases rx; cases ry
    exact .inr (.inr (.inl ⟨a, b, rfl, rfl, k _ F H _ (Grow.refl s) (.bl _) h⟩))
  | dk kvs =>
    cases ry with
    | @dk d ob ws _ hd kd rd =>
      cases x <;> try exact h.elim
      · rename_i i
        cases rx
        have g := ((⟨kd, rd⟩ : RepsK X.K F ws kvs).get (.inl i)).1
        exact .inr (.inr (.inr ⟨d, _, rfl, DGet.kF (k := .inl i) (s _ _ hd), k _ F H _ (Grow.refl s) (.bl _) (by rw [g]; exact h)⟩))
      · rename_i z
        cases rx
        have g := ((⟨kd, rd⟩ : RepsK X.K F ws kvs).get (.inr z)).1
        exact .inr (.inr (.inr ⟨d, _, rfl, DGet.kF (k := .inr z) (s _ _ hd), k _ F H _ (Grow.refl s) (.bl _) (by rw [g]; exact h)⟩))
  | dt kvs =>
    cases ry with
    | @dt d ob ws _ hd kd rd =>
      cases x <;> try exact h.elim
      rename_i ds
      obtain ⟨ks, e, h⟩ := h
      cases rx with
      | @tup t vs _ ht lt rt =>
        have ek := keys_rep (⟨lt, rt⟩ : Reps X.K F vs ds) e
        subst ek
        have g := ((⟨kd, rd⟩ : RepsK X.K F ws kvs).get ks).1
        exact .inr (.inr (.inr ⟨d, _, rfl, DGet.tF (s _ _ hd) (s _ _ ht), k _ F H _ (Grow.refl s) (.bl _) (by rw [g]; exact h)⟩))
  | _ => cases x <;> exact h.elim
theorem jt_in (hu : X.A.units + 65 < cLine) (ha : JE X W ios a da) (hb : JE X W ios b db) (hm : behindInMarks .In b = false := by rfl) : JT X W ios (.Compare a [.In] [b] pos) (dTest (dOp fIn da db)) := jt_cmp (op_inA hu) ol_in ha hb hm
/-! ### items -/
def fItem : F2
  | .lst xs, .int i, T => ∃ x, atI xs i = some x ∧ T x
  | .tup xs, .int i, T => ∃ x, atI xs i = some x ∧ T x
  | .scr ns, .int i, T => ∃ n, atI ns i = some n ∧ T (.int n)
  | .str s, .int i, T => s.length ≤ sizeLine ∧ ∃ c, atI s.cps.toList i = some c ∧ T (.str ⟨#[c]⟩)
  | .dk kvs, .int i, T => ∃ x, valD kvs (.inl i) = some x ∧ T x
  | .dk kvs, .str s, T => ∃ x, valD kvs (.inr s) = some x ∧ T x
  | .dt kvs, .tup ds, T => ∃ ks x, keysOf ds = some ks ∧ valD kvs ks = some x ∧ T x
  | _, _, _ => False
def rIxD : R2 := fun x y H Q => ∃ a v, x = .ref a ∧ DGet H a y (some v) ∧ Q v H
theorem ix_dict (hu : X.A.units + 1 < cLine) : IxR X rIxD := by
  intro value slice pins s σ H x y v u Q I rx ry h hs
  obtain ⟨a, w, rfl, g, q⟩ := h
  cases rx
  exact PyProof.Rows.tail_any (dict_typeIs I g) PySem.F.slot_dict_getitem.lookup (d_getItem hu I g ry fun w' s' I' r' => ⟨w, H, I', r', q⟩) hs
def rIxA (K : Frag) : R2 := R2or (rIxL K) (R2or (rIxT K) (R2or rIxS rIxD))
theorem ix_any (hu : X.A.units + 1 < cLine) : IxR X (rIxA X.K) := ix_list.or (ix_tup.or (ix_str.or (ix_dict hu)))
theorem atI_rep {K : Frag} {F : Hp} {vs : List V} {xs : List Dat} {i : Int} {x : Dat} (r : Reps K F vs xs) (h : atI xs i = some x) : ∃ v, atI vs i = some v ∧ Rep K F v x := by
  unfold atI at h ⊢
  rw [r.len]
  cases q : ixN xs.length i with
  | none => rw [q] at h; cases h
  | some j =>
    rw [q] at h
    have h : xs[j]? = some x := h
    obtain ⟨v, h1, h2⟩ := r.get h
    exact ⟨v, h1, h2⟩
theorem atI_map {α β : Type} (f : α → β) {xs : List α} {i : Int} {x : α} (h : atI xs i = some x) : atI (xs.map f) i = some (f x) := by
  unfold atI at h ⊢
  rw [List.length_map]
  cases q : ixN xs.length i with
  | none => rw [q] at h; cases h
  | some j =>
    rw [q] at h
    have h : xs[j]? = some x := h
    show (xs.map f)[j]? = some (f x)
    rw [List.getElem?_map, h]
    rfl
theorem ol_item : OLink X.K (rIxA X.K) fItem := by
  intro F H x y vx vy T Q s rx ry h k
  cases x <;> cases y <;> try exact h.elim
  case lst.int xs i =>
    obtain ⟨z, e, h⟩ := h
    cases ry
    cases rx with
    | @lst p vs _ hp l r =>
      obtain ⟨v, h1, h2⟩ := atI_rep (⟨l, r⟩ : Reps X.K F vs xs) e
      exact .inl ⟨p, vs, i, v, rfl, rfl, SqL.of (s _ _ hp), h1, k _ F H _ (Grow.refl s) h2 h⟩
  case tup.int xs i =>
    obtain ⟨z, e, h⟩ := h
    cases ry
    cases rx with
    | @tup p vs _ hp l r =>
      obtain ⟨v, h1, h2⟩ := atI_rep (⟨l, r⟩ : Reps X.K F vs xs) e
      exact .inr (.inl ⟨p, vs, i, v, rfl, rfl, SqT.of (s _ _ hp), h1, k _ F H _ (Grow.refl s) h2 h⟩)
  case scr.int ns i =>
    obtain ⟨z, e, h⟩ := h
    cases ry
    cases rx with
    | @scr p _ hp => exact .inl ⟨p, _, i, .int z, rfl, rfl, s.seq hp, atI_map V.int e, k _ F H _ (Grow.refl s) (.int z) h⟩
  case str.int z i =>
    obtain ⟨hz, c, e, h⟩ := h
    cases ry; cases rx
    exact .inr (.inr (.inl ⟨z, i, c, rfl, rfl, hz, e, k _ F H _ (Grow.refl s) (.str _) h⟩))
  case dk.int kvs i =>
    obtain ⟨z, e, h⟩ := h
    cases ry
    cases rx with
    | @dk d ob ws _ hd kd rd =>
      obtain ⟨v, h1, h2⟩ := ((⟨kd, rd⟩ : RepsK X.K F ws kvs).get (.inl i)).2 z e
      refine .inr (.inr (.inr ⟨d, v, rfl, ?_, k _ F H _ (Grow.refl s) h2 h⟩))
      rw [← h1]
      exact DGet.kF (k := .inl i) (s _ _ hd)
  case dk.str kvs i =>
    obtain ⟨z, e, h⟩ := h
    cases ry
    cases rx with
    | @dk d ob ws _ hd kd rd =>
      obtain ⟨v, h1, h2⟩ := ((⟨kd, rd⟩ : RepsK X.K F ws kvs).get (.inr i)).2 z e
      refine .inr (.inr (.inr ⟨d, v, rfl, ?_, k _ F H _ (Grow.refl s) h2 h⟩))
      rw [← h1]
      exact DGet.kF (k := .inr i) (s _ _ hd)
  case dt.tup kvs ds =>
    obtain ⟨ks, z, ek, e, h⟩ := h
    cases rx with
    | @dt d ob ws _ hd kd rd =>
      cases ry with
      | @tup t vs _ ht lt rt =>
        have ek' := keys_rep (⟨lt, rt⟩ : Reps X.K F vs ds) ek
        subst ek'
        obtain ⟨v, h1, h2⟩ := ((⟨kd, rd⟩ : RepsK X.K F ws kvs).get ks).2 z e
        refine .inr (.inr (.inr ⟨d, v, rfl, ?_, k _ F H _ (Grow.refl s) h2 h⟩))
        rw [← h1]
        exact DGet.tF (s _ _ hd) (s _ _ ht)
theorem je_item (hu : X.A.units + 1 < cLine) (ha : JE X W ios a da) (hb : JE X W ios b db) (hs : PlainIx b := by exact fun _ _ => rfl) : JE X W ios (.Subscript a b pos) (dOp fItem da db) :=
  pe_imp (pe_ix (ix_any hu) ha hb hs) (lift_op ol_item)
/-! ### slices -/
abbrev DP := Env → (Option Int → Env → Prop) → XR → Prop
def liftP (K : Frag) (W : WX) (ios : Ios) (d : DP) : TO := fun σ H Q => ∃ fr F ρ fps R X, FrOk ios fr ∧ SR K fr F H ρ σ fps ∧ d ρ R X ∧
  (∀ o F' H' ρ' fps', SR K fr F' H' ρ' σ fps' → Same F F' → R o ρ' → Q o H') ∧ XOk K W fr σ X
abbrev JP (X : Cx) (W : WX) (ios : Ios) (e : Option Expr) (d : DP) : Prop := PO X e (liftP X.K W ios d)
def dNoP : DP := fun ρ R _ => R none ρ
def dSomeP (d : DE) : DP := fun ρ R X => d ρ (fun x ρ1 => ∃ i, x = .int i ∧ R (some i) ρ1) X
theorem po_imp {e : Option Expr} {t t' : TO} (h : PO X e t) (i : ∀ σ H Q, t' σ H Q → t σ H Q) : PO X e t' := ⟨fun pins s σ H Q I q => h.run pins s σ H Q I (i _ _ _ q)⟩
theorem jp_none : JP X W ios none dNoP := po_imp po_none fun σ H Q ⟨fr, F, ρ, fps, R, XX, ok, sr, hd, hq, hx⟩ => hq none F H ρ fps sr (Same.refl F) hd
theorem jp_some {e : Expr} {d : DE} (h : JE X W ios e d) : JP X W ios (some e) (dSomeP d) := po_imp (po_some h) fun σ H Q ⟨fr, F, ρ, fps, R, XX, ok, sr, hd, hq, hx⟩ =>
  ⟨fr, F, ρ, fps, _, XX, ok, sr, hd, fun v F1 H1 x ρ1 fps1 s1 m1 r1 ⟨i, e, hR⟩ => by
    subst e
    cases r1
    exact ⟨i, rfl, hq _ F1 H1 ρ1 fps1 s1 m1 hR⟩, hx⟩
def cutD {α : Type} (xs : List α) (lo hi : Option Int) : List α := (xs.drop (HT.sIx xs.length 0 lo)).take (HT.sIx xs.length xs.length hi - HT.sIx xs.length 0 lo)
theorem cut_rep {K : Frag} {F : Hp} {vs : List V} {xs : List Dat} (r : Reps K F vs xs) (lo hi : Option Int) : Reps K F (cutV vs lo hi) (cutD xs lo hi) := by
  unfold cutV cutD
  rw [r.len]
  exact (r.drop _).take _
def dSlice (da : DE) (dl dh : DP) : DE := fun ρ R X => da ρ (fun x ρ1 => dl ρ1 (fun lo ρ2 => dh ρ2 (fun hi ρ3 => match x with
  | .lst xs => R (.lst (cutD xs lo hi)) ρ3
  | .tup xs => R (.tup (cutD xs lo hi)) ρ3
  | .str s => s.length ≤ sizeLine ∧ R (.str (cutS s lo hi)) ρ3
  | _ => False) X) X) X
theorem cut_all {α : Type} (xs : List α) (lo hi : Option Int) (h : HT.sIx xs.length 0 lo = 0 ∧ HT.sIx xs.length xs.length hi = xs.length) : cutD xs lo hi = xs := by
  unfold cutD
  rw [h.1, h.2]
  simp
theorem je_slice {e : Expr} {lo hi : Option Expr} {p2 : Pos} {dl dh : DP} (he : JE X W ios e da) (hl : JP X W ios lo dl) (hh : JP X W ios hi dh) : JE X W ios (.Subscript e (.Slice lo hi none p2) pos) (dSlice da dl dh) :=
  pe_imp (pe_slice (sl_list.or (sl_tupA.or sl_str)) he hl hh) fun σ H Q ⟨fr, F, ρ, fps, R, XX, ok, sr, hd, hq, hx⟩ => ⟨fr, F, ρ, fps, _, XX, ok, sr, hd, fun v F1 H1 x ρ1 fps1 s1 m1 r1 hd1 =>
    ⟨fr, F1, ρ1, fps1, _, XX, ok, s1, hd1, fun l F2 H2 ρ2 fps2 s2 m2 hd2 => ⟨fr, F2, ρ2, fps2, _, XX, ok, s2, hd2, fun u F3 H3 ρ3 fps3 s3 m3 hR => by
      have r3 := (r1.mono m2).mono m3
      have m := (m1.trans m2).trans m3
      cases x with
      | lst xs =>
        cases r3 with
        | @lst p vs _ hp le re =>
          refine .inl ⟨p, vs, rfl, SqL.of (s3.sub _ _ hp), fun q hn => ?_⟩
          have g := Grow.lay (o := .lst (cutV vs l u)) s3.sub hn
          have rr := (cut_rep (⟨le, re⟩ : Reps X.K F3 vs xs) l u).mono g.ff
          exact hq _ _ _ _ ρ3 fps3 (s3.grow g) (m.trans g.ff) (.lst upd_same rr.len rr.at_) hR
      | tup xs =>
        cases r3 with
        | @tup p vs _ hp le re =>
          refine .inr (.inl ⟨p, vs, rfl, SqT.of (s3.sub _ _ hp), fun c => ?_, fun _ q hn => ?_⟩)
          · rw [le] at c
            have hR : R (.tup (cutD xs l u)) ρ3 := hR
            rw [cut_all xs l u c] at hR
            exact hq _ _ _ _ ρ3 fps3 s3 m (.tup hp le re) hR
          · have g := Grow.lay (o := .tup (cutV vs l u)) s3.sub hn
            have rr := (cut_rep (⟨le, re⟩ : Reps X.K F3 vs xs) l u).mono g.ff
            exact hq _ _ _ _ ρ3 fps3 (s3.grow g) (m.trans g.ff) (.tup upd_same rr.len rr.at_) hR
      | str z =>
        cases r3
        exact .inr (.inr ⟨z, rfl, hR.1, hq _ _ _ _ ρ3 fps3 s3 m (.str _) hR.2⟩)
      | _ => exact hR.elim, hx⟩, hx⟩, hx⟩
/-- a slice of a list, one's own -/
def dSliceO (da : DE) (dl dh : DP) : DO := fun ρ R X => da ρ (fun x ρ1 => dl ρ1 (fun lo ρ2 => dh ρ2 (fun hi ρ3 => ∃ xs, x = .lst xs ∧ R (.l (cutD xs lo hi)) ρ3) X) X) X
/-- xs[::-1] -/
def dRevO (da : DE) : DO := fun ρ R X => da ρ (fun x ρ1 => ∃ xs, x = .lst xs ∧ R (.l xs.reverse) ρ1) X
theorem rev_rep {K : Frag} {F : Hp} {vs : List V} {xs : List Dat} (r : Reps K F vs xs) : Reps K F vs.reverse xs.reverse := ⟨by simp [r.len], fun i v x h1 h2 => by
  have hi : i < vs.length := by have := (List.getElem?_eq_some_iff.mp h1).1; simpa using this
  rw [List.getElem?_reverse hi] at h1
  rw [List.getElem?_reverse (by rw [← r.len]; exact hi), ← r.len] at h2
  exact r.at_ _ v x h1 h2⟩
theorem jo_rev {e : Expr} {k} {p1 p2 p3 : Pos} (he : JE X W ios e da) : JO X W ios (.Subscript e (.Slice none none (some (.UnaryOp .USub (.Constant (.int 1) k p1) p2)) p3) pos) (dRevO da) :=
  pe_imp (pe_revL he) fun σ H Q ⟨fr, F, ρ, fps, R, XX, ok, sr, hd, hq, hx⟩ => ⟨fr, F, ρ, fps, _, XX, ok, sr, hd, fun v F1 H1 x ρ1 fps1 s1 m1 r1 ⟨xs, e, hR⟩ => by
    subst e
    cases r1 with
    | @lst p vs _ hp le re =>
      refine ⟨p, vs, rfl, SqL.of (s1.sub _ _ hp), fun q hn => ?_⟩
      obtain ⟨g1, g2⟩ := retL s1 hn (rev_rep (⟨le, re⟩ : Reps X.K F1 vs xs))
      exact hq _ _ _ _ _ ρ1 fps1 g1 m1 g2 hR, hx⟩
theorem je_rev {e : Expr} {k} {p1 p2 p3 : Pos} (he : JE X W ios e da) : JE X W ios (.Subscript e (.Slice none none (some (.UnaryOp .USub (.Constant (.int 1) k p1) p2)) p3) pos) (dStill (dRevO da)) := je_still (jo_rev he)
end
end DL
/-! DL, part 5: still views, built-ins, methods. -/
namespace DL
open PySem L2
/-- what a slot holds, as data to look at: an own dict is not looked at (it would have to be locked) -/
def Slot.toP : Slot → Option Dat
  | .d x => some x
  | .l xs => some (.lst xs)
  | .o w => w.dat
  | _ => none
/-! ### all slots seen still, for an expression that tells a scalar -/
def stillE (ρ : Env) : Env := ρ.map fun o => match o with
  | some s => s.toP.map Slot.d
  | none => none
open Classical in
noncomputable def stillH (ρ : Env) (fps : Nat → Addr → Prop) (F H : Hp) : Hp := fun a => if ∃ i s, ρ[i]? = some (some s) ∧ s.toP.isSome = true ∧ fps i a then H a else F a
section
variable {K : Frag} {fr : Fr} {F H F' H' : Hp} {ρ ρ' : Env} {σ : St} {fps fps' : Nat → Addr → Prop}
theorem still_same (r : SR K fr F H ρ σ fps) : Same F (stillH ρ fps F H) := fun a o e => by
  unfold stillH
  rw [if_neg]
  · exact e
  · rintro ⟨i, s, _, _, h⟩
    rw [(r.own i a h).1] at e
    cases e
theorem stillE_at {ρ : Env} {i : Nat} {s : Slot} (h : (stillE ρ)[i]? = some (some s)) : ∃ t x, ρ[i]? = some (some t) ∧ t.toP = some x ∧ s = .d x := by
  unfold stillE at h
  rw [List.getElem?_map] at h
  cases q : ρ[i]? with
  | none => rw [q] at h; cases h
  | some o =>
    rw [q] at h
    cases o with
    | none => cases h
    | some t =>
      cases e : t.toP with
      | none =>
        simp [e] at h
      | some x =>
        simp [e] at h
        exact ⟨t, x, rfl, e, h.symm⟩
theorem SR.still (r : SR K fr F H ρ σ fps) : SR K ⟨stillH ρ fps F H, H, fun _ _ => False, fr.ios⟩ (stillH ρ fps F H) H (stillE ρ) σ (fun _ _ => False) where
  sub := fun a o e => by
    unfold stillH at e
    split at e
    · exact e
    · exact r.sub a o e
  le := Same.refl _
  keep := fun a o e _ => e
  tr := fun a e => e
  fresh := fun a e => .inl e
  slots := fun i s e => by
    obtain ⟨t, x, h1, h2, rfl⟩ := stillE_at e
    obtain ⟨v, h3, h4⟩ := r.slots i t h1
    refine ⟨v, h3, ?_, fun _ z => z⟩
    have sm := still_same r
    have at_ : ∀ p, fps i p → stillH ρ fps F H p = H p := fun p hp => by
      unfold stillH
      rw [if_pos ⟨i, t, h1, by rw [h2]; rfl, hp⟩]
    cases t with
    | d y => cases h2; exact h4.1.mono sm
    | l xs =>
      cases h2
      obtain ⟨p, vs, rfl, hp, q, f⟩ := h4
      exact .lst ((at_ p ((f p).mpr rfl)).trans hp) q.len (q.mono sm).at_
    | k kvs => cases h2
    | t kvs => cases h2
    | h C S => cases h2
    | g G => cases h2
    | hg C S G => cases h2
    | xk hx kvs => cases h2
    | o w =>
      obtain ⟨p, o, hp, f, hw⟩ := w.frz h2 h4
      exact hw _ sm ((at_ p ((f p).mpr rfl)).trans hp)
  own := fun i a z => z.elim
  apart := fun i j a z => z.elim
  io := r.io
  len := by rw [← r.len]; simp [stillE]
  nt := fun i a z => z.elim
  tk := fun a h => .inr h
/-- back from it: nothing changed -/
theorem SR.unstill (r : SR K fr F H ρ σ fps) (c : SR K ⟨stillH ρ fps F H, H, fun _ _ => False, fr.ios⟩ F' H' ρ' σ fps') : SR K fr F H' ρ σ fps := by
  have hh : Same H H' := fun a o e => c.keep a o e fun _ z => z
  exact r.grow ⟨Same.refl F, hh, r.sub.trans hh, fun a e => .inl e⟩
theorem leaf_rep {v : V} {x : Dat} (h : Rep K F v x) (hl : flatD x = true) (F2 : Hp) : Rep K F2 v x := by
  cases h <;> first | (cases hl; done) | constructor
end
section
variable {X : Cx} {W : WX} {ios : Ios}
def dPeek (d : DE) : DE := fun ρ R X => d (stillE ρ) (fun y _ => flatD y = true ∧ R y ρ) (fun _ _ => False)
def dPeekT (d : DT) : DT := fun ρ R X => d (stillE ρ) (fun b _ => R b ρ) (fun _ _ => False)
theorem je_peek {e : Expr} {d : DE} (h : JE X W ios e d) : JE X W ios e (dPeek d) := pe_imp h fun σ H Q ⟨fr, F, ρ, fps, R, XX, ok, sr, hd, hq, hx⟩ =>
  ⟨⟨stillH ρ fps F H, H, fun _ _ => False, fr.ios⟩, _, _, _, _, _, ⟨ok.1, fun _ _ z => z.elim, fun _ _ z => z.elim⟩, sr.still, hd, fun v F1 H1 x ρ1 fps1 s1 m1 r1 ⟨hl, hR⟩ => hq v F H1 x ρ fps (sr.unstill s1) (Same.refl F) (leaf_rep r1 hl F) hR, fun _ _ _ _ _ _ z => z.elim⟩
theorem jt_peek {e : Expr} {d : DT} (h : JT X W ios e d) : JT X W ios e (dPeekT d) := pt_imp h fun σ H Q ⟨fr, F, ρ, fps, R, XX, ok, sr, hd, hq, hx⟩ =>
  ⟨⟨stillH ρ fps F H, H, fun _ _ => False, fr.ios⟩, _, _, _, _, _, ⟨ok.1, fun _ _ z => z.elim, fun _ _ z => z.elim⟩, sr.still, hd, fun v F1 H1 ρ1 fps1 s1 m1 hR => hq v F H1 ρ fps (sr.unstill s1) (Same.refl F) hR, fun _ _ _ _ _ _ z => z.elim⟩
/-- a slot's own thing becomes still for good -/
def dMove (i : Nat) : DE := fun ρ R _ => ∃ s x, ρ[i]? = some (some s) ∧ s.toD = some x ∧ R x (ρ.set i (some (.d x)))
/-- a slot's own thing is handed on -/
def dTake (i : Nat) : DO := fun ρ R _ => ∃ s, ρ[i]? = some (some s) ∧ R s (ρ.set i none)
theorem jo_take (i : Nat) {x : Str} {pos : Pos} (hi : i ∉ ios.2 := by decide) (hN : X.N[i]? = some x := by rfl) (hv : Vis X.env.scope x := by first | exact Or.inl rfl | exact Or.inr (Or.inl rfl) | exact Or.inr (Or.inr rfl)) (hd : (x == ("__debug__" : Str)) = false := by decide)
    (hcd : (x == ("__classdict__" : Str)) = false := by decide) : JO X W ios (.Name x pos) (dTake i) := pe_imp (pe_var hN hv hd hcd) fun σ H Q ⟨fr, F, ρ, fps, R, XX, ok, sr, ⟨s, e, hR⟩, hq, hx⟩ => by
  obtain ⟨v, h1, h2⟩ := sr.slots i s e
  refine ⟨v, h1, ?_⟩
  have ro : RetOk X.K fr F H (fun j a => j ≠ i ∧ fps j a) v s (fps i) := ⟨h2, fun a ha => by
    obtain ⟨g1, g2, g3⟩ := sr.own i a ha
    exact ⟨g1, g2, g3.resolve_right fun z => hi (ok.2 i a z)⟩, fun j a ha ⟨hj, hb⟩ => hj (sr.apart j i a hb ha), fun a ha => sr.nt i a ha⟩
  exact hq v F H s (fps i) _ _ (sr.forget i) (Same.refl F) ro hR
/-! ### built-ins by data -/
abbrev FN := List Dat → (Dat → Prop) → Prop
def CLink (K : Frag) (r : List V → Hp → VK → Prop) (g : FN) : Prop := ∀ F H xs vs T Q, Same F H → Reps K F vs xs → g xs T → (∀ v F' H' z, Grow F H F' H' → Rep K F' v z → T z → Q v H') → r vs H Q
abbrev FL := List Dat → (List Dat → Prop) → Prop
def CLinkL (K : Frag) (r : List V → Hp → VK → Prop) (g : FL) : Prop := ∀ F H xs vs T Q, Same F H → Reps K F vs xs → g xs T → (∀ p ws zs, H p = none → Reps K F ws zs → T zs → Q (.ref p) (upd H p (.lst ws))) → r vs H Q
def dFn (g : FN) (da : DA) : DE := fun ρ R X => da ρ (fun xs ρ1 => g xs fun z => R z ρ1) X
def dFnL (g : FL) (da : DA) : DO := fun ρ R X => da ρ (fun xs ρ1 => g xs fun zs => R (.l zs) ρ1) X
theorem lift_fn {r : List V → Hp → VK → Prop} {g : FN} {da : DA} (hl : CLink X.K r g) (σ : St) (H : Hp) (Q : VK) (h : liftE X.K W ios (dFn g da) σ H Q) : tCB r (liftA X.K W ios da) σ H Q := by
  obtain ⟨fr, F, ρ, fps, R, XX, ok, sr, hd, hq, hx⟩ := h
  exact ⟨fr, F, ρ, fps, _, XX, ok, sr, hd, fun vs F1 H1 xs ρ1 fps1 s1 m1 r1 hg => hl F1 H1 xs vs _ Q s1.sub r1 hg fun v F2 H2 z gr r2 hR => hq v F2 H2 z ρ1 fps1 (s1.grow gr) (m1.trans gr.ff) r2 hR, hx⟩
theorem lift_fnL {r : List V → Hp → VK → Prop} {g : FL} {da : DA} (hl : CLinkL X.K r g) (σ : St) (H : Hp) (Q : VK) (h : liftO X.K W ios (dFnL g da) σ H Q) : tCB r (liftA X.K W ios da) σ H Q := by
  obtain ⟨fr, F, ρ, fps, R, XX, ok, sr, hd, hq, hx⟩ := h
  exact ⟨fr, F, ρ, fps, _, XX, ok, sr, hd, fun vs F1 H1 xs ρ1 fps1 s1 m1 r1 hg => hl F1 H1 xs vs _ Q s1.sub r1 hg fun p ws zs hp r2 hR => by
    obtain ⟨g1, g2⟩ := retL s1 hp r2
    exact hq _ F1 _ _ _ ρ1 fps1 g1 m1 g2 hR, hx⟩
section
variable {x : Str} {p pos : Pos} {e : Expr} {es : List Expr} {id T : String} {r : List V → Hp → VK → Prop} {g : FN} {gl : FL} {da : DA}
theorem je_fn (hc : CallR X (.builtin id) r) (hl : CLink X.K r g) (hm : X.mg x = none) (ha : JA X W ios (e :: es) da) (hv : bootBuiltins x = some (.builtin id) := by decide +kernel) (hg : Gl X x := by rfl) (hn : x ≠ "__name__" := by decide) (hdb : (x == ("__debug__" : Str)) = false := by decide)
    (he : starEach (e :: es) X.env = (false, eval e X.env) :: starEach es X.env := by rfl) (hpl : (backTo pos (starEach es X.env)).any (·.1) = false := by rfl) : JE X W ios (.Call (.Name x p) (e :: es) [] pos) (dFn g da) :=
  pe_imp (pe_callB hc hg hm hv ha hn hdb he hpl) (lift_fn hl)
theorem je_fnT (hc : CallR X (.type T) r) (hl : CLink X.K r g) (hm : X.mg x = none) (ha : JA X W ios (e :: es) da) (hv : bootBuiltins x = some (.type T) := by decide +kernel) (hg : Gl X x := by rfl) (hn : x ≠ "__name__" := by decide) (hdb : (x == ("__debug__" : Str)) = false := by decide)
    (he : starEach (e :: es) X.env = (false, eval e X.env) :: starEach es X.env := by rfl) (hpl : (backTo pos (starEach es X.env)).any (·.1) = false := by rfl) : JE X W ios (.Call (.Name x p) (e :: es) [] pos) (dFn g da) :=
  pe_imp (pe_callTy hc hg hm hv ha hn hdb he hpl) (lift_fn hl)
theorem jo_fn (hc : CallR X (.builtin id) r) (hl : CLinkL X.K r gl) (hm : X.mg x = none) (ha : JA X W ios (e :: es) da) (hv : bootBuiltins x = some (.builtin id) := by decide +kernel) (hg : Gl X x := by rfl) (hn : x ≠ "__name__" := by decide) (hdb : (x == ("__debug__" : Str)) = false := by decide)
    (he : starEach (e :: es) X.env = (false, eval e X.env) :: starEach es X.env := by rfl) (hpl : (backTo pos (starEach es X.env)).any (·.1) = false := by rfl) : JO X W ios (.Call (.Name x p) (e :: es) [] pos) (dFnL gl da) :=
  pe_imp (pe_callB hc hg hm hv ha hn hdb he hpl) (lift_fnL hl)
theorem jo_fnT (hc : CallR X (.type T) r) (hl : CLinkL X.K r gl) (hm : X.mg x = none) (ha : JA X W ios (e :: es) da) (hv : bootBuiltins x = some (.type T) := by decide +kernel) (hg : Gl X x := by rfl) (hn : x ≠ "__name__" := by decide) (hdb : (x == ("__debug__" : Str)) = false := by decide)
    (he : starEach (e :: es) X.env = (false, eval e X.env) :: starEach es X.env := by rfl) (hpl : (backTo pos (starEach es X.env)).any (·.1) = false := by rfl) : JO X W ios (.Call (.Name x p) (e :: es) [] pos) (dFnL gl da) :=
  pe_imp (pe_callTy hc hg hm hv ha hn hdb he hpl) (lift_fnL hl)
end
section
variable {pins : List (Addr × Obj)} {σ : St} {H : Hp} {s : Shared}
theorem frzX {d : Addr} {o : Obj} {hx : HX} {ws : List (KX × V × V)} (I : Inv X pins σ H s) (h : H d = some (.frz o (.ext (XD hx d ws)))) :
    (d == sysModules) = false ∧ s.heap.get? d = some o ∧ o.ExactDict ∧ ∃ (es : Array DictEntry) (ep : Nat), o.data = .dict es ep ∧ es.size = ws.length ∧ ws.length ≤ sizeLine ∧
      Paired (fun (w : KX × V × V) (e : DictEntry) => e.hash = hx w.1.nk ∧ RelV w.2.1 e.key ∧ RelV w.2.2 e.val) ws es.toList ∧ (ws.map fun w => w.1.nk).Nodup := by
  obtain ⟨hd, ⟨z, hs, o', es, ep, ho, hx, hdt, pr, nd⟩, _⟩ := I.hok d _ h
  rw [hd] at ho
  cases ho
  refine ⟨hs, hd, hx, es, ep, hdt, ?_, z, pr, nd⟩
  have l1 := Paired.length pr
  rw [Array.length_toList] at l1
  exact l1.symm
/-! len, list -/
def rLenX : List V → Hp → VK → Prop := fun xs H Q => ∃ a o hx ws, xs = [V.ref a] ∧ H a = some (.frz o (.ext (XD hx a ws))) ∧ Q (.int ws.length) H
theorem call_lenX : CallR X (.builtin "len") rLenX := by
  intro pins s σ H xs us Q I r h
  obtain ⟨a, o, hx, ws, rfl, ha, q⟩ := h
  obtain ⟨u, rfl, ru⟩ := vals1 r
  cases ru
  obtain ⟨hs, hg, hex, es, ep, hdt, hsz, z, pr, nd⟩ := frzX I ha
  have hm : s.heap.DictRaw a es ep := ⟨o, hg, hex, hdt⟩
  have hz := sizeLine_eq
  refine PyProof.Rows.call_len_slot (n := ws.length) hm.typeIs PySem.F.slot_dict_len (fun Q' hq => call_len_raw hs hm (by rw [hsz]; exact hq)) (by omega) (by omega) ⟨.int ws.length, H, (I.tok _).tok _, ⟨_, rfl⟩, q⟩
def rListX : List V → Hp → VK → Prop := fun xs H Q => ∃ a o hx ws, xs = [V.ref a] ∧ H a = some (.frz o (.ext (XD hx a ws))) ∧ ∀ p, H p = none → Q (.ref p) (upd H p (.lst (ws.map (·.2.1))))
theorem call_listX (hcalm : X.calm = true) : CallR X (.type "list") rListX := by
  intro pins s σ H xs us Q I r h
  obtain ⟨a, o, hx, ws, rfl, ha, q⟩ := h
  obtain ⟨u, rfl, ru⟩ := vals1 r
  cases ru
  obtain ⟨hs, hg, hex, es, ep, hdt, hsz, z, pr, nd⟩ := frzX I ha
  have hm : s.heap.DictRaw a es ep := ⟨o, hg, hex, hdt⟩
  refine PySem.W.kdl_call (KdlSrc.rawDict (es := es) (ep := ep) hs) (I.ok.hd hcalm) hm (by rw [hsz]; exact z) fun h' tk acc c' hk hD hacc => ?_
  have hv : Vals (ws.map (·.2.1)) acc.toList := by
    have hl : acc.toList.length = ws.length := by rw [Array.length_toList, hacc.1, hsz]
    have key : ∀ (i : Nat) (w : (KX × V × V)), ws[i]? = some w → ∃ u, acc.toList[i]? = some u ∧ RelV w.2.1 u := fun i w hw => by
      obtain ⟨e, he, h1, h2, h3⟩ := paired_get pr hw
      rw [Array.getElem?_toList] at he
      obtain ⟨hi, he⟩ := Array.getElem?_eq_some_iff.mp he
      obtain ⟨u, hu⟩ : ∃ u, acc.toList[i]? = some u := ⟨_, List.getElem?_eq_getElem (by rw [hl, ← hsz]; exact hi)⟩
      obtain ⟨_, e2⟩ := hacc.2 i u (by rw [← Array.getElem?_toList]; exact hu)
      refine ⟨u, hu, ?_⟩
      rw [e2, he]
      exact h2
    clear hacc hD pr nd ha q
    revert key hl
    generalize acc.toList = l
    clear hm hdt hsz hs hg hex z
    induction ws generalizing l with
    | nil =>
      intro hl _
      cases l with
      | nil => exact .nil
      | cons _ _ => simp at hl
    | cons w ws ih =>
      intro hl key
      cases l with
      | nil => simp at hl
      | cons u l =>
        obtain ⟨u', e1, e2⟩ := key 0 w rfl
        cases e1
        exact .cons e2 (ih l (by simpa using hl) fun i w hw => key (i + 1) w hw)
  exact ⟨.ref s.heap.objs.size, upd H s.heap.objs.size (.lst (ws.map (·.2.1))), I.laid (t' := tk) hk (Nat.le_refl _)
    (show ObjOk X.prog X.w _ _ _ (.lst (ws.map (·.2.1))) from ⟨by rw [List.length_map]; exact z, acc.toList, c', hv, by rw [Array.toArray_toList]; exact hD⟩), rfl, q _ (I.hok.fresh (Nat.le_refl _))⟩
/-! isinstance -/
/-- a value's type, a dict with keys of any kind too -/
def TyY (K : Frag) (H : Hp) (x : V) (t : Value) : Prop := TyX K H x t ∨ (t = .type "dict" ∧ ∃ a o hx ws, x = .ref a ∧ H a = some (.frz o (.ext (XD hx a ws))))
theorem kit_y {x : V} {u t : Value} (I : Inv X pins σ H s) (rx : RelV x u) (ty : TyY X.K H x t) : ∃ P : Heap → Prop, PySem.W.KitX X.K u t P ∧ P s.heap ∧ u ≠ .builtin "__main__.__loader__#opaque" := by
  rcases ty with ty | ⟨rfl, a, o, hx, ws, rfl, ha⟩
  · exact kit_of I rx ty
  · cases (show u = Value.ref a from rx)
    obtain ⟨hs, hg, hex, _⟩ := frzX I ha
    exact ⟨_, PySem.W.kitx_dict, ⟨o, hg, hex.1⟩, fun z => nomatch z⟩
def rIsY (K : Frag) : List V → Hp → VK → Prop := fun xs H Q => ∃ (x c : V) (t u : Value) (b : Bool), xs = [x, c] ∧ ClsV c u ∧ TyY K H x t ∧ PySem.W.kitOne K t u = some b ∧ Q (.bl b) H
theorem call_isY : CallR X (.builtin "isinstance") (rIsY X.K) := by
  intro pins s σ H xs us Q I r h
  obtain ⟨x, c, t, u, b, rfl, k, ty, e, q⟩ := h
  obtain ⟨u1, u2, rfl, r1, r2⟩ := vals2 r
  have e2 := k.eq r2
  subst e2
  obtain ⟨P, Z, p, hx⟩ := kit_y I r1 ty
  exact PySem.W.kia_one Z I.kIn p e hx fun tk => ⟨.bl b, H, I.tok tk, rfl, q⟩
def rIsYT (K : Frag) : List V → Hp → VK → Prop := fun xs H Q => ∃ (x : V) (tp : Addr) (cs : List V) (t : Value) (us : List Value) (b : Bool), xs = [x, .ref tp] ∧ H tp = some (.tup cs) ∧ Paired ClsV cs us ∧ TyY K H x t ∧ PySem.W.kitAny K t us = some b ∧ Q (.bl b) H
theorem call_isYT : CallR X (.builtin "isinstance") (rIsYT X.K) := by
  intro pins s σ H xs us Q I r h
  obtain ⟨x, tp, cs, t, ws, b, rfl, hT, k, ty, e, q⟩ := h
  obtain ⟨u1, u2, rfl, r1, r2⟩ := vals2 r
  cases (show u2 = Value.ref tp from r2)
  obtain ⟨P, Z, p, hx⟩ := kit_y I r1 ty
  obtain ⟨_, its, rv, o, h1, h2, n, h3⟩ := (show ObjOk X.prog X.w H s.heap tp (.tup cs) from I.hok tp _ hT)
  have e3 := ClsV.all k rv
  subst e3
  obtain ⟨oc, od, dt, sl⟩ := o
  simp only at h2 h3
  subst h2 h3
  exact PySem.W.kia_tup Z I.kIn p h1 e hx fun tk => ⟨.bl b, H, I.tok tk, rfl, q⟩
end
/-! len -/
def fLen : FN
  | [.lst xs], T => T (.int xs.length)
  | [.tup xs], T => T (.int xs.length)
  | [.scr ns], T => T (.int ns.length)
  | [.str s], T => s.length ≤ sizeLine ∧ T (.int s.length)
  | [.dk kvs], T => T (.int kvs.length)
  | [.dx _ kvs], T => T (.int kvs.length)
  | _, _ => False
abbrev CR := List V → Hp → VK → Prop
abbrev CRor (r r' : CR) : CR := fun xs H Q => r xs H Q ∨ r' xs H Q
def rLenA (K : Frag) : CR := CRor (fun xs H Q => ∃ x n, xs = [x] ∧ LenV K x H n ∧ Q (.int n) H) (CRor (fun xs H Q => ∃ a kvs, xs = [V.ref a] ∧ Rd H a (.dK kvs) ∧ Q (.int kvs.length) H) rLenX)
theorem call_lenR : CallR X (.builtin "len") (fun xs H Q => ∃ a kvs, xs = [V.ref a] ∧ Rd H a (.dK kvs) ∧ Q (.int kvs.length) H) := by
  intro pins s σ H xs us Q I r h
  obtain ⟨a, kvs, rfl, ha, q⟩ := h
  obtain ⟨u, rfl, ru⟩ := vals1 r
  cases ru
  exact d_len I ha fun t s' I' => ⟨.int kvs.length, H, I', ⟨t, rfl⟩, q⟩
theorem call_lenA : CallR X (.builtin "len") (rLenA X.K) := call_len.or (call_lenR.or call_lenX)
theorem cl_len : CLink X.K (rLenA X.K) fLen := by
  intro F H xs vs T Q s r h k
  match xs with
  | [] => exact h.elim
  | x :: y :: z => cases x <;> exact h.elim
  | [x] =>
    obtain ⟨v, ws, rfl, rx, r2⟩ := r.uncons
    obtain rfl := r2.unnil
    cases x <;> try exact h.elim
    · cases rx
      exact .inl ⟨_, _, rfl, ⟨h.1, rfl⟩, k _ F H _ (Grow.refl s) (.int _) h.2⟩
    · rename_i ys
      cases rx with
      | @lst a us _ ha l q => exact .inl ⟨_, us.length, rfl, .inl ⟨us, SqL.of (s _ _ ha), rfl⟩, k _ F H _ (Grow.refl s) (.int _) (by rw [l]; exact h)⟩
    · rename_i ys
      cases rx with
      | @tup a us _ ha l q => exact .inl ⟨_, us.length, rfl, .inr ⟨us, SqT.of (s _ _ ha), rfl⟩, k _ F H _ (Grow.refl s) (.int _) (by rw [l]; exact h)⟩
    · rename_i ys
      cases rx with
      | @dk a ob us _ ha l q =>
        have e : us.length = ys.length := by have := congrArg List.length l; simpa using this
        exact .inr (.inl ⟨_, us, rfl, .inr ⟨_, s _ _ ha⟩, k _ F H _ (Grow.refl s) (.int _) (by rw [e]; exact h)⟩)
    · rename_i hx ys
      cases rx with
      | @dx a ob _ us _ ha l g q =>
        have e : us.length = ys.length := by have := congrArg List.length l; simpa using this
        exact .inr (.inr ⟨a, ob, hx, us, rfl, s _ _ ha, k _ F H _ (Grow.refl s) (.int _) (by rw [e]; exact h)⟩)
    · rename_i ns
      cases rx with
      | @scr a _ ha => exact .inl ⟨_, (ns.map V.int).length, rfl, .inl ⟨_, s.seq ha, rfl⟩, k _ F H _ (Grow.refl s) (.int _) (by rw [List.length_map]; exact h)⟩
/-! max, min, sum of ints -/
def intsD : List Dat → Option (List Int)
  | [] => some []
  | .int i :: xs => (intsD xs).map (i :: ·)
  | _ => none
theorem ints_rep {K : Frag} {F : Hp} : ∀ {xs : List Dat} {vs : List V} {ns : List Int}, Reps K F vs xs → intsD xs = some ns → vs = ns.map V.int
  | [], vs, ns, r, e => by cases e; exact r.unnil
  | x :: xs, vs, ns, r, e => by
    obtain ⟨v, ws, rfl, h1, h2⟩ := r.uncons
    cases x <;> simp only [intsD] at e <;> try (cases e; done)
    rename_i i
    cases q : intsD xs with
    | none => rw [q] at e; cases e
    | some ms =>
      rw [q] at e
      cases e
      cases h1
      rw [ints_rep h2 q]
      rfl
theorem intsD_map : ∀ ns : List Int, intsD (ns.map Dat.int) = some ns
  | [] => rfl
  | n :: ns => by
    show (intsD (ns.map Dat.int)).map (n :: ·) = _
    rw [intsD_map ns]
    rfl
def fMaxL : FN
  | [.lst xs], T => ∃ ns, intsD xs = some ns ∧ 0 < ns.length ∧ ∀ m, m ∈ ns → (∀ y, y ∈ ns → y ≤ m) → T (.int m)
  | _, _ => False
def fMax2 : FN
  | [.int i, .int j], T => T (.int (if j > i then j else i))
  | _, _ => False
def fMin2 : FN
  | [.int i, .int j], T => T (.int (if j < i then j else i))
  | _, _ => False
theorem cl_max : CLink X.K (rMax X.K) fMaxL := by
  intro F H xs vs T Q s r h k
  match xs with
  | [] => exact h.elim
  | x :: y :: z => cases x <;> exact h.elim
  | [x] =>
    obtain ⟨v, ws, rfl, rx, r2⟩ := r.uncons
    obtain rfl := r2.unnil
    cases x <;> try exact h.elim
    rename_i ys
    obtain ⟨ns, e, h0, h⟩ := h
    cases rx with
    | @lst a us _ ha l q =>
      have eu := ints_rep (⟨l, q⟩ : Reps X.K F us ys) e
      subst eu
      exact ⟨a, ns, rfl, SqL.of (s _ _ ha), h0, fun m h1 h2 => k _ F H _ (Grow.refl s) (.int _) (h m h1 h2)⟩
theorem cl_max2 : CLink X.K (fun xs H Q => ∃ i j, xs = [.int i, .int j] ∧ Q (.int (if j > i then j else i)) H) fMax2 := by
  intro F H xs vs T Q s r h k
  match xs with
  | [] => exact h.elim
  | [x] => cases x <;> exact h.elim
  | x :: y :: z :: w => cases x <;> cases y <;> exact h.elim
  | [x, y] =>
    obtain ⟨v, ws, rfl, rx, r2⟩ := r.uncons
    obtain ⟨u, ws, rfl, ry, r2⟩ := r2.uncons
    obtain rfl := r2.unnil
    cases x <;> cases y <;> try exact h.elim
    cases rx; cases ry
    exact ⟨_, _, rfl, k _ F H _ (Grow.refl s) (.int _) h⟩
theorem cl_min2 : CLink X.K (fun xs H Q => ∃ i j, xs = [.int i, .int j] ∧ Q (.int (if j < i then j else i)) H) fMin2 := by
  intro F H xs vs T Q s r h k
  match xs with
  | [] => exact h.elim
  | [x] => cases x <;> exact h.elim
  | x :: y :: z :: w => cases x <;> cases y <;> exact h.elim
  | [x, y] =>
    obtain ⟨v, ws, rfl, rx, r2⟩ := r.uncons
    obtain ⟨u, ws, rfl, ry, r2⟩ := r2.uncons
    obtain rfl := r2.unnil
    cases x <;> cases y <;> try exact h.elim
    cases rx; cases ry
    exact ⟨_, _, rfl, k _ F H _ (Grow.refl s) (.int _) h⟩
/-! int, str, list, tuple of data -/
def fInt : FN
  | [.int i], T => T (.int i)
  | [.bl b], T => T (.int (if b then 1 else 0))
  | [.str s], T => ∃ n, PySem.intText? s = some n ∧ s.length ≤ 640 ∧ T (.int n)
  | _, _ => False
def rIntA : CR := CRor (fun xs H Q => (∃ i, xs = [.int i] ∧ Q (.int i) H) ∨ ∃ k, xs = [.bl k] ∧ Q (.int (if k then 1 else 0)) H) (fun xs H Q => ∃ a n, xs = [.str a] ∧ PySem.intText? a = some n ∧ a.length ≤ 640 ∧ Q (.int n) H)
theorem call_intA : CallR X (.type "int") rIntA := call_int1.or call_int_str
theorem cl_int : CLink X.K rIntA fInt := by
  intro F H xs vs T Q s r h k
  match xs with
  | [] => exact h.elim
  | x :: y :: z => cases x <;> exact h.elim
  | [x] =>
    obtain ⟨v, ws, rfl, rx, r2⟩ := r.uncons
    obtain rfl := r2.unnil
    cases x <;> try exact h.elim
    · cases rx; exact .inl (.inr ⟨_, rfl, k _ F H _ (Grow.refl s) (.int _) h⟩)
    · cases rx; exact .inl (.inl ⟨_, rfl, k _ F H _ (Grow.refl s) (.int _) h⟩)
    · cases rx
      obtain ⟨n, h1, h2, h3⟩ := h
      exact .inr ⟨_, n, rfl, h1, h2, k _ F H _ (Grow.refl s) (.int _) h3⟩
def fStr : FN
  | [.int i], T => i.natAbs.log2 < 1920 ∧ T (.str (toString i))
  | [.str s], T => T (.str s)
  | _, _ => False
def rStrA : CR := CRor (fun xs H Q => ∃ i, xs = [.int i] ∧ i.natAbs.log2 < 1920 ∧ Q (.str (toString i)) H) (fun xs H Q => ∃ a, xs = [.str a] ∧ Q (.str a) H)
theorem call_strA : CallR X (.type "str") rStrA := call_str_int.or SkE.call_str_str
theorem cl_str : CLink X.K rStrA fStr := by
  intro F H xs vs T Q s r h k
  match xs with
  | [] => exact h.elim
  | x :: y :: z => cases x <;> exact h.elim
  | [x] =>
    obtain ⟨v, ws, rfl, rx, r2⟩ := r.uncons
    obtain rfl := r2.unnil
    cases x <;> try exact h.elim
    · cases rx; exact .inl ⟨_, rfl, h.1, k _ F H _ (Grow.refl s) (.str _) h.2⟩
    · cases rx; exact .inr ⟨_, rfl, k _ F H _ (Grow.refl s) (.str _) h⟩
def kD : Key → Dat
  | .inl i => .int i
  | .inr z => .str z
theorem kD_rep {K : Frag} {F : Hp} (k : Key) : Rep K F (kV k) (kD k) := by
  cases k with
  | inl i => exact .int i
  | inr z => exact .str z
def kxD : KX → Dat
  | .k κ => kD κ
  | .non => .non
  | .tru => .bl true
  | .tup s => .tup [.str s]
theorem kxD_rep {K : Frag} {F : Hp} {v : V} {k : KX} (h : XKR F v k) : Rep K F v (kxD k) := by
  cases k with
  | k κ => cases h; exact kD_rep κ
  | non => cases h; exact .non
  | tru => cases h; exact .bl true
  | tup s =>
    obtain ⟨b, rfl, hb⟩ := h
    exact .tup hb rfl fun i v x h1 h2 => by
      cases i with
      | zero => simp at h1 h2; subst h1; subst h2; exact .str s
      | succ i => simp at h1
theorem RepsX.uncons {K : Frag} {F : Hp} {ws : List (KX × V × V)} {p : KX × Dat} {kvs : List (KX × Dat)} (r : RepsX K F ws (p :: kvs)) : ∃ w vs, ws = w :: vs ∧ w.1 = p.1 ∧ XKR F w.2.1 w.1 ∧ Rep K F w.2.2 p.2 ∧ RepsX K F vs kvs := by
  cases ws with
  | nil => have := r.keys; simp at this
  | cons w vs =>
    have e := r.keys
    simp only [List.map_cons, List.cons.injEq] at e
    exact ⟨w, vs, rfl, e.1, r.own 0 w rfl, r.at_ 0 w p rfl rfl, e.2, fun i w h => r.own (i + 1) w h, fun i w p h1 h2 => r.at_ (i + 1) w p h1 h2⟩
theorem reps_keysX {K : Frag} {F : Hp} : ∀ {kvs : List (KX × Dat)} {ws : List (KX × V × V)}, RepsX K F ws kvs → Reps K F (ws.map (·.2.1)) (kvs.map fun kv => kxD kv.1)
  | [], ws, r => by exact (show ws = [] from by cases ws with | nil => rfl | cons w ws => have := r.keys; simp at this) ▸ Reps.nil
  | p :: kvs, ws, r => by
    obtain ⟨w, vs, rfl, e, o, q, r'⟩ := r.uncons
    refine Reps.cons ?_ (reps_keysX r')
    show Rep K F w.2.1 (kxD p.1)
    rw [← e]
    exact kxD_rep o
def fListL : FL
  | [.lst xs], T => T xs
  | [.tup xs], T => T xs
  | [.scr ns], T => T (ns.map .int)
  | [.dk kvs], T => T (kvs.map fun kv => match kv.1 with | .inl i => .int i | .inr s => .str s)
  | [.dx _ kvs], T => T (kvs.map fun kv => kxD kv.1)
  | _, _ => False
def rListR : CR := fun xs H Q => ∃ (a : Addr) (kvs : List (Key × V)), xs = [.ref a] ∧ Rd H a (.dK kvs) ∧ ∀ p, H p = none → Q (.ref p) (upd H p (.lst (kvs.map fun kv => kV kv.1)))
def rListA (K : Frag) : CR := CRor (fun xs H Q => ∃ p ys, xs = [.ref p] ∧ (SqL K H p ys ∨ SqT K H p ys) ∧ ∀ l, H l = none → Q (.ref l) (upd H l (.lst ys))) (CRor rListR rListX)
theorem call_listA (hc : X.calm = true) : CallR X (.type "list") (rListA X.K) := call_list_of.or ((call_listD hc).or (call_listX hc))
theorem reps_ints {K : Frag} {F : Hp} : ∀ ns : List Int, Reps K F (ns.map V.int) (ns.map Dat.int)
  | [] => Reps.nil
  | n :: ns => Reps.cons (.int n) (reps_ints ns)
theorem reps_keys {K : Frag} {F : Hp} : ∀ {ws : List (Key × V)} {kvs : List (Key × Dat)}, ws.map (·.1) = kvs.map (·.1) → Reps K F (ws.map fun kv => kV kv.1) (kvs.map fun kv => match kv.1 with | .inl i => .int i | .inr s => .str s)
  | [], [], _ => Reps.nil
  | [], _ :: _, h => by simp at h
  | _ :: _, [], h => by simp at h
  | (k1, v) :: ws, (k2, x) :: kvs, h => by
    simp only [List.map_cons, List.cons.injEq] at h
    obtain ⟨e, h⟩ := h
    subst e
    refine Reps.cons ?_ (reps_keys h)
    cases k1
    · exact .int _
    · exact .str _
theorem cl_list : CLinkL X.K (rListA X.K) fListL := by
  intro F H xs vs T Q s r h k
  match xs with
  | [] => exact h.elim
  | x :: y :: z => cases x <;> exact h.elim
  | [x] =>
    obtain ⟨v, ws, rfl, rx, r2⟩ := r.uncons
    obtain rfl := r2.unnil
    cases x <;> try exact h.elim
    · rename_i ys
      cases rx with
      | @lst a us _ ha l q => exact .inl ⟨a, us, rfl, .inl (SqL.of (s _ _ ha)), fun p hp => k p us ys hp ⟨l, q⟩ h⟩
    · rename_i ys
      cases rx with
      | @tup a us _ ha l q => exact .inl ⟨a, us, rfl, .inr (SqT.of (s _ _ ha)), fun p hp => k p us ys hp ⟨l, q⟩ h⟩
    · rename_i ys
      cases rx with
      | @dk a ob us _ ha l q => exact .inr (.inl ⟨a, us, rfl, .inr ⟨_, s _ _ ha⟩, fun p hp => k p _ _ hp (reps_keys l) h⟩)
    · rename_i hx ys
      cases rx with
      | @dx a ob _ us _ ha l g q => exact .inr (.inr ⟨a, ob, hx, us, rfl, s _ _ ha, fun p hp => k p _ _ hp (reps_keysX ⟨l, g, q⟩) h⟩)
    · rename_i ns
      cases rx with
      | @scr a _ ha => exact .inl ⟨a, _, rfl, .inl (s.seq ha), fun p hp => k p _ _ hp (reps_ints ns) h⟩
def fTupF : FN
  | [.lst xs], T => T (.tup xs)
  | [.tup xs], T => T (.tup xs)
  | _, _ => False
theorem cl_tuple : CLink X.K (fun xs H Q => ∃ p ys, xs = [.ref p] ∧ ((SqL X.K H p ys ∧ ∀ l, H l = none → Q (.ref l) (upd H l (.tup ys))) ∨ (SqT X.K H p ys ∧ Q (.ref p) H))) fTupF := by
  intro F H xs vs T Q s r h k
  match xs with
  | [] => exact h.elim
  | x :: y :: z => cases x <;> exact h.elim
  | [x] =>
    obtain ⟨v, ws, rfl, rx, r2⟩ := r.uncons
    obtain rfl := r2.unnil
    cases x <;> try exact h.elim
    · rename_i ys
      cases rx with
      | @lst a us _ ha l q =>
        refine ⟨a, us, rfl, .inl ⟨SqL.of (s _ _ ha), fun p hp => ?_⟩⟩
        have g := Grow.lay (o := .tup us) s hp
        exact k _ _ _ _ g (.tup upd_same l ((⟨l, q⟩ : Reps X.K F us ys).mono g.ff).at_) h
    · rename_i ys
      cases rx with
      | @tup a us _ ha l q => exact ⟨a, us, rfl, .inr ⟨SqT.of (s _ _ ha), k _ F H _ (Grow.refl s) (.tup ha l q) h⟩⟩
/-! ### isinstance -/
def tyD : Dat → String
  | .non => "NoneType" | .bl _ => "bool" | .int _ => "int" | .str _ => "str" | .lst _ => "list" | .tup _ => "tuple" | .dk _ => "dict" | .dt _ => "dict" | .dx _ _ => "dict" | .scr _ => "list" | .ptr _ => "dict"
def tyIs (t T : String) : Bool := t == T || (t == "bool" && T == "int")
def isiD (T : String) (x : Dat) : Bool := tyIs (tyD x) T
theorem kits : ∀ T ∈ ["int", "bool", "str", "list", "tuple", "dict"], ∀ t ∈ ["NoneType", "bool", "int", "str", "list", "tuple", "dict"], kitB t T = some (tyIs t T) := by decide +kernel
theorem tyD_mem (x : Dat) : tyD x ∈ ["NoneType", "bool", "int", "str", "list", "tuple", "dict"] := by cases x <;> simp [tyD]
/-- no dict of tuple keys -/
def ndt : Dat → Prop
  | .dt _ => False
  | .ptr _ => False
  | _ => True
theorem tyX_of {K : Frag} {F H : Hp} (s : Same F H) {v : V} {x : Dat} (r : Rep K F v x) (nx : ndt x) (nn : match x with | .dx _ _ => False | _ => True) : TyX K H v (.type (tyD x)) := by
  cases r with
  | non => exact .base .non
  | bl b => exact .base (.bl b)
  | int i => exact .base (.int i)
  | str z => exact .base (.str z)
  | lst h _ _ => exact .base (.lst (s _ _ h))
  | tup h _ _ => exact .base (.tup (s _ _ h))
  | dk h _ _ => exact .fDict (s _ _ h)
  | dt h _ _ => exact nx.elim
  | dx h _ _ _ => exact nn.elim
  | ptr a => exact nx.elim
  | scr h =>
    rcases s.seq h with (h | ⟨o, h⟩) | ⟨o, its, n, h, hc, _⟩
    · exact .base (.lst h)
    · exact .base (.frz h)
    · exact .kList h hc
theorem tyY_of {K : Frag} {F H : Hp} (s : Same F H) {v : V} {x : Dat} (r : Rep K F v x) (nx : ndt x) : TyY K H v (.type (tyD x)) := by
  cases x with
  | dx hx kvs =>
    cases r with
    | @dx a o _ ws _ ha l g q => exact .inr ⟨rfl, a, o, hx, ws, rfl, s _ _ ha⟩
  | _ => exact .inl (tyX_of s r nx trivial)
def dIsi (T : String) (d : DE) : DE := fun ρ R X => d ρ (fun x ρ1 => ndt x ∧ R (.bl (isiD T x)) ρ1) X
theorem je_isi {T : String} {y : Str} {p p2 pos : Pos} {e : Expr} {d : DE} (hT : T ∈ ["int", "bool", "str", "list", "tuple", "dict"]) (hy : bootBuiltins y = some (.type T)) (hmi : X.mg "isinstance" = none) (hmy : X.mg y = none) (he : JE X W ios e d)
    (hg : Gl X "isinstance" := by rfl) (hgy : Gl X y := by rfl) (hny : y ≠ "__name__" := by decide) (hdy : (y == ("__debug__" : Str)) = false := by decide)
    (h1 : starEach [e, .Name y p2] X.env = (false, eval e X.env) :: starEach [.Name y p2] X.env := by rfl) (h2 : starEach [.Name y p2] X.env = (false, eval (.Name y p2) X.env) :: starEach [] X.env := by rfl)
    (hpl : (backTo pos (starEach [.Name y p2] X.env)).any (·.1) = false := by rfl) :
    JE X W ios (.Call (.Name "isinstance" p) [e, .Name y p2] [] pos) (dIsi T d) :=
  pe_imp (pe_callB call_isY hg hmi (by decide +kernel) (pa_cons he (pa_cons (pe_bltn (v := .ty T) hgy hmy hy rfl hny hdy) pa_nil h2) h1) (by decide) (by decide) h1 hpl) fun σ H Q ⟨fr, F, ρ, fps, R, XX, ok, sr, hd, hq, hx⟩ =>
    ⟨fr, F, ρ, fps, _, XX, ok, sr, hd, fun v F1 H1 x ρ1 fps1 s1 m1 r1 ⟨nx, hR⟩ =>
      ⟨v, .ty T, _, _, isiD T x, rfl, .ty T, tyY_of s1.sub r1 nx, kit_ty (kits T hT _ (tyD_mem x)), hq _ F1 H1 _ ρ1 fps1 s1 m1 (.bl _) hR⟩, hx⟩
/-- isinstance(e, (A, B)) -/
def dIsi2 (T U : String) (d : DE) : DE := fun ρ R X => d ρ (fun x ρ1 => ndt x ∧ R (.bl (isiD T x || isiD U x)) ρ1) X
theorem kitAny2 {K : Frag} {t T U : String} {a b : Bool} (h1 : kitB t T = some a) (h2 : kitB t U = some b) : PySem.W.kitAny K (.type t) [.type T, .type U] = some (a || b) := by
  refine kitAny_cons (kit_ty h1) (fun e => ?_) fun e => by rw [e]; rfl
  subst e
  exact kitAny_cons (kit_ty h2) (fun e => by subst e; exact kitAny_nil) fun e => by rw [e]; rfl
theorem je_isi2 {T U : String} {y z : Str} {k} {p p2 p3 p4 pos : Pos} {e : Expr} {d : DE} (hT : T ∈ ["int", "bool", "str", "list", "tuple", "dict"]) (hU : U ∈ ["int", "bool", "str", "list", "tuple", "dict"]) (hy : bootBuiltins y = some (.type T)) (hz : bootBuiltins z = some (.type U)) (hmi : X.mg "isinstance" = none) (hmy : X.mg y = none) (hmz : X.mg z = none) (he : JE X W ios e d)
    (hg : Gl X "isinstance" := by rfl) (hgy : Gl X y := by rfl) (hgz : Gl X z := by rfl) (hny : y ≠ "__name__" := by decide) (hdy : (y == ("__debug__" : Str)) = false := by decide) (hnz : z ≠ "__name__" := by decide) (hdz : (z == ("__debug__" : Str)) = false := by decide)
    (h1 : starEach [e, .Tuple [.Name y p2, .Name z p3] k p4] X.env = (false, eval e X.env) :: starEach [.Tuple [.Name y p2, .Name z p3] k p4] X.env := by rfl) (h2 : starEach [.Tuple [.Name y p2, .Name z p3] k p4] X.env = (false, eval (.Tuple [.Name y p2, .Name z p3] k p4) X.env) :: starEach [] X.env := by rfl)
    (h3 : starEach [.Name y p2, .Name z p3] X.env = (false, eval (.Name y p2) X.env) :: starEach [.Name z p3] X.env := by rfl) (h4 : starEach [.Name z p3] X.env = (false, eval (.Name z p3) X.env) :: starEach [] X.env := by rfl)
    (hpl : (backTo pos (starEach [.Tuple [.Name y p2, .Name z p3] k p4] X.env)).any (·.1) = false := by rfl) :
    JE X W ios (.Call (.Name "isinstance" p) [e, .Tuple [.Name y p2, .Name z p3] k p4] [] pos) (dIsi2 T U d) :=
  pe_imp (pe_callB call_isYT hg hmi (by decide +kernel) (pa_cons he (pa_cons (pe_tup (pa_cons (pe_bltn (v := .ty T) hgy hmy hy rfl hny hdy) (pa_cons (pe_bltn (v := .ty U) hgz hmz hz rfl hnz hdz) pa_nil h4) h3)) pa_nil h2) h1) (by decide) (by decide) h1 hpl) fun σ H Q ⟨fr, F, ρ, fps, R, XX, ok, sr, hd, hq, hx⟩ =>
    ⟨fr, F, ρ, fps, _, XX, ok, sr, hd, fun v F1 H1 x ρ1 fps1 s1 m1 r1 ⟨nx, hR⟩ => by
      refine ⟨(by show 2 ≤ sizeLine; decide), fun q hq' => ?_⟩
      have g := Grow.own (o := .tup [.ty T, .ty U]) s1.sub hq'
      exact ⟨v, q, _, _, _, isiD T x || isiD U x, rfl, upd_same, .cons (.ty T) (.cons (.ty U) .nil), tyY_of (s1.grow g).sub r1 nx, kitAny2 (kits T hT _ (tyD_mem x)) (kits U hU _ (tyD_mem x)), hq _ F1 _ _ ρ1 fps1 (s1.grow g) m1 (.bl _) hR⟩, hx⟩
end
end DL
/-! DL, part 6: statements, targets, loops, comprehensions. -/
namespace DL
open PySem L2
section
variable {X : Cx} {W : WX} {ios : Ios}
/-! ### blocks -/
def dNext : DS := fun D ρ => D.nx ρ
def dSeq (t u : DS) : DS := fun D ρ => t { D with nx := u D } ρ
theorem jss_nil : JSs X W ios [] dNext := pss_imp pss_nil fun D σ H ⟨fr, F, ρ, fps, DD, ok, sr, hd, so⟩ => so.nx F H ρ σ fps sr hd
theorem jss_cons {st : Stmt} {rest : List Stmt} {t u : DS} (h1 : JS X W ios st t) (h2 : JSs X W ios rest u) : JSs X W ios (st :: rest) (dSeq t u) :=
  pss_imp (pss_cons h1 h2) fun D σ H ⟨fr, F, ρ, fps, DD, ok, sr, hd, so⟩ => ⟨fr, F, ρ, fps, { DD with nx := u DD }, ok, sr, hd, ⟨fun F1 H1 ρ1 σ1 fps1 s1 q => ⟨fr, F1, ρ1, fps1, DD, ok, s1, q, so⟩, so.bk, so.ct, so.rt, so.ex⟩⟩
theorem jss_one {st : Stmt} {t : DS} (h1 : JS X W ios st t) : JSs X W ios [st] t := pss_one h1
def dPass : DS := fun D ρ => D.nx ρ
def dBreak : DS := fun D ρ => D.bk ρ
def dCont : DS := fun D ρ => D.ct ρ
theorem SOk.xok {K : Frag} {fr : Fr} {DD : DK} {D : Ends} {σ : St} (so : SOk K W fr DD D) : XOk K W fr σ DD.ex := fun cls F H ρ fps s q => so.ex cls F H ρ σ fps s q
def dDrop (d : DE) : DS := fun D ρ => d ρ (fun _ ρ1 => D.nx ρ1) D.ex
theorem js_expr {e : Expr} {d : DE} {pos : Pos} (h : JE X W ios e d) (hs : swapsWith e none pos.line X.env = pure false := by rfl) : JS X W ios (.Expr e pos) (dDrop d) :=
  ps_imp (ps_expr h hs) fun D σ H ⟨fr, F, ρ, fps, DD, ok, sr, hd, so⟩ => ⟨fr, F, ρ, fps, _, DD.ex, ok, sr, hd, fun v F1 H1 x ρ1 fps1 s1 m1 r1 hR => so.nx F1 H1 ρ1 σ fps1 s1 hR, so.xok⟩
def dRet (d : DE) : DS := fun D ρ => d ρ (fun x ρ1 => D.rt (.d x) ρ1) D.ex
def dRetO (d : DO) : DS := fun D ρ => d ρ (fun r ρ1 => D.rt r ρ1) D.ex
def dRetN : DS := fun D ρ => D.rt (.d .non) ρ
theorem ret_d {K : Frag} {fr : Fr} {F H : Hp} {fps : Nat → Addr → Prop} {v : V} {x : Dat} (r : Rep K F v x) : RetOk K fr F H fps v (.d x) (fun _ => False) := ⟨⟨r, fun _ z => z⟩, fun a z => z.elim, fun i a z => z.elim, fun a z => z.elim⟩
theorem js_ret {e : Expr} {d : DE} {pos : Pos} (h : JE X W ios e d) : JS X W ios (.Return (some e) pos) (dRet d) :=
  ps_imp (ps_ret h) fun D σ H ⟨fr, F, ρ, fps, DD, ok, sr, hd, so⟩ => ⟨fr, F, ρ, fps, _, DD.ex, ok, sr, hd, fun v F1 H1 x ρ1 fps1 s1 m1 r1 hR => so.rt F1 H1 ρ1 σ fps1 v _ _ s1 (ret_d r1) hR, so.xok⟩
theorem js_retO {e : Expr} {d : DO} {pos : Pos} (h : JO X W ios e d) : JS X W ios (.Return (some e) pos) (dRetO d) :=
  ps_imp (ps_ret h) fun D σ H ⟨fr, F, ρ, fps, DD, ok, sr, hd, so⟩ => ⟨fr, F, ρ, fps, _, DD.ex, ok, sr, hd, fun v F1 H1 r rf ρ1 fps1 s1 m1 r1 hR => so.rt F1 H1 ρ1 σ fps1 v _ _ s1 r1 hR, so.xok⟩
def dIf (c : DT) (t u : DS) : DS := fun D ρ => c ρ (fun b ρ1 => if b = true then t D ρ1 else u D ρ1) D.ex
theorem js_if {c : Expr} {a b : List Stmt} {dc : DT} {t u : DS} {pos : Pos} (hc : JT X W ios c dc) (ha : JSs X W ios a t) (hb : JSs X W ios b u) : JS X W ios (.If c a b pos) (dIf dc t u) :=
  ps_imp (ps_if hc ha hb) fun D σ H ⟨fr, F, ρ, fps, DD, ok, sr, hd, so⟩ => ⟨fr, F, ρ, fps, _, DD.ex, ok, sr, hd, fun b F1 H1 ρ1 fps1 s1 m1 hR => by
    cases b with
    | true => rw [if_pos rfl] at hR ⊢; exact ⟨fr, F1, ρ1, fps1, DD, ok, s1, hR, so⟩
    | false => rw [if_neg Bool.false_ne_true] at hR ⊢; exact ⟨fr, F1, ρ1, fps1, DD, ok, s1, hR, so⟩, so.xok⟩
/-! ### names given a value -/
def dSet (i : Nat) (d : DE) : DS := fun D ρ => d ρ (fun x ρ1 => D.nx (ρ1.set i (some (.d x)))) D.ex
def dSetO (i : Nat) (d : DO) : DS := fun D ρ => d ρ (fun r ρ1 => D.nx (ρ1.set i (some r))) D.ex
theorem FrOk.nio {fr : Fr} {i : Nat} (ok : FrOk ios fr) (hi : i ∉ ios.1) : ∀ p ∈ fr.ios, p.1 ≠ i := fun p hp e => hi (e ▸ ok.1 p hp)
theorem js_set (i : Nat) {x : Str} {e : Expr} {d : DE} {pos pos' : Pos} (hN : X.N.Nodup) (h : JE X W ios e d) (hi : X.N[i]? = some x := by rfl) (hx : Loc X.env.scope x := by first | exact Or.inl rfl | exact Or.inr rfl) (hio : i ∉ ios.1 := by decide)
    (hs : swapsWith e (some (.Name x pos')) pos.line X.env = pure false := by rfl) (hf : X.fn x = true ∨ X.env.scope.names.lookup x = some .local := by first | exact .inl rfl | exact .inr rfl | assumption) : JS X W ios (.Assign [.Name x pos'] e pos) (dSet i d) :=
  ps_imp (ps_set hN hi hx h hs hf) fun D σ H ⟨fr, F, ρ, fps, DD, ok, sr, hd, so⟩ => ⟨fr, F, ρ, fps, _, DD.ex, ok, sr, hd, fun v F1 H1 x ρ1 fps1 s1 m1 r1 hR => so.nx F1 H1 _ _ _ (s1.setD r1 (ok.nio hio)) hR, so.xok⟩
theorem SR.setR {K : Frag} {fr : Fr} {F H : Hp} {ρ : Env} {σ : St} {fps : Nat → Addr → Prop} {v : V} {r : Slot} {rf : Addr → Prop} {i : Nat} (s : SR K fr F H ρ σ fps) (ro : RetOk K fr F H fps v r rf) (hi : ∀ p ∈ fr.ios, p.1 ≠ i) :
    ∃ fps', SR K fr F H (ρ.set i (some r)) (σ.set i (some v)) fps' := ⟨_, s.setO ro.rep (fun a ha => let ⟨h1, h2, h3⟩ := ro.own a ha; ⟨h1, h2, .inl h3⟩) ro.nt (fun j a ha hb => (ro.apart j a ha hb).elim) hi⟩
theorem js_setO (i : Nat) {x : Str} {e : Expr} {d : DO} {pos pos' : Pos} (hN : X.N.Nodup) (h : JO X W ios e d) (hi : X.N[i]? = some x := by rfl) (hx : Loc X.env.scope x := by first | exact Or.inl rfl | exact Or.inr rfl) (hio : i ∉ ios.1 := by decide)
    (hs : swapsWith e (some (.Name x pos')) pos.line X.env = pure false := by rfl) (hf : X.fn x = true ∨ X.env.scope.names.lookup x = some .local := by first | exact .inl rfl | exact .inr rfl | assumption) : JS X W ios (.Assign [.Name x pos'] e pos) (dSetO i d) :=
  ps_imp (ps_set hN hi hx h hs hf) fun D σ H ⟨fr, F, ρ, fps, DD, ok, sr, hd, so⟩ => ⟨fr, F, ρ, fps, _, DD.ex, ok, sr, hd, fun v F1 H1 r rf ρ1 fps1 s1 m1 r1 hR => by
    obtain ⟨fps2, s2⟩ := s1.setR r1 (ok.nio hio)
    exact so.nx F1 H1 _ _ _ s2 hR, so.xok⟩
/-! ### targets -/
def liftGt (K : Frag) (ios : Ios) (ts : List Nat) (g : DG) : TG := fun v σ H Q => ∃ fr F ρ fps x R, FrOk ios fr ∧ SR K fr F H ρ σ fps ∧ Rep K F v x ∧ g x ρ R ∧
  (∀ ρ' σ' fps', SR K fr F H ρ' σ' fps' → σ'.length = σ.length → (∀ j, j ∉ ts → σ'[j]? = σ[j]?) → R ρ' → Q σ' H)
abbrev JG (X : Cx) (ios : Ios) (e : Expr) (ts : List Nat) (g : DG) : Prop := PG X e (liftGt X.K ios ts g)
abbrev DGs := List Dat → Env → (Env → Prop) → Prop
def liftGs (K : Frag) (ios : Ios) (ts : List Nat) (g : DGs) : TGs := fun vs σ H Q => ∃ fr F ρ fps xs R, FrOk ios fr ∧ SR K fr F H ρ σ fps ∧ Reps K F vs xs ∧ g xs ρ R ∧
  (∀ ρ' σ' fps', SR K fr F H ρ' σ' fps' → σ'.length = σ.length → (∀ j, j ∉ ts → σ'[j]? = σ[j]?) → R ρ' → Q σ' H)
abbrev JGs (X : Cx) (ios : Ios) (es : List Expr) (ts : List Nat) (g : DGs) : Prop := PGs X es (liftGs X.K ios ts g)
theorem pgs_imp {es : List Expr} {t t' : TGs} (h : PGs X es t) (i : ∀ vs σ H Q, t' vs σ H Q → t vs σ H Q) : PGs X es t' := ⟨fun pins s σ H vs us Q I r q => h.run pins s σ H vs us Q I r (i _ _ _ _ q)⟩
def gtName (i : Nat) : DG := fun x ρ R => R (ρ.set i (some (.d x)))
def gtNil : DGs := fun xs ρ R => xs = [] ∧ R ρ
def gtCons (g : DG) (gs : DGs) : DGs := fun xs ρ R => ∃ x r, xs = x :: r ∧ g x ρ fun ρ1 => gs r ρ1 R
def gtTup (n : Nat) (gs : DGs) : DG := fun x ρ R => ∃ xs, (x = .tup xs ∨ x = .lst xs) ∧ xs.length = n ∧ gs xs ρ R
theorem jg_name (i : Nat) {x : Str} {pos : Pos} (hN : X.N.Nodup) (hi : X.N[i]? = some x := by rfl) (hx : Loc X.env.scope x := by first | exact Or.inl rfl | exact Or.inr rfl) (hio : i ∉ ios.1 := by decide)
    (hf : X.fn x = true ∨ X.env.scope.names.lookup x = some .local := by first | exact .inl rfl | exact .inr rfl | assumption) : JG X ios (.Name x pos) [i] (gtName i) :=
  pg_imp (pg_name hN hi hx hf) fun v σ H Q ⟨fr, F, ρ, fps, x, R, ok, sr, rp, hR, hq⟩ => hq _ _ _ (sr.setD rp (ok.nio hio)) (by simp) (fun j hj => List.getElem?_set_ne (by intro e; exact hj (by simp [e]))) hR
theorem jgs_nil : JGs X ios [] [] gtNil := pgs_imp pgs_nil fun vs σ H Q ⟨fr, F, ρ, fps, xs, R, ok, sr, rp, ⟨e, hR⟩, hq⟩ => by
  subst e
  exact ⟨rp.unnil, hq ρ σ fps sr rfl (fun _ _ => rfl) hR⟩
theorem jgs_cons {e : Expr} {es : List Expr} {ts us : List Nat} {g : DG} {gs : DGs} (h1 : JG X ios e ts g) (h2 : JGs X ios es us gs) (hs : (assignEach (e :: es) X.env).map (·.2) = assign e X.env :: (assignEach es X.env).map (·.2) := by rfl) : JGs X ios (e :: es) (ts ++ us) (gtCons g gs) :=
  pgs_imp (pgs_cons h1 h2 hs) fun vs σ H Q ⟨fr, F, ρ, fps, xs, R, ok, sr, rp, ⟨x, r, e, hR⟩, hq⟩ => by
    subst e
    obtain ⟨v, ws, rfl, r1, r2⟩ := rp.uncons
    exact ⟨v, ws, rfl, fr, F, ρ, fps, x, _, ok, sr, r1, hR, fun ρ1 σ1 fps1 s1 l1 a1 hR1 => ⟨fr, F, ρ1, fps1, r, R, ok, s1, r2, hR1, fun ρ2 σ2 fps2 s2 l2 a2 hR2 => hq ρ2 σ2 fps2 s2 (l2.trans l1) (fun j hj => (a2 j fun z => hj (List.mem_append_right _ z)).trans (a1 j fun z => hj (List.mem_append_left _ z))) hR2⟩⟩
theorem pg_or {e : Expr} {t t' : TG} (h : PG X e t) (h' : PG X e t') : PG X e (fun v σ H Q => t v σ H Q ∨ t' v σ H Q) := ⟨fun pins s σ H v u Q I r q => q.elim (h.run pins s σ H v u Q I r) (h'.run pins s σ H v u Q I r)⟩
theorem jg_tup {es : List Expr} {k : Nat} {ts : List Nat} {gs : DGs} {n : Nat} {pos : Pos} (hc : X.calm = true) (h : JGs X ios es ts gs) (hn : (assignEach es X.env).length = n := by rfl) (hst : (assignEach es X.env).findIdx? (·.1) = none := by rfl) : JG X ios (.Tuple es k pos) ts (gtTup n gs) :=
  pg_imp (pg_or (pg_tup hc h hn hst) (pg_lst hc h hn hst)) fun v σ H Q ⟨fr, F, ρ, fps, x, R, ok, sr, rp, ⟨xs, e, hl, hR⟩, hq⟩ => by
    rcases e with e | e
    · subst e
      cases rp with
      | @tup a vs _ ha l r => exact .inl ⟨a, vs, rfl, SqT.of (sr.sub _ _ ha), l.trans hl, fr, F, ρ, fps, xs, R, ok, sr, ⟨l, r⟩, hR, hq⟩
    · subst e
      cases rp with
      | @lst a vs _ ha l r => exact .inr ⟨a, vs, rfl, SqL.of (sr.sub _ _ ha), l.trans hl, fr, F, ρ, fps, xs, R, ok, sr, ⟨l, r⟩, hR, hq⟩
/-- target = value, the target no single name -/
def dAsg (d : DE) (g : DG) : DS := fun D ρ => d ρ (fun x ρ1 => g x ρ1 D.nx) D.ex
theorem js_asg {tg e : Expr} {d : DE} {g : DG} {ts : List Nat} {pos : Pos} (he : JE X W ios e d) (hg : JG X ios tg ts g) (hs : swapsWithSole [tg] e pos.line X.env = pure false := by rfl) (hw : swappedStores [tg] e X.env = pure none := by rfl)
    (h1 : (assignEach [tg] X.env).map (·.2) = [assign tg X.env] := by rfl) : JS X W ios (.Assign [tg] e pos) (dAsg d g) :=
  ps_imp (ps_asg he hg hs hw h1) fun D σ H ⟨fr, F, ρ, fps, DD, ok, sr, hd, so⟩ => ⟨fr, F, ρ, fps, _, DD.ex, ok, sr, hd, fun v F1 H1 x ρ1 fps1 s1 m1 r1 hR =>
    ⟨fr, F1, ρ1, fps1, x, _, ok, s1, r1, hR, fun ρ2 σ2 fps2 s2 _ _ q => so.nx F1 H1 ρ2 σ2 fps2 s2 q⟩, so.xok⟩
/-! ### things of one's own, changed where they lie -/
theorem Reps.snoc {K : Frag} {F : Hp} {vs : List V} {xs : List Dat} {v : V} {x : Dat} (r : Reps K F vs xs) (h : Rep K F v x) : Reps K F (vs ++ [v]) (xs ++ [x]) := r.append (.cons h .nil)
theorem put_rep {κ : Type} [DecidableEq κ] {K : Frag} {F : Hp} {ws : List (κ × V)} {kvs : List (κ × Dat)} {v : V} {x : Dat} (r : RepsK K F ws kvs) (k : κ) (h : Rep K F v x) : RepsK K F (putK ws k v) (putD kvs k x) := by
  have ek : ∀ (w : List (κ × V)) (d : List (κ × Dat)), w.map (·.1) = d.map (·.1) → (w.any fun kv => decide (kv.1 = k)) = d.any fun kv => decide (kv.1 = k) := by
    intro w
    induction w with
    | nil => intro d e; cases d with | nil => rfl | cons => simp at e
    | cons a w ih =>
      intro d e
      cases d with
      | nil => simp at e
      | cons b d =>
        simp only [List.map_cons, List.cons.injEq] at e
        rw [List.any_cons, List.any_cons, e.1, ih d e.2]
  unfold putK putD
  rw [ek ws kvs r.keys]
  split
  · refine ⟨?_, fun i k1 k2 u y h1 h2 => ?_⟩
    · rw [List.map_map, List.map_map]
      have e1 : ((fun (x : κ × V) => x.1) ∘ fun (kv : κ × V) => if kv.1 = k then (kv.1, v) else kv) = fun x => x.1 := funext fun z => by
        show (if z.1 = k then (z.1, v) else z).1 = z.1
        split <;> rfl
      have e2 : ((fun (x : κ × Dat) => x.1) ∘ fun (kv : κ × Dat) => if kv.1 = k then (kv.1, x) else kv) = fun x => x.1 := funext fun z => by
        show (if z.1 = k then (z.1, x) else z).1 = z.1
        split <;> rfl
      rw [e1, e2]
      exact r.keys
    · rw [List.getElem?_map] at h1 h2
      cases q1 : ws[i]? with
      | none => rw [q1] at h1; cases h1
      | some a =>
        cases q2 : kvs[i]? with
        | none => rw [q2] at h2; cases h2
        | some b =>
          rw [q1] at h1
          rw [q2] at h2
          have ea : a.1 = b.1 := by
            have e := congrArg (fun l => l[i]?) r.keys
            simp only [List.getElem?_map, q1, q2, Option.map_some, Option.some.injEq] at e
            exact e
          simp only [Option.map_some, Option.some.injEq] at h1 h2
          by_cases c : a.1 = k
          · rw [if_pos c] at h1
            rw [if_pos (ea ▸ c)] at h2
            cases h1; cases h2
            exact h
          · rw [if_neg c] at h1
            rw [if_neg (ea ▸ c)] at h2
            subst h1; subst h2
            exact r.at_ i _ _ _ _ q1 q2
  · refine ⟨by rw [List.map_append, List.map_append, r.keys]; rfl, fun i k1 k2 u y h1 h2 => ?_⟩
    have hl : ws.length = kvs.length := by have e := congrArg List.length r.keys; simpa using e
    by_cases c : i < ws.length
    · rw [List.getElem?_append_left c] at h1
      rw [List.getElem?_append_left (by omega)] at h2
      exact r.at_ i _ _ _ _ h1 h2
    · rw [List.getElem?_append_right (by omega)] at h1
      rw [List.getElem?_append_right (by omega), ← hl] at h2
      have e0 : i - ws.length = 0 := by have := (List.getElem?_eq_some_iff.mp h1).1; simp at this; omega
      rw [e0] at h1 h2
      simp at h1 h2
      obtain ⟨_, rfl⟩ := h1
      obtain ⟨_, rfl⟩ := h2
      exact h
/-- xs.append(e) -/
def dAppend (i : Nat) (d : DE) : DS := fun D ρ => (∃ xs, ρ[i]? = some (some (.l xs))) ∧ d ρ (fun x ρ1 => ∃ xs, ρ1[i]? = some (some (.l xs)) ∧ xs.length < sizeLine ∧ D.nx (ρ1.set i (some (.l (xs ++ [x]))))) D.ex
theorem js_append (i : Nat) {x : Str} {e : Expr} {d : DE} {p0 apos cpos pos : Pos} (h : JE X W ios e d) (hN : X.N[i]? = some x := by rfl) (hv : Vis X.env.scope x := by first | exact Or.inl rfl | exact Or.inr (Or.inl rfl) | exact Or.inr (Or.inr rfl)) (hd : (x == ("__debug__" : Str)) = false := by decide) (hcd : (x == ("__classdict__" : Str)) = false := by decide)
    (hbase : attributeBase (.Name x p0) "append" X.env (eval (.Name x p0) X.env) = eval (.Name x p0) X.env := by rfl)
    (hfew : ((backTo cpos (starEach [e] X.env)).all (fun x => !x.1) && (backToKw cpos (keywordEach [] X.env)).all (fun x => x.1.isSome)
      && decide (([e] : List Expr).length + ([] : List Keyword).length + (if ([] : List Keyword).isEmpty then 0 else 1) < 30)) = true := by rfl)
    (hline : (apos.endLine == cpos.line) = true := by rfl) (hst : starEach [e] X.env = (false, eval e X.env) :: starEach [] X.env := by rfl) (hplain : (backTo cpos (starEach [] X.env)).any (·.1) = false := by rfl)
    (hs : swapsWith (.Call (.Attribute (.Name x p0) "append" apos) [e] [] cpos) none pos.line X.env = pure false := by rfl) :
    JS X W ios (.Expr (.Call (.Attribute (.Name x p0) "append" apos) [e] [] cpos) pos) (dAppend i d) :=
  ps_imp (ps_expr (pe_bm PySem.F.plainAttrs_list PySem.F.slot_list_append PySem.F.type_list_append mt_append (pe_var hN hv hd hcd) (pa_cons h pa_nil hst) hbase hfew hline hst hplain) hs) fun D σ H ⟨fr, F, ρ, fps, DD, ok, sr, ⟨⟨xs, e0⟩, hd⟩, so⟩ => by
    obtain ⟨v, g1, p, vs, rfl, hp, rp, fp⟩ := sr.slots i _ e0
    refine ⟨_, g1, .inl ⟨rfl, vs, SqL.of hp⟩, ?_⟩
    refine ⟨fr, F, ρ, fps, _, DD.ex, ok, sr, hd, fun u F1 H1 y ρ1 fps1 s1 m1 r1 ⟨ys, e1, hz, hR⟩ => ?_, so.xok⟩
    obtain ⟨v1, g2, q, ws, ev, hq, rq, fq⟩ := s1.slots i _ e1
    rw [g1] at g2
    cases g2
    cases ev
    refine ⟨p, ws, u, rfl, rfl, hq, by rw [rq.len]; exact hz, ?_⟩
    refine so.nx F1 _ _ σ fps1 (s1.write e1 ((fq p).mpr rfl) fun v' hv' => ?_) hR
    rw [g1] at hv'
    cases hv'
    exact ⟨p, _, rfl, upd_same, rq.snoc r1, fq⟩
/-- o[k] = e, o a slot's own list or dict -/
def dSetItem (i : Nat) (dk dv : DE) : DS := fun D ρ => dv ρ (fun y ρ1 => (∃ s, ρ1[i]? = some (some s)) ∧ dk ρ1 (fun k ρ2 => ∃ s, ρ2[i]? = some (some s) ∧ match s with
  | .l xs => ∃ j n, k = .int j ∧ ixN xs.length j = some n ∧ D.nx (ρ2.set i (some (.l (xs.set n y))))
  | .k kvs => ∃ ky, keyOf k = some ky ∧ kvs.length < sizeLine ∧ D.nx (ρ2.set i (some (.k (putD kvs ky y))))
  | .t kvs => ∃ ds ks, k = .tup ds ∧ keysOf ds = some ks ∧ kvs.length < sizeLine ∧ D.nx (ρ2.set i (some (.t (putD kvs ks y))))
  | _ => False) D.ex) D.ex
theorem js_setitem (i : Nat) {x : Str} {ie e : Expr} {dk dv : DE} {p0 p1 pos : Pos} (hu : X.A.units + 1 < cLine) (hv' : JE X W ios e dv) (hk : JE X W ios ie dk) (hN : X.N[i]? = some x := by rfl) (hv : Vis X.env.scope x := by first | exact Or.inl rfl | exact Or.inr (Or.inl rfl) | exact Or.inr (Or.inr rfl)) (hd : (x == ("__debug__" : Str)) = false := by decide) (hcd : (x == ("__classdict__" : Str)) = false := by decide)
    (ha : ∀ v, assign (.Subscript (.Name x p0) ie p1) X.env v = (do
      let ov ← holding [v] (eval (.Name x p0) X.env)
      let iv ← holding [v, ov] (eval ie X.env)
      standAt p1
      holding [v, ov, iv] (setItem ov iv v)
      release [v, ov, iv] []) := by intro _; rfl)
    (hs : swapsWithSole [.Subscript (.Name x p0) ie p1] e pos.line X.env = pure false := by rfl) (hw : swappedStores [.Subscript (.Name x p0) ie p1] e X.env = pure none := by rfl)
    (h1 : (assignEach [.Subscript (.Name x p0) ie p1] X.env).map (·.2) = [assign (.Subscript (.Name x p0) ie p1) X.env] := by rfl) :
    JS X W ios (.Assign [.Subscript (.Name x p0) ie p1] e pos) (dSetItem i dk dv) := by
  have hset : PSet X (fun o i v H Q => rSetL o i v H Q ∨ rSetD o i v H Q) := fun pins s σ H o i v ov iv u Q I r1 r2 r3 h => h.elim (set_list pins s σ H o i v ov iv u Q I r1 r2 r3) (set_dict hu pins s σ H o i v ov iv u Q I r1 r2 r3)
  refine ps_imp (ps_asg hv' (pg_sub (pe_var hN hv hd hcd) hk hset ha) hs hw h1) fun D σ H ⟨fr, F, ρ, fps, DD, ok, sr, hd, so⟩ => ?_
  refine ⟨fr, F, ρ, fps, _, DD.ex, ok, sr, hd, fun u F1 H1 y ρ1 fps1 s1 m1 r1 ⟨⟨s0, e0⟩, hR⟩ => ?_, so.xok⟩
  obtain ⟨v0, g0, _⟩ := s1.slots i s0 e0
  refine ⟨v0, g0, ?_⟩
  refine ⟨fr, F1, ρ1, fps1, _, DD.ex, ok, s1, hR, fun kv F2 H2 k ρ2 fps2 s2 m2 r2 ⟨s, e2, hS⟩ => ?_, so.xok⟩
  obtain ⟨v1, g1, rs⟩ := s2.slots i s e2
  rw [g0] at g1
  cases g1
  have r1 := r1.mono m2
  cases s with
  | l xs =>
    obtain ⟨j, n, ek, hn, hS⟩ := hS
    subst ek
    cases r2
    obtain ⟨p, vs, rfl, hp, rp, fp⟩ := rs
    refine .inl ⟨p, vs, j, n, rfl, rfl, hp, by rw [rp.len]; exact hn, ?_⟩
    refine so.nx F2 _ _ σ fps2 (s2.write e2 ((fp p).mpr rfl) fun v' hv' => ?_) hS
    rw [g0] at hv'
    cases hv'
    exact ⟨p, _, rfl, upd_same, rp.set r1, fp⟩
  | k kvs =>
    obtain ⟨ky, ek, hz, hS⟩ := hS
    obtain ⟨p, ws, rfl, hp, rp, fp⟩ := rs
    have e : kv = kV ky := key_rep r2 ek
    subst e
    have hl : ws.length = kvs.length := by have e := congrArg List.length rp.keys; simpa using e
    refine .inr ⟨p, _, rfl, DPut.k hp (by rw [hl]; exact hz), ?_⟩
    refine so.nx F2 _ _ σ fps2 (s2.write e2 ((fp p).mpr rfl) fun v' hv' => ?_) hS
    rw [g0] at hv'
    cases hv'
    exact ⟨p, _, rfl, upd_same, put_rep rp ky r1, fp⟩
  | t kvs =>
    obtain ⟨ds, ks, ek, eks, hz, hS⟩ := hS
    subst ek
    obtain ⟨p, ws, rfl, hp, rp, fp⟩ := rs
    cases r2 with
    | @tup t vs _ ht lt rt =>
      have e := keys_rep (⟨lt, rt⟩ : Reps X.K F2 vs ds) eks
      subst e
      have hl : ws.length = kvs.length := by have e := congrArg List.length rp.keys; simpa using e
      refine .inr ⟨p, _, rfl, DPut.t hp (s2.sub _ _ ht) (by rw [hl]; exact hz), ?_⟩
      refine so.nx F2 _ _ σ fps2 (s2.write e2 ((fp p).mpr rfl) fun v' hv' => ?_) hS
      rw [g0] at hv'
      cases hv'
      exact ⟨p, _, rfl, upd_same, put_rep rp ks r1, fp⟩
  | d _ => exact hS.elim
  | o _ => exact hS.elim
  | h _ _ => exact hS.elim
  | g _ => exact hS.elim
  | hg _ _ _ => exact hS.elim
  | xk _ _ => exact hS.elim
/-! ### what is walked -/
abbrev DI := Env → (List Dat → Env → Prop) → XR → Prop
/-- the iterator yields what stands for the items, as long as the still part stays -/
structure Walk (K : Frag) (F : Hp) (J : It) (xs : List Dat) : Prop where
  step : ∀ i H F', Same F F' → Same F' H → i < xs.length → J.go i H ∧ ∀ v H', J.yld i H v H' → ∃ F2, Grow F' H F2 H' ∧ ∀ x, xs[i]? = some x → Rep K F2 v x
  stop : ∀ H, Same F H → J.stop xs.length H
def liftI (K : Frag) (W : WX) (ios : Ios) (d : DI) : TI := fun σ H R => ∃ fr F ρ fps RI X, FrOk ios fr ∧ SR K fr F H ρ σ fps ∧ d ρ RI X ∧
  (∀ J F' H' xs ρ' fps', SR K fr F' H' ρ' σ fps' → Same F F' → Walk K F' J xs → RI xs ρ' → R J H') ∧ XOk K W fr σ X
abbrev JI (X : Cx) (W : WX) (ios : Ios) (tg iter : Expr) (d : DI) : Prop := PI X tg iter (liftI X.K W ios d)
theorem pi_imp {tg e : Expr} {t t' : TI} (h : PI X tg e t) (i : ∀ σ H R, t' σ H R → t σ H R) : PI X tg e t' := ⟨fun pins s σ H R I q => h.run pins s σ H R I (i _ _ _ q)⟩
theorem walk_list {K : Frag} {F : Hp} {a : Addr} {vs : List V} {xs : List Dat} (h : ∀ F', Same F F' → SqL K F' a vs) (r : Reps K F vs xs) : Walk K F (Itl K a) xs where
  step := fun i H F' m s hi => by
    have q := s.seq (h F' m)
    have hv : i < vs.length := by rw [r.len]; exact hi
    refine ⟨⟨vs, vs[i], q, List.getElem?_eq_getElem hv⟩, fun v H' ⟨e, y⟩ => ?_⟩
    subst e
    exact ⟨F', Grow.refl s, fun x hx => (r.at_ i v x (y vs q) hx).mono m⟩
  stop := fun H s => ⟨vs, s.seq (h F (Same.refl F)), by rw [r.len]; exact Nat.le_refl _⟩
theorem walk_tup {K : Frag} {F : Hp} {a : Addr} {vs : List V} {xs : List Dat} (h : F a = some (.tup vs)) (r : Reps K F vs xs) : Walk K F (Itt K a) xs where
  step := fun i H F' m s hi => by
    have q : SqT K H a vs := SqT.of (s _ _ (m _ _ h))
    have hv : i < vs.length := by rw [r.len]; exact hi
    refine ⟨⟨vs, vs[i], q, List.getElem?_eq_getElem hv⟩, fun v H' ⟨e, y⟩ => ?_⟩
    subst e
    exact ⟨F', Grow.refl s, fun x hx => (r.at_ i v x (y vs q) hx).mono m⟩
  stop := fun H s => ⟨vs, SqT.of (s _ _ h), by rw [r.len]; exact Nat.le_refl _⟩
def rngD (lo : Int) (n : Nat) : List Dat := (List.range n).map fun (i : Nat) => Dat.int (lo + i)
theorem walk_rng {K : Frag} {F : Hp} (lo : Int) (n : Nat) : Walk K F (Itr lo n) (rngD lo n) where
  step := fun i H F' m s hi => by
    have hn : i < n := by simpa [rngD] using hi
    refine ⟨hn, fun v H' ⟨e, y⟩ => ?_⟩
    subst e
    subst y
    refine ⟨F', Grow.refl s, fun x hx => ?_⟩
    have : x = .int (lo + i) := by
      simp only [rngD, List.getElem?_map, List.getElem?_range hn, Option.map_some, Option.some.injEq] at hx
      exact hx.symm
    subst this
    exact .int _
  stop := fun H s => by show n ≤ (rngD lo n).length; simp [rngD]
def strD (s : Str) : List Dat := s.cps.toList.map fun c => Dat.str ⟨#[c]⟩
theorem walk_str {K : Frag} {F : Hp} (z : Str) : Walk K F (Its z) (strD z) where
  step := fun i H F' m s hi => by
    have hn : i < z.cps.size := by simpa [strD] using hi
    refine ⟨hn, fun v H' ⟨e, c, hc, y⟩ => ?_⟩
    subst e
    subst y
    refine ⟨F', Grow.refl s, fun x hx => ?_⟩
    have hc' : z.cps.toList[i]? = some c := by simpa using hc
    simp only [strD, List.getElem?_map, hc', Option.map_some, Option.some.injEq] at hx
    subst hx
    exact .str _
  stop := fun H s => by show z.cps.size ≤ (strD z).length; simp [strD]
theorem keys_at {κ β : Type} {ws : List (κ × β)} {kvs : List (κ × Dat)} (h : ws.map (·.1) = kvs.map (·.1)) {i : Nat} {k : κ} {v : β} (e : ws[i]? = some (k, v)) : ∃ x, kvs[i]? = some (k, x) := by
  have e2 := congrArg (fun l => l[i]?) h
  simp only [List.getElem?_map, e, Option.map_some] at e2
  cases q : kvs[i]? with
  | none => rw [q] at e2; cases e2
  | some p => rw [q] at e2; cases e2; exact ⟨p.2, rfl⟩
theorem walk_keys {K : Frag} {F : Hp} {a : Addr} {o : Obj} {ws : List (Key × V)} {kvs : List (Key × Dat)} (h : F a = some (.frz o (.dK ws))) (hk : ws.map (·.1) = kvs.map (·.1)) : Walk K F (Itk a o ws) (kvs.map fun kv => kD kv.1) where
  step := fun i H F' m s hi => by
    have hl : ws.length = kvs.length := by have e := congrArg List.length hk; simpa using e
    refine ⟨⟨s _ _ (m _ _ h), by rw [hl]; simpa using hi⟩, fun v H' ⟨e, k, u, hku, ev⟩ => ?_⟩
    subst e
    subst ev
    obtain ⟨x, hx⟩ := keys_at hk hku
    refine ⟨F', Grow.refl s, fun y hy => ?_⟩
    rw [List.getElem?_map, hx] at hy
    cases hy
    exact kD_rep k
  stop := fun H s => ⟨s _ _ h, by have e := congrArg List.length hk; simp at e ⊢; omega⟩
/-- the keys of the locked dict at d, in their order -/
def Itx (d : Addr) (o : Obj) (hx : HX) (ws : List (KX × V × V)) : It :=
  ⟨fun i H => H d = some (.frz o (.ext (XD hx d ws))) ∧ i < ws.length, fun i H x H' => H' = H ∧ ∃ w, ws[i]? = some w ∧ x = w.2.1, fun i H => H d = some (.frz o (.ext (XD hx d ws))) ∧ ws.length ≤ i⟩
theorem turn_keysX {P : Program} {w : World} {K : PySem.W.Frag} {tg : Expr} {d : Addr} {o : Obj} {es : Array DictEntry} {ep : Nat} {hx : HX} {ws : List (KX × V × V)} (it : Addr) (hod : o.data = .dict es ep) :
    Turn P w K tg (Itx d o hx ws) [it] it (fun i h => h.IsKeyIter it d i ws.length ep) where
  mem := by simp
  obj := fun i h st b hb => by
    have e : b = it := by simpa using hb
    subst e
    obtain ⟨oi, e, c, dd⟩ := st
    exact ⟨oi, e, fun v z => by rw [dd] at z; cases z⟩
  keep := fun i h h' st k => st.at fun oi e => k it (by simp) oi e
  item := by
    intro X hP hw hK hc i pins s σ H E I hf st hg
    subst hP hw hK
    obtain ⟨hd, hi⟩ := hg
    obtain ⟨f0, f1, f2, f3, f4, f5⟩ := hf it (by simp)
    obtain ⟨hs, hgd, hex, es', ep', hdt, hsz, z, pr, nd⟩ := frzX I hd
    obtain ⟨rfl, rfl⟩ := dict_ep hod hdt
    obtain ⟨w, hw⟩ : ∃ p, ws[i]? = some p := ⟨ws[i], List.getElem?_eq_getElem hi⟩
    obtain ⟨en, hen, h1, h2, h3⟩ := paired_get pr hw
    rw [Array.getElem?_toList] at hen
    refine next_key_item st hgd hdt hsz hen fun h' st' sb => ?_
    have I1 : Inv X pins σ H { s with heap := h' } := I.turned (t' := s.toks) (fun b ob hb e => (sb.2 b hb).trans e) f0 f1 f3 f4 f5
    obtain ⟨oi, e, c, dd⟩ := id st'
    exact ⟨en.key, rfl, go_of (s := { s with heap := h' }) e c dd (by decide) ⟨w.2.1, H, I1, h2, ⟨rfl, w, hw, rfl⟩, st', fun b hb => (hf b hb).1⟩⟩
  done := by
    intro X hP hw hK hc i pins s σ H E I hf st hg
    subst hP hw hK
    obtain ⟨hd, hi⟩ := hg
    obtain ⟨f0, f1, f2, f3, f4, f5⟩ := hf it (by simp)
    obtain ⟨hs, hgd, hex, es', ep', hdt, hsz, z, pr, nd⟩ := frzX I hd
    obtain ⟨rfl, rfl⟩ := dict_ep hod hdt
    exact next_key_end (I.ok.hd hc) st hgd hdt hsz hi fun h' eb => ⟨rfl, I.turned (t' := s.toks) (fun b ob hb e => eb b ob hb e) f0 f1 f3 f4 f5⟩
  self := fun A i s Q E st h => wpAny_pyIter_keyiter st h
theorem walk_keysX {K : Frag} {F : Hp} {a : Addr} {o : Obj} {hx : HX} {ws : List (KX × V × V)} {kvs : List (KX × Dat)} (h : F a = some (.frz o (.ext (XD hx a ws)))) (hk : ws.map (·.1) = kvs.map (·.1)) (ho : ∀ (i : Nat) (w : KX × V × V), ws[i]? = some w → XKR F w.2.1 w.1) :
    Walk K F (Itx a o hx ws) (kvs.map fun kv => kxD kv.1) where
  step := fun i H F' m s hi => by
    have hl : ws.length = kvs.length := by have e := congrArg List.length hk; simpa using e
    refine ⟨⟨s _ _ (m _ _ h), by rw [hl]; simpa using hi⟩, fun v H' ⟨e, w, hw, ev⟩ => ?_⟩
    subst e
    subst ev
    obtain ⟨x, hx⟩ := keys_at hk (show ws[i]? = some (w.1, w.2.1, w.2.2) from hw)
    refine ⟨F', Grow.refl s, fun y hy => ?_⟩
    rw [List.getElem?_map, hx] at hy
    cases hy
    exact kxD_rep ((ho i w hw).mono m)
  stop := fun H s => ⟨s _ _ h, by have e := congrArg List.length hk; simp at e ⊢; omega⟩
/-- over a list, a tuple, a text, a still dict's keys -/
def diAny (d : DE) : DI := fun ρ R X => d ρ (fun x ρ1 => match x with
  | .lst xs => R xs ρ1
  | .tup xs => R xs ρ1
  | .scr ns => R (ns.map .int) ρ1
  | .str z => R (strD z) ρ1
  | .dk kvs => R (kvs.map fun kv => kD kv.1) ρ1
  | .dx _ kvs => R (kvs.map fun kv => kxD kv.1) ρ1
  | _ => False) X
def iAny (K : Frag) (tl : TE) : TI := fun σ H R => tl σ H fun x H1 => (∃ a, x = .ref a ∧ (∃ xs, SqL K H1 a xs) ∧ R (Itl K a) H1) ∨ (∃ a, x = .ref a ∧ (∃ xs, SqT K H1 a xs) ∧ R (Itt K a) H1) ∨ (∃ z, x = .str z ∧ R (Its z) H1) ∨ (∃ d o kvs, x = .ref d ∧ H1 d = some (.frz o (.dK kvs)) ∧ R (Itk d o kvs) H1) ∨ ∃ d o hx ws, x = .ref d ∧ H1 d = some (.frz o (.ext (XD hx d ws))) ∧ R (Itx d o hx ws) H1
theorem pi_any {tg l : Expr} {tl : TE} (hl : PE X l tl) : PI X tg l (iAny X.K tl) := by
  refine ⟨fun pins s σ H R I h => ?_⟩
  refine thn (hl.run pins s σ H _ I h) fun v s1 ⟨x, H1, I1, r1, q1⟩ => ?_
  rcases q1 with ⟨a, e, ⟨xs, hq⟩, q⟩ | ⟨a, e, ⟨xs, hq⟩, q⟩ | ⟨z, e, q⟩ | ⟨d, o, kvs, e, hd, q⟩ | ⟨d, o, hx, ws, e, hd, q⟩
  · subst e
    cases r1
    obtain ⟨its, rv, p, hz⟩ := I1.list hq
    refine PySem.wpAny_pyIter_list p.isList ?_
    exact pi_one (tk := s1.toks) I1 _ (turn_list a _) ⟨_, Heap.get?_push_size _ rfl, rfl, rfl⟩ q
  · subst e
    cases r1
    obtain ⟨its, rv, p, hz⟩ := I1.tuple hq
    refine PySem.wpAny_pyIter_tuple (show s1.heap.IsTuple a its.toArray from p) ?_
    exact pi_one (tk := s1.toks) I1 _ (turn_tuple a _) ⟨_, Heap.get?_push_size _ rfl, rfl, rfl⟩ q
  · subst e
    obtain ⟨t, rfl⟩ := r1
    cases ha : z.cps.all (· < 128)
    · exact PySem.wpAny_pyIter_wide ha (pi_one (tk := s1.toks) I1 _ (turn_str _ z t "str_iterator" (.inr rfl)) ⟨_, Heap.get?_push_size _ rfl, rfl, rfl⟩ q)
    · exact PySem.wpAny_pyIter_ascii ha (pi_one (tk := s1.toks) I1 _ (turn_str _ z t "str_ascii_iterator" (.inl rfl)) ⟨_, Heap.get?_push_size _ rfl, rfl, rfl⟩ q)
  · subst e
    obtain rfl : v = Value.ref d := r1
    obtain ⟨hs, hgd, hx, es, ep, vs, hdt, hsz, kv, hm⟩ := I1.frzK hd
    refine iter_keys hs hgd hx hdt (pi_one (tk := s1.toks) I1 _ (turn_keys _ hdt) ⟨_, Heap.get?_push_size _ rfl, rfl, ?_⟩ q)
    rw [hsz] <;> rfl
  · subst e
    obtain rfl : v = Value.ref d := r1
    obtain ⟨hs, hgd, hex, es, ep, hdt, hsz, z, pr, nd⟩ := frzX I1 hd
    refine iter_keys hs hgd hex hdt (pi_one (tk := s1.toks) I1 _ (turn_keysX _ hdt) ⟨_, Heap.get?_push_size _ rfl, rfl, ?_⟩ q)
    rw [hsz] <;> rfl
theorem ji_any {tg e : Expr} {d : DE} (h : JE X W ios e d) : JI X W ios tg e (diAny d) :=
  pi_imp (pi_any h) fun σ H RR ⟨fr, F, ρ, fps, R, XX, ok, sr, hd, hq, hx⟩ => ⟨fr, F, ρ, fps, _, XX, ok, sr, hd, fun v F1 H1 x ρ1 fps1 s1 m1 r1 hR => by
    cases x with
    | lst xs =>
      cases r1 with
      | @lst a vs _ ha l r => exact .inl ⟨a, rfl, ⟨vs, SqL.of (s1.sub _ _ ha)⟩, hq _ F1 H1 xs ρ1 fps1 s1 m1 (walk_list (fun F' m => SqL.of (m _ _ ha)) ⟨l, r⟩) hR⟩
    | tup xs =>
      cases r1 with
      | @tup a vs _ ha l r => exact .inr (.inl ⟨a, rfl, ⟨vs, SqT.of (s1.sub _ _ ha)⟩, hq _ F1 H1 xs ρ1 fps1 s1 m1 (walk_tup ha ⟨l, r⟩) hR⟩)
    | scr ns =>
      cases r1 with
      | @scr a _ ha => exact .inl ⟨a, rfl, ⟨_, s1.sub.seq ha⟩, hq _ F1 H1 _ ρ1 fps1 s1 m1 (walk_list (fun F' m => m.seq ha) (reps_ints ns)) hR⟩
    | str z =>
      cases r1
      exact .inr (.inr (.inl ⟨z, rfl, hq _ F1 H1 _ ρ1 fps1 s1 m1 (walk_str z) hR⟩))
    | dk kvs =>
      cases r1 with
      | @dk a ob ws _ ha l r => exact .inr (.inr (.inr (.inl ⟨a, ob, ws, rfl, s1.sub _ _ ha, hq _ F1 H1 _ ρ1 fps1 s1 m1 (walk_keys ha l) hR⟩)))
    | dx hx kvs =>
      cases r1 with
      | @dx a ob _ ws _ ha l g r => exact .inr (.inr (.inr (.inr ⟨a, ob, hx, ws, rfl, s1.sub _ _ ha, hq _ F1 H1 _ ρ1 fps1 s1 m1 (walk_keysX ha l g) hR⟩)))
    | _ => exact hR.elim, hx⟩
def diRange1 (da : DA) : DI := fun ρ R X => da ρ (fun xs ρ1 => ∃ j : Int, xs = [.int j] ∧ -(2 ^ 62) ≤ j ∧ j < 2 ^ 62 ∧ R (rngD 0 j.toNat) ρ1) X
def diRange2 (da : DA) : DI := fun ρ R X => da ρ (fun xs ρ1 => ∃ i j : Int, xs = [.int i, .int j] ∧ (-(2 ^ 62) ≤ i ∧ i < 2 ^ 62 ∧ -(2 ^ 62) ≤ j ∧ j < 2 ^ 62) ∧ R (rngD i (j - i).toNat) ρ1) X
theorem ji_range1 {tg a : Expr} {da : DA} {p pos : Pos} (hm : X.mg "range" = none) (ha : JA X W ios [a] da) (hg : Gl X "range" := by rfl) (hs : starEach [a] X.env = [(false, eval a X.env)] := by rfl) : JI X W ios tg (.Call (.Name "range" p) [a] [] pos) (diRange1 da) :=
  pi_imp (pi_range1 hg hm ha hs) fun σ H RR ⟨fr, F, ρ, fps, R, XX, ok, sr, hd, hq, hx⟩ => ⟨fr, F, ρ, fps, _, XX, ok, sr, hd, fun vs F1 H1 xs ρ1 fps1 s1 m1 r1 ⟨j, e, h1, h2, hR⟩ => by
    subst e
    obtain ⟨v, ws, rfl, rv, r2⟩ := r1.uncons
    obtain rfl := r2.unnil
    cases rv
    exact ⟨j, rfl, h1, h2, hq _ F1 H1 _ ρ1 fps1 s1 m1 (walk_rng 0 j.toNat) hR⟩, hx⟩
def enumD (xs : List Dat) : List Dat := xs.mapIdx fun i x => Dat.tup [.int (i : Nat), x]
def diEnum (da : DA) : DI := fun ρ R X => da ρ (fun xs ρ1 => ∃ ys, xs = [.lst ys] ∧ R (enumD ys) ρ1) X
theorem pair_rep {K : Frag} {F H : Hp} {T : Addr} {v u : V} {x y : Dat} (s : Same F H) (hT : H T = none) (r1 : Rep K F v x) (r2 : Rep K F u y) : Grow F H (upd F T (.tup [v, u])) (upd H T (.tup [v, u])) ∧ Rep K (upd F T (.tup [v, u])) (.ref T) (.tup [x, y]) := by
  have g := Grow.lay (o := .tup [v, u]) s hT
  have r := (Reps.cons (r1.mono g.ff) (Reps.cons (r2.mono g.ff) Reps.nil) : Reps K (upd F T (.tup [v, u])) [v, u] [x, y])
  exact ⟨g, .tup upd_same r.len r.at_⟩
def zipD (xs ys : List Dat) : List Dat := List.zipWith (fun x y => Dat.tup [x, y]) xs ys
def diZip (da : DA) : DI := fun ρ R X => da ρ (fun xs ρ1 => ∃ ys zs, xs = [.lst ys, .lst zs] ∧ R (zipD ys zs) ρ1) X
theorem walk_zip {K : Frag} {F : Hp} {a b : Addr} {vs us : List V} {xs ys : List Dat} (h : F a = some (.lst vs)) (r : Reps K F vs xs) (h2 : F b = some (.lst us)) (r2 : Reps K F us ys) : Walk K F (Itz K a b) (zipD xs ys) where
  step := fun i H F' m s hi => by
    have q : SqL K H a vs := SqL.of (s _ _ (m _ _ h))
    have q2 : SqL K H b us := SqL.of (s _ _ (m _ _ h2))
    have hi' : i < xs.length ∧ i < ys.length := by simp [zipD] at hi; omega
    have hv : i < vs.length := by rw [r.len]; exact hi'.1
    have hu : i < us.length := by rw [r2.len]; exact hi'.2
    refine ⟨⟨vs, us, vs[i], us[i], q, q2, List.getElem?_eq_getElem hv, List.getElem?_eq_getElem hu⟩, fun v H' ⟨T, y, z, e, hT, eH, hy, hz⟩ => ?_⟩
    subst e
    subst eH
    have ry := (r.at_ i y _ (hy vs q) (List.getElem?_eq_getElem hi'.1)).mono m
    have rz := (r2.at_ i z _ (hz us q2) (List.getElem?_eq_getElem hi'.2)).mono m
    obtain ⟨g, rr⟩ := pair_rep s hT ry rz
    refine ⟨_, g, fun x hx => ?_⟩
    simp only [zipD, List.getElem?_zipWith, List.getElem?_eq_getElem hi'.1, List.getElem?_eq_getElem hi'.2, Option.some.injEq] at hx
    subst hx
    exact rr
  stop := fun H s => ⟨vs, us, SqL.of (s _ _ h), SqL.of (s _ _ h2), by simp only [zipD, List.length_zipWith, r.len, r2.len]; omega⟩
/-! ### for, while -/
def dFor (it : DI) (g : DG) (body : DS) : DS := fun D ρ => it ρ (fun xs ρ1 => ∃ I : Nat → Env → Prop, I 0 ρ1 ∧
  (∀ i y ρ2, xs[i]? = some y → I i ρ2 → g y ρ2 fun ρ3 => body { D with nx := I (i + 1), ct := I (i + 1), bk := D.nx } ρ3) ∧ ∀ ρ2, I xs.length ρ2 → D.nx ρ2) D.ex
theorem js_for {tg iter : Expr} {body : List Stmt} {it : DI} {g : DG} {ts : List Nat} {db : DS} {pos : Pos} (hp : PassesOwn (model X.prog X.w) X.A X.env X.xe) (hc : X.calm = true) (hi : JI X W ios tg iter it) (hg : JG X ios tg ts g) (hb : JSs X W ios body db)
    (hs : ∀ x, foldedSetIterable iter X.env x = pure x := by intro _; rfl) : JS X W ios (.For tg iter body [] pos) (dFor it g db) :=
  ps_imp (ps_for hp hc hi hg hb hs) fun D σ H ⟨fr, F, ρ, fps, DD, ok, sr, hd, so⟩ => ⟨fr, F, ρ, fps, _, DD.ex, ok, sr, hd, fun J F1 H1 xs ρ1 fps1 s1 m1 wk ⟨I, h0, hs, he⟩ => by
    refine ⟨fun i m σ' H' => m = xs.length - i ∧ i ≤ xs.length ∧ ∃ F' ρ' fps', SR X.K fr F' H' ρ' σ' fps' ∧ Same F1 F' ∧ I i ρ', ⟨xs.length, rfl, Nat.zero_le _, F1, ρ1, fps1, s1, Same.refl F1, h0⟩, ?_⟩
    rintro i m σ2 H2 ⟨rfl, hle, F2, ρ2, fps2, s2, m2, hI⟩
    by_cases hlt : i < xs.length
    · obtain ⟨go, yl⟩ := wk.step i H2 F2 m2 s2.sub hlt
      refine .inr ⟨go, fun σ' H' => ∃ F' ρ' fps', SR X.K fr F' H' ρ' σ' fps' ∧ Same F1 F' ∧ I (i + 1) ρ', fun σ' H' h => ⟨xs.length - (i + 1), by omega, rfl, hlt, h⟩, fun v H3 y => ?_⟩
      obtain ⟨F3, gr, rp⟩ := yl v H3 y
      refine ⟨fr, F3, ρ2, fps2, _, _, ok, s2.grow gr, rp _ (List.getElem?_eq_getElem hlt), hs i _ ρ2 (List.getElem?_eq_getElem hlt) hI, fun ρ4 σ4 fps4 s4 _ _ hb4 => ?_⟩
      -- the loop's own frame: what stays still from here on
      have mm : Same F1 F3 := m2.trans gr.ff
      refine ⟨⟨F3, fr.H, fr.io, fr.ios⟩, F3, ρ4, fps4, _, ⟨ok.1, ok.2, ok.3⟩, ⟨s4.sub, Same.refl F3, s4.keep, s4.tr, fun a h => .inl h, s4.slots, s4.own, s4.apart, s4.io, s4.len, s4.nt, s4.tk⟩, hb4, ?_⟩
      have back : ∀ {F5 H5 ρ5 σ5 fps5}, SR X.K ⟨F3, fr.H, fr.io, fr.ios⟩ F5 H5 ρ5 σ5 fps5 → SR X.K fr F5 H5 ρ5 σ5 fps5 := fun {F5 H5 ρ5 σ5 fps5} s5 =>
        ⟨s5.sub, (s1.le.trans mm).trans s5.le, s5.keep, s5.tr, fun a h => (s5.fresh a h).elim (fun z => s4.fresh a z) .inr, s5.slots, s5.own, s5.apart, s5.io, s5.len, s5.nt, s5.tk⟩
      exact ⟨fun F5 H5 ρ5 σ5 fps5 s5 q => ⟨F5, ρ5, fps5, back s5, mm.trans s5.le, q⟩, fun F5 H5 ρ5 σ5 fps5 s5 q => so.nx _ _ _ _ _ (back s5) q, fun F5 H5 ρ5 σ5 fps5 s5 q => ⟨F5, ρ5, fps5, back s5, mm.trans s5.le, q⟩,
        fun F5 H5 ρ5 σ5 fps5 v r rf s5 ro q => so.rt _ _ _ _ _ v r rf (back s5) ⟨ro.rep, ro.own, ro.apart, ro.nt⟩ q, fun cls F5 H5 ρ5 σ5 fps5 s5 q => so.ex cls _ _ _ _ _ (back s5) q⟩
    · have e : i = xs.length := by omega
      subst e
      exact .inl ⟨wk.stop H2 (m2.trans s2.sub), so.nx F2 H2 ρ2 σ2 fps2 s2 (he ρ2 hI)⟩, so.xok⟩
def dWhile (c : DT) (body : DS) : DS := fun D ρ => ∃ I : Nat → Env → Prop, (∃ m, I m ρ) ∧ ∀ m ρ1, I m ρ1 → c ρ1 (fun b ρ2 => if b = true then body { D with nx := fun ρ3 => ∃ m', m' < m ∧ I m' ρ3, ct := fun ρ3 => ∃ m', m' < m ∧ I m' ρ3, bk := D.nx } ρ2 else D.nx ρ2) D.ex
theorem js_while {c : Expr} {body : List Stmt} {dc : DT} {db : DS} {pos : Pos} (hp : PassesOwn (model X.prog X.w) X.A X.env X.xe) (hc : JT X W ios c dc) (hb : JSs X W ios body db) : JS X W ios (.While c body [] pos) (dWhile dc db) :=
  ps_imp (ps_while hp hc hb) fun D σ H ⟨fr, F, ρ, fps, DD, ok, sr, ⟨I, ⟨m0, h0⟩, hs⟩, so⟩ => by
    refine ⟨fun m σ' H' => ∃ F' ρ' fps', SR X.K fr F' H' ρ' σ' fps' ∧ I m ρ', ⟨m0, F, ρ, fps, sr, h0⟩, ?_⟩
    rintro m σ1 H1 ⟨F1, ρ1, fps1, s1, hI⟩
    refine ⟨fr, F1, ρ1, fps1, _, DD.ex, ok, s1, hs m ρ1 hI, fun b F2 H2 ρ2 fps2 s2 m2 hR => ?_, so.xok⟩
    cases b with
    | false =>
      rw [if_neg Bool.false_ne_true] at hR ⊢
      exact so.nx _ _ _ _ _ s2 hR
    | true =>
      rw [if_pos rfl] at hR ⊢
      exact ⟨_, fun σ' H' z => z, fr, F2, ρ2, fps2, _, ok, s2, hR, ⟨fun F5 H5 ρ5 σ5 fps5 s5 ⟨m', hm, q⟩ => ⟨m', hm, F5, ρ5, fps5, s5, q⟩, fun F5 H5 ρ5 σ5 fps5 s5 q => so.nx _ _ _ _ _ s5 q, fun F5 H5 ρ5 σ5 fps5 s5 ⟨m', hm, q⟩ => ⟨m', hm, F5, ρ5, fps5, s5, q⟩, so.rt, so.ex⟩⟩
/-! ### raise, op= -/
def dRaise (C : Addr) : DS := fun D ρ => D.ex (.ref C) ρ
def dFdivAt (i : Nat) (d : DE) : DS := fun D ρ => (∃ a, ρ[i]? = some (some (.d (.int a))) ∧ d ρ (fun x ρ1 => ∃ b, x = .int b ∧ DivOk a b ∧ D.nx (ρ1.set i (some (.d (.int (a / b)))))) D.ex)
/-! ### comprehensions -/
def wipeE (ρ : Env) : List Nat → Env
  | [] => ρ
  | v :: vs => (wipeE ρ vs).set v none
def backE (ρ0 : Env) (ρ : Env) : List Nat → Env
  | [] => ρ
  | v :: vs => (backE ρ0 ρ vs).set v ((ρ0[v]?).join)
/-- the slots are data, or empty -/
def plainE (ρ : Env) (vs : List Nat) : Prop := ∀ v ∈ vs, ∀ s, ρ[v]? = some (some s) → ∃ x, s = .d x
theorem wipeE_len (ρ : Env) : ∀ vs, (wipeE ρ vs).length = ρ.length
  | [] => rfl
  | v :: vs => by show ((wipeE ρ vs).set v none).length = _; rw [List.length_set, wipeE_len ρ vs]
theorem backE_len (ρ0 ρ : Env) : ∀ vs, (backE ρ0 ρ vs).length = ρ.length
  | [] => rfl
  | v :: vs => by show ((backE ρ0 ρ vs).set v _).length = _; rw [List.length_set, backE_len ρ0 ρ vs]
theorem wipeE_at {ρ : Env} {i : Nat} {s : Slot} : ∀ {vs : List Nat}, (wipeE ρ vs)[i]? = some (some s) → i ∉ vs ∧ ρ[i]? = some (some s)
  | [], h => ⟨by simp, h⟩
  | v :: vs, h => by
    rcases getSet (show ((wipeE ρ vs).set v none)[i]? = some (some s) from h) with ⟨_, e2⟩ | ⟨e1, e2⟩
    · cases e2
    · obtain ⟨h1, h2⟩ := wipeE_at e2
      exact ⟨by simp; exact ⟨fun z => e1 z.symm, h1⟩, h2⟩
theorem backE_at {ρ0 ρ : Env} {i : Nat} {s : Slot} : ∀ {vs : List Nat}, (backE ρ0 ρ vs)[i]? = some (some s) → (i ∈ vs ∧ ρ0[i]? = some (some s)) ∨ (i ∉ vs ∧ ρ[i]? = some (some s))
  | [], h => .inr ⟨by simp, h⟩
  | v :: vs, h => by
    rcases getSet (show ((backE ρ0 ρ vs).set v ((ρ0[v]?).join))[i]? = some (some s) from h) with ⟨e1, e2⟩ | ⟨e1, e2⟩
    · subst e1
      refine .inl ⟨by simp, ?_⟩
      cases q : ρ0[v]? with
      | none => rw [q] at e2; cases e2
      | some o =>
        rw [q] at e2
        simp at e2
        rw [e2]
    · rcases backE_at e2 with ⟨h1, h2⟩ | ⟨h1, h2⟩
      · exact .inl ⟨by simp [h1], h2⟩
      · exact .inr ⟨by simp; exact ⟨fun z => e1 z.symm, h1⟩, h2⟩
theorem wipe_at {σ : St} {i : Nat} : ∀ {vs : List Nat}, i ∉ vs → (wipe σ vs)[i]? = σ[i]?
  | [], _ => rfl
  | v :: vs, h => by
    show ((wipe σ vs).set v none)[i]? = _
    rw [List.getElem?_set_ne (by intro e; exact h (by simp [e])), wipe_at (fun z => h (List.mem_cons_of_mem _ z))]
theorem wipe_in {σ : St} {i : Nat} : ∀ {vs : List Nat}, i ∈ vs → i < σ.length → (wipe σ vs)[i]? = some none
  | v :: vs, h, hl => by
    show ((wipe σ vs).set v none)[i]? = _
    by_cases e : v = i
    · subst e
      rw [List.getElem?_set_self (by rw [wipe_length]; exact hl)]
    · rw [List.getElem?_set_ne e]
      exact wipe_in (by simpa [Ne.symm e] using h) hl
theorem wipe_eq {σ σ' : St} {vs : List Nat} (hl : σ'.length = σ.length) (h : ∀ j, j ∉ vs → σ'[j]? = σ[j]?) : wipe σ' vs = wipe σ vs := by
  apply List.ext_getElem?
  intro j
  by_cases c : j ∈ vs
  · by_cases hj : j < σ.length
    · rw [wipe_in c hj, wipe_in c (by omega)]
    · rw [List.getElem?_eq_none (by rw [wipe_length]; omega), List.getElem?_eq_none (by rw [wipe_length]; omega)]
  · rw [wipe_at c, wipe_at c, h j c]
/-- into a comprehension's turn -/
theorem SR.wipe {K : Frag} {fr : Fr} {F H : Hp} {ρ : Env} {σ : St} {fps : Nat → Addr → Prop} (r : SR K fr F H ρ σ fps) (vs : List Nat) : SR K ⟨F, H, fun i a => i < ρ.length ∧ fps i a, []⟩ F H (wipeE ρ vs) (L2.wipe σ vs) (fun i a => i < ρ.length ∧ i ∉ vs ∧ fps i a) where
  sub := r.sub
  le := Same.refl F
  keep := fun a o e _ => e
  tr := fun a e => e
  fresh := fun a e => .inl e
  slots := fun i s e => by
    obtain ⟨h1, h2⟩ := wipeE_at e
    have hi : i < ρ.length := (List.getElem?_eq_some_iff.mp h2).1
    obtain ⟨v, h3, h4⟩ := r.slots i s h2
    refine ⟨v, by rw [wipe_at h1]; exact h3, ?_⟩
    have ef : (fun a => i < ρ.length ∧ i ∉ vs ∧ fps i a) = fps i := funext fun a => propext ⟨fun z => z.2.2, fun z => ⟨hi, h1, z⟩⟩
    show SlotRep K F H s v (fun a => i < ρ.length ∧ i ∉ vs ∧ fps i a)
    rw [ef]
    exact h4
  own := fun i a ⟨h0, h1, h2⟩ => ⟨(r.own i a h2).1, (r.own i a h2).2.1, .inr ⟨h0, h2⟩⟩
  apart := fun i j a h1 h2 => r.apart i j a h1.2.2 h2.2.2
  io := fun p hp => absurd hp (by simp)
  len := by rw [wipeE_len, wipe_length, r.len]
  nt := fun i a h => r.nt i a h.2.2
  tk := fun a h => .inr h
/-- and out of it -/
theorem SR.unwipe {K : Frag} {fr : Fr} {F H F' H' : Hp} {ρ ρ' : Env} {σ σ' : St} {fps fps' : Nat → Addr → Prop} {vs : List Nat} (r : SR K fr F H ρ σ fps) (c : SR K ⟨F, H, fun i a => i < ρ.length ∧ fps i a, []⟩ F' H' ρ' σ' fps') (hw : L2.wipe σ' vs = L2.wipe σ vs) (hp : plainE ρ vs) :
    SR K fr F' H' (backE ρ ρ' vs) σ (fun i a => i ∉ vs ∧ fps' i a) where
  sub := c.sub
  le := r.le.trans c.le
  keep := fun a o e n => c.keep a o (r.keep a o e n) fun i ⟨_, hi⟩ => by
    rcases (r.own i a hi).2.2 with z | z
    · rw [z] at e; cases e
    · exact n i z
  tr := fun a e => c.tr a (r.tr a e)
  fresh := fun a e => by
    rcases c.fresh a e with h | h | h
    · exact r.fresh a h
    · right; left
      cases q : fr.H a with
      | none => rfl
      | some o => exact absurd h (r.tr a (by rw [q]; exact fun z => nomatch z))
    · exact .inr (r.tk a h)
  slots := fun i s e => by
    rcases backE_at e with ⟨h1, h2⟩ | ⟨h1, h2⟩
    · obtain ⟨x, rfl⟩ := hp i h1 s h2
      obtain ⟨v, h3, h4⟩ := r.slots i _ h2
      exact ⟨v, h3, h4.1.mono c.le, fun a z => z.1 h1⟩
    · obtain ⟨v, h3, h4⟩ := c.slots i s h2
      refine ⟨v, ?_, ?_⟩
      · rw [← wipe_at h1, ← hw, wipe_at h1]
        exact h3
      · have ef : (fun a => i ∉ vs ∧ fps' i a) = fps' i := funext fun a => propext ⟨fun z => z.2, fun z => ⟨h1, z⟩⟩
        show SlotRep K F' H' s v (fun a => i ∉ vs ∧ fps' i a)
        rw [ef]
        exact h4
  own := fun i a ⟨h1, h2⟩ => by
    obtain ⟨g1, g2, g3⟩ := c.own i a h2
    refine ⟨g1, g2, ?_⟩
    rcases g3 with z | ⟨_, z⟩
    · left
      cases q : fr.H a with
      | none => rfl
      | some o => exact absurd z (r.tr a (by rw [q]; exact fun z => nomatch z))
    · exact (r.own i a z).2.2
  apart := fun i j a h1 h2 => c.apart i j a h1.2 h2.2
  io := r.io
  len := by
    rw [backE_len, c.len]
    have := congrArg List.length hw
    rw [wipe_length, wipe_length] at this
    exact this
  nt := fun i a h => c.nt i a h.2
  tk := fun a hT => by
    rcases c.tk a hT with h | h
    · left
      cases q : fr.H a with
      | none => rfl
      | some o => exact absurd h (r.tr a (by rw [q]; exact fun z => nomatch z))
    · exact r.tk a h
abbrev noX : XR := fun _ _ => False
abbrev noW : WX := fun _ _ _ _ => False
abbrev iosC (n : Nat) : Ios := ([], List.range n)
def dLc (it : DI) (g : DG) (tt : DT) (te : DE) (vs : List Nat) : DO := fun ρ R X => it ρ (fun xs ρ1 => ∃ I : Nat → List Dat → Env → Prop, I 0 [] ρ1 ∧
  (∀ i y acc ρ2, xs[i]? = some y → I i acc ρ2 → plainE ρ2 vs ∧ acc.length < sizeLine ∧ g y (wipeE ρ2 vs) fun ρ3 => tt ρ3 (fun b ρ4 => if b = true then te ρ4 (fun z ρ5 => I (i + 1) (acc ++ [z]) (backE ρ2 ρ5 vs)) noX else I (i + 1) acc (backE ρ2 ρ4 vs)) noX) ∧
  ∀ acc ρ2, I xs.length acc ρ2 → R (.l acc) ρ2) X
abbrev JTs (X : Cx) (W : WX) (ios : Ios) (es : List Expr) (d : DT) : Prop := PTs X es (liftT X.K W ios d)
def dYes : DT := fun ρ R _ => R true ρ
theorem jts_nil : JTs X W ios [] dYes := ⟨fun pins s σ H Q I ⟨fr, F, ρ, fps, R, XX, ok, sr, hd, hq, hx⟩ => pts_nil.run pins s σ H Q I (hq true F H ρ fps sr (Same.refl F) hd)⟩
theorem jts_one {c : Expr} {d : DT} (h : JT X W ios c d) : JTs X W ios [c] d := pts_one h
theorem lift_lc {it : DI} {g : DG} {tt : DT} {te : DE} {vs : List Nat} {ts : List Nat} {n : Nat} (hts : ∀ t ∈ ts, t ∈ vs) (hn : X.N.length = n) (σ : St) (hσ : σ.length = X.N.length) (H : Hp) (Q : VK) (h : liftO X.K W ios (dLc it g tt te vs) σ H Q) :
    tLc (liftI X.K W ios it) (liftGt X.K (iosC n) ts g) (liftT X.K noW (iosC n) tt) (liftE X.K noW (iosC n) te) vs σ H Q := by
  obtain ⟨fr, F, ρ, fps, R, XX, ok, sr, hd, hq, hx⟩ := h
  refine ⟨fr, F, ρ, fps, _, XX, ok, sr, hd, fun J F1 H1 xs ρ1 fps1 s1 m1 wk ⟨I, h0, hs, he⟩ => ?_, hx⟩
  intro D hD
  have hfrD : fr.H D = none := by
    cases q : fr.H D with
    | none => rfl
    | some o => exact absurd hD (s1.tr D (by rw [q]; exact fun z => nomatch z))
  refine ⟨fun i m H' => m = xs.length - i ∧ i ≤ xs.length ∧ ∃ F' ρ' fps' acc vs', SR X.K fr F' H' ρ' σ fps' ∧ Same F1 F' ∧ H' D = some (.lst vs') ∧ Reps X.K F' vs' acc ∧ F' D = none ∧ (∀ j, ¬ fps' j D) ∧ I i acc ρ',
    ⟨xs.length, rfl, Nat.zero_le _, F1, ρ1, fps1, [], [], s1.grow (Grow.own s1.sub hD), Same.refl F1, upd_same, Reps.nil, s1.sub.free hD, fun j hj => (s1.own j D hj).2.1 hD, h0⟩, ?_⟩
  rintro i m H2 ⟨rfl, hle, F2, ρ2, fps2, acc, ws, s2, m2, hDl, rD, fD, nD, hI⟩
  by_cases hlt : i < xs.length
  · obtain ⟨go, yl⟩ := wk.step i H2 F2 m2 s2.sub hlt
    refine .inr ⟨go, fun H' => ∃ F' ρ' fps' acc vs', SR X.K fr F' H' ρ' σ fps' ∧ Same F1 F' ∧ H' D = some (.lst vs') ∧ Reps X.K F' vs' acc ∧ F' D = none ∧ (∀ j, ¬ fps' j D) ∧ I (i + 1) acc ρ', fun H' h => ⟨xs.length - (i + 1), by omega, rfl, hlt, h⟩, fun v H3 y => ?_⟩
    obtain ⟨F3, gr, rp⟩ := yl v H3 y
    obtain ⟨pl, hz, hg⟩ := hs i _ acc ρ2 (List.getElem?_eq_getElem hlt) hI
    have s3 := s2.grow gr
    have hD3 : H3 D = some (.lst ws) := gr.hh _ _ hDl
    have fD3 : F3 D = none := by
      cases q : F3 D with
      | none => rfl
      | some o =>
        rcases gr.new D (by rw [q]; exact fun z => nomatch z) with z | z | ⟨_, z⟩
        · exact absurd fD z
        · rw [z] at hDl; cases hDl
        · rw [z] at hDl; cases hDl
    have sw := s3.wipe vs
    have okC : FrOk (iosC n) ⟨F3, H3, fun i a => i < ρ2.length ∧ fps2 i a, []⟩ := ⟨fun p hp => absurd hp (by simp), fun i a h => by
      show i ∈ List.range n
      rw [List.mem_range]
      have := s2.len
      omega, fun i a h => (s3.own i a h.2).2.1⟩
    have lenw : ∀ {σ4 : St} {F4 H4 : Hp} {ρ4 : Env} {fps4 : Nat → Addr → Prop}, SR X.K ⟨F3, H3, fun i a => i < ρ2.length ∧ fps2 i a, []⟩ F4 H4 ρ4 σ4 fps4 → F4 D = none ∧ (∀ j, ¬ fps4 j D) ∧ H4 D = some (.lst ws) := fun {σ4 F4 H4 ρ4 fps4} s4 => by
      have k4 : H4 D = some (.lst ws) := s4.keep D _ hD3 fun j ⟨_, hj⟩ => nD j hj
      refine ⟨?_, fun j hj => ?_, k4⟩
      · cases q : F4 D with
        | none => rfl
        | some o =>
          rcases s4.fresh D (by rw [q]; exact fun z => nomatch z) with z | z | ⟨_, z⟩
          · exact absurd fD3 z
          · have z : H3 D = none := z
            rw [z] at hD3; cases hD3
          · have z : H3 D = some _ := z
            rw [z] at hD3; cases hD3
      · rcases (s4.own j D hj).2.2 with z | ⟨_, z⟩
        · have z : H3 D = none := z
          rw [z] at hD3; cases hD3
        · exact nD j z
    refine ⟨_, F3, _, _, _, _, okC, sw, rp _ (List.getElem?_eq_getElem hlt), hg, fun ρ4 σ4 fps4 s4 l4 a4 ht4 => ?_⟩
    have hl4 : σ4.length = σ.length := l4.trans (wipe_length _ _)
    have w4 : L2.wipe σ4 vs = L2.wipe σ vs := wipe_eq hl4 fun j hj => (a4 j fun z => hj (hts j z)).trans (wipe_at hj)
    refine ⟨w4, ?_⟩
    refine ⟨_, F3, ρ4, fps4, _, noX, okC, s4, ht4, fun b F5 H5 ρ5 fps5 s5 m5 hb => ?_, fun _ _ _ _ _ _ z => z.elim⟩
    cases b with
    | false =>
      rw [if_neg Bool.false_ne_true] at hb ⊢
      obtain ⟨g1, g2, g3⟩ := lenw s5
      exact ⟨F5, _, _, acc, ws, s3.unwipe s5 w4 pl, (m2.trans gr.ff).trans s5.le, g3, (rD.mono gr.ff).mono s5.le, g1, fun j hj => g2 j hj.2, hb⟩
    | true =>
      rw [if_pos rfl] at hb ⊢
      refine ⟨_, F5, ρ5, fps5, _, noX, okC, s5, hb, fun u F6 H6 z ρ6 fps6 s6 m6 r6 h6 => ?_, fun _ _ _ _ _ _ z => z.elim⟩
      obtain ⟨g1, g2, g3⟩ := lenw s6
      refine ⟨ws, g3, by rw [rD.len]; exact hz, F6, backE ρ2 ρ6 vs, fun i a => i ∉ vs ∧ fps6 i a, acc ++ [z], ws ++ [u], ?_, (m2.trans gr.ff).trans s6.le, upd_same, ((rD.mono gr.ff).mono s6.le).snoc r6, g1, (fun j hj => g2 j hj.2), h6⟩
      have sx := s3.unwipe s6 w4 pl
      refine ⟨fun a o q => ?_, sx.le, fun a o q nn => ?_, fun a q z => ?_, sx.fresh, fun j t q => ?_, fun j a q => ?_, sx.apart, sx.io, sx.len, fun j a q h => sx.nt j a q (h.upd (by intro _ z; cases z)), fun a h => sx.tk a (h.upd (by intro _ z; cases z))⟩
      · rw [upd_ne (by intro e; subst e; rw [g1] at q; cases q)]
        exact sx.sub a o q
      · rw [upd_ne (by intro e; subst e; rw [hfrD] at q; cases q)]
        exact sx.keep a o q nn
      · by_cases e : a = D
        · subst e; exact q hfrD
        · rw [upd_ne e] at z; exact sx.tr a q z
      · obtain ⟨v', q1, q2⟩ := sx.slots j t q
        exact ⟨v', q1, q2.stay (Same.refl F6) fun a ha => upd_ne (by intro e; subst e; exact g2 j ha.2)⟩
      · obtain ⟨q1, q2, q3⟩ := sx.own j a q
        refine ⟨q1, ?_, q3⟩
        rw [upd_ne (by intro e; subst e; exact g2 j q.2)]
        exact q2
  · have e : i = xs.length := by omega
    subst e
    refine .inl ⟨wk.stop H2 (m2.trans s2.sub), ?_⟩
    exact hq _ F2 H2 (.l acc) (fun a => a = D) ρ2 fps2 s2 (m1.trans m2) ⟨⟨D, ws, rfl, hDl, rD, fun a => Iff.rfl⟩, fun a ha => by subst ha; exact ⟨fD, by rw [hDl]; exact (fun z => nomatch z), hfrD⟩, fun j a ha => by subst ha; exact nD j, fun a ha => by subst ha; exact fun ⟨_, h⟩ => by rw [hDl] at h; cases h⟩ (he acc ρ2 hI)
theorem pe_impL {e : Expr} {t t' : TE} (h : PE X e t) (i : ∀ σ H Q, σ.length = X.N.length → t' σ H Q → t σ H Q) : PE X e t' := ⟨fun pins s σ H Q I q => h.run pins s σ H Q I (i _ _ _ I.len q)⟩
theorem ps_impL {st : Stmt} {t t' : TS} (h : PS X st t) (i : ∀ D σ H, σ.length = X.N.length → t' D σ H → t D σ H) : PS X st t' := ⟨fun pins s σ H D I q => h.run pins s σ H D I (i _ _ _ I.len q)⟩
theorem jo_lc {elt tg iter : Expr} {ifs : List Expr} {scope : Scope} {own : List (Str × Nat)} {pos : Pos} {it : DI} {g : DG} {ts : List Nat} {tt : DT} {te : DE} {n : Nat} (hc : X.calm = true) (hN : X.N.Nodup) (hi : JI X W ios tg iter it) (ok : BlkOk X.N X.env.scope scope own)
    (hg : ∀ (s : Shared) (H : Hp) (C : Addr) (cl : List (Str × Addr)) (fp : List Addr), JG (X.blk s H scope (PySem.compEnvC scope cl C X.env) fp) (iosC n) tg ts g) (ht : ∀ (s : Shared) (H : Hp) (C : Addr) (cl : List (Str × Addr)) (fp : List Addr), JTs (X.blk s H scope (PySem.compEnvC scope cl C X.env) fp) noW (iosC n) ifs tt)
    (he : ∀ (s : Shared) (H : Hp) (C : Addr) (cl : List (Str × Addr)) (fp : List Addr), JE (X.blk s H scope (PySem.compEnvC scope cl C X.env) fp) noW (iosC n) elt te) (hn : X.N.length = n := by rfl) (hts : ∀ t ∈ ts, t ∈ own.map (·.2) := by decide) (hs : ∀ x, foldedSetIterable iter X.env x = pure x := by intro _; rfl) :
    JO X W ios (.ListComp elt [⟨tg, iter, ifs, 0⟩] scope pos) (dLc it g tt te (own.map (·.2))) :=
  pe_impL (pe_lc hc hN hi ok hg ht he hs) fun σ H Q hl h => lift_lc hts hn σ hl H Q h
end
end DL
/-! DL, part 7: a def by the head's facts, the law's end. -/
namespace DL
open PySem L2
abbrev FnP (K : Frag) (x : Str) (st : Stmt) (f : Addr) (fd : FuncData) : Prop := FunD K x x (defArgs st) (defBody st) (defScope st) [] [] f fd
theorem hu1 {k : Nat} {A : Around} (h : Room k A) : A.units + 1 < cLine := by have := h.un; omega
theorem hu64 {k : Nat} {A : Around} (h : Room k A) : A.units + 64 < cLine := by have := h.un; omega
theorem hu65 {k : Nat} {A : Around} (h : Room k A) : A.units + 65 < cLine := by have := h.un; omega
theorem ok_ofD {P : Program} {w : World} {K : Frag} {mg : Str → Option Value} {base : Heap} {x : Str} {st : Stmt} {f : Addr} {fd : FuncData} {N ps : List Str} {k : Nat} {ios : List Nat} {S : DSpec} {d : DS}
    (F : FnP K x st f fd) (Sc : FnScope N ps (defScope st)) 
    (body : ∀ (cdv : Value) (A : Around) (outer : List PySem.Env) (s : Shared) (H : Hp) (E : XK), Room k (A.deeper (PyProof.Rows.envOfC x (defScope st) s.heap.objs.size f cdv)) →
      JSs (cxOf (L2.CX P w) P w K mg base N x (defScope st) f cdv A outer s H E) (fun cls dd _ H' => E cls dd H') (ios, ios) (defBody st) d)
    (law : ∀ args R X, S args R X → args.length = ps.length ∧ d (kOf ios R X) (args.map some ++ List.replicate (N.length - ps.length) none)) :
    FnOk P w K mg base (L2.CX P w) (k + 1) f fd ps (spD K ios S) := by
  refine F.ok Sc (fun vs H Q E ⟨F0, args, fps, R, X, _, sr, hS, _⟩ => ?_) (fun cdv A outer s H vs Q E hr ⟨F0, args, fps, R, X, hio, sr, hS, hq, hx⟩ => ⟨_, body cdv A outer s H E hr, ?_⟩)
  · have h1 := (law args R X hS).1
    have h2 := sr.len
    rw [List.length_map, List.length_map] at h2
    omega
  · obtain ⟨hl, hd⟩ := law args R X hS
    have hvl : vs.length = ps.length := by
      have h2 := sr.len
      rw [List.length_map, List.length_map] at h2
      omega
    obtain ⟨fps', sr', hsub, hz⟩ := sr.cut
    refine ⟨frOf F0 H fps ios vs, F0, _, fps', kOf ios R X, frOf_ok hio (fun i a z => (sr.own i a z).2.1), ?_, hd, ⟨fun F H ρ σ fps s q => ?_, fun F H ρ σ fps s q => q.elim, fun F H ρ σ fps s q => q.elim, fun F H ρ σ fps v r rf s ro q => hq F H ρ σ fps v r rf s ro q, fun cls F H ρ σ fps s q => hx cls F H ρ σ fps s q⟩⟩
    · have h := sr'.pad (N.length - ps.length) hz
      unfold L2.start
      rw [hvl]
      exact h
    · exact hq F H ρ σ fps .non (.d .non) (fun _ => False) s ⟨⟨.non, fun _ z => z⟩, fun a z => z.elim, fun i a z => z.elim, fun a z => z.elim⟩ q
theorem has_ofD {P : Program} {w : World} {K : Frag} {mg : Str → Option Value} {base : Heap} {x : Str} {st : Stmt} {f : Addr} {fd : FuncData} {N ps : List Str} {k : Nat} {ios : List Nat} {S : DSpec} {d : DS}
    (F : FnP K x st f fd) (Sc : FnScope N ps (defScope st)) (hm : mg x = some (.ref f)) (hb : Binds K fd ps [])
    (body : ∀ (cdv : Value) (A : Around) (outer : List PySem.Env) (s : Shared) (H : Hp) (E : XK), Room k (A.deeper (PyProof.Rows.envOfC x (defScope st) s.heap.objs.size f cdv)) →
      JSs (cxOf (L2.CX P w) P w K mg base N x (defScope st) f cdv A outer s H E) (fun cls dd _ H' => E cls dd H') (ios, ios) (defBody st) d)
    (law : ∀ args R X, S args R X → args.length = ps.length ∧ d (kOf ios R X) (args.map some ++ List.replicate (N.length - ps.length) none)) :
    Has P w K mg base (k + 1) x ps ios S := ⟨f, fd, ok_ofD F Sc body law, hm, F.kp, hb⟩
/-- nothing can be asked with no call left -/
def noS : DSpec := fun _ _ _ => False
theorem has_no {P : Program} {w : World} {K : Frag} {mg : Str → Option Value} {base : Heap} {x : Str} {f : Addr} {fd : FuncData} {ps : List Str} {ios : List Nat} (k : Nat) (hm : mg x = some (.ref f)) (hk : PySem.W.keepIn K (.ref f) = true) (hb : Binds K fd ps []) : Has P w K mg base k x ps ios noS :=
  ⟨f, fd, ⟨fun vs H Q E ⟨_, _, _, _, _, _, _, h, _⟩ => h.elim, fun A outer s H args us vs Q E _ _ _ _ ⟨_, _, _, _, _, _, _, h, _⟩ => h.elim⟩, hm, hk, hb⟩
/-- the law of a script: True for each -/
def S_law : DSpec := fun args R _ => ∃ ns : List Int, args = [.d (.scr ns)] ∧ ns.length ≤ 63 ∧ (∀ z ∈ ns, Builtin.Int.intBits z ≤ 1048576) ∧ R (.d (.bl true)) []
theorem only_start {K : Frag} {H : Hp} {a : Addr} {ns : List Int} (hl : ns.length ≤ 63) (hb : ∀ z ∈ ns, Builtin.Int.intBits z ≤ 1048576) (hS : SqL K H a (ns.map V.int)) : spD K [] S_law [.ref a] H (fun v _ => v = .bl true) (fun _ _ _ => False) := by
  refine ⟨H, [.d (.scr ns)], fun _ _ => False, fun r os => r = .d (.bl true), fun _ _ => False, fun _ _ z => z.elim, ⟨Same.refl H, Same.refl H, fun a o e _ => e, fun a e => e, fun a e => .inl e, fun i s e => ?_, fun i a z => z.elim, fun i j a z => z.elim, fun p hp => absurd hp (by simp [frOf, iosV]), rfl, fun i a z => z.elim, fun a h => .inr h⟩, ⟨ns, rfl, hl, hb, rfl⟩, fun F' H' ρ' σ' fps' v r rf _ ro e => ?_, fun _ _ _ _ _ _ _ z => z⟩
  · cases i with
    | zero =>
      simp at e
      subst e
      exact ⟨.ref a, rfl, .scr hS, fun _ z => z⟩
    | succ i => simp at e
  · subst e
    have h := ro.rep.1
    cases h
    rfl
theorem cx_no {P : Program} {w : World} {H : Hp} {s : Shared} {e : Value} {s' : Shared} (h : L2.CX P w [] H s (fun _ _ _ => False) e s') : False := by
  obtain ⟨_, _, _, _, _, _, _, _, _, _, _, _, h⟩ := h
  exact h
theorem walk_law {l : PySem.W.OpenLaw} {k : Nat} {q : Program} {loose : List Str} {XP : (Str → Option Value) → Heap → Prop} {YP : World → Heap → Prop} {d : DefRec}
    (hn : l.most = some 63) (hdf : d.params.defaults = []) (hr : Room k callerA)
    (F : ∀ (w : World) (mg : Str → Option Value) (fa : Addr) (h : Heap), YP w h → h.Ns mainGlobals mg → mg d.name = some (.ref fa) →
      ∃ (K : Frag) (fd : FuncData), K.In h ∧ (∀ (s : Shared) (u : Value), BindsTo s fd ⟨[u], []⟩ [("script", u)]) ∧
        ∀ base : Heap, K.In base → base.Ns mainGlobals mg → FnOk l.prog w K mg base (L2.CX l.prog w) k fa fd ["script"] (spD K [] S_law)) :
    PySem.W.WalkO q loose XP YP l.row.toRowW d [] (fun f vs => PySem.call f vs) := by
  refine Att.attach_callB hn hdf fun w s₀ s₁ mg mb fa o pm cd doc a vs ns G Y ho hd hcd hmg hobj hints hlen hbits hg => ?_
  obtain ⟨K, fd, KX, hb, hF⟩ := F w mg fa _ Y G.T.g hmg
  exact law_call KX G.T.g G.T.b G.T.builtins G.T.nolimit hg hobj hints (Nat.le_trans hlen (by decide)) hr hF hb (fun H hO hS => only_start hlen hbits hS) fun H e s' z => cx_no z
end DL
/-! DL, part 8: readings at work. -/
namespace DL
open PySem L2
theorem bits_le {a : Int} {n : Nat} (h : a.natAbs < 2 ^ n) : Builtin.Int.intBits a ≤ n := by
  unfold Builtin.Int.intBits
  split
  · exact Nat.zero_le _
  · rename_i c
    have hz : a.natAbs ≠ 0 := fun z => c (by first | omega | simp_all)
    have : a.natAbs.log2 < n := (Nat.log2_lt hz).mpr h
    omega
theorem mulok {a b : Int} (ha : a.natAbs < 2 ^ 255) (hb : b.natAbs < 2 ^ 255) : IntMulOk a b := by
  have h1 := bits_le ha
  have h2 := bits_le hb
  have h3 : Builtin.Int.intTooBig (Builtin.Int.intBits a + Builtin.Int.intBits b) = false := by
    unfold Builtin.Int.intTooBig
    refine decide_eq_false ?_
    show ¬ ((Builtin.Int.intBits a : Int) + (Builtin.Int.intBits b : Int) > bitsLine)
    have : (2000 : Int) ≤ bitsLine := by decide
    omega
  unfold IntMulOk
  rw [h3]
  simp
theorem divok {i j : Int} (h : 0 < j) (hb : j.natAbs < 2 ^ 255) : DivOk i j := ⟨h, by
  have : j.natAbs.log2 < 255 := (Nat.log2_lt (by omega)).mpr hb
  omega⟩
section
variable {i j : Int} {a b : Str} {xs ys : List Dat} {p q : Bool} {T : Dat → Prop} {ns : List Int}
theorem q_add : fAdd (.int i) (.int j) T = T (.int (i + j)) := rfl
theorem q_adds : fAdd (.str a) (.str b) T = (a.length + b.length ≤ sizeLine ∧ T (.str (a ++ b))) := rfl
theorem q_addl : fAdd (.lst xs) (.lst ys) T = (xs.length + ys.length ≤ sizeLine ∧ T (.lst (xs ++ ys))) := rfl
theorem q_addt : fAdd (.tup xs) (.tup ys) T = (xs.length + ys.length ≤ sizeLine ∧ T (.tup (xs ++ ys))) := rfl
theorem q_sub : fSub (.int i) (.int j) T = T (.int (i - j)) := rfl
theorem q_mul : fMul (.int i) (.int j) T = (IntMulOk i j ∧ T (.int (i * j))) := rfl
theorem q_mull : fMul (.lst xs) (.int j) T = (-(2 ^ 63) ≤ j ∧ j < 2 ^ 63 ∧ xs.length * j.toNat ≤ sizeLine ∧ T (.lst (repD xs j))) := rfl
theorem q_fI {C : Int → Int → Prop} {g : Int → Int → Int} : fI C g (.int i) (.int j) T = (C i j ∧ T (.int (g i j))) := rfl
theorem q_fB {g : Int → Int → Bool} : fB g (.int i) (.int j) T = T (.bl (g i j)) := rfl
theorem q_eq : fEq (.int i) (.int j) T = T (.bl (decide (i = j))) := rfl
theorem q_eqs : fEq (.str a) (.str b) T = T (.bl (decide (a = b))) := rfl
theorem q_eqb : fEq (.bl p) (.bl q) T = T (.bl (decide (p = q))) := rfl
theorem q_ne : fNe (.int i) (.int j) T = T (.bl (!decide (i = j))) := rfl
theorem q_nes : fNe (.str a) (.str b) T = T (.bl (!decide (a = b))) := rfl
theorem q_neb : fNe (.bl p) (.bl q) T = T (.bl (!decide (p = q))) := rfl
theorem q_il : fItem (.lst xs) (.int i) T = ∃ x, atI xs i = some x ∧ T x := rfl
theorem q_it : fItem (.tup xs) (.int i) T = ∃ x, atI xs i = some x ∧ T x := rfl
theorem q_is : fItem (.scr ns) (.int i) T = ∃ n, atI ns i = some n ∧ T (.int n) := rfl
theorem q_ls : fLen [.scr ns] T = T (.int ns.length) := rfl
theorem q_ll : fLen [.lst xs] T = T (.int xs.length) := rfl
theorem q_lt : fLen [.tup xs] T = T (.int xs.length) := rfl
theorem q_lx : fLen [.str a] T = (a.length ≤ sizeLine ∧ T (.int a.length)) := rfl
theorem q_max2 : fMax2 [.int i, .int j] T = T (.int (if j > i then j else i)) := rfl
theorem q_min2 : fMin2 [.int i, .int j] T = T (.int (if j < i then j else i)) := rfl
theorem q_fli : flatD (.int i) = true := rfl
theorem q_flb : flatD (.bl p) = true := rfl
theorem q_fls : flatD (.str a) = true := rfl
theorem q_fln : flatD .non = true := rfl
theorem q_int : fInt [.int i] T = T (.int i) := rfl
theorem q_intb : fInt [.bl p] T = T (.int (if p = true then 1 else 0)) := rfl
end
theorem at_nat {α : Type} {xs : List α} {n : Nat} (h : n < xs.length) : atI xs (n : Int) = some xs[n] := by
  unfold atI
  rw [show ixN xs.length (n : Int) = some n from by unfold ixN; rw [if_pos (by omega), if_pos (by omega)]; rfl]
  first | (simp [h]; done) | rfl
theorem at_get {α : Type} {xs : List α} {i : Int} (h0 : 0 ≤ i) (h : i < xs.length) : ∃ x, atI xs i = some x ∧ xs[i.toNat]? = some x := by
  obtain ⟨n, rfl⟩ := Int.eq_ofNat_of_zero_le h0
  have hn : n < xs.length := by omega
  exact ⟨xs[n], at_nat hn, by simp [hn]⟩
theorem at_mem {α : Type} {xs : List α} {i : Int} (h0 : 0 ≤ i) (h : i < xs.length) : ∃ x, atI xs i = some x ∧ x ∈ xs := by
  obtain ⟨x, h1, h2⟩ := at_get h0 h
  exact ⟨x, h1, List.mem_of_getElem? h2⟩
theorem at_0 {α : Type} {x0 : α} {xs : List α} : atI (x0 :: xs) 0 = some x0 := by
  have h := at_nat (xs := x0 :: xs) (n := 0) (by simp)
  exact h
theorem at_1 {α : Type} {x0 x1 : α} {xs : List α} : atI (x0 :: x1 :: xs) 1 = some x1 := by
  have h := at_nat (xs := x0 :: x1 :: xs) (n := 1) (by simp)
  exact h
theorem at_2 {α : Type} {x0 x1 x2 : α} {xs : List α} : atI (x0 :: x1 :: x2 :: xs) 2 = some x2 := by
  have h := at_nat (xs := x0 :: x1 :: x2 :: xs) (n := 2) (by simp)
  exact h
theorem at_3 {α : Type} {x0 x1 x2 x3 : α} {xs : List α} : atI (x0 :: x1 :: x2 :: x3 :: xs) 3 = some x3 := by
  have h := at_nat (xs := x0 :: x1 :: x2 :: x3 :: xs) (n := 3) (by simp)
  exact h
theorem at_4 {α : Type} {x0 x1 x2 x3 x4 : α} {xs : List α} : atI (x0 :: x1 :: x2 :: x3 :: x4 :: xs) 4 = some x4 := by
  have h := at_nat (xs := x0 :: x1 :: x2 :: x3 :: x4 :: xs) (n := 4) (by simp)
  exact h
theorem at_5 {α : Type} {x0 x1 x2 x3 x4 x5 : α} {xs : List α} : atI (x0 :: x1 :: x2 :: x3 :: x4 :: x5 :: xs) 5 = some x5 := by
  have h := at_nat (xs := x0 :: x1 :: x2 :: x3 :: x4 :: x5 :: xs) (n := 5) (by simp)
  exact h
theorem at_6 {α : Type} {x0 x1 x2 x3 x4 x5 x6 : α} {xs : List α} : atI (x0 :: x1 :: x2 :: x3 :: x4 :: x5 :: x6 :: xs) 6 = some x6 := by
  have h := at_nat (xs := x0 :: x1 :: x2 :: x3 :: x4 :: x5 :: x6 :: xs) (n := 6) (by simp)
  exact h
theorem at_7 {α : Type} {x0 x1 x2 x3 x4 x5 x6 x7 : α} {xs : List α} : atI (x0 :: x1 :: x2 :: x3 :: x4 :: x5 :: x6 :: x7 :: xs) 7 = some x7 := by
  have h := at_nat (xs := x0 :: x1 :: x2 :: x3 :: x4 :: x5 :: x6 :: x7 :: xs) (n := 7) (by simp)
  exact h
theorem cpow {i j : Int} (h0 : 0 ≤ j) (h1 : j ≤ 1000000) (h2 : i.natAbs < 2 ^ 64) : CPow i j := ⟨h0, h1, h2⟩
theorem mul64 {a b : Int} (h1 : -(2 ^ 64) < a) (h2 : a < 2 ^ 64) : IntMulOk a b := IntMulOk.of_left (intBits_le_64 h1 h2)
theorem mul64r {a b : Int} (h1 : -(2 ^ 64) < b) (h2 : b < 2 ^ 64) : IntMulOk a b := IntMulOk.of_right (intBits_le_64 h1 h2)
theorem nb_mul {a b : Int} {m n : Nat} (ha : a.natAbs < 2 ^ m) (hb : b.natAbs < 2 ^ n) : (a * b).natAbs < 2 ^ (m + n) := by
  rw [Int.natAbs_mul, Nat.pow_add]
  exact Nat.mul_lt_mul_of_lt_of_le ha (Nat.le_of_lt hb) (by exact Nat.two_pow_pos n)
theorem nb_add {a b : Int} {n : Nat} (ha : a.natAbs < 2 ^ n) (hb : b.natAbs < 2 ^ n) : (a + b).natAbs < 2 ^ (n + 1) := by
  rw [Nat.pow_succ]
  omega
theorem nb64 {a : Int} (h0 : 0 ≤ a) (h : a < 2 ^ 64) : a.natAbs < 2 ^ 64 := by omega
theorem nb_le {a : Int} {m n : Nat} (ha : a.natAbs < 2 ^ m) (h : m ≤ n) : a.natAbs < 2 ^ n := Nat.lt_of_lt_of_le ha (Nat.pow_le_pow_right (by decide) h)
/-! ### one step at a time -/
theorem w_dSeq {t u : DS} {D : DK} {ρ : Env} : dSeq t u D ρ = (t { D with nx := u D } ρ) := rfl
theorem w_dNext {D : DK} {ρ : Env} : dNext D ρ = (D.nx ρ) := rfl
theorem w_dSet {i : Nat} {d : DE} {D : DK} {ρ : Env} : dSet i d D ρ = (d ρ (fun x ρ1 => D.nx (ρ1.set i (some (.d x)))) D.ex) := rfl
theorem w_dSetO {i : Nat} {d : DO} {D : DK} {ρ : Env} : dSetO i d D ρ = (d ρ (fun r ρ1 => D.nx (ρ1.set i (some r))) D.ex) := rfl
theorem w_dIf {c : DT} {t u : DS} {D : DK} {ρ : Env} : dIf c t u D ρ = (c ρ (fun b ρ1 => if b = true then t D ρ1 else u D ρ1) D.ex) := rfl
theorem w_dTest {d : DE} {ρ : Env} {R : Bool → Env → Prop} {X : XR} : dTest d ρ R X = (d ρ (fun x ρ1 => ∃ b, x = .bl b ∧ R b ρ1) X) := rfl
theorem w_dOp {g : F2} {da db : DE} {ρ : Env} {R : Dat → Env → Prop} {X : XR} : dOp g da db ρ R X = (da ρ (fun x ρ1 => db ρ1 (fun y ρ2 => g x y fun z => R z ρ2) X) X) := rfl
theorem w_dVar {i : Nat} {ρ : Env} {R : Dat → Env → Prop} {X : XR} : dVar i ρ R X = (∃ x, ρ[i]? = some (some (.d x)) ∧ R x ρ) := rfl
theorem w_dC {x : Dat} {ρ : Env} {R : Dat → Env → Prop} {X : XR} : dC x ρ R X = (R x ρ) := rfl
theorem w_dFn {g : FN} {da : DA} {ρ : Env} {R : Dat → Env → Prop} {X : XR} : dFn g da ρ R X = (da ρ (fun xs ρ1 => g xs fun z => R z ρ1) X) := rfl
theorem w_dFnL {g : FL} {da : DA} {ρ : Env} {R : Slot → Env → Prop} {X : XR} : dFnL g da ρ R X = (da ρ (fun xs ρ1 => g xs fun zs => R (.l zs) ρ1) X) := rfl
theorem w_dCons {d : DE} {ds : DA} {ρ : Env} {R : List Dat → Env → Prop} {X : XR} : dCons d ds ρ R X = (d ρ (fun x ρ1 => ds ρ1 (fun xs ρ2 => R (x :: xs) ρ2) X) X) := rfl
theorem w_dNil {ρ : Env} {R : List Dat → Env → Prop} {X : XR} : dNil ρ R X = (R [] ρ) := rfl
theorem w_dRet {d : DE} {D : DK} {ρ : Env} : dRet d D ρ = (d ρ (fun x ρ1 => D.rt (.d x) ρ1) D.ex) := rfl
theorem w_dRetO {d : DO} {D : DK} {ρ : Env} : dRetO d D ρ = (d ρ (fun r ρ1 => D.rt r ρ1) D.ex) := rfl
theorem w_dRetN {D : DK} {ρ : Env} : dRetN D ρ = (D.rt (.d .non) ρ) := rfl
theorem w_dLst {d : DA} {ρ : Env} {R : Slot → Env → Prop} {X : XR} : dLst d ρ R X = (d ρ (fun xs ρ1 => xs.length ≤ sizeLine ∧ R (.l xs) ρ1) X) := rfl
theorem w_dTup {d : DA} {ρ : Env} {R : Dat → Env → Prop} {X : XR} : dTup d ρ R X = (d ρ (fun xs ρ1 => xs.length ≤ sizeLine ∧ R (.tup xs) ρ1) X) := rfl
theorem w_dStill {d : DO} {ρ : Env} {R : Dat → Env → Prop} {X : XR} : dStill d ρ R X = (d ρ (fun r ρ1 => ∃ x, r.toD = some x ∧ R x ρ1) X) := rfl
theorem w_dSetItem {i : Nat} {dk dv : DE} {D : DK} {ρ : Env} : dSetItem i dk dv D ρ = (dv ρ (fun y ρ1 => (∃ s, ρ1[i]? = some (some s)) ∧ dk ρ1 (fun k ρ2 => ∃ s, ρ2[i]? = some (some s) ∧ match s with
  | .l xs => ∃ j n, k = .int j ∧ ixN xs.length j = some n ∧ D.nx (ρ2.set i (some (.l (xs.set n y))))
  | .k kvs => ∃ ky, keyOf k = some ky ∧ kvs.length < sizeLine ∧ D.nx (ρ2.set i (some (.k (putD kvs ky y))))
  | .t kvs => ∃ ds ks, k = .tup ds ∧ keysOf ds = some ks ∧ kvs.length < sizeLine ∧ D.nx (ρ2.set i (some (.t (putD kvs ks y))))
  | _ => False) D.ex) D.ex) := rfl
theorem w_dAppend {i : Nat} {d : DE} {D : DK} {ρ : Env} : dAppend i d D ρ = ((∃ xs, ρ[i]? = some (some (.l xs))) ∧ d ρ (fun x ρ1 => ∃ xs, ρ1[i]? = some (some (.l xs)) ∧ xs.length < sizeLine ∧ D.nx (ρ1.set i (some (.l (xs ++ [x]))))) D.ex) := rfl
theorem w_dPeek {d : DE} {ρ : Env} {R : Dat → Env → Prop} {X : XR} : dPeek d ρ R X = (d (stillE ρ) (fun y _ => flatD y = true ∧ R y ρ) (fun _ _ => False)) := rfl
theorem w_dPeekT {d : DT} {ρ : Env} {R : Bool → Env → Prop} {X : XR} : dPeekT d ρ R X = (d (stillE ρ) (fun b _ => R b ρ) (fun _ _ => False)) := rfl
theorem w_dMove {i : Nat} {ρ : Env} {R : Dat → Env → Prop} {X : XR} : dMove i ρ R X = (∃ s x, ρ[i]? = some (some s) ∧ s.toD = some x ∧ R x (ρ.set i (some (.d x)))) := rfl
theorem w_dTake {i : Nat} {ρ : Env} {R : Slot → Env → Prop} {X : XR} : dTake i ρ R X = (∃ s, ρ[i]? = some (some s) ∧ R s (ρ.set i none)) := rfl
theorem w_dAnd {da db : DT} {ρ : Env} {R : Bool → Env → Prop} {X : XR} : dAnd da db ρ R X = (da ρ (fun c ρ1 => if c = true then db ρ1 R X else R false ρ1) X) := rfl
theorem w_dOr {da db : DT} {ρ : Env} {R : Bool → Env → Prop} {X : XR} : dOr da db ρ R X = (da ρ (fun c ρ1 => if c = true then R true ρ1 else db ρ1 R X) X) := rfl
theorem w_dNot {da : DT} {ρ : Env} {R : Bool → Env → Prop} {X : XR} : dNot da ρ R X = (da ρ (fun c ρ1 => R (!c) ρ1) X) := rfl
theorem w_dAndV {da db : DE} {ρ : Env} {R : Dat → Env → Prop} {X : XR} : dAndV da db ρ R X = (da ρ (fun x ρ1 => ∃ c, x = .bl c ∧ if c = true then db ρ1 R X else R (.bl false) ρ1) X) := rfl
theorem w_dOrV {da db : DE} {ρ : Env} {R : Dat → Env → Prop} {X : XR} : dOrV da db ρ R X = (da ρ (fun x ρ1 => ∃ c, x = .bl c ∧ if c = true then R (.bl true) ρ1 else db ρ1 R X) X) := rfl
theorem w_dNotV {da : DE} {ρ : Env} {R : Dat → Env → Prop} {X : XR} : dNotV da ρ R X = (da ρ (fun x ρ1 => ∃ c, x = .bl c ∧ R (.bl (!c)) ρ1) X) := rfl
theorem w_dNeg {da : DE} {ρ : Env} {R : Dat → Env → Prop} {X : XR} : dNeg da ρ R X = (da ρ (fun x ρ1 => ∃ i, x = .int i ∧ R (.int (-i)) ρ1) X) := rfl
theorem w_dIsi {T : String} {d : DE} {ρ : Env} {R : Dat → Env → Prop} {X : XR} : dIsi T d ρ R X = (d ρ (fun x ρ1 => ndt x ∧ R (.bl (isiD T x)) ρ1) X) := rfl
theorem nd_n : ndt .non = True := rfl
theorem nd_b {b : Bool} : ndt (.bl b) = True := rfl
theorem nd_i {b : Int} : ndt (.int b) = True := rfl
theorem nd_s {b : Str} : ndt (.str b) = True := rfl
theorem nd_l {b : List Dat} : ndt (.lst b) = True := rfl
theorem nd_t {b : List Dat} : ndt (.tup b) = True := rfl
theorem nd_k {b : List (Key × Dat)} : ndt (.dk b) = True := rfl
theorem nd_c {b : List Int} : ndt (.scr b) = True := rfl
theorem w_dIsi2 {T U : String} {d : DE} {ρ : Env} {R : Dat → Env → Prop} {X : XR} : dIsi2 T U d ρ R X = (d ρ (fun x ρ1 => ndt x ∧ R (.bl (isiD T x || isiD U x)) ρ1) X) := rfl
theorem w_dLend {i : Nat} {ds : DA} {ρ : Env} {R : List Dat → Env → Prop} {X : XR} : dLend i ds ρ R X = ((∃ s, ρ[i]? = some (some s)) ∧ ds ρ R X) := rfl
theorem w_dPass {D : DK} {ρ : Env} : dPass D ρ = (D.nx ρ) := rfl
theorem w_dBreak {D : DK} {ρ : Env} : dBreak D ρ = (D.bk ρ) := rfl
theorem w_dCont {D : DK} {ρ : Env} : dCont D ρ = (D.ct ρ) := rfl
theorem w_dDrop {d : DE} {D : DK} {ρ : Env} : dDrop d D ρ = (d ρ (fun _ ρ1 => D.nx ρ1) D.ex) := rfl
theorem w_dAsg {d : DE} {g : DG} {D : DK} {ρ : Env} : dAsg d g D ρ = (d ρ (fun x ρ1 => g x ρ1 D.nx) D.ex) := rfl
theorem w_gtName {i : Nat} {x : Dat} {ρ : Env} {R : Env → Prop} : gtName i x ρ R = (R (ρ.set i (some (.d x)))) := rfl
theorem w_gtTup {n : Nat} {gs : DGs} {x : Dat} {ρ : Env} {R : Env → Prop} : gtTup n gs x ρ R = (∃ xs, (x = .tup xs ∨ x = .lst xs) ∧ xs.length = n ∧ gs xs ρ R) := rfl
theorem w_gtCons {g : DG} {gs : DGs} {xs : List Dat} {ρ : Env} {R : Env → Prop} : gtCons g gs xs ρ R = (∃ x r, xs = x :: r ∧ g x ρ fun ρ1 => gs r ρ1 R) := rfl
theorem w_gtNil {xs : List Dat} {ρ : Env} {R : Env → Prop} : gtNil xs ρ R = (xs = [] ∧ R ρ) := rfl
theorem w_dDict0 {ρ : Env} {R : Slot → Env → Prop} {X : XR} : dDict0 ρ R X = (R (.k []) ρ) := rfl
theorem w_dDictT {ρ : Env} {R : Slot → Env → Prop} {X : XR} : dDictT ρ R X = (R (.t []) ρ) := rfl
theorem w_dChain {g g' : F2} {da db dc : DE} {ρ : Env} {R : Dat → Env → Prop} {X : XR} : dChain g g' da db dc ρ R X = (da ρ (fun x ρ1 => db ρ1 (fun y ρ2 => g x y fun z => ∃ b, z = .bl b ∧ (if b = true then dc ρ2 (fun u ρ3 => g' y u fun z => R z ρ3) X else R (.bl false) ρ2)) X) X) := rfl
theorem w_dNoP {ρ : Env} {R : Option Int → Env → Prop} {X : XR} : dNoP ρ R X = (R none ρ) := rfl
theorem w_dSomeP {d : DE} {ρ : Env} {R : Option Int → Env → Prop} {X : XR} : dSomeP d ρ R X = (d ρ (fun x ρ1 => ∃ i, x = .int i ∧ R (some i) ρ1) X) := rfl
theorem w_dSlice {da : DE} {dl dh : DP} {ρ : Env} {R : Dat → Env → Prop} {X : XR} : dSlice da dl dh ρ R X = (da ρ (fun x ρ1 => dl ρ1 (fun lo ρ2 => dh ρ2 (fun hi ρ3 => match x with
  | .lst xs => R (.lst (cutD xs lo hi)) ρ3
  | .tup xs => R (.tup (cutD xs lo hi)) ρ3
  | .str s => s.length ≤ sizeLine ∧ R (.str (cutS s lo hi)) ρ3
  | _ => False) X) X) X) := rfl
theorem w_dSliceO {da : DE} {dl dh : DP} {ρ : Env} {R : Slot → Env → Prop} {X : XR} : dSliceO da dl dh ρ R X = (da ρ (fun x ρ1 => dl ρ1 (fun lo ρ2 => dh ρ2 (fun hi ρ3 => ∃ xs, x = .lst xs ∧ R (.l (cutD xs lo hi)) ρ3) X) X) X) := rfl
theorem w_dRevO {da : DE} {ρ : Env} {R : Slot → Env → Prop} {X : XR} : dRevO da ρ R X = (da ρ (fun x ρ1 => ∃ xs, x = .lst xs ∧ R (.l xs.reverse) ρ1) X) := rfl
theorem w_dRaise {C : Addr} {D : DK} {ρ : Env} : dRaise C D ρ = (D.ex (.ref C) ρ) := rfl
theorem w_dFdivAt {i : Nat} {d : DE} {D : DK} {ρ : Env} : dFdivAt i d D ρ = ((∃ a, ρ[i]? = some (some (.d (.int a))) ∧ d ρ (fun x ρ1 => ∃ b, x = .int b ∧ DivOk a b ∧ D.nx (ρ1.set i (some (.d (.int (a / b)))))) D.ex)) := rfl
theorem w_diAny {d : DE} {ρ : Env} {R : List Dat → Env → Prop} {X : XR} : diAny d ρ R X = (d ρ (fun x ρ1 => match x with
  | .lst xs => R xs ρ1
  | .tup xs => R xs ρ1
  | .scr ns => R (ns.map .int) ρ1
  | .str z => R (strD z) ρ1
  | .dk kvs => R (kvs.map fun kv => kD kv.1) ρ1
  | .dx _ kvs => R (kvs.map fun kv => kxD kv.1) ρ1
  | _ => False) X) := rfl
theorem w_diRange1 {da : DA} {ρ : Env} {R : List Dat → Env → Prop} {X : XR} : diRange1 da ρ R X = (da ρ (fun xs ρ1 => ∃ j : Int, xs = [.int j] ∧ -(2 ^ 62) ≤ j ∧ j < 2 ^ 62 ∧ R (rngD 0 j.toNat) ρ1) X) := rfl
theorem w_diRange2 {da : DA} {ρ : Env} {R : List Dat → Env → Prop} {X : XR} : diRange2 da ρ R X = (da ρ (fun xs ρ1 => ∃ i j : Int, xs = [.int i, .int j] ∧ (-(2 ^ 62) ≤ i ∧ i < 2 ^ 62 ∧ -(2 ^ 62) ≤ j ∧ j < 2 ^ 62) ∧ R (rngD i (j - i).toNat) ρ1) X) := rfl
theorem w_diEnum {da : DA} {ρ : Env} {R : List Dat → Env → Prop} {X : XR} : diEnum da ρ R X = (da ρ (fun xs ρ1 => ∃ ys, xs = [.lst ys] ∧ R (enumD ys) ρ1) X) := rfl
theorem w_diZip {da : DA} {ρ : Env} {R : List Dat → Env → Prop} {X : XR} : diZip da ρ R X = (da ρ (fun xs ρ1 => ∃ ys zs, xs = [.lst ys, .lst zs] ∧ R (zipD ys zs) ρ1) X) := rfl
theorem w_dYes {ρ : Env} {R : Bool → Env → Prop} {X : XR} : dYes ρ R X = (R true ρ) := rfl
theorem w_dCallO {pt : List (Option Nat)} {S : DSpec} {da : DA} {ρ : Env} {R : Slot → Env → Prop} {X : XR} : dCallO pt S da ρ R X = (da ρ (fun xs ρ1 => ∃ args, fillS ρ1 pt xs = some args ∧
  S args (fun r os => os.length = (tgOf pt).length ∧ R r (putS ρ1 (tgOf pt) os)) (fun c os => os.length = (tgOf pt).length ∧ X c (putS ρ1 (tgOf pt) os))) X) := rfl
/-- a loop: to be shown by an invariant -/
def ForP (g : DG) (body : DS) (D : DK) (xs : List Dat) (ρ1 : Env) : Prop := ∃ I : Nat → Env → Prop, I 0 ρ1 ∧
  (∀ i y ρ2, xs[i]? = some y → I i ρ2 → g y ρ2 fun ρ3 => body { D with nx := I (i + 1), ct := I (i + 1), bk := D.nx } ρ3) ∧ ∀ ρ2, I xs.length ρ2 → D.nx ρ2
theorem w_dFor {it : DI} {g : DG} {body : DS} {D : DK} {ρ : Env} : dFor it g body D ρ = it ρ (fun xs ρ1 => ForP g body D xs ρ1) D.ex := rfl
theorem ForP.mk {g : DG} {body : DS} {D : DK} {xs : List Dat} {ρ1 : Env} (I : Nat → Env → Prop) (h0 : I 0 ρ1) (hs : ∀ i y ρ2, xs[i]? = some y → I i ρ2 → g y ρ2 fun ρ3 => body { D with nx := I (i + 1), ct := I (i + 1), bk := D.nx } ρ3) (he : ∀ ρ2, I xs.length ρ2 → D.nx ρ2) : ForP g body D xs ρ1 := ⟨I, h0, hs, he⟩
def LcP (g : DG) (tt : DT) (te : DE) (vs : List Nat) (R : Slot → Env → Prop) (xs : List Dat) (ρ1 : Env) : Prop := dLc (fun ρ R _ => R xs ρ) g tt te vs ρ1 R (fun _ _ => False)
theorem rng_at {lo : Int} {n i : Nat} {y : Dat} (h : (rngD lo n)[i]? = some y) : i < n ∧ y = .int (lo + i) := by
  unfold rngD at h
  rw [List.getElem?_map] at h
  cases e : (List.range n)[i]? with
  | none => rw [e] at h; cases h
  | some j =>
    rw [e] at h
    rw [List.getElem?_eq_some_iff] at e
    obtain ⟨h1, h2⟩ := e
    simp at h1 h2
    simp at h
    exact ⟨h1, by rw [← h, h2]⟩
theorem rng_len {lo : Int} {n : Nat} : (rngD lo n).length = n := by simp [rngD]
/-- a pool: what the draws have left -/
def PL (n : Nat) (p : List Dat) : Prop := ∃ a f s : Int, p = [.int a, .int f, .int s] ∧ (f = 0 ∨ f = 1) ∧ 0 ≤ s ∧ s ≤ n
def S_pool : DSpec := fun args R _ => ∃ (ns : List Int) (k : Int), args = [.d (.scr ns), .d (.int k)] ∧ 0 ≤ k ∧ k < 1000 ∧ ∀ p, PL 31000 p → R (.l p) []
def S_take : DSpec := fun args R _ => ∃ (p : List Dat) (m : Int) (n : Nat), args = [.l p, .d (.int m)] ∧ PL n p ∧ n < 1000000000 ∧ 0 < m ∧ m.natAbs < 2 ^ 250 ∧
  ∀ p' r, PL (n + 1) p' → 0 ≤ r → r < m → R (.d (.int r)) [.l p']
theorem w_takeE {p : List Dat} {m : Int} {R : Slot → List Slot → Prop} {X : Value → List Slot → Prop} : S_take [.l p, .d (.int m)] R X = (∃ n : Nat, PL n p ∧ n < 1000000000 ∧ 0 < m ∧ m.natAbs < 2 ^ 250 ∧ ∀ p' r, PL (n + 1) p' → 0 ≤ r → r < m → R (.d (.int r)) [.l p']) := propext ⟨fun ⟨p0, m0, n, e, h1, h2, h3, h4, k⟩ => by
    simp only [List.cons.injEq, Slot.l.injEq, Slot.d.injEq, Dat.int.injEq, and_true] at e
    obtain ⟨rfl, rfl⟩ := e
    exact ⟨n, h1, h2, h3, h4, k⟩, fun ⟨n, h1, h2, h3, h4, k⟩ => ⟨p, m, n, rfl, h1, h2, h3, h4, k⟩⟩
theorem w_poolE {ns : List Int} {k : Int} {R : Slot → List Slot → Prop} {X : Value → List Slot → Prop} : S_pool [.d (.scr ns), .d (.int k)] R X = (0 ≤ k ∧ k < 1000 ∧ ∀ p, PL 31000 p → R (.l p) []) := propext ⟨fun ⟨ns0, k0, e, h1, h2, k⟩ => by
    simp only [List.cons.injEq, Slot.d.injEq, Dat.int.injEq, Dat.scr.injEq, and_true] at e
    obtain ⟨rfl, rfl⟩ := e
    exact ⟨h1, h2, k⟩, fun ⟨h1, h2, kk⟩ => ⟨ns, k, rfl, h1, h2, kk⟩⟩
theorem PL.mono {n m : Nat} {p : List Dat} (h : PL n p) (l : n ≤ m) : PL m p := by
  obtain ⟨a, f, s, e, hf, h0, h1⟩ := h
  exact ⟨a, f, s, e, hf, h0, by omega⟩
end DL
/-! DL, part 9: freezing, a data name by a comprehension, joining texts. -/
namespace DL
open PySem L2
section
variable {X : Cx} {W : WX} {ios : Ios}
theorem SR.frz {K : Frag} {fr : Fr} {F H : Hp} {ρ : Env} {σ : St} {fps : Nat → Addr → Prop} {i : Nat} {s : Slot} {y : Dat} (sr : SR K fr F H ρ σ fps) (e : ρ[i]? = some (some s)) (ey : s.toD = some y) (ok : FrOk ios fr) (hi : i ∉ ios.2) (hi1 : i ∉ ios.1) :
    Lk H fun H2 => ∃ F2 fps2, SR K fr F2 H2 (ρ.set i (some (.d y))) σ fps2 := by
  obtain ⟨v, h1, h2⟩ := sr.slots i s e
  have ro : RetOk K fr F H (fun j a => j ≠ i ∧ fps j a) v s (fps i) := ⟨h2, fun a ha => by
    obtain ⟨g1, g2, g3⟩ := sr.own i a ha
    exact ⟨g1, g2, g3.resolve_right fun z => hi (ok.2 i a z)⟩, fun j a ha ⟨hj, hb⟩ => hj (sr.apart j i a hb ha), fun a ha => sr.nt i a ha⟩
  refine (ro.still (sr.forget i) ey).imp fun H2 ⟨F2, s2, sm, rp⟩ => ?_
  have hio : ∀ p ∈ fr.ios, p.1 ≠ i := fun p hp e => hi1 (e ▸ ok.1 p hp)
  have s3 := s2.setD (i := i) (v := v) rp hio
  have e1 : (ρ.set i none).set i (some (Slot.d y)) = ρ.set i (some (.d y)) := List.set_set ..
  have hlt : i < σ.length := (List.getElem?_eq_some_iff.mp h1).1
  have e2 : σ.set i (some v) = σ := by
    apply List.ext_getElem?
    intro j
    rw [List.getElem?_set]
    split
    · rename_i c
      subst c
      first
        | rw [if_pos hlt, h1]
        | exact h1.symm
    · rfl
  rw [e1, e2] at s3
  exact ⟨F2, _, s3⟩
/-- a slot's own thing is data from here on -/
def dFrz (i : Nat) (d : DS) : DS := fun D ρ => ∃ s x, ρ[i]? = some (some s) ∧ s.toD = some x ∧ d D (ρ.set i (some (.d x)))
theorem w_dFrz {i : Nat} {d : DS} {D : DK} {ρ : Env} : dFrz i d D ρ = (∃ s x, ρ[i]? = some (some s) ∧ s.toD = some x ∧ d D (ρ.set i (some (.d x)))) := rfl
/-- name = [..], the name being data -/
theorem js_setLcD (i : Nat) {y : Str} {py : Pos} {elt tg iter : Expr} {ifs : List Expr} {scope : Scope} {own : List (Str × Nat)} {pos spos : Pos} {it : DI} {g : DG} {ts : List Nat} {tt : DT} {te : DE} {n : Nat} (hc : X.calm = true) (hN : X.N.Nodup) (hi : JI X W ios tg iter it) (ok : BlkOk X.N X.env.scope scope own)
    (hg : ∀ (s : Shared) (H : Hp) (C : Addr) (cl : List (Str × Addr)) (fp : List Addr), JG (X.blk s H scope (PySem.compEnvC scope cl C X.env) fp) (iosC n) tg ts g) (ht : ∀ (s : Shared) (H : Hp) (C : Addr) (cl : List (Str × Addr)) (fp : List Addr), JTs (X.blk s H scope (PySem.compEnvC scope cl C X.env) fp) noW (iosC n) ifs tt)
    (he : ∀ (s : Shared) (H : Hp) (C : Addr) (cl : List (Str × Addr)) (fp : List Addr), JE (X.blk s H scope (PySem.compEnvC scope cl C X.env) fp) noW (iosC n) elt te) (hy : X.N[i]? = some y := by rfl) (hyl : X.env.scope.names.lookup y = some .local := by rfl)
    (hsw : swapsWith (.ListComp elt [⟨tg, iter, ifs, 0⟩] scope pos) (some (.Name y py)) spos.line X.env = pure true := by exact sw_true rfl rfl rfl (by decide +kernel)) (hio : i ∉ ios.1 := by decide) (hn : X.N.length = n := by rfl) (hts : ∀ t ∈ ts, t ∈ own.map (·.2) := by decide) (hs : ∀ x, foldedSetIterable iter X.env x = pure x := by intro _; rfl) :
    JS X W ios (.Assign [.Name y py] (.ListComp elt [⟨tg, iter, ifs, 0⟩] scope pos) spos) (dSet i (dStill (dLc it g tt te (own.map (·.2))))) :=
  ps_impL (ps_lockA (ps_setLc hc hN hy hyl hsw hi ok hg ht he hs)) fun D σ H hl ⟨fr, F, ρ, fps, DD, ok, sr, hd, so⟩ => by
    have hd2 : dLc it g tt te (own.map (·.2)) ρ (fun r ρ1 => ∃ x, r.toD = some x ∧ DD.nx (ρ1.set i (some (.d x)))) DD.ex := hd
    have h : liftO X.K W ios (dLc it g tt te (own.map (·.2))) σ H (fun x H1 => Lk H1 fun H2 => D.nx (σ.set i (some x)) H2) := ⟨fr, F, ρ, fps, _, DD.ex, ok, sr, hd2, fun v F1 H1 r rf ρ1 fps1 s1 m1 r1 ⟨x, ex, hR⟩ =>
      (r1.still s1 ex).imp fun H2 ⟨F2, s2, sm2, rp⟩ => so.nx F2 H2 _ _ _ (s2.setD rp (ok.nio hio)) hR, so.xok⟩
    exact lift_lc hts hn σ hl H _ h
/-! ### texts -/
def strsD : List Dat → Option (List Str)
  | [] => some []
  | .str i :: xs => (strsD xs).map (i :: ·)
  | _ => none
theorem strs_rep {K : Frag} {F : Hp} : ∀ {xs : List Dat} {vs : List V} {ns : List Str}, Reps K F vs xs → strsD xs = some ns → vs = ns.map V.str
  | [], vs, ns, r, e => by cases e; exact r.unnil
  | x :: xs, vs, ns, r, e => by
    obtain ⟨v, ws, rfl, h1, h2⟩ := r.uncons
    cases x <;> simp only [strsD] at e <;> try (cases e; done)
    rename_i i
    cases q : strsD xs with
    | none => rw [q] at e; cases e
    | some ms =>
      rw [q] at e
      cases e
      cases h1
      rw [strs_rep h2 q]
      rfl
theorem strsD_map : ∀ ns : List Str, strsD (ns.map Dat.str) = some ns
  | [] => rfl
  | n :: ns => by
    show (strsD (ns.map Dat.str)).map (n :: ·) = _
    rw [strsD_map ns]
    rfl
def dJoin (da db : DE) : DE := fun ρ R X => da ρ (fun x ρ1 => ∃ a, x = .str a ∧ db ρ1 (fun y ρ2 => ∃ xs ys, (y = .lst xs ∨ y = .tup xs) ∧ strsD xs = some ys ∧ (ys.map (·.length)).sum + ys.length * a.length ≤ 16777216 ∧ R (.str (Txt.join a ys)) ρ2) X) X
theorem w_dJoin {da db : DE} {ρ : Env} {R : Dat → Env → Prop} {X : XR} : dJoin da db ρ R X = (da ρ (fun x ρ1 => ∃ a, x = .str a ∧ db ρ1 (fun y ρ2 => ∃ xs ys, (y = .lst xs ∨ y = .tup xs) ∧ strsD xs = some ys ∧ (ys.map (·.length)).sum + ys.length * a.length ≤ 16777216 ∧ R (.str (Txt.join a ys)) ρ2) X) X) := rfl
theorem je_join {o e : Expr} {da db : DE} {apos pos : Pos} (ho : JE X W ios o da) (he : JE X W ios e db) (hs : starEach [e] X.env = [(false, eval e X.env)] := by rfl) (hbase : attributeBase o "join" X.env (eval o X.env) = eval o X.env := by rfl) (hline : (apos.endLine == pos.line) = true := by rfl) :
    JE X W ios (.Call (.Attribute o "join" apos) [e] [] pos) (dJoin da db) :=
  pe_imp (pe_join ho he hs hbase hline) fun σ H Q ⟨fr, F, ρ, fps, R, XX, ok, sr, hd, hq, hx⟩ => ⟨fr, F, ρ, fps, _, XX, ok, sr, hd, fun v F1 H1 x ρ1 fps1 s1 m1 r1 ⟨a, ea, hR⟩ => by
    subst ea
    cases r1
    refine ⟨⟨a, rfl⟩, fr, F1, ρ1, fps1, _, XX, ok, s1, hR, fun w F2 H2 y ρ2 fps2 s2 m2 r2 ⟨xs, ys, ey, es, hz, hR⟩ => ?_, hx⟩
    rcases ey with rfl | rfl
    · cases r2 with
      | @lst p vs _ hp l r =>
        have e := strs_rep (⟨l, r⟩ : Reps X.K F2 vs xs) es
        subst e
        exact ⟨a, p, ys, rfl, rfl, .inl (SqL.of (s2.sub _ _ hp)), hz, hq _ F2 H2 _ ρ2 fps2 s2 (m1.trans m2) (.str _) hR⟩
    · cases r2 with
      | @tup p vs _ hp l r =>
        have e := strs_rep (⟨l, r⟩ : Reps X.K F2 vs xs) es
        subst e
        exact ⟨a, p, ys, rfl, rfl, .inr (SqT.of (s2.sub _ _ hp)), hz, hq _ F2 H2 _ ρ2 fps2 s2 (m1.trans m2) (.str _) hR⟩, hx⟩
end
/-! ### zip of lists or of tuples -/
section
variable {X : Cx} {W : WX} {ios : Ios}
def diZipA (da : DA) : DI := fun ρ R X => da ρ (fun xs ρ1 => ∃ ys zs, (xs = [.lst ys, .lst zs] ∨ xs = [.tup ys, .tup zs]) ∧ R (zipD ys zs) ρ1) X
theorem w_diZipA {da : DA} {ρ : Env} {R : List Dat → Env → Prop} {X : XR} : diZipA da ρ R X = (da ρ (fun xs ρ1 => ∃ ys zs, (xs = [.lst ys, .lst zs] ∨ xs = [.tup ys, .tup zs]) ∧ R (zipD ys zs) ρ1) X) := rfl
theorem walk_zipT {K : Frag} {F : Hp} {a b : Addr} {vs us : List V} {xs ys : List Dat} (h : F a = some (.tup vs)) (r : Reps K F vs xs) (h2 : F b = some (.tup us)) (r2 : Reps K F us ys) : Walk K F (RZ.ItzT K a b) (zipD xs ys) where
  step := fun i H F' m s hi => by
    have q : SqT K H a vs := SqT.of (s _ _ (m _ _ h))
    have q2 : SqT K H b us := SqT.of (s _ _ (m _ _ h2))
    have hi' : i < xs.length ∧ i < ys.length := by simp [zipD] at hi; omega
    have hv : i < vs.length := by rw [r.len]; exact hi'.1
    have hu : i < us.length := by rw [r2.len]; exact hi'.2
    refine ⟨⟨vs, us, vs[i], us[i], q, q2, List.getElem?_eq_getElem hv, List.getElem?_eq_getElem hu⟩, fun v H' ⟨T, y, z, e, hT, eH, hy, hz⟩ => ?_⟩
    subst e
    subst eH
    have ry := (r.at_ i y _ (hy vs q) (List.getElem?_eq_getElem hi'.1)).mono m
    have rz := (r2.at_ i z _ (hz us q2) (List.getElem?_eq_getElem hi'.2)).mono m
    obtain ⟨g, rr⟩ := pair_rep s hT ry rz
    refine ⟨_, g, fun x hx => ?_⟩
    simp only [zipD, List.getElem?_zipWith, List.getElem?_eq_getElem hi'.1, List.getElem?_eq_getElem hi'.2, Option.some.injEq] at hx
    subst hx
    exact rr
  stop := fun H s => ⟨vs, us, SqT.of (s _ _ h), SqT.of (s _ _ h2), by simp only [zipD, List.length_zipWith, r.len, r2.len]; omega⟩
theorem ji_zipA {elts : List Expr} {kk : Nat} {tpos : Pos} {e e2 : Expr} {da : DA} {p pos : Pos} (hm : X.mg "zip" = none) (ha : JA X W ios [e, e2] da) (hg : Gl X "zip" := by rfl) (hs : starEach [e, e2] X.env = (false, eval e X.env) :: starEach [e2] X.env := by rfl) (hs2 : starEach [e2] X.env = [(false, eval e2 X.env)] := by rfl) :
    JI X W ios (.Tuple elts kk tpos) (.Call (.Name "zip" p) [e, e2] [] pos) (diZipA da) :=
  pi_imp (RZ.pi_zipA hg hm ha hs (by rw [hs2]; rfl)) fun σ H RR ⟨fr, F, ρ, fps, R, XX, ok, sr, hd, hq, hx⟩ => ⟨fr, F, ρ, fps, _, XX, ok, sr, hd, fun vs F1 H1 xs ρ1 fps1 s1 m1 r1 ⟨ys, zs, e, hR⟩ => by
    rcases e with e | e
    · subst e
      obtain ⟨v, ws, rfl, rv, r2⟩ := r1.uncons
      obtain ⟨u, ws, rfl, ru, r2⟩ := r2.uncons
      obtain rfl := r2.unnil
      cases rv with
      | @lst a us _ ha l r =>
        cases ru with
        | @lst b ts _ hb l2 r2 => exact ⟨a, b, us, ts, rfl, .inl ⟨SqL.of (s1.sub _ _ ha), SqL.of (s1.sub _ _ hb), hq _ F1 H1 _ ρ1 fps1 s1 m1 (walk_zip ha ⟨l, r⟩ hb ⟨l2, r2⟩) hR⟩⟩
    · subst e
      obtain ⟨v, ws, rfl, rv, r2⟩ := r1.uncons
      obtain ⟨u, ws, rfl, ru, r2⟩ := r2.uncons
      obtain rfl := r2.unnil
      cases rv with
      | @tup a us _ ha l r =>
        cases ru with
        | @tup b ts _ hb l2 r2 => exact ⟨a, b, us, ts, rfl, .inr ⟨SqT.of (s1.sub _ _ ha), SqT.of (s1.sub _ _ hb), hq _ F1 H1 _ ρ1 fps1 s1 m1 (walk_zipT ha ⟨l, r⟩ hb ⟨l2, r2⟩) hR⟩⟩, hx⟩
end
end DL
/-! DL, part 10: comprehensions at work, kinds. -/
namespace DL
open PySem L2
theorem w_dLc {it : DI} {g : DG} {tt : DT} {te : DE} {vs : List Nat} {ρ : Env} {R : Slot → Env → Prop} {X : XR} : dLc it g tt te vs ρ R X = it ρ (fun xs ρ1 => LcP g tt te vs R xs ρ1) X := rfl
theorem LcP.mk {g : DG} {tt : DT} {te : DE} {vs : List Nat} {R : Slot → Env → Prop} {xs : List Dat} {ρ1 : Env} (I : Nat → List Dat → Env → Prop) (h0 : I 0 [] ρ1)
    (hs : ∀ i y acc ρ2, xs[i]? = some y → I i acc ρ2 → plainE ρ2 vs ∧ acc.length < sizeLine ∧ g y (wipeE ρ2 vs) fun ρ3 => tt ρ3 (fun b ρ4 => if b = true then te ρ4 (fun z ρ5 => I (i + 1) (acc ++ [z]) (backE ρ2 ρ5 vs)) noX else I (i + 1) acc (backE ρ2 ρ4 vs)) noX)
    (he : ∀ acc ρ2, I xs.length acc ρ2 → R (.l acc) ρ2) : LcP g tt te vs R xs ρ1 := ⟨I, h0, hs, he⟩
theorem take_succ_map {α β : Type} {f : α → β} {xs : List α} {i : Nat} {y : α} (h : xs[i]? = some y) : (xs.take (i + 1)).map f = (xs.take i).map f ++ [f y] := by
  rw [List.take_succ, h, List.map_append]
  rfl
theorem take_lt {α : Type} {xs : List α} {i : Nat} {y : α} (h : xs[i]? = some y) : i < xs.length := (List.getElem?_eq_some_iff.mp h).1
/-- a comprehension without a condition whose elements change nothing -/
theorem LcP.map {g : DG} {te : DE} {vs : List Nat} {R : Slot → Env → Prop} {xs : List Dat} {ρ1 : Env} (f : Dat → Dat) (hp : plainE ρ1 vs) (hl : xs.length ≤ sizeLine)
    (h : ∀ y ∈ xs, ∀ T : Dat → Env → Prop, (∀ ρ', backE ρ1 ρ' vs = ρ1 → T (f y) ρ') → g y (wipeE ρ1 vs) fun ρ3 => te ρ3 T noX) (k : R (.l (xs.map f)) ρ1) : LcP g dYes te vs R xs ρ1 := by
  refine LcP.mk (fun i acc ρ => acc = (xs.take i).map f ∧ ρ = ρ1) ⟨by simp, rfl⟩ (fun i y acc ρ2 hy hI => ?_) fun acc ρ2 hI => ?_
  · obtain ⟨rfl, rfl⟩ := hI
    have hlt := take_lt hy
    refine ⟨hp, by simp; omega, h y (List.mem_of_getElem? hy) _ fun ρ' hb => ⟨(take_succ_map hy).symm, hb⟩⟩
  · obtain ⟨rfl, rfl⟩ := hI
    rw [List.take_length]
    exact k
theorem LcP.maps {α : Type} {g : DG} {te : DE} {vs : List Nat} {R : Slot → Env → Prop} {ρ1 : Env} {L : List α} {a : α → Dat} (b : α → Dat) (hp : plainE ρ1 vs) (hl : L.length ≤ sizeLine)
    (h : ∀ e ∈ L, ∀ T : Dat → Env → Prop, (∀ ρ', backE ρ1 ρ' vs = ρ1 → T (b e) ρ') → g (a e) (wipeE ρ1 vs) fun ρ3 => te ρ3 T noX) (k : R (.l (L.map b)) ρ1) : LcP g dYes te vs R (L.map a) ρ1 := by
  refine LcP.mk (fun i acc ρ => acc = (L.take i).map b ∧ ρ = ρ1) ⟨by simp, rfl⟩ (fun i y acc ρ2 hy hI => ?_) fun acc ρ2 hI => ?_
  · obtain ⟨rfl, rfl⟩ := hI
    have hlt := take_lt hy
    rw [List.length_map] at hlt
    rw [List.getElem?_map, List.getElem?_eq_getElem hlt] at hy
    cases hy
    refine ⟨hp, by simp; omega, h _ (List.getElem_mem hlt) _ fun ρ' hb => ⟨(take_succ_map (List.getElem?_eq_getElem hlt)).symm, hb⟩⟩
  · obtain ⟨rfl, rfl⟩ := hI
    rw [List.length_map, List.take_length]
    exact k
theorem ForP.maps {α : Type} {g : DG} {body : DS} {D : DK} {ρ1 : Env} {L : List α} {a : α → Dat} (I : Nat → Env → Prop) (h0 : I 0 ρ1) (hs : ∀ i e ρ2, L[i]? = some e → I i ρ2 → g (a e) ρ2 fun ρ3 => body { D with nx := I (i + 1), ct := I (i + 1), bk := D.nx } ρ3) (he : ∀ ρ2, I L.length ρ2 → D.nx ρ2) : ForP g body D (L.map a) ρ1 :=
  ForP.mk I h0 (fun i y ρ2 hy hI => by
    have hlt := take_lt hy
    rw [List.length_map] at hlt
    rw [List.getElem?_map, List.getElem?_eq_getElem hlt] at hy
    cases hy
    exact hs i _ ρ2 (List.getElem?_eq_getElem hlt) hI) fun ρ2 hI => he ρ2 (by rw [List.length_map] at hI; exact hI)
theorem intsD_maps {α : Type} (L : List α) (f : α → Int) : intsD (L.map fun e => Dat.int (f e)) = some (L.map f) := by
  have := intsD_map (L.map f)
  rw [List.map_map] at this
  exact this
/-- max of a row's ints -/
theorem max_maps {α : Type} {L : List α} {f : α → Int} {m : Int} {T : Dat → Prop} (hm : ∃ e ∈ L, f e = m) (hx : ∀ e ∈ L, f e ≤ m) (h : T (.int m)) : fMaxL [.lst (L.map fun e => Dat.int (f e))] T := by
  refine ⟨L.map f, intsD_maps L f, ?_, fun y hy hz => ?_⟩
  · obtain ⟨e, he, _⟩ := hm
    rw [List.length_map]
    exact List.length_pos_of_mem he
  · obtain ⟨e, he, rfl⟩ := hm
    obtain ⟨e2, he2, rfl⟩ := List.mem_map.mp hy
    have h1 := hx e2 he2
    have h2 := hz (f e) (List.mem_map_of_mem he)
    have : f e2 = f e := by omega
    rw [this]
    exact h
/-- a comprehension that keeps none -/
theorem LcP.none {g : DG} {tt : DT} {te : DE} {vs : List Nat} {R : Slot → Env → Prop} {xs : List Dat} {ρ1 : Env} (hp : plainE ρ1 vs)
    (h : ∀ y ∈ xs, ∀ T : Bool → Env → Prop, (∀ ρ', backE ρ1 ρ' vs = ρ1 → T false ρ') → g y (wipeE ρ1 vs) fun ρ3 => tt ρ3 T noX) (k : R (.l []) ρ1) : LcP g tt te vs R xs ρ1 := by
  refine LcP.mk (fun i acc ρ => acc = [] ∧ ρ = ρ1) ⟨rfl, rfl⟩ (fun i y acc ρ2 hy hI => ?_) fun acc ρ2 hI => ?_
  · obtain ⟨rfl, rfl⟩ := hI
    exact ⟨hp, by decide, h y (List.mem_of_getElem? hy) _ fun ρ' hb => ⟨rfl, hb⟩⟩
  · obtain ⟨rfl, rfl⟩ := hI
    exact k
/-- any data in a slot does, for a comprehension's own names -/
def oD : Option Slot → Prop
  | .none => True
  | some (.d _) => True
  | _ => False
theorem plain_nil {ρ : Env} : plainE ρ [] := fun v h => by cases h
theorem plain_cons {ρ : Env} {v : Nat} {vs : List Nat} (h : ∀ o, ρ[v]? = some o → oD o) (k : plainE ρ vs) : plainE ρ (v :: vs) := fun u hu s e => by
  rcases List.mem_cons.mp hu with rfl | hu
  · have := h _ e
    cases s <;> first | exact ⟨_, rfl⟩ | exact this.elim
  · exact k u hu s e
/-! ### kinds -/
def up (x m : Int) : Int := (x + m - 1) / m * m
theorem up_eq {x m : Int} (hm : 0 < m) : up x m = if x % m = 0 then x else x + m - x % m := by
  unfold up
  have h1 := Int.emod_nonneg x (show m ≠ 0 by omega)
  have h2 := Int.emod_lt_of_pos x hm
  have h3 := Int.emod_add_mul_ediv x m
  by_cases c : x % m = 0
  · rw [if_pos c]
    have e : x + m - 1 = (m - 1) + m * (x / m) := by omega
    rw [e, Int.add_mul_ediv_left _ _ (by omega), Int.ediv_eq_zero_of_lt (by omega) (by omega), Int.zero_add, Int.mul_comm]
    omega
  · rw [if_neg c]
    have e : x + m - 1 = (x % m - 1) + m * (x / m + 1) := by rw [Int.mul_add, Int.mul_one]; omega
    rw [e, Int.add_mul_ediv_left _ _ (by omega), Int.ediv_eq_zero_of_lt (by omega) (by omega), Int.zero_add, Int.mul_comm, Int.mul_add]
    omega
theorem up_ge {x m : Int} (hm : 0 < m) : x ≤ up x m := by
  rw [up_eq hm]
  have h2 := Int.emod_lt_of_pos x hm
  split <;> omega
theorem up_mod {x m : Int} : up x m % m = 0 := Int.mul_emod_left ..
/-- the end of fields one behind the other -/
def fend (e : Int) : List (Dat × Int × Int) → Int
  | [] => e
  | (_, r, m) :: L => fend (up e m + r) L
def fieldD (e : Str × Dat × Int × Int) : Dat := .tup [.str e.1, e.2.1]
abbrev Sx (l : List Nat) : Str := ⟨l.toArray⟩
abbrev tlS (s : Str) : List Nat := s.cps.toList
theorem tl_Sx (l : List Nat) : tlS (Sx l) = l := rfl
theorem len_tl (s : Str) : s.length = (tlS s).length := by cases s; simp [Str.length, tlS]
theorem tl_app (a b : Str) : tlS (a ++ b) = tlS a ++ tlS b := by
  show (a.cps ++ b.cps).toList = _
  simp [tlS]
def Low (s : Str) : Prop := ∀ c ∈ tlS s, 97 ≤ c ∧ c ≤ 122
def NameOk (s : Str) : Prop := 1 ≤ s.length ∧ s.length ≤ 8 ∧ Low s
/-- a kind of a depth of at most n, its room and its multiple -/
inductive KD : Nat → Dat → Int → Int → Prop where
  | num {n : Nat} {a m : Int} : 1 ≤ a → a ≤ 8 → (m = 1 ∨ m = 2 ∨ m = 4 ∨ m = 8) → KD (n + 1) (.tup [.str "number", .int a, .int m]) a m
  | row {n : Nat} {x : Dat} {r m c : Int} : KD n x r m → 1 ≤ c → c ≤ 20 → KD (n + 1) (.tup [.str "row", x, .int c]) (c * up r m) m
  | reco {n : Nat} {L : List (Str × Dat × Int × Int)} {m : Int} : (∀ e ∈ L, KD n e.2.1 e.2.2.1 e.2.2.2) → L ≠ [] → L.length ≤ 8 → (∃ e ∈ L, e.2.2.2 = m) → (∀ e ∈ L, e.2.2.2 ≤ m) → (∀ e ∈ L, NameOk e.1) → (L.map (·.1)).Nodup →
      KD (n + 1) (.tup [.str "record", .lst (L.map fieldD)]) (up (fend 0 (L.map (·.2))) m) m
  | cho {n : Nat} {L : List (Dat × Int × Int)} {m g : Int} : (∀ e ∈ L, KD n e.1 e.2.1 e.2.2) → L ≠ [] → L.length ≤ 6 → (∃ e ∈ L, e.2.2 = m) → (∀ e ∈ L, e.2.2 ≤ m) → (∃ e ∈ L, e.2.1 = g) → (∀ e ∈ L, e.2.1 ≤ g) →
      KD (n + 1) (.tup [.str "choice", .lst (L.map (·.1))]) (up (up 1 m + g) m) m
theorem fend_app : ∀ (A B : List (Dat × Int × Int)) (e : Int), fend e (A ++ B) = fend (fend e A) B
  | [], B, e => rfl
  | (_, r, m) :: A, B, e => fend_app A B (up e m + r)
theorem fend_ge : ∀ (L : List (Dat × Int × Int)) (e : Int), (∀ x ∈ L, 0 < x.2.2 ∧ 0 ≤ x.2.1) → e ≤ fend e L
  | [], e, _ => Int.le_refl _
  | (_, r, m) :: L, e, h => by
    have h1 := h _ (List.mem_cons_self ..)
    have h2 := fend_ge L (up e m + r) fun x hx => h x (List.mem_cons_of_mem _ hx)
    have h3 := up_ge (x := e) (m := m) h1.1
    simp only at h1
    unfold fend
    omega
theorem KD.pos {n : Nat} {x : Dat} {r m : Int} (h : KD n x r m) : 1 ≤ m ∧ m ≤ 8 ∧ 0 ≤ r := by
  induction h with
  | num h1 h2 h3 => omega
  | @row n x r m c _ h1 h2 ih =>
    obtain ⟨h3, h4, h5⟩ := ih
    have := up_ge (x := r) (show 0 < m by omega)
    exact ⟨h3, h4, Int.mul_nonneg (by omega) (by omega)⟩
  | @reco n L m hk hn hl hm hx hN hD ih =>
    obtain ⟨e, he, rfl⟩ := hm
    have := ih e he
    refine ⟨this.1, this.2.1, ?_⟩
    have h1 := fend_ge (L.map (·.2)) 0 fun x hx => by
      obtain ⟨y, hy, rfl⟩ := List.mem_map.mp hx
      have := ih y hy
      exact ⟨by omega, this.2.2⟩
    have h2 := up_ge (x := fend 0 (L.map (·.2))) (m := e.2.2.2) (by omega)
    omega
  | @cho n L m g hk hn hl hm hx hg hgx ih =>
    obtain ⟨e, he, rfl⟩ := hm
    obtain ⟨e2, he2, rfl⟩ := hg
    have := ih e he
    have h3 := ih e2 he2
    refine ⟨this.1, this.2.1, ?_⟩
    have h1 := up_ge (x := 1) (m := e.2.2) (by omega)
    have h2 := up_ge (x := up 1 e.2.2 + e2.2.1) (m := e.2.2) (by omega)
    omega
theorem sok_of {s : Str} (h : ∀ c ∈ tlS s, c < 1114112) : PyData.strOk s = true := by
  unfold PyData.strOk
  rw [← Array.all_toList, List.all_eq_true]
  intro c hc
  exact decide_eq_true (h c hc)
theorem sok_low {s : Str} (h : Low s) : PyData.strOk s = true := sok_of fun c hc => by
  have := h c hc
  omega
/-- plain data of a depth of at most n: no dict -/
inductive Pl : Nat → Dat → Prop where
  | non {n : Nat} : Pl (n + 1) .non
  | bl {n : Nat} (b : Bool) : Pl (n + 1) (.bl b)
  | int {n : Nat} (i : Int) : Pl (n + 1) (.int i)
  | str {n : Nat} {s : Str} : PyData.strOk s = true → s.length ≤ 1000000 → Pl (n + 1) (.str s)
  | lst {n : Nat} {xs : List Dat} : (∀ x ∈ xs, Pl n x) → xs.length ≤ 1000000 → Pl (n + 1) (.lst xs)
  | tup {n : Nat} {xs : List Dat} : (∀ x ∈ xs, Pl n x) → xs.length ≤ 1000000 → Pl (n + 1) (.tup xs)
theorem Pl.mono {n : Nat} {x : Dat} (h : Pl n x) : Pl (n + 1) x := by
  induction h with
  | non => exact .non
  | bl b => exact .bl b
  | int i => exact .int i
  | str h k => exact .str h k
  | lst _ l ih => exact .lst ih l
  | tup _ l ih => exact .tup ih l
theorem KD.pl {n : Nat} {x : Dat} {r m : Int} (h : KD n x r m) : Pl (3 * n) x := by
  induction h with
  | num h1 h2 h3 =>
    refine .tup (fun x hx => ?_) (by simp)
    simp only [List.mem_cons, List.not_mem_nil, or_false] at hx
    rcases hx with rfl | rfl | rfl
    · exact .str (by decide +kernel) (by decide +kernel)
    · exact .int _
    · exact .int _
  | @row n x r m c _ h1 h2 ih =>
    refine .tup (fun x hx => ?_) (by simp)
    simp only [List.mem_cons, List.not_mem_nil, or_false] at hx
    rcases hx with rfl | rfl | rfl
    · exact .str (by decide +kernel) (by decide +kernel)
    · exact ih.mono.mono
    · exact .int _
  | @reco n L m hk hn hl hm hx hN hD ih =>
    refine .tup (fun x hx => ?_) (by simp)
    simp only [List.mem_cons, List.not_mem_nil, or_false] at hx
    rcases hx with rfl | rfl
    · exact .str (by decide +kernel) (by decide +kernel)
    · refine .lst (fun x hx => ?_) (by simp; omega)
      obtain ⟨e, he, rfl⟩ := List.mem_map.mp hx
      refine .tup (fun x hx => ?_) (by simp)
      simp only [List.mem_cons, List.not_mem_nil, or_false] at hx
      have hz := ih e he
      rcases hx with rfl | rfl
      · cases n with
        | zero => cases hk e he
        | succ n => exact .str (sok_low (hN e he).2.2) (Nat.le_trans (hN e he).2.1 (by decide))
      · exact hz
  | @cho n L m g hk hn hl hm hx hg hgx ih =>
    refine .tup (fun x hx => ?_) (by simp)
    simp only [List.mem_cons, List.not_mem_nil, or_false] at hx
    rcases hx with rfl | rfl
    · exact .str (by decide +kernel) (by decide +kernel)
    · refine .lst (fun x hx => ?_) (by simp; omega)
      obtain ⟨e, he, rfl⟩ := List.mem_map.mp hx
      exact (ih e he).mono
theorem Pl.lay {n : Nat} {x : Dat} (h : Pl n x) : (py x).canLay0 = true ∧ (py x).depth ≤ n := by
  induction h with
  | non => exact ⟨rfl, Nat.zero_le _⟩
  | bl b => exact ⟨rfl, Nat.zero_le _⟩
  | int i => exact ⟨rfl, Nat.zero_le _⟩
  | str h _ => exact ⟨by simp only [py, PyData.canLay0]; exact h, Nat.zero_le _⟩
  | @lst n xs hp l ih =>
    have : PyData.canLayAll0 (pys xs) = true ∧ PyData.depthAll (pys xs) ≤ n := by
      clear l hp
      induction xs with
      | nil => exact ⟨rfl, Nat.zero_le _⟩
      | cons x xs ih2 =>
        have h1 := ih x (List.mem_cons_self ..)
        have h2 := ih2 fun y hy => ih y (List.mem_cons_of_mem _ hy)
        refine ⟨?_, ?_⟩
        · show (PyData.canLay0 (py x) && PyData.canLayAll0 (pys xs)) = true
          rw [h1.1, h2.1]
          rfl
        · show max (PyData.depth (py x)) (PyData.depthAll (pys xs)) ≤ n
          omega
    refine ⟨by simp only [py, PyData.canLay0]; exact this.1, ?_⟩
    show PyData.depthAll (pys xs) + 1 ≤ n + 1
    omega
  | @tup n xs hp l ih =>
    have : PyData.canLayAll0 (pys xs) = true ∧ PyData.depthAll (pys xs) ≤ n := by
      clear l hp
      induction xs with
      | nil => exact ⟨rfl, Nat.zero_le _⟩
      | cons x xs ih2 =>
        have h1 := ih x (List.mem_cons_self ..)
        have h2 := ih2 fun y hy => ih y (List.mem_cons_of_mem _ hy)
        refine ⟨?_, ?_⟩
        · show (PyData.canLay0 (py x) && PyData.canLayAll0 (pys xs)) = true
          rw [h1.1, h2.1]
          rfl
        · show max (PyData.depth (py x)) (PyData.depthAll (pys xs)) ≤ n
          omega
    refine ⟨by simp only [py, PyData.canLay0]; exact this.1, ?_⟩
    show PyData.depthAll (pys xs) + 1 ≤ n + 1
    omega
theorem q_eqn {T : Dat → Prop} : fEq .non .non T = T (.bl true) := rfl
theorem q_eqnil {T : Dat → Prop} : fEq (.lst []) (.lst []) T = T (.bl true) := propext ⟨fun h => h.2.2, fun h => ⟨rfl, rfl, h⟩⟩
theorem zip_self {xs : List Dat} {y : Dat} (h : y ∈ zipD xs xs) : ∃ x ∈ xs, y = .tup [x, x] := by
  unfold zipD at h
  induction xs with
  | nil => simp at h
  | cons a as ih =>
    rw [List.zipWith_cons_cons] at h
    rcases List.mem_cons.mp h with rfl | h
    · exact ⟨a, List.mem_cons_self .., rfl⟩
    · obtain ⟨x, hx, e⟩ := ih h
      exact ⟨x, List.mem_cons_of_mem _ hx, e⟩
theorem q_tupl {xs : List Dat} {T : Dat → Prop} : fTupF [.lst xs] T = T (.tup xs) := rfl
theorem q_listt {xs : List Dat} {T : List Dat → Prop} : fListL [.tup xs] T = T xs := rfl
theorem q_listl {xs : List Dat} {T : List Dat → Prop} : fListL [.lst xs] T = T xs := rfl
theorem tp_d {x : Dat} : Slot.toP (.d x) = some x := rfl
theorem tp_l {x : List Dat} : Slot.toP (.l x) = some (.lst x) := rfl
theorem tp_k {x : List (Key × Dat)} : Slot.toP (.k x) = none := rfl
theorem tp_t {x : List (List Key × Dat)} : Slot.toP (.t x) = none := rfl
theorem tp_o {w : Own} : Slot.toP (.o w) = w.dat := rfl
theorem td_o {w : Own} : Slot.toD (.o w) = w.dat := rfl
theorem td_d {x : Dat} : Slot.toD (.d x) = some x := rfl
theorem td_l {x : List Dat} : Slot.toD (.l x) = some (.lst x) := rfl
theorem td_k {x : List (Key × Dat)} : Slot.toD (.k x) = some (.dk x) := rfl
theorem td_t {x : List (List Key × Dat)} : Slot.toD (.t x) = some (.dt x) := rfl
theorem s_rn : (("row" : Str) = ("number" : Str)) = False := eq_false (by decide +kernel)
theorem s_cn : (("record" : Str) = ("number" : Str)) = False := eq_false (by decide +kernel)
theorem s_hn : (("choice" : Str) = ("number" : Str)) = False := eq_false (by decide +kernel)
theorem s_cr : (("record" : Str) = ("row" : Str)) = False := eq_false (by decide +kernel)
theorem s_hr : (("choice" : Str) = ("row" : Str)) = False := eq_false (by decide +kernel)
theorem s_hc : (("choice" : Str) = ("record" : Str)) = False := eq_false (by decide +kernel)
end DL
/-! DL, part 11: texts at work, names. -/
namespace DL
open PySem L2
theorem low_app {a b : Str} (ha : Low a) (hb : Low b) : Low (a ++ b) := fun c hc => by
  rw [tl_app] at hc
  rcases List.mem_append.mp hc with h | h
  · exact ha c h
  · exact hb c h
theorem tl_cut (z : Str) (lo hi : Option Int) : tlS (cutS z lo hi) = ((tlS z).drop (HT.sIx z.length 0 lo)).take (HT.sIx z.length z.length hi - HT.sIx z.length 0 lo) := rfl
theorem low_cut {z : Str} {lo hi : Option Int} (h : Low z) : Low (cutS z lo hi) := fun c hc => by
  rw [tl_cut] at hc
  exact h c (List.mem_of_mem_drop (List.mem_of_mem_take hc))
theorem len_cut_hi {z : Str} {k : Int} (h0 : 0 ≤ k) (h : k ≤ z.length) : (cutS z none (some k)).length = k.toNat := by
  obtain ⟨n, rfl⟩ := Int.eq_ofNat_of_zero_le h0
  have hn : n ≤ z.length := by omega
  have hz := len_tl z
  rw [len_tl, tl_cut, HT.sIx_none, HT.sIx_nat, List.length_take, List.length_drop, ← hz]
  simp only [Int.toNat_natCast]
  omega
theorem len_cut_lo {z : Str} {k : Int} (h0 : 0 ≤ k) (h : k ≤ z.length) : (cutS z (some k) none).length = z.length - k.toNat := by
  obtain ⟨n, rfl⟩ := Int.eq_ofNat_of_zero_le h0
  have hn : n ≤ z.length := by omega
  have hz := len_tl z
  rw [len_tl, tl_cut, HT.sIx_none, HT.sIx_nat, List.length_take, List.length_drop, ← hz]
  simp only [Int.toNat_natCast]
  omega
theorem low_sign {c : Nat} (h : 97 ≤ c ∧ c ≤ 122) : Low ⟨#[c]⟩ := fun d hd => by
  have : d = c := by simpa [tlS] using hd
  subst this
  exact h
theorem len_sign (c : Nat) : (⟨#[c]⟩ : Str).length = 1 := rfl
theorem mul8 (c : Nat) : Txt.mul ⟨#[c]⟩ 8 = Sx (List.replicate 8 c) := rfl
theorem mulok8 (c : Nat) : PySem.MulOk ⟨#[c]⟩ 8 := by
  refine ⟨by decide, fun _ _ => ?_, fun _ _ => ?_⟩
  · rw [len_sign]
    decide
  · rw [len_sign]
    decide +kernel
abbrev LT : Str := "abcdefghijklmnopqrstuvwxyz"
theorem lt_tl : tlS LT = (List.range 26).map (97 + ·) := by decide +kernel
theorem lt_at {i : Int} (h0 : 0 ≤ i) (h : i < 26) : atI LT.cps.toList i = some (97 + i.toNat) := by
  have e : LT.cps.toList = (List.range 26).map (97 + ·) := lt_tl
  rw [e]
  obtain ⟨n, rfl⟩ := Int.eq_ofNat_of_zero_le h0
  rw [at_nat (by simp; omega)]
  simp
theorem lt_len : LT.length ≤ sizeLine := by
  rw [len_tl, lt_tl]
  simp
  decide
theorem joinL_nil : ∀ cs : List Nat, TL.joinL [] (cs.map fun c => [c]) = cs
  | [] => rfl
  | [c] => rfl
  | c :: d :: r => by
    show [c] ++ ([] ++ TL.joinL [] ((d :: r).map fun c => [c])) = _
    rw [joinL_nil (d :: r)]
    rfl
theorem join_signs (cs : List Nat) : Txt.join "" (cs.map fun c => (⟨#[c]⟩ : Str)) = Sx cs := by
  have h := SX.join_S [] (cs.map fun c => [c])
  rw [joinL_nil, List.map_map] at h
  exact h
theorem inD_strs (a : Str) : ∀ ns : List Str, inD (.str a) (ns.map .str) = decide (a ∈ ns)
  | [] => rfl
  | n :: ns => by
    show (eqD (.str n) (.str a) || inD (.str a) (ns.map .str)) = _
    rw [inD_strs a ns]
    show ((n == a) || _) = _
    by_cases c : a = n
    · subst c
      simp
    · have : (n == a) = false := by simpa using fun e : n = a => c e.symm
      rw [this]
      simp [c]
theorem flat_strs (ns : List Str) : (ns.map Dat.str).all flatD = true := by
  rw [List.all_eq_true]
  intro x hx
  obtain ⟨n, _, rfl⟩ := List.mem_map.mp hx
  rfl
theorem q_in {a : Str} {ns : List Str} {T : Dat → Prop} (h : T (.bl (decide (a ∈ ns)))) : fIn (.str a) (.lst (ns.map .str)) T := .inl ⟨rfl, flat_strs ns, by rw [inD_strs]; exact h⟩
theorem w_dWhile {c : DT} {body : DS} {D : DK} {ρ : Env} (I : Nat → Env → Prop) (m0 : Nat) (h0 : I m0 ρ)
    (hs : ∀ m ρ1, I m ρ1 → c ρ1 (fun b ρ2 => if b = true then body { D with nx := fun ρ3 => ∃ m', m' < m ∧ I m' ρ3, ct := fun ρ3 => ∃ m', m' < m ∧ I m' ρ3, bk := D.nx } ρ2 else D.nx ρ2) D.ex) : dWhile c body D ρ := ⟨I, ⟨m0, h0⟩, hs⟩
theorem at_last {α : Type} {xs : List α} {x : α} (h : xs.getLast? = some x) : atI xs (-1) = some x := by
  have hl : 0 < xs.length := by
    cases xs with
    | nil => cases h
    | cons a b => simp
  unfold atI
  rw [show ixN xs.length (-1) = some (xs.length - 1) from by
    unfold ixN
    rw [if_neg (by decide), if_pos (by omega)]
    congr 1
    omega]
  rw [List.getLast?_eq_getElem?] at h
  exact h
theorem last_of {α : Type} {xs : List α} (h : xs ≠ []) : ∃ x, xs.getLast? = some x ∧ x ∈ xs := ⟨xs.getLast h, List.getLast?_eq_some_getLast h, List.getLast_mem h⟩
theorem at_map_last {α β : Type} {f : α → β} {xs : List α} {x : α} (h : xs.getLast? = some x) : atI (xs.map f) (-1) = some (f x) := atI_map f (at_last h)
/-- unlike things within others are not more -/
theorem nodup_le {α : Type} [DecidableEq α] : ∀ {xs ys : List α}, xs.Nodup → (∀ x ∈ xs, x ∈ ys) → xs.length ≤ ys.length
  | [], ys, _, _ => Nat.zero_le _
  | x :: xs, ys, hn, hs => by
    have hx := hs x (List.mem_cons_self ..)
    rw [List.nodup_cons] at hn
    have h := nodup_le (xs := xs) (ys := ys.erase x) hn.2 fun y hy => (List.mem_erase_of_ne (show y ≠ x from fun e => hn.1 (by rw [← e]; exact hy))).mpr (hs y (List.mem_cons_of_mem _ hy))
    rw [List.length_erase_of_mem hx] at h
    have := List.length_pos_of_mem hx
    simp only [List.length_cons]
    omega
/-- a comprehension with a condition, that changes nothing -/
theorem LcP.filts {α : Type} {g : DG} {tt : DT} {te : DE} {vs : List Nat} {R : Slot → Env → Prop} {ρ1 : Env} {L : List α} {a : α → Dat} (b : α → Bool) (f : α → Dat) (hp : plainE ρ1 vs) (hl : L.length ≤ sizeLine)
    (h : ∀ e ∈ L, ∀ (T : Dat → Env → Prop) (U : Env → Prop), (∀ ρ', backE ρ1 ρ' vs = ρ1 → b e = true → T (f e) ρ') → (∀ ρ', backE ρ1 ρ' vs = ρ1 → b e = false → U ρ') → g (a e) (wipeE ρ1 vs) fun ρ3 => tt ρ3 (fun c ρ4 => if c = true then te ρ4 T noX else U ρ4) noX) (k : R (.l ((L.filter b).map f)) ρ1) : LcP g tt te vs R (L.map a) ρ1 := by
  refine LcP.mk (fun i acc ρ => acc = ((L.take i).filter b).map f ∧ ρ = ρ1) ⟨by simp, rfl⟩ (fun i y acc ρ2 hy hI => ?_) fun acc ρ2 hI => ?_
  · obtain ⟨rfl, rfl⟩ := hI
    have hlt := take_lt hy
    rw [List.length_map] at hlt
    rw [List.getElem?_map, List.getElem?_eq_getElem hlt] at hy
    cases hy
    have hle : (((L.take i).filter b).map f).length < sizeLine := by
      have h1 := List.length_filter_le b (L.take i)
      rw [List.length_take] at h1
      rw [List.length_map]
      omega
    have ht : L.take (i + 1) = L.take i ++ [L[i]] := by rw [List.take_succ, List.getElem?_eq_getElem hlt]; rfl
    refine ⟨hp, hle, h _ (List.getElem_mem hlt) _ _ (fun ρ' hb c => ⟨?_, hb⟩) fun ρ' hb c => ⟨?_, hb⟩⟩
    · rw [ht, List.filter_append, List.map_append]
      simp [c]
    · rw [ht, List.filter_append, List.map_append]
      simp [c]
  · obtain ⟨rfl, rfl⟩ := hI
    rw [List.length_map, List.take_length]
    exact k
/-! ### what is a kind -/
def isInt : Dat → Bool
  | .int _ => true
  | _ => false
def isW (lo hi : Int) : Dat → Bool
  | .int i => decide (lo ≤ i) && decide (i ≤ hi)
  | _ => false
def isM : Dat → Bool
  | .int i => decide (i = 1 ∨ i = 2 ∨ i = 4 ∨ i = 8)
  | _ => false
instance (s : Str) : Decidable (Low s) := by unfold Low; infer_instance
instance (s : Str) : Decidable (NameOk s) := by unfold NameOk; infer_instance
def isN : Dat → Bool
  | .str s => decide (NameOk s)
  | _ => false
def fldOk (p : Dat → Bool) : List Str → List Dat → Bool
  | _, [] => true
  | ns, .tup [.str s, y] :: fs => decide (NameOk s) && !decide (s ∈ ns) && p y && fldOk p (ns ++ [s]) fs
  | _, _ => false
def isK : Nat → Dat → Bool
  | d + 1, .tup [.str s, y, z] => if s = "number" then isW 1 8 y && isM z else if s = "row" then isW 1 20 z && isK d y else false
  | d + 1, .tup [.str s, .lst ys] => if s = "record" then decide (1 ≤ ys.length ∧ ys.length ≤ 8) && fldOk (isK d) [] ys else if s = "choice" then decide (1 ≤ ys.length ∧ ys.length ≤ 6) && ys.all (isK d) else false
  | _, _ => false
theorem KD.up1 {n : Nat} {x : Dat} {r m : Int} (h : KD n x r m) : KD (n + 1) x r m := by
  induction h with
  | num h1 h2 h3 => exact .num h1 h2 h3
  | row _ h1 h2 ih => exact .row ih h1 h2
  | reco hk hn hl hm hx hN hD ih => exact .reco ih hn hl hm hx hN hD
  | cho hk hn hl hm hx hg hgx ih => exact .cho ih hn hl hm hx hg hgx
theorem KD.mono {n k : Nat} {x : Dat} {r m : Int} (h : KD n x r m) (l : n ≤ k) : KD k x r m := by
  induction l with
  | refl => exact h
  | step _ ih => exact ih.up1
theorem KD.head {n : Nat} {x : Dat} {r m : Int} (h : KD n x r m) : ∃ s rest, x = .tup (.str s :: rest) ∧ (s = "number" ∨ r % m = 0) := by
  cases h with
  | num h1 h2 h3 => exact ⟨_, _, rfl, .inl rfl⟩
  | @row n x r m c hk h1 h2 =>
    refine ⟨_, _, rfl, .inr ?_⟩
    unfold up
    rw [← Int.mul_assoc]
    exact Int.mul_emod_left ..
  | reco => exact ⟨_, _, rfl, .inr up_mod⟩
  | cho => exact ⟨_, _, rfl, .inr up_mod⟩
end DL
/-! DL, part 12: pop, extend, list(zip). -/
namespace DL
open PySem L2
section
variable {X : Cx} {W : WX} {ios : Ios}
theorem Reps.dropLast {K : Frag} {F : Hp} {vs : List V} {xs : List Dat} (r : Reps K F vs xs) : Reps K F vs.dropLast xs.dropLast := by
  rw [List.dropLast_eq_take, List.dropLast_eq_take, r.len]
  exact r.take _
/-- o.pop(), o a slot's own list -/
def dPop (i : Nat) : DE := fun ρ R _ => ∃ xs x, ρ[i]? = some (some (.l xs)) ∧ xs.getLast? = some x ∧ R x (ρ.set i (some (.l xs.dropLast)))
theorem w_dPop {i : Nat} {ρ : Env} {R : Dat → Env → Prop} {X : XR} : dPop i ρ R X = (∃ xs x, ρ[i]? = some (some (.l xs)) ∧ xs.getLast? = some x ∧ R x (ρ.set i (some (.l xs.dropLast)))) := rfl
/-- o.extend(e), o a slot's own list, e a list -/
def dExtend (i : Nat) (d : DE) : DS := fun D ρ => (∃ xs, ρ[i]? = some (some (.l xs))) ∧ d ρ (fun x ρ1 => ∃ xs ys, ρ1[i]? = some (some (.l xs)) ∧ x = .lst ys ∧ xs.length + ys.length ≤ sizeLine ∧ D.nx (ρ1.set i (some (.l (xs ++ ys))))) D.ex
theorem w_dExtend {i : Nat} {d : DE} {D : DK} {ρ : Env} : dExtend i d D ρ = ((∃ xs, ρ[i]? = some (some (.l xs))) ∧ d ρ (fun x ρ1 => ∃ xs ys, ρ1[i]? = some (some (.l xs)) ∧ x = .lst ys ∧ xs.length + ys.length ≤ sizeLine ∧ D.nx (ρ1.set i (some (.l (xs ++ ys))))) D.ex) := rfl
end
end DL
/-! DL, part 13: == and != with an empty row on the right, whatever the left one holds. -/
namespace DL
open PySem L2
section
variable {X : Cx} {W : WX} {ios : Ios}
def rEmp (K : Frag) (n : Bool → Bool) : R2 := fun x y H Q => ∃ a b xs, x = .ref a ∧ y = .ref b ∧ ((SqL K H a xs ∧ SqL K H b []) ∨ (SqT K H a xs ∧ SqT K H b [])) ∧ Q (.bl (n xs.isEmpty)) H
theorem isEmpty_len {α β : Type} {xs : List α} {ys : List β} (h : xs.length = ys.length) : xs.isEmpty = ys.isEmpty := by
  cases xs <;> cases ys <;> first | rfl | cases h
theorem vals_isEmpty {xs : List V} {its : List Value} (h : Vals xs its) : xs.isEmpty = its.isEmpty := by
  cases h <;> rfl
theorem op_eqE (hu : X.A.units + 64 < cLine) : OpR X (compareOp .Eq) (rEmp X.K fun b => b) := by
  intro pins s σ H x y v u Q I rx ry h
  obtain ⟨a, b, xs, rfl, rfl, hab, q⟩ := h
  cases rx
  cases ry
  rcases hab with ⟨ha, hb⟩ | ⟨ha, hb⟩
  · obtain ⟨its, rv, p1, _⟩ := I.list ha
    obtain ⟨its2, rv2, p2, _⟩ := I.list hb
    cases rv2
    have e := vals_isEmpty rv
    cases its with
    | nil =>
      exact SeqAt.eq_listAt (e := fun _ => true) p1.isList p2.isList rfl (by omega) (fun j h1 _ => absurd h1 (by simp)) ⟨.bl true, H, I, rfl, by rw [e] at q; exact q⟩
    | cons c cs =>
      exact SeqAt.eq_list_lengthsAt p1.isList p2.isList (by simp) (by omega) ⟨.bl false, H, I, rfl, by rw [e] at q; exact q⟩
  · obtain ⟨its, rv, p1, _⟩ := I.tuple ha
    obtain ⟨its2, rv2, p2, _⟩ := I.tuple hb
    cases rv2
    have e := vals_isEmpty rv
    refine SeqAt.eq_tupleAt (e := fun _ => true) (items := its.toArray) (items2 := #[]) p1 p2 (by omega) (fun j _ h2 => absurd h2 (by simp)) ⟨.bl its.isEmpty, H, I, ?_, by rw [e] at q; exact q⟩
    cases its <;> rfl
theorem op_neE (hu : X.A.units + 64 < cLine) : OpR X (compareOp .NotEq) (rEmp X.K fun b => !b) := by
  intro pins s σ H x y v u Q I rx ry h
  obtain ⟨a, b, xs, rfl, rfl, hab, q⟩ := h
  cases rx
  cases ry
  rcases hab with ⟨ha, hb⟩ | ⟨ha, hb⟩
  · obtain ⟨its, rv, p1, _⟩ := I.list ha
    obtain ⟨its2, rv2, p2, _⟩ := I.list hb
    cases rv2
    have e := vals_isEmpty rv
    cases its with
    | nil =>
      exact SeqAt.RcNeAt.lists (e := fun _ => true) p1.isList p2.isList rfl (by omega) (fun j h1 _ => absurd h1 (by simp)) _ _ _ _ ⟨.bl false, H, I, rfl, by rw [e] at q; exact q⟩
    | cons c cs =>
      exact SeqAt.RcNeAt.lists_lengths p1.isList p2.isList (by simp) (by omega) _ _ _ _ ⟨.bl true, H, I, rfl, by rw [e] at q; exact q⟩
  · obtain ⟨its, rv, p1, _⟩ := I.tuple ha
    obtain ⟨its2, rv2, p2, _⟩ := I.tuple hb
    cases rv2
    have e := vals_isEmpty rv
    refine SeqAt.RcNeAt.tuples (e := fun _ => true) (items := its.toArray) (items2 := #[]) p1 p2 (by omega) (fun j _ h2 => absurd h2 (by simp)) _ _ _ _ ⟨.bl (!its.isEmpty), H, I, ?_, by rw [e] at q; exact q⟩
    cases its <;> rfl
/-- x == [] or x == (): of a row of the same kind -/
def fEmp (n : Bool → Bool) : F2
  | .lst xs, .lst [], T => T (.bl (n xs.isEmpty))
  | .tup xs, .tup [], T => T (.bl (n xs.isEmpty))
  | _, _, _ => False
theorem ol_emp {n : Bool → Bool} : OLink X.K (rEmp X.K n) (fEmp n) := by
  intro F H x y vx vy T Q s rx ry h k
  unfold fEmp at h
  split at h
  · cases rx with
    | @lst a vs xs ha la ra =>
      cases ry with
      | @lst b ws _ hb lb rb =>
        have ew : ws = [] := List.eq_nil_of_length_eq_zero lb
        subst ew
        refine ⟨a, b, vs, rfl, rfl, .inl ⟨SqL.of (s _ _ ha), SqL.of (s _ _ hb)⟩, k _ F H _ (Grow.refl s) (.bl _) ?_⟩
        rw [isEmpty_len la]
        exact h
  · cases rx with
    | @tup a vs xs ha la ra =>
      cases ry with
      | @tup b ws _ hb lb rb =>
        have ew : ws = [] := List.eq_nil_of_length_eq_zero lb
        subst ew
        refine ⟨a, b, vs, rfl, rfl, .inr ⟨SqT.of (s _ _ ha), SqT.of (s _ _ hb)⟩, k _ F H _ (Grow.refl s) (.bl _) ?_⟩
        rw [isEmpty_len la]
        exact h
  · exact h.elim
abbrev fEqE : F2 := fEmp fun b => b
abbrev fNeE : F2 := fEmp fun b => !b
theorem q_eqEl {xs : List Dat} {n : Bool → Bool} {T : Dat → Prop} : fEmp n (.lst xs) (.lst []) T = T (.bl (n xs.isEmpty)) := rfl
theorem q_eqEt {xs : List Dat} {n : Bool → Bool} {T : Dat → Prop} : fEmp n (.tup xs) (.tup []) T = T (.bl (n xs.isEmpty)) := rfl
variable {a b : Expr} {da db : DE} {pos : Pos}
theorem je_eqE (hu : X.A.units + 64 < cLine) (ha : JE X W ios a da) (hb : JE X W ios b db) : JE X W ios (.Compare a [.Eq] [b] pos) (dOp fEqE da db) := je_cmp (op_eqE (by omega)) ol_emp ha hb
theorem jt_neE (hu : X.A.units + 64 < cLine) (ha : JE X W ios a da) (hb : JE X W ios b db) : JT X W ios (.Compare a [.NotEq] [b] pos) (dTest (dOp fNeE da db)) := jt_cmp (op_neE (by omega)) ol_emp ha hb
end
end DL
/-! DL, part 14: dict displays. -/
namespace DL
open PySem L2
section
variable {X : Cx} {W : WX} {ios : Ios}
/-- the pairs of a display, from the left; keys ints and texts -/
abbrev DPs := Env → (List (Key × Dat) → Env → Prop) → XR → Prop
def dPNil : DPs := fun ρ R _ => R [] ρ
def dPCons (dk dv : DE) (ds : DPs) : DPs := fun ρ R X => dk ρ (fun k ρ1 => ∃ ky, keyOf k = some ky ∧ dv ρ1 (fun v ρ2 => ds ρ2 (fun kvs ρ3 => R ((ky, v) :: kvs) ρ3) X) X) X
def mergeD (kvs : List (Key × Dat)) : List (Key × Dat) := kvs.foldl (fun acc kv => putD acc kv.1 kv.2) []
def dDisp (ds : DPs) : DO := fun ρ R X => ds ρ (fun kvs ρ1 => kvs.length ≤ 15 ∧ R (.k (mergeD kvs)) ρ1) X
theorem w_dPNil {ρ : Env} {R : List (Key × Dat) → Env → Prop} {X : XR} : dPNil ρ R X = R [] ρ := rfl
theorem w_dPCons {dk dv : DE} {ds : DPs} {ρ : Env} {R : List (Key × Dat) → Env → Prop} {X : XR} : dPCons dk dv ds ρ R X = (dk ρ (fun k ρ1 => ∃ ky, keyOf k = some ky ∧ dv ρ1 (fun v ρ2 => ds ρ2 (fun kvs ρ3 => R ((ky, v) :: kvs) ρ3) X) X) X) := rfl
theorem w_dDisp {ds : DPs} {ρ : Env} {R : Slot → Env → Prop} {X : XR} : dDisp ds ρ R X = (ds ρ (fun kvs ρ1 => kvs.length ≤ 15 ∧ R (.k (mergeD kvs)) ρ1) X) := rfl
/-- a frame that keeps one new thing in sight -/
theorem SR.pinH {K : Frag} {fr : Fr} {F H : Hp} {ρ : Env} {σ : St} {fps : Nat → Addr → Prop} {p : Addr} {o : HO} (r : SR K fr F H ρ σ fps) (hp : H p = none) :
    SR K ⟨fr.F, upd fr.H p o, fr.io, fr.ios⟩ F (upd H p o) ρ σ fps := by
  have hF : F p = none := r.sub.free hp
  have g := r.grow (Grow.own (o := o) r.sub hp)
  refine ⟨g.sub, g.le, fun a u q n => ?_, fun a q z => ?_, fun a q => ?_, g.slots, fun i a q => ?_, g.apart, g.io, g.len, g.nt, fun a q => ?_⟩
  · have q : upd fr.H p o a = some u := q
    by_cases c : a = p
    · subst c; rw [upd_same] at q ⊢; exact q
    · rw [upd_ne c] at q
      exact g.keep a u q n
  · have q : upd fr.H p o a ≠ none := q
    by_cases c : a = p
    · subst c; rw [upd_same] at z; cases z
    · rw [upd_ne c] at q
      exact g.tr a q z
  · show fr.F a ≠ none ∨ upd fr.H p o a = none ∨ IsT (upd fr.H p o) a
    by_cases c : a = p
    · subst c; exact absurd hF q
    · rcases g.fresh a q with h | h | ⟨xs, h⟩
      · exact .inl h
      · exact .inr (.inl (by rw [upd_ne c]; exact h))
      · exact .inr (.inr ⟨xs, by rw [upd_ne c]; exact h⟩)
  · obtain ⟨h1, h2, h3⟩ := g.own i a q
    have c : a ≠ p := fun z => by subst z; exact (r.own i a q).2.1 hp
    refine ⟨h1, h2, ?_⟩
    show upd fr.H p o a = none ∨ fr.io i a
    rw [upd_ne c]
    exact h3
  · by_cases c : a = p
    · subst c
      obtain ⟨xs, h⟩ := q
      rw [upd_same] at h
      exact .inr ⟨xs, by show upd fr.H a o a = _; rw [upd_same]; exact h⟩
    · rcases g.tk a q with h | ⟨xs, h⟩
      · exact .inl (by show upd fr.H p o a = none; rw [upd_ne c]; exact h)
      · exact .inr ⟨xs, by show upd fr.H p o a = _; rw [upd_ne c]; exact h⟩
theorem SR.unpinH {K : Frag} {fr : Fr} {F H : Hp} {ρ : Env} {σ : St} {fps : Nat → Addr → Prop} {p : Addr} {o : HO} (r : SR K ⟨fr.F, upd fr.H p o, fr.io, fr.ios⟩ F H ρ σ fps) (hp : fr.H p = none) (hio : ∀ i, ¬ fr.io i p) (hF0 : fr.F p = none) (ho : ∀ xs, o ≠ .tup xs := by exact fun _ h => nomatch h) :
    SR K fr F H ρ σ fps ∧ H p = some o ∧ F p = none ∧ ∀ i, ¬ fps i p := by
  have hH : H p = some o := r.keep p o upd_same hio
  have nf : F p = none := by
    cases q : F p with
    | none => rfl
    | some u =>
      rcases r.fresh p (by rw [q]; exact fun z => nomatch z) with h | h | ⟨xs, h⟩
      · exact absurd hF0 h
      · have h : (upd fr.H p o) p = none := h
        rw [upd_same] at h; cases h
      · have h : (upd fr.H p o) p = some (.tup xs) := h
        rw [upd_same] at h; cases h
        exact absurd rfl (ho xs)
  have nfp : ∀ i, ¬ fps i p := fun i z => by
    rcases (r.own i p z).2.2 with h | h
    · have h : (upd fr.H p o) p = none := h
      rw [upd_same] at h; cases h
    · exact hio i h
  have ne : ∀ a u, fr.H a = some u → a ≠ p := fun a u q z => by subst z; rw [hp] at q; cases q
  refine ⟨⟨r.sub, r.le, fun a u q n => r.keep a u (show upd fr.H p o a = some u from by rw [upd_ne (ne a u q)]; exact q) n, fun a q => ?_, fun a q => ?_, r.slots, fun i a q => ?_, r.apart, r.io, r.len, r.nt, fun a q => ?_⟩, hH, nf, nfp⟩
  · cases e : fr.H a with
    | none => exact absurd e q
    | some u => exact r.tr a (show upd fr.H p o a ≠ none from by rw [upd_ne (ne a u e), e]; exact fun z => nomatch z)
  · by_cases c : a = p
    · subst c; exact .inr (.inl hp)
    · rcases r.fresh a q with h | h | ⟨xs, h⟩
      · exact .inl h
      · have h : upd fr.H p o a = none := h
        rw [upd_ne c] at h
        exact .inr (.inl h)
      · have h : upd fr.H p o a = _ := h
        rw [upd_ne c] at h
        exact .inr (.inr ⟨xs, h⟩)
  · obtain ⟨h1, h2, h3⟩ := r.own i a q
    have c : a ≠ p := fun z => nfp i (z ▸ q)
    have h3 : upd fr.H p o a = none ∨ fr.io i a := h3
    rw [upd_ne c] at h3
    exact ⟨h1, h2, h3⟩
  · by_cases c : a = p
    · subst c
      obtain ⟨xs, h⟩ := q
      rw [hH] at h
      cases h
      exact absurd rfl (ho xs)
    · rcases r.tk a q with h | ⟨xs, h⟩
      · have h : upd fr.H p o a = none := h
        rw [upd_ne c] at h
        exact .inl h
      · have h : upd fr.H p o a = _ := h
        rw [upd_ne c] at h
        exact .inr ⟨xs, h⟩
/-- pairs of a display over the heap -/
def liftPs (K : Frag) (W : WX) (ios : Ios) (d : DPs) : St → Hp → (List (V × V) → Hp → Prop) → Prop := fun σ H Q => ∃ fr F ρ fps R X, FrOk ios fr ∧ SR K fr F H ρ σ fps ∧ d ρ R X ∧
  (∀ (ws : List (Key × V)) F' H' kvs ρ' fps', SR K fr F' H' ρ' σ fps' → Same F F' → RepsK K F' ws kvs → R kvs ρ' → Q (ws.map fun kv => (kV kv.1, kv.2)) H') ∧ XOk K W fr σ X
structure JPs (X : Cx) (W : WX) (ios : Ios) (pos : Pos) (keys : List (Option Expr)) (values : List Expr) (d : DPs) : Prop where
  run : ∃ trs, PPs X pos keys values trs ∧ ∀ σ H Q, liftPs X.K W ios d σ H Q → tPairs trs σ H Q
theorem repsK_cons {κ : Type} {K : Frag} {F : Hp} {k : κ} {v : V} {x : Dat} {ws : List (κ × V)} {kvs : List (κ × Dat)} (h : Rep K F v x) (r : RepsK K F ws kvs) : RepsK K F ((k, v) :: ws) ((k, x) :: kvs) := ⟨by simp [r.keys], fun i a b u y h1 h2 => by
  cases i with
  | zero => simp at h1 h2; obtain ⟨_, rfl⟩ := h1; obtain ⟨_, rfl⟩ := h2; exact h
  | succ i => exact r.at_ i a b u y (by simpa using h1) (by simpa using h2)⟩
theorem jps_nil {pos : Pos} : JPs X W ios pos [] [] dPNil := ⟨[], pps_nil, fun σ H Q ⟨fr, F, ρ, fps, R, XX, ok, sr, hd, hq, hx⟩ => hq [] F H [] ρ fps sr (Same.refl F) repsK0 hd⟩
theorem jps_cons {pos : Pos} {k v : Expr} {ks : List (Option Expr)} {vs : List Expr} {dk dv : DE} {ds : DPs} (hk : JE X W ios k dk) (hv : JE X W ios v dv) (hr : JPs X W ios pos ks vs ds) : JPs X W ios pos (some k :: ks) (v :: vs) (dPCons dk dv ds) := by
  obtain ⟨trs, hp, hi⟩ := hr.run
  refine ⟨(liftE X.K W ios dk, liftE X.K W ios dv) :: trs, pps_cons hk hv hp, fun σ H Q ⟨fr, F, ρ, fps, R, XX, ok, sr, hd, hq, hx⟩ => ?_⟩
  refine ⟨fr, F, ρ, fps, _, XX, ok, sr, hd, fun kv F1 H1 x ρ1 fps1 s1 m1 r1 ⟨ky, ek, hd1⟩ => ?_, hx⟩
  refine ⟨fr, F1, ρ1, fps1, _, XX, ok, s1, hd1, fun u F2 H2 y ρ2 fps2 s2 m2 r2 hd2 => ?_, hx⟩
  refine hi σ H2 _ ⟨fr, F2, ρ2, fps2, _, XX, ok, s2, hd2, fun ws F3 H3 kvs ρ3 fps3 s3 m3 r3 hR => ?_, hx⟩
  have e := key_rep (r1.mono (m2.trans m3)) ek
  subst e
  exact hq ((ky, u) :: ws) F3 H3 _ ρ3 fps3 s3 ((m1.trans m2).trans m3) (repsK_cons (r2.mono m3) r3) hR
theorem merge_rep {K : Frag} {F : Hp} : ∀ {ws : List (Key × V)} {kvs : List (Key × Dat)} {as : List (Key × V)} {bs : List (Key × Dat)}, RepsK K F ws kvs → RepsK K F as bs → RepsK K F (mergeK as ws) (kvs.foldl (fun acc kv => putD acc kv.1 kv.2) bs)
  | [], kvs, as, bs, r, q => by
    have e : kvs = [] := by have := r.keys; simpa using this.symm
    subst e
    exact q
  | (k, v) :: ws, [], as, bs, r, q => by have := r.keys; simp at this
  | (k, v) :: ws, (k2, x) :: kvs, as, bs, r, q => by
    have hk : k = k2 := by have := r.keys; simp at this; exact this.1
    subst hk
    have h0 : Rep K F v x := r.at_ 0 k k v x rfl rfl
    have r2 : RepsK K F ws kvs := ⟨by have := r.keys; simpa using this, fun i a b u y h1 h2 => r.at_ (i + 1) a b u y (by simpa using h1) (by simpa using h2)⟩
    show RepsK K F (mergeK (putK as k v) ws) (kvs.foldl (fun acc kv => putD acc kv.1 kv.2) (putD bs k x))
    exact merge_rep r2 (put_rep q k h0)
theorem jo_disp {pos : Pos} {keys : List (Option Expr)} {values : List Expr} {d : DPs} (h : JPs X W ios pos keys values d) (hall : keys.all (·.isSome) = true := by rfl) (hl : keys.length = values.length := by rfl) (h0 : keys ≠ [] := by exact fun z => nomatch z) (h15 : keys.length ≤ 15 := by decide) :
    JO X W ios (.Dict keys values pos) (dDisp d) := by
  obtain ⟨trs, hp, hi⟩ := h.run
  refine pe_imp (pe_disp hp hall hl h0 h15) fun σ H Q ⟨fr, F, ρ, fps, R, XX, ok, sr, hd, hq, hx⟩ => fun p hp => ?_
  have hfr : fr.H p = none := by
    cases e : fr.H p with
    | none => rfl
    | some u => exact absurd hp (sr.tr p (by rw [e]; exact fun z => nomatch z))
  have hio : ∀ i, ¬ fr.io i p := fun i z => ok.3 i p z hfr
  have hF0 : fr.F p = none := by
    cases e : fr.F p with
    | none => rfl
    | some u =>
      have := sr.sub _ _ (sr.le _ _ e)
      rw [hp] at this
      cases this
  refine hi σ _ _ ⟨⟨fr.F, upd fr.H p (.dK []), fr.io, fr.ios⟩, F, ρ, fps, _, XX, ⟨ok.1, ok.2, fun i a z => ?_⟩, sr.pinH hp, hd, fun ws F1 H1 kvs ρ1 fps1 s1 m1 r1 ⟨hz, hR⟩ => ?_, fun cls F2 H2 ρ2 fps2 s2 hX => hx cls F2 H2 ρ2 fps2 (s2.unpinH hfr hio hF0).1 hX⟩
  · show upd fr.H p (HO.dK []) a ≠ none
    rw [upd_ne (show a ≠ p from fun e => by subst e; exact hio i z)]
    exact ok.3 i a z
  · obtain ⟨s2, hH, nf, nfp⟩ := s1.unpinH hfr hio hF0
    have hl : ws.length = kvs.length := by have e := congrArg List.length r1.keys; simpa using e
    refine ⟨hH, ws, rfl, by omega, ?_⟩
    have rep := merge_rep r1 (repsK0 (K := X.K) (F := F1))
    have s3 : SR X.K fr F1 (upd H1 p (.dK (mergeK [] ws))) ρ1 σ fps1 := by
      refine ⟨fun a u q => ?_, s2.le, fun a u q n => ?_, fun a q z => ?_, s2.fresh, fun i t q => ?_, fun i a q => ?_, s2.apart, s2.io, s2.len, fun i a q h => s2.nt i a q (h.upd (by intro _ z; cases z)), fun a h => s2.tk a (h.upd (by intro _ z; cases z))⟩
      · rw [upd_ne (fun z => by subst z; rw [nf] at q; cases q)]; exact s2.sub a u q
      · rw [upd_ne (fun z => by subst z; rw [hfr] at q; cases q)]; exact s2.keep a u q n
      · by_cases c : a = p
        · subst c; rw [upd_same] at z; cases z
        · rw [upd_ne c] at z; exact s2.tr a q z
      · obtain ⟨u, q1, q2⟩ := s2.slots i t q
        exact ⟨u, q1, q2.stay (Same.refl F1) fun a ha => upd_ne (show a ≠ p from fun z => by subst z; exact nfp i ha)⟩
      · obtain ⟨q1, q2, q3⟩ := s2.own i a q
        exact ⟨q1, by rw [upd_ne (show a ≠ p from fun z => by subst z; exact nfp i q)]; exact q2, q3⟩
    exact hq (.ref p) F1 _ (.k (mergeD kvs)) (fun a => a = p) ρ1 fps1 s3 m1 ⟨⟨p, _, rfl, upd_same, rep, fun a => Iff.rfl⟩, fun a ha => by subst ha; exact ⟨nf, by rw [upd_same]; exact (fun z => nomatch z), hfr⟩, fun i a ha => by subst ha; exact nfp i, fun a ha => by subst ha; exact notT (fun _ h => nomatch h)⟩ hR
end
end DL
/-! DL, part 15: lists made by * and +, one's own. -/
namespace DL
open PySem L2
section
variable {X : Cx} {W : WX} {ios : Ios} {a b : Expr} {da db : DE} {pos : Pos}
def dMulO (da db : DE) : DO := fun ρ R X => da ρ (fun x ρ1 => db ρ1 (fun y ρ2 => ∃ xs k, x = .lst xs ∧ y = .int k ∧ -(2 ^ 63) ≤ k ∧ k < 2 ^ 63 ∧ xs.length * k.toNat ≤ sizeLine ∧ R (.l (repD xs k)) ρ2) X) X
theorem w_dMulO {ρ : Env} {R : Slot → Env → Prop} {X : XR} : dMulO da db ρ R X = (da ρ (fun x ρ1 => db ρ1 (fun y ρ2 => ∃ xs k, x = .lst xs ∧ y = .int k ∧ -(2 ^ 63) ≤ k ∧ k < 2 ^ 63 ∧ xs.length * k.toNat ≤ sizeLine ∧ R (.l (repD xs k)) ρ2) X) X) := rfl
def dAddO (da db : DE) : DO := fun ρ R X => da ρ (fun x ρ1 => db ρ1 (fun y ρ2 => ∃ xs ys, x = .lst xs ∧ y = .lst ys ∧ xs.length + ys.length ≤ sizeLine ∧ R (.l (xs ++ ys)) ρ2) X) X
theorem w_dAddO {ρ : Env} {R : Slot → Env → Prop} {X : XR} : dAddO da db ρ R X = (da ρ (fun x ρ1 => db ρ1 (fun y ρ2 => ∃ xs ys, x = .lst xs ∧ y = .lst ys ∧ xs.length + ys.length ≤ sizeLine ∧ R (.l (xs ++ ys)) ρ2) X) X) := rfl
end
end DL
/-! DL, part 16: the program's own exceptions, by the head's facts. -/
namespace DL
open PySem L2
/-- an exception class of the text, under ValueError -/
structure ExcF (K : Frag) (mg : Str → Option Value) (x : Str) (C : Addr) : Prop where
  own : PySem.W.excIn K C [.type "ValueError", .type "Exception", .type "BaseException", .type "object"] "ValueError.__new__" = true
  kp : PySem.W.keepIn K (.ref C) = true
  sub : PySem.W.subIn K (.ref C) (.type "BaseException") = some true
  ty : PySem.W.typeIn K (.ref C) = some (.type "type")
  at_ : mg x = some (.ref C)
end DL
/-! DL, part 17: a still dict's items, range with a step. -/
namespace DL
open PySem L2
section
variable {X : Cx} {W : WX} {ios : Ios}
def diItems (d : DE) : DI := fun ρ R X => d ρ (fun x ρ1 => ∃ kvs, x = .dk kvs ∧ R (kvs.map fun kv => .tup [kD kv.1, kv.2]) ρ1) X
theorem w_diItems {d : DE} {ρ : Env} {R : List Dat → Env → Prop} {X : XR} : diItems d ρ R X = (d ρ (fun x ρ1 => ∃ kvs, x = .dk kvs ∧ R (kvs.map fun kv => .tup [kD kv.1, kv.2]) ρ1) X) := rfl
end
end DL
/-! DL, part 18: text[::-1]. -/
namespace DL
open PySem PySem.Spec PyProof.Rows L2
section
variable {X : Cx}
def revS (z : Str) : Str := ⟨((slicePicked z none none (some (-1, 0))).filterMap (z.cps[·]?)).toArray⟩
variable {W : WX} {ios : Ios} {da : DE}
def dRevS (da : DE) : DE := fun ρ R X => da ρ (fun x ρ1 => ∃ z, x = .str z ∧ z.length ≤ sizeLine ∧ R (.str (revS z)) ρ1) X
theorem w_dRevS {ρ : Env} {R : Dat → Env → Prop} {X : XR} : dRevS da ρ R X = (da ρ (fun x ρ1 => ∃ z, x = .str z ∧ z.length ≤ sizeLine ∧ R (.str (revS z)) ρ1) X) := rfl
end
end DL
/-! DL, part 19: data with dicts. -/
namespace DL
open PySem L2
/-- data of a depth of at most n, dicts of ints and texts within -/
inductive Pg : Nat → Dat → Prop where
  | non {n : Nat} : Pg (n + 1) .non
  | bl {n : Nat} (b : Bool) : Pg (n + 1) (.bl b)
  | int {n : Nat} (i : Int) : Pg (n + 1) (.int i)
  | str {n : Nat} {s : Str} : s.length ≤ 1000000 → Pg (n + 1) (.str s)
  | lst {n : Nat} {xs : List Dat} : (∀ x ∈ xs, Pg n x) → xs.length ≤ 1000000 → Pg (n + 1) (.lst xs)
  | tup {n : Nat} {xs : List Dat} : (∀ x ∈ xs, Pg n x) → xs.length ≤ 1000000 → Pg (n + 1) (.tup xs)
  | dk {n : Nat} {kvs : List (Key × Dat)} : (∀ kv ∈ kvs, Pg n kv.2) → kvs.length ≤ 1000000 → (kvs.map (·.1)).Nodup → Pg (n + 1) (.dk kvs)
theorem Pg.mono {n : Nat} {x : Dat} (h : Pg n x) : Pg (n + 1) x := by
  induction h with
  | non => exact .non
  | bl b => exact .bl b
  | int i => exact .int i
  | str h => exact .str h
  | lst _ l ih => exact .lst ih l
  | tup _ l ih => exact .tup ih l
  | dk _ l nd ih => exact .dk ih l nd
theorem pg_up {n m : Nat} {x : Dat} (h : Pg n x) (l : n ≤ m) : Pg m x := by
  induction l with
  | refl => exact h
  | step _ ih => exact ih.mono
theorem Pl.pg {n : Nat} {x : Dat} (h : Pl n x) : Pg n x := by
  induction h with
  | non => exact .non
  | bl b => exact .bl b
  | int i => exact .int i
  | str h k => exact .str k
  | lst _ l ih => exact .lst ih l
  | tup _ l ih => exact .tup ih l
theorem q_dkItem {kvs : List (Key × Dat)} {k : Key} {T : Dat → Prop} : fItem (.dk kvs) (kD k) T = ∃ x, valD kvs k = some x ∧ T x := by cases k <;> rfl
theorem q_dkNotin {kvs : List (Key × Dat)} {k : Key} {T : Dat → Prop} : fNotin (kD k) (.dk kvs) T = T (.bl (!(valD kvs k).isSome)) := by cases k <;> rfl
theorem q_keyOf {k : Key} : keyOf (kD k) = some k := by cases k <;> rfl
theorem valD_at {κ : Type} [DecidableEq κ] {kvs : List (κ × Dat)} (nd : (kvs.map (·.1)).Nodup) {kv : κ × Dat} (h : kv ∈ kvs) : valD kvs kv.1 = some kv.2 := by
  unfold valD
  induction kvs with
  | nil => cases h
  | cons p r ih =>
    rw [List.map_cons, List.nodup_cons] at nd
    rcases List.mem_cons.mp h with rfl | h
    · simp
    · have hne : ¬ p.1 = kv.1 := fun e => nd.1 (by rw [e]; exact List.mem_map_of_mem h)
      rw [List.find?_cons, decide_eq_false hne]
      exact ih nd.2 h
theorem putD_new {κ : Type} [DecidableEq κ] {kvs : List (κ × Dat)} {k : κ} {v : Dat} (h : k ∉ kvs.map (·.1)) : putD kvs k v = kvs ++ [(k, v)] := by
  unfold putD
  rw [if_neg]
  intro c
  obtain ⟨p, hp, e⟩ := List.any_eq_true.mp c
  exact h (by rw [← of_decide_eq_true e]; exact List.mem_map_of_mem hp)
theorem take_new {κ : Type} {kvs : List (κ × Dat)} (nd : (kvs.map (·.1)).Nodup) {i : Nat} {kv : κ × Dat} (h : kvs[i]? = some kv) : kv.1 ∉ (kvs.take i).map (·.1) := by
  have hi := take_lt h
  have e : kvs = kvs.take i ++ kv :: kvs.drop (i + 1) := by
    rw [List.getElem?_eq_getElem hi] at h
    cases h
    rw [List.getElem_cons_drop]
    exact (List.take_append_drop i kvs).symm
  rw [e, List.map_append, List.nodup_append] at nd
  intro c
  exact nd.2.2 _ c kv.1 (by simp) rfl
theorem take_snoc {α : Type} {xs : List α} {i : Nat} {y : α} (h : xs[i]? = some y) : xs.take (i + 1) = xs.take i ++ [y] := by rw [List.take_succ, h]; rfl
theorem q_lend {kvs : List (Key × Dat)} {T : Dat → Prop} : fLen [.dk kvs] T = T (.int kvs.length) := rfl
end DL
/-! DL, part 20: values and their bytes. -/
namespace DL
open PySem L2
def leB : Nat → Int → List Int
  | 0, _ => []
  | w + 1, v => v % 256 :: leB w (v / 256)
abbrev zs (n : Nat) : List Int := List.replicate n 0
def gap (n : Nat) (m : Int) : Nat := (up n m - n).toNat
def layP : List Int → List (Int × List Int) → List Int
  | acc, [] => acc
  | acc, (m, bs) :: ps => layP (acc ++ zs (gap acc.length m) ++ bs) ps
def padTo (n : Int) (bs : List Int) : List Int := bs ++ zs (n - bs.length).toNat
/-- a field with its value and the value's bytes -/
structure VF where
  name : Str
  kind : Dat
  r : Int
  m : Int
  val : Dat
  bs : List Int
def VF.fd (e : VF) : Dat := .tup [.str e.name, e.kind]
def VF.tr (e : VF) : Dat × Int × Int := (e.kind, e.r, e.m)
def VF.kv (e : VF) : Key × Dat := (Sum.inr e.name, e.val)
def VF.pt (e : VF) : Int × List Int := (e.m, e.bs)
/-- a kind of a depth of at most n, its room and multiple, a value of it, and the value's bytes -/
inductive BV : Nat → Dat → Int → Int → Dat → List Int → Prop where
  | num {n : Nat} {a m v : Int} : 1 ≤ a → a ≤ 8 → (m = 1 ∨ m = 2 ∨ m = 4 ∨ m = 8) → 0 ≤ v → v < 256 ^ a.toNat → BV (n + 1) (.tup [.str "number", .int a, .int m]) a m (.int v) (leB a.toNat v)
  | row {n : Nat} {x : Dat} {r m c : Int} {L : List (Dat × List Int)} : KD n x r m → (∀ e ∈ L, BV n x r m e.1 e.2) → (L.length : Int) = c → 1 ≤ c → c ≤ 20 →
      BV (n + 1) (.tup [.str "row", x, .int c]) (c * up r m) m (.lst (L.map (·.1))) (padTo (c * up r m) (layP [] (L.map fun e => (m, e.2))))
  | reco {n : Nat} {M : Int} {L : List VF} {kvs : List (Key × Dat)} : (∀ e ∈ L, BV n e.kind e.r e.m e.val e.bs) → L ≠ [] → L.length ≤ 8 → (∃ e ∈ L, e.m = M) → (∀ e ∈ L, e.m ≤ M) → (∀ e ∈ L, NameOk e.name) → (L.map (·.name)).Nodup → kvs.Perm (L.map VF.kv) →
      BV (n + 1) (.tup [.str "record", .lst (L.map VF.fd)]) (up (fend 0 (L.map VF.tr)) M) M (.dk kvs) (padTo (up (fend 0 (L.map VF.tr)) M) (layP [] (L.map VF.pt)))
  | cho {n : Nat} {L : List (Dat × Int × Int)} {M g : Int} {k : Nat} {y v : Dat} {ry my : Int} {bs : List Int} : (∀ e ∈ L, KD n e.1 e.2.1 e.2.2) → L ≠ [] → L.length ≤ 6 → (∃ e ∈ L, e.2.2 = M) → (∀ e ∈ L, e.2.2 ≤ M) → (∃ e ∈ L, e.2.1 = g) → (∀ e ∈ L, e.2.1 ≤ g) → L[k]? = some (y, ry, my) → BV n y ry my v bs →
      BV (n + 1) (.tup [.str "choice", .lst (L.map (·.1))]) (up (up 1 M + g) M) M (.tup [.int k, v]) (padTo (up (up 1 M + g) M) (layP ((k : Int) :: zs (up 1 M - 1).toNat) [(my, bs)]))
theorem BV.kd {n : Nat} {x : Dat} {r m : Int} {v : Dat} {bs : List Int} (h : BV n x r m v bs) : KD n x r m := by
  induction h with
  | num h1 h2 h3 => exact .num h1 h2 h3
  | row hk _ hc h1 h2 => exact .row hk h1 h2
  | @reco n M L kvs hb hn hl hm hx hN hD hp ih =>
    have := KD.reco (n := n) (L := L.map fun e => (e.name, e.kind, e.r, e.m)) (m := M) (fun e he => by
      obtain ⟨f, hf, rfl⟩ := List.mem_map.mp he
      exact ih f hf) (by simpa using hn) (by simpa using hl) (by
      obtain ⟨f, hf, e⟩ := hm
      exact ⟨_, List.mem_map_of_mem hf, e⟩) (fun e he => by
      obtain ⟨f, hf, rfl⟩ := List.mem_map.mp he
      exact hx f hf) (fun e he => by
      obtain ⟨f, hf, rfl⟩ := List.mem_map.mp he
      exact hN f hf) (by rw [List.map_map]; exact hD)
    rw [List.map_map, List.map_map] at this
    exact this
  | cho hk hn hl hm hx hg hgx _ _ _ => exact .cho hk hn hl hm hx hg hgx
end DL
/-! DL, part 21: rows of data with dicts; targets that are pairs. -/
namespace DL
open PySem L2
def Pgs (n : Nat) (xs : List Dat) : Prop := ∀ x ∈ xs, Pg n x
theorem pgs_nil {n : Nat} : Pgs n [] := fun x h => by cases h
theorem pgs_cons {n : Nat} {x : Dat} {xs : List Dat} (h : Pg n x) (hs : Pgs n xs) : Pgs n (x :: xs) := fun y hy => by
  rcases List.mem_cons.mp hy with rfl | hy
  · exact h
  · exact hs y hy
theorem cut_le {α : Type} (xs : List α) (lo hi : Option Int) : (cutD xs lo hi).length ≤ xs.length := by
  unfold cutD
  rw [List.length_take, List.length_drop]
  omega
theorem rep_len (xs : List Dat) (k : Int) : (repD xs k).length = k.toNat * xs.length := by
  unfold repD
  rw [List.length_flatten, List.map_replicate, List.sum_replicate_nat]
theorem pg_l {n m : Nat} {xs : List Dat} (h : Pgs n xs) (hl : xs.length ≤ 1000000) (hm : n + 1 ≤ m) : Pg m (.lst xs) := pg_up (.lst h hl) hm
theorem pg_t {n m : Nat} {xs : List Dat} (h : Pgs n xs) (hl : xs.length ≤ 1000000) (hm : n + 1 ≤ m) : Pg m (.tup xs) := pg_up (.tup h hl) hm
theorem pg_i {n : Nat} {i : Int} (hn : 1 ≤ n) : Pg n (.int i) := pg_up (n := 1) (.int i) hn
theorem KD.pg {n : Nat} {x : Dat} {r m : Int} (h : KD n x r m) : Pg (3 * n) x := h.pl.pg
theorem w_gt2t {g g' : DG} {a b : Dat} {ρ : Env} {R : Env → Prop} : gtTup 2 (gtCons g (gtCons g' gtNil)) (.tup [a, b]) ρ R = g a ρ fun ρ1 => g' b ρ1 R := propext ⟨fun ⟨xs, e, h, x, r, e1, h2⟩ => by
  have e : Dat.tup [a, b] = .tup xs := e.resolve_right (by simp)
  cases e
  cases e1
  refine cast ?_ h2
  congr 1
  funext ρ1
  refine propext ⟨fun ⟨x, r, e2, h3⟩ => ?_, fun h => ⟨b, [], rfl, ?_⟩⟩
  · cases e2
    refine cast ?_ h3
    congr 1
    funext ρ2
    exact propext ⟨fun h => h.2, fun h => ⟨rfl, h⟩⟩
  · refine cast ?_ h
    congr 1
    funext ρ2
    exact propext ⟨fun h => ⟨rfl, h⟩, fun h => h.2⟩, fun h => ⟨[a, b], .inl rfl, rfl, a, [b], rfl, by
  refine cast ?_ h
  congr 1
  funext ρ1
  refine propext ⟨fun h => ⟨b, [], rfl, ?_⟩, fun ⟨x, r, e2, h3⟩ => ?_⟩
  · refine cast ?_ h
    congr 1
    funext ρ2
    exact propext ⟨fun h => ⟨rfl, h⟩, fun h => h.2⟩
  · cases e2
    refine cast ?_ h3
    congr 1
    funext ρ2
    exact propext ⟨fun h => h.2, fun h => ⟨rfl, h⟩⟩⟩⟩
theorem sl_le {n : Nat} (h : n ≤ 1000000) : n ≤ sizeLine := Nat.le_trans h (by decide)
theorem atI_map' {α β : Type} (f : α → β) (L : List α) (i : Int) : atI (L.map f) i = (atI L i).map f := by
  unfold atI
  rw [List.length_map]
  cases ixN L.length i with
  | none => rfl
  | some j => exact List.getElem?_map ..
theorem w_field {e : Str × Dat × Int × Int} : fieldD e = .tup [.str e.1, e.2.1] := rfl
end DL
/-! DL, part 22: the readings once more, for a walk that looks at nothing before its time: what follows a question is shut (blk) until the question is answered. -/
namespace DL
open PySem L2
inductive Box {α : Type} (a : α) : Type where
  | mk : Box a
/-- a: shut, until it is applied -/
def blk {α : Type} (a : α) (_ : Box a) : α := a
theorem blk1 {α β : Type} {f : α → β} {b : Box f} {x : α} : blk f b x = f x := rfl
theorem blk2 {α β γ : Type} {f : α → β → γ} {b : Box f} {x : α} {y : β} : blk f b x y = f x y := rfl
theorem blk_nx {D : DK} {b : Box D} : (blk D b).nx = D.nx := rfl
theorem blk_rt {D : DK} {b : Box D} : (blk D b).rt = D.rt := rfl
theorem blk_bk {D : DK} {b : Box D} : (blk D b).bk = D.bk := rfl
theorem blk_ct {D : DK} {b : Box D} : (blk D b).ct = D.ct := rfl
theorem blk_ex {D : DK} {b : Box D} : (blk D b).ex = D.ex := rfl
def pick {α : Type} (o : Option α) (T : α → Prop) : Prop := match o with | some x => T x | none => False
theorem pick_some {α : Type} {x : α} {T : α → Prop} : pick (some x) T = T x := rfl
theorem pickE {α : Type} {o : Option α} {T : α → Prop} : pick o T = ∃ x, o = some x ∧ T x := by
  cases o with
  | none => exact propext ⟨fun h => h.elim, fun ⟨x, h, _⟩ => by cases h⟩
  | some y => exact propext ⟨fun h => ⟨y, rfl, h⟩, fun ⟨x, h, t⟩ => by cases h; exact t⟩
def brq (b : Bool) (A B : Unit → Prop) : Prop := if b = true then A () else B ()
theorem brq_t {A B : Unit → Prop} : brq true A B = A () := rfl
theorem brq_f {A B : Unit → Prop} : brq false A B = B () := rfl
theorem brq_dec {p : Prop} [Decidable p] {A B : Unit → Prop} : brq (decide p) A B = if p then A () else B () := by
  unfold brq
  by_cases h : p
  · rw [if_pos h, if_pos (decide_eq_true h)]
  · rw [if_neg h, if_neg (by simp [h])]
theorem brq_not {b : Bool} {A B : Unit → Prop} : brq (!b) A B = brq b B A := by cases b <;> rfl
theorem brq_and {b c : Bool} {A B : Unit → Prop} : brq (b && c) A B = brq b (fun _ => brq c A B) B := by cases b <;> rfl
theorem brq_or {b c : Bool} {A B : Unit → Prop} : brq (b || c) A B = brq b A (fun _ => brq c A B) := by cases b <;> rfl
def sD : Option (Option Slot) → Option Dat
  | some (some (.d x)) => some x
  | _ => none
def sL : Option (Option Slot) → Option (List Dat)
  | some (some (.l x)) => some x
  | _ => none
def sS : Option (Option Slot) → Option Slot
  | some (some s) => some s
  | _ => none
theorem sD_d {x : Dat} : sD (some (some (.d x))) = some x := rfl
theorem sL_l {x : List Dat} : sL (some (some (.l x))) = some x := rfl
theorem sS_s {x : Slot} : sS (some (some x)) = some x := rfl
theorem sD_i {o : Option (Option Slot)} {x : Dat} : sD o = some x ↔ o = some (some (.d x)) := by
  unfold sD
  split
  · simp
  · rename_i h
    constructor
    · intro e; cases e
    · intro e; exact absurd e (h x)
theorem sL_i {o : Option (Option Slot)} {x : List Dat} : sL o = some x ↔ o = some (some (.l x)) := by
  unfold sL
  split
  · simp
  · rename_i h
    constructor
    · intro e; cases e
    · intro e; exact absurd e (h x)
theorem sS_i {o : Option (Option Slot)} {x : Slot} : sS o = some x ↔ o = some (some x) := by
  unfold sS
  split
  · simp
  · rename_i h
    constructor
    · intro e; cases e
    · intro e; exact absurd e (h x)
def asB : Dat → Option Bool
  | .bl b => some b
  | _ => none
def asI : Dat → Option Int
  | .int b => some b
  | _ => none
def asL : Dat → Option (List Dat)
  | .lst b => some b
  | _ => none
def asS : Dat → Option Str
  | .str b => some b
  | _ => none
def asK : Dat → Option (List (Key × Dat))
  | .dk b => some b
  | _ => none
def asLT : Dat → Option (List Dat)
  | .lst b => some b
  | .tup b => some b
  | _ => none
theorem asB_b {x : Bool} : asB (.bl x) = some x := rfl
theorem asI_i {x : Int} : asI (.int x) = some x := rfl
theorem asL_l {x : List Dat} : asL (.lst x) = some x := rfl
theorem asS_s {x : Str} : asS (.str x) = some x := rfl
theorem asK_k {x : List (Key × Dat)} : asK (.dk x) = some x := rfl
theorem asLT_l {x : List Dat} : asLT (.lst x) = some x := rfl
theorem asLT_t {x : List Dat} : asLT (.tup x) = some x := rfl
theorem asB_e {x : Dat} {b : Bool} : asB x = some b ↔ x = .bl b := by cases x <;> simp [asB]
theorem asI_e {x : Dat} {b : Int} : asI x = some b ↔ x = .int b := by cases x <;> simp [asI]
theorem asL_e {x : Dat} {b : List Dat} : asL x = some b ↔ x = .lst b := by cases x <;> simp [asL]
theorem asS_e {x : Dat} {b : Str} : asS x = some b ↔ x = .str b := by cases x <;> simp [asS]
theorem asK_e {x : Dat} {b : List (Key × Dat)} : asK x = some b ↔ x = .dk b := by cases x <;> simp [asK]
theorem asLT_e {x : Dat} {b : List Dat} : asLT x = some b ↔ (x = .lst b ∨ x = .tup b) := by cases x <;> simp [asLT]
section
variable {ρ : Env} {R : Dat → Env → Prop} {RT : Bool → Env → Prop} {RO : Slot → Env → Prop} {RA : List Dat → Env → Prop} {X : XR} {D : DK}
theorem f_dVar {i : Nat} : dVar i ρ R X = pick (sD ρ[i]?) (blk (fun x => R x ρ) .mk) := by
  rw [pickE]; simp only [sD_i]; rfl
theorem f_dTest {d : DE} : dTest d ρ RT X = d ρ (fun x ρ1 => pick (asB x) (blk (fun b => RT b ρ1) .mk)) X := by
  simp only [pickE, asB_e]; rfl
theorem f_dStill {d : DO} : dStill d ρ R X = d ρ (fun r ρ1 => pick r.toD (blk (fun x => R x ρ1) .mk)) X := by
  simp only [pickE]; rfl
theorem f_dIf {c : DT} {t u : DS} : dIf c t u D ρ = c ρ (fun b ρ1 => brq b (blk (fun _ => t D ρ1) .mk) (blk (fun _ => u D ρ1) .mk)) D.ex := rfl
theorem f_dOp {g : F2} {da db : DE} : dOp g da db ρ R X = da ρ (fun x ρ1 => db ρ1 (fun y ρ2 => g x y (blk (fun z => R z ρ2) .mk)) X) X := rfl
theorem f_dFn {g : FN} {da : DA} : dFn g da ρ R X = da ρ (fun xs ρ1 => g xs (blk (fun z => R z ρ1) .mk)) X := rfl
theorem f_dFnL {g : FL} {da : DA} : dFnL g da ρ RO X = da ρ (fun xs ρ1 => g xs (blk (fun zs => RO (.l zs) ρ1) .mk)) X := rfl
theorem f_dAnd {da db : DT} : dAnd da db ρ RT X = da ρ (fun c ρ1 => brq c (blk (fun _ => db ρ1 RT X) .mk) (blk (fun _ => RT false ρ1) .mk)) X := rfl
theorem f_dOr {da db : DT} : dOr da db ρ RT X = da ρ (fun c ρ1 => brq c (blk (fun _ => RT true ρ1) .mk) (blk (fun _ => db ρ1 RT X) .mk)) X := rfl
theorem f_dAndV {da db : DE} : dAndV da db ρ R X = da ρ (fun x ρ1 => pick (asB x) (blk (fun c => brq c (blk (fun _ => db ρ1 R X) .mk) (blk (fun _ => R (.bl false) ρ1) .mk)) .mk)) X := by
  simp only [pickE, asB_e]; rfl
theorem f_dOrV {da db : DE} : dOrV da db ρ R X = da ρ (fun x ρ1 => pick (asB x) (blk (fun c => brq c (blk (fun _ => R (.bl true) ρ1) .mk) (blk (fun _ => db ρ1 R X) .mk)) .mk)) X := by
  simp only [pickE, asB_e]; rfl
theorem f_dNotV {da : DE} : dNotV da ρ R X = da ρ (fun x ρ1 => pick (asB x) (blk (fun c => R (.bl (!c)) ρ1) .mk)) X := by
  simp only [pickE, asB_e]; rfl
theorem f_dNeg {da : DE} : dNeg da ρ R X = da ρ (fun x ρ1 => pick (asI x) (blk (fun i => R (.int (-i)) ρ1) .mk)) X := by
  simp only [pickE, asI_e]; rfl
theorem f_dLend {i : Nat} {ds : DA} : dLend i ds ρ RA X = pick (sS ρ[i]?) (blk (fun _ => ds ρ RA X) .mk) := by
  rw [pickE]; simp only [sS_i]; exact propext ⟨fun ⟨⟨s, h⟩, k⟩ => ⟨s, h, k⟩, fun ⟨s, h, k⟩ => ⟨⟨s, h⟩, k⟩⟩
theorem f_dChain {g g' : F2} {da db dc : DE} : dChain g g' da db dc ρ R X = da ρ (fun x ρ1 => db ρ1 (fun y ρ2 => g x y (blk (fun z => pick (asB z) (blk (fun b => brq b (blk (fun _ => dc ρ2 (fun u ρ3 => g' y u (blk (fun z => R z ρ3) .mk)) X) .mk) (blk (fun _ => R (.bl false) ρ2) .mk)) .mk)) .mk)) X) X := by
  simp only [blk, pickE, asB_e, brq]; rfl
theorem f_dSomeP {d : DE} {RP : Option Int → Env → Prop} : dSomeP d ρ RP X = d ρ (fun x ρ1 => pick (asI x) (blk (fun i => RP (some i) ρ1) .mk)) X := by
  simp only [pickE, asI_e]; rfl
def slc (x : Dat) (lo hi : Option Int) (T : Dat → Prop) : Prop := match x with
  | .lst xs => T (.lst (cutD xs lo hi))
  | .tup xs => T (.tup (cutD xs lo hi))
  | .str s => s.length ≤ sizeLine ∧ T (.str (cutS s lo hi))
  | _ => False
theorem slc_l {xs : List Dat} {lo hi : Option Int} {T : Dat → Prop} : slc (.lst xs) lo hi T = T (.lst (cutD xs lo hi)) := rfl
theorem slc_t {xs : List Dat} {lo hi : Option Int} {T : Dat → Prop} : slc (.tup xs) lo hi T = T (.tup (cutD xs lo hi)) := rfl
theorem slc_s {s : Str} {lo hi : Option Int} {T : Dat → Prop} : slc (.str s) lo hi T = (s.length ≤ sizeLine ∧ T (.str (cutS s lo hi))) := rfl
theorem f_dSlice {da : DE} {dl dh : DP} : dSlice da dl dh ρ R X = da ρ (fun x ρ1 => dl ρ1 (fun lo ρ2 => dh ρ2 (fun hi ρ3 => slc x lo hi (blk (fun y => R y ρ3) .mk)) X) X) X := rfl
theorem f_dSliceO {da : DE} {dl dh : DP} : dSliceO da dl dh ρ RO X = da ρ (fun x ρ1 => dl ρ1 (fun lo ρ2 => dh ρ2 (fun hi ρ3 => pick (asL x) (blk (fun xs => RO (.l (cutD xs lo hi)) ρ3) .mk)) X) X) X := by
  simp only [pickE, asL_e]; rfl
theorem f_dRevO {da : DE} : dRevO da ρ RO X = da ρ (fun x ρ1 => pick (asL x) (blk (fun xs => RO (.l xs.reverse) ρ1) .mk)) X := by
  simp only [pickE, asL_e]; rfl
theorem f_dRevS {da : DE} : dRevS da ρ R X = da ρ (fun x ρ1 => pick (asS x) (blk (fun z => z.length ≤ sizeLine ∧ R (.str (revS z)) ρ1) .mk)) X := by
  simp only [pickE, asS_e]; rfl
def stI (s : Slot) (k y : Dat) (T : Slot → Prop) : Prop := match s with
  | .l xs => pick (asI k) fun j => pick (ixN xs.length j) fun n => T (.l (xs.set n y))
  | .k kvs => pick (keyOf k) fun ky => kvs.length < sizeLine ∧ T (.k (putD kvs ky y))
  | .t kvs => ∃ ds ks, k = .tup ds ∧ keysOf ds = some ks ∧ kvs.length < sizeLine ∧ T (.t (putD kvs ks y))
  | _ => False
theorem stI_l {xs : List Dat} {k y : Dat} {T : Slot → Prop} : stI (.l xs) k y T = pick (asI k) (blk (fun j => pick (ixN xs.length j) (blk (fun n => T (.l (xs.set n y))) .mk)) .mk) := rfl
theorem stI_k {kvs : List (Key × Dat)} {k y : Dat} {T : Slot → Prop} : stI (.k kvs) k y T = pick (keyOf k) (blk (fun ky => kvs.length < sizeLine ∧ T (.k (putD kvs ky y))) .mk) := rfl
theorem stI_t {kvs : List (List Key × Dat)} {ds : List Dat} {y : Dat} {T : Slot → Prop} : stI (.t kvs) (.tup ds) y T = pick (keysOf ds) (blk (fun ks => kvs.length < sizeLine ∧ T (.t (putD kvs ks y))) .mk) := by
  rw [pickE]
  exact propext ⟨fun ⟨d, ks, e, h⟩ => by cases e; exact ⟨ks, h.1, h.2⟩, fun ⟨ks, h1, h2⟩ => ⟨ds, ks, rfl, h1, h2⟩⟩
theorem f_dSetItem {i : Nat} {dk dv : DE} : dSetItem i dk dv D ρ = dv ρ (fun y ρ1 => pick (sS ρ1[i]?) (blk (fun _ => dk ρ1 (fun k ρ2 => pick (sS ρ2[i]?) (blk (fun s => stI s k y (blk (fun s' => D.nx (ρ2.set i (some s'))) .mk)) .mk)) D.ex) .mk)) D.ex := by
  show dv ρ _ D.ex = dv ρ _ D.ex
  congr 1
  funext y ρ1
  rw [pickE]
  simp only [sS_i]
  have key : ∀ (k : Dat) (ρ2 : Env), (∃ s, ρ2[i]? = some (some s) ∧ match s with
      | .l xs => ∃ j n, k = .int j ∧ ixN xs.length j = some n ∧ D.nx (ρ2.set i (some (.l (xs.set n y))))
      | .k kvs => ∃ ky, keyOf k = some ky ∧ kvs.length < sizeLine ∧ D.nx (ρ2.set i (some (.k (putD kvs ky y))))
      | .t kvs => ∃ ds ks, k = .tup ds ∧ keysOf ds = some ks ∧ kvs.length < sizeLine ∧ D.nx (ρ2.set i (some (.t (putD kvs ks y))))
      | _ => False) = pick (sS ρ2[i]?) (blk (fun s => stI s k y (blk (fun s' => D.nx (ρ2.set i (some s'))) .mk)) .mk) := fun k ρ2 => by
    rw [pickE]
    simp only [sS_i]
    congr 1
    funext s
    congr 1
    cases s with
    | l xs =>
      show (∃ j n, k = Dat.int j ∧ ixN xs.length j = some n ∧ _) = stI (.l xs) k y _
      unfold stI
      simp only [pickE, asI_e]
      exact propext ⟨fun ⟨j, n, h1, h2, h3⟩ => ⟨j, h1, n, h2, h3⟩, fun ⟨j, h1, n, h2, h3⟩ => ⟨j, n, h1, h2, h3⟩⟩
    | k kvs =>
      show (∃ ky, keyOf k = some ky ∧ _) = stI (.k kvs) k y _
      unfold stI
      simp only [pickE]
      rfl
    | t kvs => rfl
    | d _ => rfl
    | o _ => rfl
    | h _ _ => rfl
    | g _ => rfl
    | hg _ _ _ => rfl
    | xk _ _ => rfl
  refine propext ⟨fun ⟨⟨s, h⟩, k⟩ => ⟨s, h, ?_⟩, fun ⟨s, h, k⟩ => ⟨⟨s, h⟩, ?_⟩⟩
  · refine cast ?_ k
    congr 1
    funext k ρ2
    exact key k ρ2
  · refine cast ?_ k
    show dk ρ1 _ D.ex = dk ρ1 _ D.ex
    congr 1
    funext k ρ2
    exact (key k ρ2).symm
theorem f_dAppend {i : Nat} {d : DE} : dAppend i d D ρ = pick (sL ρ[i]?) (blk (fun _ => d ρ (fun x ρ1 => pick (sL ρ1[i]?) (blk (fun xs => xs.length < sizeLine ∧ D.nx (ρ1.set i (some (.l (xs ++ [x]))))) .mk)) D.ex) .mk) := by
  simp only [pickE, blk1, sL_i]
  exact propext ⟨fun ⟨⟨s, h⟩, k⟩ => ⟨s, h, k⟩, fun ⟨s, h, k⟩ => ⟨⟨s, h⟩, k⟩⟩
theorem f_dExtend {i : Nat} {d : DE} : dExtend i d D ρ = pick (sL ρ[i]?) (blk (fun _ => d ρ (fun x ρ1 => pick (sL ρ1[i]?) (blk (fun xs => pick (asL x) (blk (fun ys => xs.length + ys.length ≤ sizeLine ∧ D.nx (ρ1.set i (some (.l (xs ++ ys))))) .mk)) .mk)) D.ex) .mk) := by
  simp only [pickE, blk1, sL_i, asL_e]
  show (_ ∧ d ρ _ D.ex) = (∃ x, _ ∧ d ρ _ D.ex)
  have : (fun (x : Dat) (ρ1 : Env) => ∃ xs ys, ρ1[i]? = some (some (.l xs)) ∧ x = .lst ys ∧ xs.length + ys.length ≤ sizeLine ∧ D.nx (ρ1.set i (some (.l (xs ++ ys))))) = fun x ρ1 => ∃ xs, ρ1[i]? = some (some (.l xs)) ∧ ∃ ys, x = .lst ys ∧ xs.length + ys.length ≤ sizeLine ∧ D.nx (ρ1.set i (some (.l (xs ++ ys)))) := by
    funext x ρ1
    exact propext ⟨fun ⟨xs, ys, h1, h2⟩ => ⟨xs, h1, ys, h2⟩, fun ⟨xs, h1, ys, h2⟩ => ⟨xs, ys, h1, h2⟩⟩
  rw [this]
  exact propext ⟨fun ⟨⟨s, h⟩, k⟩ => ⟨s, h, k⟩, fun ⟨s, h, k⟩ => ⟨⟨s, h⟩, k⟩⟩
theorem f_dPop {i : Nat} : dPop i ρ R X = pick (sL ρ[i]?) (blk (fun xs => pick xs.getLast? (blk (fun x => R x (ρ.set i (some (.l xs.dropLast)))) .mk)) .mk) := by
  simp only [pickE, blk1, sL_i]
  exact propext ⟨fun ⟨xs, x, h1, h2⟩ => ⟨xs, h1, x, h2⟩, fun ⟨xs, h1, x, h2⟩ => ⟨xs, x, h1, h2⟩⟩
theorem f_dMove {i : Nat} : dMove i ρ R X = pick (sS ρ[i]?) (blk (fun s => pick s.toD (blk (fun x => R x (ρ.set i (some (.d x)))) .mk)) .mk) := by
  simp only [pickE, blk1, sS_i]
  exact propext ⟨fun ⟨xs, x, h1, h2⟩ => ⟨xs, h1, x, h2⟩, fun ⟨xs, h1, x, h2⟩ => ⟨xs, x, h1, h2⟩⟩
theorem f_dTake {i : Nat} : dTake i ρ RO X = pick (sS ρ[i]?) (blk (fun s => RO s (ρ.set i none)) .mk) := by
  simp only [pickE, sS_i]; rfl
theorem f_dFrz {i : Nat} {d : DS} : dFrz i d D ρ = pick (sS ρ[i]?) (blk (fun s => pick s.toD (blk (fun x => d D (ρ.set i (some (.d x)))) .mk)) .mk) := by
  simp only [pickE, blk1, sS_i]
  exact propext ⟨fun ⟨xs, x, h1, h2⟩ => ⟨xs, h1, x, h2⟩, fun ⟨xs, h1, x, h2⟩ => ⟨xs, x, h1, h2⟩⟩
theorem f_dFdivAt {i : Nat} {d : DE} : dFdivAt i d D ρ = pick (sD ρ[i]?) (blk (fun a => pick (asI a) (blk (fun a => d ρ (fun x ρ1 => pick (asI x) (blk (fun b => DivOk a b ∧ D.nx (ρ1.set i (some (.d (.int (a / b)))))) .mk)) D.ex) .mk)) .mk) := by
  simp only [pickE, blk1, sD_i, asI_e]
  exact propext ⟨fun ⟨a, h1, h2⟩ => ⟨.int a, h1, a, rfl, h2⟩, fun ⟨x, h1, a, h2, h3⟩ => by subst h2; exact ⟨a, h1, h3⟩⟩
def seqN (n : Nat) : Dat → Option (List Dat)
  | .tup xs => if xs.length = n then some xs else none
  | .lst xs => if xs.length = n then some xs else none
  | _ => none
theorem seqN_e {n : Nat} {x : Dat} {xs : List Dat} : seqN n x = some xs ↔ ((x = .tup xs ∨ x = .lst xs) ∧ xs.length = n) := by
  cases x with
  | tup ys =>
    simp only [seqN]
    split
    · simp only [Option.some.injEq, Dat.tup.injEq, reduceCtorEq, or_false]
      exact ⟨fun h => by subst h; exact ⟨rfl, ‹_›⟩, fun h => h.1⟩
    · simp only [Dat.tup.injEq, reduceCtorEq, or_false, false_iff]
      exact fun h => by
        obtain ⟨rfl, h⟩ := h
        contradiction
  | lst ys =>
    simp only [seqN]
    split
    · simp only [Option.some.injEq, Dat.lst.injEq, reduceCtorEq, false_or]
      exact ⟨fun h => by subst h; exact ⟨rfl, ‹_›⟩, fun h => h.1⟩
    · simp only [Dat.lst.injEq, reduceCtorEq, false_or, false_iff]
      exact fun h => by
        obtain ⟨rfl, h⟩ := h
        contradiction
  | _ => simp [seqN]
theorem seqN_t2 {a b : Dat} : seqN 2 (.tup [a, b]) = some [a, b] := rfl
theorem seqN_l2 {a b : Dat} : seqN 2 (.lst [a, b]) = some [a, b] := rfl
theorem seqN_t3 {a b c : Dat} : seqN 3 (.tup [a, b, c]) = some [a, b, c] := rfl
theorem seqN_l3 {a b c : Dat} : seqN 3 (.lst [a, b, c]) = some [a, b, c] := rfl
theorem seqN_t4 {a b c d : Dat} : seqN 4 (.tup [a, b, c, d]) = some [a, b, c, d] := rfl
theorem f_gtTup {n : Nat} {gs : DGs} {x : Dat} {RE : Env → Prop} : gtTup n gs x ρ RE = pick (seqN n x) (blk (fun xs => gs xs ρ RE) .mk) := by
  simp only [pickE, seqN_e]
  exact propext ⟨fun ⟨xs, h1, h2, h3⟩ => ⟨xs, ⟨h1, h2⟩, h3⟩, fun ⟨xs, ⟨h1, h2⟩, h3⟩ => ⟨xs, h1, h2, h3⟩⟩
theorem f_gtCons {g : DG} {gs : DGs} {x : Dat} {r : List Dat} {RE : Env → Prop} : gtCons g gs (x :: r) ρ RE = g x ρ fun ρ1 => gs r ρ1 RE := propext ⟨fun ⟨y, s, e, h⟩ => by
  cases e
  exact h, fun h => ⟨x, r, rfl, h⟩⟩
theorem f_gtNil {RE : Env → Prop} : gtNil [] ρ RE = RE ρ := propext ⟨fun h => h.2, fun h => ⟨rfl, h⟩⟩
def as1I : List Dat → Option Int
  | [.int j] => some j
  | _ => none
def as2I : List Dat → Option (Int × Int)
  | [.int j, .int k] => some (j, k)
  | _ => none
def as1L : List Dat → Option (List Dat)
  | [.lst j] => some j
  | _ => none
def as2L : List Dat → Option (List Dat × List Dat)
  | [.lst j, .lst k] => some (j, k)
  | [.tup j, .tup k] => some (j, k)
  | _ => none
theorem as1I_i {j : Int} : as1I [.int j] = some j := rfl
theorem as2I_i {j k : Int} : as2I [.int j, .int k] = some (j, k) := rfl
theorem as1L_l {j : List Dat} : as1L [.lst j] = some j := rfl
theorem as2L_l {j k : List Dat} : as2L [.lst j, .lst k] = some (j, k) := rfl
theorem as2L_t {j k : List Dat} : as2L [.tup j, .tup k] = some (j, k) := rfl
theorem as1I_e {xs : List Dat} {j : Int} : as1I xs = some j ↔ xs = [.int j] := by
  unfold as1I
  split
  · simp
  · rename_i h
    exact ⟨fun e => (by cases e), fun e => absurd e (h j)⟩
theorem as2I_e {xs : List Dat} {p : Int × Int} : as2I xs = some p ↔ xs = [.int p.1, .int p.2] := by
  unfold as2I
  split
  · simp [Prod.ext_iff]
  · rename_i h
    exact ⟨fun e => (by cases e), fun e => absurd e (h p.1 p.2)⟩
theorem as1L_e {xs : List Dat} {j : List Dat} : as1L xs = some j ↔ xs = [.lst j] := by
  unfold as1L
  split
  · simp
  · rename_i h
    exact ⟨fun e => (by cases e), fun e => absurd e (h j)⟩
theorem as2L_e {xs : List Dat} {p : List Dat × List Dat} : as2L xs = some p ↔ (xs = [.lst p.1, .lst p.2] ∨ xs = [.tup p.1, .tup p.2]) := by
  unfold as2L
  split
  · simp [Prod.ext_iff]
  · simp [Prod.ext_iff]
  · rename_i h h2
    exact ⟨fun e => (by cases e), fun e => e.elim (fun e => absurd e (h p.1 p.2)) (fun e => absurd e (h2 p.1 p.2))⟩
theorem f_diRange1 {da : DA} : diRange1 da ρ RA X = da ρ (fun xs ρ1 => pick (as1I xs) (blk (fun j => -(2 ^ 62) ≤ j ∧ j < 2 ^ 62 ∧ RA (rngD 0 j.toNat) ρ1) .mk)) X := by
  simp only [pickE, as1I_e]; rfl
theorem f_diRange2 {da : DA} : diRange2 da ρ RA X = da ρ (fun xs ρ1 => pick (as2I xs) (blk (fun p => (-(2 ^ 62) ≤ p.1 ∧ p.1 < 2 ^ 62 ∧ -(2 ^ 62) ≤ p.2 ∧ p.2 < 2 ^ 62) ∧ RA (rngD p.1 (p.2 - p.1).toNat) ρ1) .mk)) X := by
  simp only [pickE, as2I_e]
  show da ρ _ X = da ρ _ X
  congr 1
  funext xs ρ1
  exact propext ⟨fun ⟨i, j, h⟩ => ⟨(i, j), h⟩, fun ⟨p, h⟩ => ⟨p.1, p.2, h⟩⟩
theorem f_diEnum {da : DA} : diEnum da ρ RA X = da ρ (fun xs ρ1 => pick (as1L xs) (blk (fun ys => RA (enumD ys) ρ1) .mk)) X := by
  simp only [pickE, as1L_e]; rfl
theorem f_diZipA {da : DA} : diZipA da ρ RA X = da ρ (fun xs ρ1 => pick (as2L xs) (blk (fun p => RA (zipD p.1 p.2) ρ1) .mk)) X := by
  simp only [pickE, as2L_e]
  show da ρ _ X = da ρ _ X
  congr 1
  funext xs ρ1
  exact propext ⟨fun ⟨i, j, h⟩ => ⟨(i, j), h⟩, fun ⟨p, h⟩ => ⟨p.1, p.2, h⟩⟩
theorem f_diItems {d : DE} : diItems d ρ RA X = d ρ (fun x ρ1 => pick (asK x) (blk (fun kvs => RA (kvs.map fun kv => .tup [kD kv.1, kv.2]) ρ1) .mk)) X := by
  simp only [pickE, asK_e]; rfl
def itrD : Dat → Option (List Dat)
  | .lst xs => some xs
  | .tup xs => some xs
  | .scr ns => some (ns.map .int)
  | .str z => some (strD z)
  | .dk kvs => some (kvs.map fun kv => kD kv.1)
  | .dx _ kvs => some (kvs.map fun kv => kxD kv.1)
  | _ => none
theorem itrD_l {xs : List Dat} : itrD (.lst xs) = some xs := rfl
theorem itrD_t {xs : List Dat} : itrD (.tup xs) = some xs := rfl
theorem itrD_r {xs : List Int} : itrD (.scr xs) = some (xs.map .int) := rfl
theorem itrD_s {z : Str} : itrD (.str z) = some (strD z) := rfl
theorem itrD_k {kvs : List (Key × Dat)} : itrD (.dk kvs) = some (kvs.map fun kv => kD kv.1) := rfl
theorem itrD_x {hx : HX} {kvs : List (KX × Dat)} : itrD (.dx hx kvs) = some (kvs.map fun kv => kxD kv.1) := rfl
theorem f_diAny {d : DE} : diAny d ρ RA X = d ρ (fun x ρ1 => pick (itrD x) (blk (fun xs => RA xs ρ1) .mk)) X := by
  show d ρ _ X = d ρ _ X
  congr 1
  funext x ρ1
  cases x <;> rfl
theorem f_dCallO {pt : List (Option Nat)} {S : DSpec} {da : DA} : dCallO pt S da ρ RO X = da ρ (fun xs ρ1 => pick (fillS ρ1 pt xs) (blk (fun args => S args (blk (fun r os => os.length = (tgOf pt).length ∧ RO r (putS ρ1 (tgOf pt) os)) .mk) (blk (fun c os => os.length = (tgOf pt).length ∧ X c (putS ρ1 (tgOf pt) os)) .mk)) .mk)) X := by
  simp only [pickE]; rfl
theorem f_dPCons {dk dv : DE} {ds : DPs} {RP : List (Key × Dat) → Env → Prop} : dPCons dk dv ds ρ RP X = dk ρ (fun k ρ1 => pick (keyOf k) (blk (fun ky => dv ρ1 (fun v ρ2 => ds ρ2 (fun kvs ρ3 => RP ((ky, v) :: kvs) ρ3) X) X) .mk)) X := by
  simp only [pickE]; rfl
theorem f_dMulO {da db : DE} : dMulO da db ρ RO X = da ρ (fun x ρ1 => db ρ1 (fun y ρ2 => pick (asL x) (blk (fun xs => pick (asI y) (blk (fun k => -(2 ^ 63) ≤ k ∧ k < 2 ^ 63 ∧ xs.length * k.toNat ≤ sizeLine ∧ RO (.l (repD xs k)) ρ2) .mk)) .mk)) X) X := by
  simp only [pickE, blk1, asL_e, asI_e]
  show da ρ _ X = da ρ _ X
  congr 1
  funext x ρ1
  congr 1
  funext y ρ2
  exact propext ⟨fun ⟨a, b, h1, h2, h3⟩ => ⟨a, h1, b, h2, h3⟩, fun ⟨a, h1, b, h2, h3⟩ => ⟨a, b, h1, h2, h3⟩⟩
theorem f_dAddO {da db : DE} : dAddO da db ρ RO X = da ρ (fun x ρ1 => db ρ1 (fun y ρ2 => pick (asL x) (blk (fun xs => pick (asL y) (blk (fun ys => xs.length + ys.length ≤ sizeLine ∧ RO (.l (xs ++ ys)) ρ2) .mk)) .mk)) X) X := by
  simp only [pickE, blk1, asL_e]
  show da ρ _ X = da ρ _ X
  congr 1
  funext x ρ1
  congr 1
  funext y ρ2
  exact propext ⟨fun ⟨a, b, h1, h2, h3⟩ => ⟨a, h1, b, h2, h3⟩, fun ⟨a, h1, b, h2, h3⟩ => ⟨a, b, h1, h2, h3⟩⟩
theorem f_dJoin {da db : DE} : dJoin da db ρ R X = da ρ (fun x ρ1 => pick (asS x) (blk (fun a => db ρ1 (fun y ρ2 => pick (asLT y) (blk (fun xs => pick (strsD xs) (blk (fun ys => (ys.map (·.length)).sum + ys.length * a.length ≤ 16777216 ∧ R (.str (Txt.join a ys)) ρ2) .mk)) .mk)) X) .mk)) X := by
  simp only [pickE, blk1, asS_e, asLT_e]
  show da ρ _ X = da ρ _ X
  congr 1
  funext x ρ1
  congr 1
  funext a
  congr 1
  show db ρ1 _ X = db ρ1 _ X
  congr 1
  funext y ρ2
  exact propext ⟨fun ⟨xs, ys, h1, h2⟩ => ⟨xs, h1, ys, h2⟩, fun ⟨xs, h1, ys, h2⟩ => ⟨xs, ys, h1, h2⟩⟩
theorem f_dFor {it : DI} {g : DG} {body : DS} : dFor it g body D ρ = it ρ (fun xs ρ1 => ForP g body (blk D .mk) xs ρ1) D.ex := rfl
theorem f_dLc {it : DI} {g : DG} {tt : DT} {te : DE} {vs : List Nat} : dLc it g tt te vs ρ RO X = it ρ (fun xs ρ1 => LcP g tt te vs (blk RO .mk) xs ρ1) X := rfl
/-- a while: to be shown by a measure -/
def WhP (c : DT) (body : DS) (D : DK) (ρ : Env) : Prop := dWhile c body D ρ
theorem f_dWhile {c : DT} {body : DS} : dWhile c body D ρ = WhP c body (blk D .mk) ρ := rfl
theorem WhP.mk {c : DT} {body : DS} (I : Nat → Env → Prop) (m0 : Nat) (h0 : I m0 ρ)
    (hs : ∀ m ρ1, I m ρ1 → c ρ1 (fun b ρ2 => brq b (blk (fun _ => body { D with nx := fun ρ3 => ∃ m', m' < m ∧ I m' ρ3, ct := fun ρ3 => ∃ m', m' < m ∧ I m' ρ3, bk := D.nx } ρ2) .mk) (blk (fun _ => D.nx ρ2) .mk)) D.ex) : WhP c body D ρ := ⟨I, ⟨m0, h0⟩, hs⟩
end
section
variable {T : Dat → Prop} {xs : List Dat} {i : Int}
theorem f_il : fItem (.lst xs) (.int i) T = pick (atI xs i) T := by rw [pickE]; rfl
theorem f_it : fItem (.tup xs) (.int i) T = pick (atI xs i) T := by rw [pickE]; rfl
theorem f_is {ns : List Int} : fItem (.scr ns) (.int i) T = pick (atI ns i) (blk (fun n => T (.int n)) .mk) := by rw [pickE]; rfl
theorem f_iki {kvs : List (Key × Dat)} : fItem (.dk kvs) (.int i) T = pick (valD kvs (.inl i)) T := by rw [pickE]; rfl
theorem f_iks {kvs : List (Key × Dat)} {s : Str} : fItem (.dk kvs) (.str s) T = pick (valD kvs (.inr s)) T := by rw [pickE]; rfl
theorem f_ikk {kvs : List (Key × Dat)} {k : Key} : fItem (.dk kvs) (kD k) T = pick (valD kvs k) T := by rw [q_dkItem, pickE]
theorem f_str {s : Str} : fItem (.str s) (.int i) T = (s.length ≤ sizeLine ∧ pick (atI (tlS s) i) (blk (fun c => T (.str ⟨#[c]⟩)) .mk)) := by rw [pickE]; rfl
theorem pick_map {α β : Type} {f : α → β} {L : List α} {T : β → Prop} : pick (atI (L.map f) i) T = pick (atI L i) (blk (fun e => T (f e)) .mk) := by
  rw [atI_map']
  cases atI L i <;> rfl
theorem pick_at {α : Type} {xs : List α} {T : α → Prop} : pick (atI xs i) T = ∃ x, atI xs i = some x ∧ T x := pickE
theorem pick_val {κ : Type} [DecidableEq κ] {kvs : List (κ × Dat)} {k : κ} {T : Dat → Prop} : pick (valD kvs k) T = ∃ x, valD kvs k = some x ∧ T x := pickE
theorem at_any {α : Type} {L : List α} {T : α → Prop} (h0 : 0 ≤ i) (h : i < L.length) (hT : ∀ e ∈ L, T e) : ∃ e, atI L i = some e ∧ T e := by
  obtain ⟨x, ex, mx⟩ := at_mem h0 h
  exact ⟨x, ex, hT x mx⟩
theorem f_take {p : List Dat} {m : Int} {R : Slot → List Slot → Prop} {X : Value → List Slot → Prop} : S_take [.l p, .d (.int m)] R X = (∃ n : Nat, PL n p ∧ n < 1000000000 ∧ 0 < m ∧ m.natAbs < 2 ^ 250 ∧ ∀ p' r, PL (n + 1) p' → 0 ≤ r → r < m → R (.d (.int r)) [.l p']) := w_takeE
end
theorem q_isb {n : Bool → Bool} {a b : Bool} {T : Dat → Prop} : fIsG n (.bl a) (.bl b) T = T (.bl (n (decide (a = b)))) := rfl
theorem q_isn {n : Bool → Bool} {x : Dat} {T : Dat → Prop} : fIsG n x .non T = T (.bl (n (isNon x))) := by cases x <;> rfl
theorem ko_s {s : Str} : keyOf (.str s) = some (.inr s) := rfl
theorem ko_i {i : Int} : keyOf (.int i) = some (.inl i) := rfl
theorem k_nx {ios : List Nat} {R : Slot → List Slot → Prop} {X : Value → List Slot → Prop} : (kOf ios R X).nx = fun ρ => R (.d .non) (outs ios ρ) := rfl
theorem k_rt {ios : List Nat} {R : Slot → List Slot → Prop} {X : Value → List Slot → Prop} : (kOf ios R X).rt = fun r ρ => R r (outs ios ρ) := rfl
theorem k_ex {ios : List Nat} {R : Slot → List Slot → Prop} {X : Value → List Slot → Prop} : (kOf ios R X).ex = fun c ρ => X c (outs ios ρ) := rfl
end DL
/-! DL, part 23: laying parts into a row of noughts. -/
namespace DL
open PySem L2
abbrev dI (l : List Int) : List Dat := l.map Dat.int
theorem map_at {α β : Type} {f : α → β} {L : List α} {i : Nat} {y : β} (h : (L.map f)[i]? = some y) : ∃ e, L[i]? = some e ∧ y = f e := by
  rw [List.getElem?_map] at h
  cases e : L[i]? with
  | none => rw [e] at h; cases h
  | some x => rw [e] at h; cases h; exact ⟨x, rfl, rfl⟩
/-- a record's value by name -/
theorem kv_of {L : List VF} {kvs : List (Key × Dat)} (hp : kvs.Perm (L.map VF.kv)) (hD : (L.map (·.name)).Nodup) : (kvs.map (·.1)).Nodup ∧ kvs.length = L.length ∧ ∀ e ∈ L, valD kvs (.inr e.name) = some e.val := by
  have hk : (kvs.map (·.1)).Perm ((L.map (·.name)).map Sum.inr) := by
    have := hp.map (·.1)
    rw [List.map_map] at this
    rw [List.map_map]
    exact this
  have nd : (kvs.map (·.1)).Nodup := hk.nodup_iff.mpr (List.nodup_iff_pairwise_ne.mpr (List.pairwise_map.mpr ((List.nodup_iff_pairwise_ne.mp hD).imp fun h c => h (Sum.inr.inj c))))
  refine ⟨nd, by rw [hp.length_eq, List.length_map], fun e he => ?_⟩
  exact valD_at nd (kv := e.kv) (hp.mem_iff.mpr (List.mem_map_of_mem he))
theorem BV.pgv {n : Nat} {x : Dat} {r m : Int} {v : Dat} {bs : List Int} (h : BV n x r m v bs) : Pg (3 * n) v := by
  induction h with
  | num => exact pg_i (by omega)
  | @row n x r m c L hk hb hc h1 h2 ih =>
    refine pg_l (n := 3 * n) (fun y hy => ?_) (by rw [List.length_map]; omega) (by omega)
    obtain ⟨e, he, rfl⟩ := List.mem_map.mp hy
    exact ih e he
  | @reco n M L kvs hb hn hl hm hx hN hD hp ih =>
    obtain ⟨nd, hl2, _⟩ := kv_of hp hD
    refine pg_up (n := 3 * n + 1) (.dk (fun kv hkv => ?_) (by omega) nd) (by omega)
    obtain ⟨e, he, e2⟩ := List.mem_map.mp (hp.mem_iff.mp hkv)
    rw [← e2]
    exact ih e he
  | @cho n L M g k y v ry my bs hk hn hl hm hx hg hgx hi hb ih =>
    exact pg_t (n := 3 * n + 1) (pgs_cons (pg_i (by omega)) (pgs_cons (pg_up ih (by omega)) pgs_nil)) (by simp) (by omega)
theorem BV.up1 {n : Nat} {x : Dat} {r m : Int} {v : Dat} {bs : List Int} (h : BV n x r m v bs) : BV (n + 1) x r m v bs := by
  induction h with
  | num h1 h2 h3 h4 h5 => exact .num h1 h2 h3 h4 h5
  | row hk _ hc h1 h2 ih => exact .row hk.up1 ih hc h1 h2
  | reco _ hn hl hm hx hN hD hp ih => exact .reco ih hn hl hm hx hN hD hp
  | cho hk hn hl hm hx hg hgx hi _ ih => exact .cho (fun e he => (hk e he).up1) hn hl hm hx hg hgx hi ih
theorem BV.mono {n k : Nat} {x : Dat} {r m : Int} {v : Dat} {bs : List Int} (h : BV n x r m v bs) (l : n ≤ k) : BV k x r m v bs := by
  induction l with
  | refl => exact h
  | step _ ih => exact ih.up1
end DL
/-! DL, part 24: range with a step. -/
namespace DL
open PySem L2
def rngD3 (lo c : Int) (n : Nat) : List Dat := (List.range n).map fun (i : Nat) => Dat.int (lo + i * c)
section
variable {X : Cx} {W : WX} {ios : Ios}
def diRange3 (da : DA) : DI := fun ρ R X => da ρ (fun xs ρ1 => ∃ i j c : Int, ∃ n : Nat, xs = [.int i, .int j, .int c] ∧ RgC i j c n ∧ R (rngD3 i c n) ρ1) X
end
def as3I : List Dat → Option (Int × Int × Int)
  | [.int j, .int k, .int l] => some (j, k, l)
  | _ => none
theorem as3I_i {j k l : Int} : as3I [.int j, .int k, .int l] = some (j, k, l) := rfl
theorem as3I_e {xs : List Dat} {p : Int × Int × Int} : as3I xs = some p ↔ xs = [.int p.1, .int p.2.1, .int p.2.2] := by
  unfold as3I
  split
  · simp [Prod.ext_iff]
  · rename_i h
    exact ⟨fun e => (by cases e), fun e => absurd e (h p.1 p.2.1 p.2.2)⟩
theorem f_diRange3 {ρ : Env} {RA : List Dat → Env → Prop} {X : XR} {da : DA} : diRange3 da ρ RA X = da ρ (fun xs ρ1 => pick (as3I xs) (blk (fun p => ∃ n : Nat, RgC p.1 p.2.1 p.2.2 n ∧ RA (rngD3 p.1 p.2.2 n) ρ1) .mk)) X := by
  simp only [pickE, blk1, as3I_e]
  show da ρ _ X = da ρ _ X
  congr 1
  funext xs ρ1
  exact propext ⟨fun ⟨i, j, c, n, h⟩ => ⟨(i, j, c), h.1, n, h.2⟩, fun ⟨p, h1, n, h2⟩ => ⟨p.1, p.2.1, p.2.2, n, h1, h2⟩⟩
theorem LcP.filt {g : DG} {tt : DT} {te : DE} {vs : List Nat} {R : Slot → Env → Prop} {ρ1 : Env} {L : List Dat} (b : Dat → Bool) (f : Dat → Dat) (hp : plainE ρ1 vs) (hl : L.length ≤ sizeLine)
    (h : ∀ e ∈ L, ∀ (T : Dat → Env → Prop) (U : Env → Prop), (∀ ρ', backE ρ1 ρ' vs = ρ1 → b e = true → T (f e) ρ') → (∀ ρ', backE ρ1 ρ' vs = ρ1 → b e = false → U ρ') → g e (wipeE ρ1 vs) fun ρ3 => tt ρ3 (fun c ρ4 => if c = true then te ρ4 T noX else U ρ4) noX) (k : R (.l ((L.filter b).map f)) ρ1) : LcP g tt te vs R L ρ1 := by
  have h := LcP.filts (a := fun y => y) (L := L) b f hp hl h k
  rwa [List.map_id'] at h
theorem filt_empty {L : List Dat} (p : Dat → Bool) (f : Dat → Dat) : ((L.filter fun y => !p y).map f).isEmpty = L.all p := by
  rw [List.isEmpty_map, Bool.eq_iff_iff, List.isEmpty_iff, List.filter_eq_nil_iff, List.all_eq_true]
  simp
end DL
/-! DL, part 25: an own list's item is data. -/
namespace DL
open PySem L2
section
variable {X : Cx} {W : WX} {ios : Ios}
def dOwnIx (i : Nat) (dk : DE) : DE := fun ρ R X => (∃ s, ρ[i]? = some (some (.l s))) ∧ dk ρ (fun k ρ1 => ∃ xs j y, ρ1[i]? = some (some (.l xs)) ∧ k = .int j ∧ atI xs j = some y ∧ R y ρ1) X
theorem Reps.at {K : Frag} {F : Hp} {vs : List V} {xs : List Dat} {j : Int} {y : Dat} (r : Reps K F vs xs) (h : atI xs j = some y) : ∃ v, atI vs j = some v ∧ Rep K F v y := by
  unfold atI at h ⊢
  rw [r.len]
  cases e : ixN xs.length j with
  | none => rw [e] at h; cases h
  | some k =>
    rw [e] at h
    exact r.get h
end
theorem f_dOwnIx {i : Nat} {dk : DE} {ρ : Env} {R : Dat → Env → Prop} {X : XR} : dOwnIx i dk ρ R X = pick (sL ρ[i]?) (blk (fun _ => dk ρ (fun k ρ1 => pick (sL ρ1[i]?) (blk (fun xs => pick (asI k) (blk (fun j => pick (atI xs j) (blk (fun y => R y ρ1) .mk)) .mk)) .mk)) X) .mk) := by
  simp only [pickE, blk1, sL_i, asI_e]
  have e : (fun (k : Dat) (ρ1 : Env) => ∃ xs j y, ρ1[i]? = some (some (.l xs)) ∧ k = .int j ∧ atI xs j = some y ∧ R y ρ1) = fun k ρ1 => ∃ xs, ρ1[i]? = some (some (.l xs)) ∧ ∃ j, k = .int j ∧ ∃ y, atI xs j = some y ∧ R y ρ1 := by
    funext k ρ1
    exact propext ⟨fun ⟨xs, j, y, h1, h2, h3, h4⟩ => ⟨xs, h1, j, h2, y, h3, h4⟩, fun ⟨xs, h1, j, h2, y, h3, h4⟩ => ⟨xs, j, y, h1, h2, h3, h4⟩⟩
  show (_ ∧ dk ρ _ X) = _
  rw [e]
  exact propext ⟨fun ⟨⟨s, h⟩, k⟩ => ⟨s, h, k⟩, fun ⟨s, h, k⟩ => ⟨⟨s, h⟩, k⟩⟩
end DL
/-! DL, part 26: == of things of unlike kinds (ints, lists, dicts). -/
namespace PySem.SeqAt
open AutoSeq1 (wpAny_loadPart')
open MeetsSeq MeetsSeq2 MeetsSeq3 SeqRoads2
theorem dict_eq_declines_int (l : Addr) (dt : Data) (b : Int) (u : Tok) :
    Meets (Builtin.«dict.__eq__» ⟨[.ref l, .int b u], []⟩) (fun _ R s => s.heap.get? l = some { cls := .type "dict", dict := none, data := dt, slots := #[] } ∧ R (.ok (.ret .notImplemented)) s) :=
  .of_wp fun prog w A R s h => by obtain ⟨hp, g, d, tk, os⟩ := s; obtain ⟨hl, h⟩ := h; have f1 := F.sub_int_dict; wp_walk using wpAny_loadPart' hl; exact ⟨_, rfl, h⟩
theorem int_eq_declines_dict (b : Int) (u : Tok) (l : Addr) (dt : Data) (hd : ∀ v, dt ≠ .prim v) :
    Meets (Builtin.«int.__eq__» ⟨[.int b u, .ref l], []⟩) (fun _ R s => s.heap.get? l = some { cls := .type "dict", dict := none, data := dt, slots := #[] } ∧ R (.ok (.ret .notImplemented)) s) :=
  .of_wp fun prog w A R s h => by obtain ⟨hp, g, d, tk, os⟩ := s; obtain ⟨hl, h⟩ := h; cases dt <;> first | exact absurd rfl (hd _) | (wp_walk using wpAny_loadPart' hl, wpAny_load hl; exact ⟨_, rfl, h⟩)
section
variable {A : Around} {s : Shared}
/-- at l a plain dict -/
def IsD (h : Heap) (l : Addr) : Prop := ∃ dt : Data, h.get? l = some { cls := .type "dict", dict := none, data := dt, slots := #[] } ∧ ∀ v, dt ≠ .prim v
theorem RcAt.dict_int {l : Addr} (b : Int) (u : Tok) (hl : IsD s.heap l) (hu : A.units < cLine) : RcAt A s (.ref l) (.int b u) false := fun prog w E Q h => by
  obtain ⟨dt, ho, hd⟩ := hl
  exact rc_eq_decline_or (k := false) ⟨_, ho, rfl⟩ (typeIs_int s b u) (by decide) F.sub_int_dict F.slot_dict_eq F.slot_int_eq_refl
    (fun _ hq => call_meets F.slot_dict_eq ⟨_, ho, rfl⟩ F.entry_dict_eq (F.args_dict_eq_2 _ _) (dict_eq_declines_int l dt b u) ⟨ho, hq⟩)
    (fun _ hq => call_meets F.slot_int_eq_refl (typeIs_int s b u) F.entry_int_eq (F.args_int_eq_2 _ _) (int_eq_declines_dict b u l dt hd) ⟨ho, hq⟩)
    (fun _ hq => wpAny_of_eq (rfl : isSame (.ref l) (.int b u) = pure false) hq) (.inr hu) h
end
end PySem.SeqAt
namespace DL
open PySem L2
section
variable {X : Cx} {W : WX} {ios : Ios}
theorem isD_of {pins : List (Addr × Obj)} {σ : St} {H : Hp} {s : Shared} {a : Addr} {o : Obj} {ws : List (Key × V)} (I : Inv X pins σ H s) (h : H a = some (.frz o (.dK ws))) : SeqAt.IsD s.heap a := by
  obtain ⟨h1, _, _, vs, _, h2⟩ := (show ObjOk X.prog X.w H s.heap a (.frz o (.dK ws)) from I.hok a _ h)
  obtain ⟨o2, es, ep, h3, h4, h5, _⟩ := h2
  obtain ⟨c1, c2, c3⟩ := h4
  obtain ⟨cls, dd, data, sl⟩ := o2
  simp only at c1 c2 c3 h5
  subst c1 c2 c3 h5
  exact ⟨_, h3, fun v => by intro e; cases e⟩
end
/-- the kinds of ints, lists, dicts -/
def unD : Dat → Dat → Bool
  | .int _, .lst _ => true
  | .lst _, .int _ => true
  | .int _, .dk _ => true
  | .dk _, .int _ => true
  | .lst _, .dk _ => true
  | .dk _, .lst _ => true
  | _, _ => false
def fEqU : F2 := fun x y T => fEq x y T ∨ (unD x y = true ∧ T (.bl false))
theorem q_equ {i j : Int} {T : Dat → Prop} : fEqU (.int i) (.int j) T = T (.bl (decide (i = j))) := propext ⟨fun h => h.elim id (fun h => (by cases h.1)), fun h => Or.inl h⟩
end DL
namespace DL
open PySem L2
section
variable {X : Cx} {W : WX} {ios : Ios}
/-- a caught exception: some reference -/
def exo : Own where
  rep := fun _ _ _ v fp => (∃ a, v = .ref a) ∧ ∀ a, ¬ fp a
  stay := fun h _ _ => h
  dat := none
  frz := fun e => nomatch e
theorem SR.any {K : Frag} {fr : Fr} {F H : Hp} {ρ : Env} {σ : St} {fps : Nat → Addr → Prop} (r : SR K fr F H ρ σ fps) (i : Nat) (u : Option V) (hi : ∀ p ∈ fr.ios, p.1 ≠ i) : SR K fr F H (ρ.set i none) (σ.set i u) (fun j a => j ≠ i ∧ fps j a) := by
  have r1 := r.forget i
  refine ⟨r1.sub, r1.le, r1.keep, r1.tr, r1.fresh, fun j s e => ?_, r1.own, r1.apart, fun p hp => ?_, by simp [r.len], r1.nt, r1.tk⟩
  · by_cases h : j = i
    · subst h
      rw [List.getElem?_set] at e
      split at e
      · split at e <;> cases e
      · contradiction
    · obtain ⟨v, e1, e2⟩ := r1.slots j s e
      exact ⟨v, by rw [List.getElem?_set_ne (Ne.symm h)]; exact e1, e2⟩
  · rw [List.getElem?_set_ne (Ne.symm (hi p hp))]
    exact r1.io p hp
def dTryAs (xm : Value → Option Bool) (ie ic : Nat) (dB : DS) : DS := fun D ρ => dB { D with ex := fun cls ρ1 => ∃ b, xm cls = some b ∧ (b = true → ie < ρ1.length ∧ D.nx ((ρ1.set ie none).set ic (some (.o exo)))) ∧ (b = false → D.ex cls ρ1) } ρ
theorem ExcF.names {x : Str} {C : Addr} (h : ExcF X.K X.mg x C) (hg : Gl X x := by rfl) (hdb : (x == ("__debug__" : Str)) = false := by decide) : Names X x (.ref C) := ⟨hg, hdb, .inl h.at_⟩
/-- c is not None, of a slot that holds None or an exception -/
def dCaught (ic : Nat) : DE := fun ρ R _ => (ρ[ic]? = some (some (.d .non)) ∧ R (.bl false) ρ) ∨ (ρ[ic]? = some (some (.o exo)) ∧ R (.bl true) ρ)
end
end DL
/-! DL, part 28: what is a value of a kind, for any data. -/
namespace DL
open PySem L2
def optB {α : Type} (o : Option α) (p : α → Bool) : Bool := match o with | some x => p x | none => false
def fldV (p : Dat → Dat → Bool) (kvs : List (Key × Dat)) : Dat → Bool
  | .tup [.str nm, k] => optB (valD kvs (.inr nm)) (p k)
  | _ => false
def valX (kvs : List (KX × Dat)) (n : NestedKey) : Option Dat := (kvs.find? fun w => decide (w.1.nk = n)).map (·.2)
theorem valX_cons {w : KX × Dat} {ws : List (KX × Dat)} {n : NestedKey} : valX (w :: ws) n = if w.1.nk = n then some w.2 else valX ws n := by
  unfold valX
  rw [List.find?_cons]
  by_cases h : w.1.nk = n
  · rw [decide_eq_true h, if_pos h]; rfl
  · rw [decide_eq_false h, if_neg h]
def fldX (p : Dat → Dat → Bool) (kvs : List (KX × Dat)) : Dat → Bool
  | .tup [.str nm, k] => optB (valX kvs (.text nm)) (p k)
  | _ => false
def choV (p : Dat → Dat → Bool) (fs : List Dat) (t1 : Dat) : Dat → Bool
  | .int i => decide (0 ≤ i) && (decide (i ≤ (fs.length : Int) - 1) && optB fs[i.toNat]? fun y => p y t1)
  | _ => false
def recV (p : Dat → Dat → Bool) (fs : List Dat) (v : Dat) : Bool := match v with
  | .dk kvs => decide (kvs.length = fs.length) && fs.all (fldV p kvs)
  | .dx _ kvs => decide (kvs.length = fs.length) && fs.all (fldX p kvs)
  | _ => false
def chV (p : Dat → Dat → Bool) (fs : List Dat) (v : Dat) : Bool := match v with
  | .tup [t0, t1] => choV p fs t1 t0
  | _ => false
def isVs (p : Dat → Dat → Bool) (x v : Dat) : Bool := match x with
  | .tup [.str _, .int a, .int _] => isW 0 (256 ^ a.toNat - 1) v
  | .tup [.str _, x, .int c] => (match v with
    | .lst ys => decide ((ys.length : Int) = c) && ys.all (p x)
    | _ => false)
  | .tup [.str s, .lst fs] => if s = "record" then recV p fs v else chV p fs v
  | _ => false
def isV : Nat → Dat → Dat → Bool
  | 0, _, _ => false
  | n + 1, x, v => isVs (isV n) x v
theorem isV_num {n : Nat} {s : Str} {a m : Int} {v : Dat} : isV (n + 1) (.tup [.str s, .int a, .int m]) v = isW 0 (256 ^ a.toNat - 1) v := rfl
theorem isV_row {n d : Nat} {s : Str} {x : Dat} {r m c : Int} {v : Dat} (h : KD d x r m) : isV (n + 1) (.tup [.str s, x, .int c]) v = (match v with
    | .lst ys => decide ((ys.length : Int) = c) && ys.all (isV n x)
    | _ => false) := by
  obtain ⟨s, rest, rfl, _⟩ := h.head
  rfl
theorem isV_rec {n : Nat} {fs : List Dat} {v : Dat} : isV (n + 1) (.tup [.str "record", .lst fs]) v = recV (isV n) fs v := by
  show (if ("record" : Str) = "record" then recV (isV n) fs v else chV (isV n) fs v) = _
  rw [if_pos rfl]
theorem isV_cho {n : Nat} {fs : List Dat} {v : Dat} : isV (n + 1) (.tup [.str "choice", .lst fs]) v = chV (isV n) fs v := by
  show (if ("choice" : Str) = "record" then recV (isV n) fs v else chV (isV n) fs v) = _
  rw [if_neg (by rw [s_hc]; exact id)]
theorem BV.isv {n : Nat} {x : Dat} {r m : Int} {v : Dat} {bs : List Int} (h : BV n x r m v bs) : isV n x v = true := by
  induction h with
  | @num n a m v h1 h2 h3 h4 h5 =>
    rw [isV_num]
    show (decide (0 ≤ v) && decide (v ≤ 256 ^ a.toNat - 1)) = true
    rw [decide_eq_true h4, decide_eq_true (by omega)]; rfl
  | @row n x r m c L hk hb hc h1 h2 ih =>
    rw [isV_row hk]
    show (decide (((L.map (·.1)).length : Int) = c) && (L.map (·.1)).all (isV n x)) = true
    rw [decide_eq_true (by rw [List.length_map]; exact hc), Bool.true_and, List.all_eq_true]
    intro y hy
    obtain ⟨e, he, rfl⟩ := List.mem_map.mp hy
    exact ih e he
  | @reco n M L kvs hb hn hl hm hx hN hD hp ih =>
    obtain ⟨nd, hl2, hv⟩ := kv_of hp hD
    rw [isV_rec]
    show (decide (kvs.length = (L.map VF.fd).length) && (L.map VF.fd).all (fldV (isV n) kvs)) = true
    rw [decide_eq_true (by rw [List.length_map]; exact hl2), Bool.true_and, List.all_eq_true]
    intro y hy
    obtain ⟨e, he, rfl⟩ := List.mem_map.mp hy
    show optB (valD kvs (.inr e.name)) (isV n e.kind) = true
    rw [hv e he]
    exact ih e he
  | @cho n L M g k y v ry my bs hk hn hl hm hx hg hgx hi hb ih =>
    have hkl : k < L.length := (List.getElem?_eq_some_iff.mp hi).1
    rw [isV_cho]
    show (decide ((0 : Int) ≤ (k : Nat)) && (decide (((k : Nat) : Int) ≤ ((L.map (·.1)).length : Int) - 1) && optB (L.map (·.1))[((k : Nat) : Int).toNat]? fun y => isV n y v)) = true
    rw [decide_eq_true (by omega), decide_eq_true (by rw [List.length_map]; omega), Int.toNat_natCast, List.getElem?_map, hi]
    exact ih
/-! try, as a walk -/
theorem f_dTryAs {M : Value → Option Bool} {ie ic : Nat} {dB : DS} {D : DK} {ρ : Env} : dTryAs M ie ic dB D ρ = dB { D with ex := blk (fun cls ρ1 => pick (M cls) (blk (fun b => brq b (blk (fun _ => ie < ρ1.length ∧ D.nx ((ρ1.set ie none).set ic (some (.o exo)))) .mk) (blk (fun _ => D.ex cls ρ1) .mk)) .mk)) .mk } ρ := by
  unfold dTryAs
  congr 1
  congr 1
  funext cls ρ1
  rw [blk2, pickE]
  refine propext ⟨fun ⟨b, e, h1, h2⟩ => ⟨b, e, ?_⟩, fun ⟨b, e, h⟩ => ⟨b, e, ?_⟩⟩
  · cases b with
    | true => exact h1 rfl
    | false => exact h2 rfl
  · cases b with
    | true => exact ⟨fun _ => h, fun z => Bool.noConfusion z⟩
    | false => exact ⟨fun z => Bool.noConfusion z, fun _ => h⟩
def cau (o : Option (Option Slot)) (T : Bool → Prop) : Prop := match o with
  | some (some (.d .non)) => T false
  | some (some (.o w)) => w = exo ∧ T true
  | _ => False
theorem cau_n {T : Bool → Prop} : cau (some (some (.d .non))) T = T false := rfl
theorem cau_o {T : Bool → Prop} : cau (some (some (.o exo))) T = T true := propext ⟨fun h => h.2, fun h => ⟨rfl, h⟩⟩
theorem f_dCaught {ic : Nat} {ρ : Env} {R : Dat → Env → Prop} {X : XR} : dCaught ic ρ R X = cau ρ[ic]? (blk (fun b => R (.bl b) ρ) .mk) := by
  unfold dCaught
  cases h : ρ[ic]? with
  | none => simp [cau]
  | some o =>
    cases o with
    | none => simp [cau]
    | some s =>
      cases s with
      | d x => cases x <;> simp [cau, blk]
      | o w => simp [cau, blk]
      | h _ _ => simp [cau, blk]
      | g _ => simp [cau, blk]
      | hg _ _ _ => simp [cau, blk]
      | xk _ _ => simp [cau, blk]
      | _ => simp [cau]
/-! rows of bytes, filled up -/
end DL
/-! DL, part 29: room and multiple as a function; which bytes are busy. -/
namespace DL
open PySem L2
def mx : List Int → Int
  | [] => 0
  | a :: l => max a (mx l)
def kOfF : Dat → Dat
  | .tup [_, k] => k
  | _ => .non
def rmR (f : Dat → Int × Int) (fs : List Dat) : Int × Int := (up (fend 0 (fs.map fun y => (Dat.non, f (kOfF y)))) (mx (fs.map fun y => (f (kOfF y)).2)), mx (fs.map fun y => (f (kOfF y)).2))
def rmC (f : Dat → Int × Int) (fs : List Dat) : Int × Int := (up (up 1 (mx (fs.map fun y => (f y).2)) + mx (fs.map fun y => (f y).1)) (mx (fs.map fun y => (f y).2)), mx (fs.map fun y => (f y).2))
def rmS (f : Dat → Int × Int) (x : Dat) : Int × Int := match x with
  | .tup [.str _, .int a, .int m] => (a, m)
  | .tup [.str _, x, .int c] => (c * up (f x).1 (f x).2, (f x).2)
  | .tup [.str s, .lst fs] => if s = "record" then rmR f fs else rmC f fs
  | _ => (0, 0)
def rm : Nat → Dat → Int × Int
  | 0, _ => (0, 0)
  | n + 1, x => rmS (rm n) x
/-- parts, each with its place, laid in their order -/
def plc (f : Dat → Int × Int) : Int → List Dat → List (Int × Dat)
  | _, [] => []
  | e, k :: ks => (up e (f k).2, k) :: plc f (up e (f k).2 + (f k).1) ks
def bzR (f : Dat → Int × Int) (p : Dat → Nat → Bool) (fs : List Dat) (i : Nat) : Bool := (plc f 0 (fs.map kOfF)).any fun q => decide (q.1 ≤ i) && p q.2 (i - q.1.toNat)
def bzC (f : Dat → Int × Int) (p : Dat → Nat → Bool) (fs : List Dat) (i : Nat) : Bool := decide (i = 0) || (decide (mx (fs.map fun y => (f y).2) ≤ i) && fs.any fun y => p y (i - (mx (fs.map fun y => (f y).2)).toNat))
def bzS (f : Dat → Int × Int) (p : Dat → Nat → Bool) (x : Dat) (i : Nat) : Bool := match x with
  | .tup [.str _, .int a, .int _] => decide ((i : Int) < a)
  | .tup [.str _, x, .int c] => decide ((i : Int) / up (f x).1 (f x).2 < c) && p x (i % (up (f x).1 (f x).2).toNat)
  | .tup [.str s, .lst fs] => if s = "record" then bzR f p fs i else bzC f p fs i
  | _ => false
def bz : Nat → Dat → Nat → Bool
  | 0, _, _ => false
  | n + 1, x, i => bzS (rm n) (bz n) x i
end DL
/-! DL, part 30: the parts of a kind with their places; busy bytes by parts. -/
namespace DL
open PySem L2
/-- a byte that one of some parts has -/
def hit (n : Nat) (P : List (Int × Dat)) (i : Nat) : Bool := P.any fun q => decide (q.1 ≤ i) && bz n q.2 (i - q.1.toNat)
end DL
/-! DL, part 31: list(zip(a, b)), a new list of new pairs. -/
namespace DLZ
open PySem PySem.Spec PyProof.Rows L2 PySem.W
/-- the addresses of a zip of two lists, and the list that grows -/
structure ZA where
  (z TI TO i1 i2 l1 l2 S : Addr)
structure ZA.Ok (q : ZA) : Prop where
  d : ZipApart q.z q.TI q.TO q.i1 q.i2 q.l1 q.l2
  sz : q.S ≠ q.z
  sTI : q.S ≠ q.TI
  sTO : q.S ≠ q.TO
  s1 : q.S ≠ q.i1
  s2 : q.S ≠ q.i2
  sl1 : q.S ≠ q.l1
  sl2 : q.S ≠ q.l2
def ZA.st (q : ZA) (i : Nat) (h : Heap) : Prop := IsPair h q.TI (.ref q.i1) (.ref q.i2) ∧ h.IsListIter q.i1 q.l1 i ∧ h.IsListIter q.i2 q.l2 i ∧
  ((i = 0 ∧ IsZip h q.z q.TI q.TO .none ∧ ∃ a b, IsPair h q.TO a b) ∨ ∃ T f oT, IsZipHeld h q.z q.TI q.TO T f ∧ h.get? T = some oT ∧ T ≠ q.z ∧ T ≠ q.i1 ∧ T ≠ q.i2 ∧ T ≠ q.S)
theorem ZA.st.turn {q : ZA} {i : Nat} {h h' : Heap} (x : q.st i h) (o : q.Ok) (k : ∀ b u, b ≠ q.S → h.get? b = some u → h'.get? b = some u) : q.st i h' := by
  obtain ⟨x1, x2, x3, x4⟩ := x
  refine ⟨k _ _ o.sTI.symm x1, x2.at fun u e => k _ u o.s1.symm e, x3.at fun u e => k _ u o.s2.symm e, ?_⟩
  rcases x4 with ⟨x5, x6, a, b, x7⟩ | ⟨T, f, oT, x5, x6, x7, x8, x9, x10⟩
  · exact .inl ⟨x5, k _ _ o.sz.symm x6, a, b, k _ _ o.sTO.symm x7⟩
  · exact .inr ⟨T, f, oT, k _ _ o.sz.symm x5, k _ _ x10 x6, x7, x8, x9, x10⟩
section
variable {pr : Program} {ww : World} {A : Around} {E : Value → Shared → Prop} {s : Shared}
theorem ZA.item {q : ZA} {i : Nat} {xs ys : Array Value} {x y : Value} {Q : Option Value → Shared → Prop} (o : q.Ok) (st : q.st i s.heap) (hS : q.S < s.heap.objs.size) (a1 : s.heap.IsList q.l1 xs) (a2 : s.heap.IsList q.l2 ys) (hx : xs[i]? = some x) (hy : ys[i]? = some y)
    (hQ : ∀ h', q.st (i + 1) h' → IsPair h' s.heap.objs.size x y → h'.objs.size = s.heap.objs.size + 1 → (∀ c u, c ≠ q.z → c ≠ q.TO → c ≠ q.i1 → c ≠ q.i2 → s.heap.get? c = some u → h'.get? c = some u) → Q (some (.ref s.heap.objs.size)) { s with heap := h' }) :
    wpAny (model pr ww) A (pyNext (.ref q.z)) Q E s := by
  obtain ⟨x1, x2, x3, x4⟩ := st
  have ltz : ∀ {c : Addr} {u : Obj}, s.heap.get? c = some u → s.heap.objs.size ≠ c := fun e => Nat.ne_of_gt (Heap.lt_size e)
  have l1 : s.heap.objs.size ≠ q.i1 := by
    obtain ⟨u, e, _⟩ := x2
    exact ltz e
  have l2 : s.heap.objs.size ≠ q.i2 := by
    obtain ⟨u, e, _⟩ := x3
    exact ltz e
  rcases x4 with ⟨_, x6, a, b, x7⟩ | ⟨T, f, oT, x5, x6, x7, x8, x9, x10⟩
  · exact wpAny_pyNext_zip_item o.d x6 x1 x7 x2 x3 a1 a2 hx hy fun h' b1 b2 b3 b4 b5 b6 b7 =>
      hQ h' ⟨b7 _ _ o.d.TIz o.d.TITO o.d.TIi1 o.d.TIi2 x1, b3, b4, .inr ⟨_, false, _, b1, b5, ltz x6, l1, l2, Nat.ne_of_gt hS⟩⟩ b5 b6 b7
  · exact wpAny_pyNext_zip_item_held o.d x5 x6 x1 x2 x3 a1 a2 hx hy fun h' b1 b3 b4 b5 b6 b7 =>
      hQ h' ⟨b7 _ _ o.d.TIz o.d.TIi1 o.d.TIi2 x1, b3, b4, .inr ⟨T, true, oT, b1, b7 _ _ x7 x8 x9 x6, x7, x8, x9, x10⟩⟩ b5 b6 fun c u c1 _ c3 c4 e => b7 c u c1 c3 c4 e
theorem ZA.done {q : ZA} {i : Nat} {xs ys : Array Value} {Q : Option Value → Shared → Prop} (hh : A.handled = none) (o : q.Ok) (st : q.st i s.heap) (a1 : s.heap.IsList q.l1 xs) (a2 : s.heap.IsList q.l2 ys) (he : xs[i]? = none ∨ ys[i]? = none)
    (hQ : ∀ h', (∀ c u, c ≠ q.z → c ≠ q.TO → c ≠ q.i1 → c ≠ q.i2 → s.heap.get? c = some u → h'.get? c = some u) → Q none { s with heap := h' }) : wpAny (model pr ww) A (pyNext (.ref q.z)) Q E s := by
  obtain ⟨x1, x2, x3, x4⟩ := st
  rcases x4 with ⟨_, x6, a, b, x7⟩ | ⟨T, f, oT, x5, x6, x7, x8, x9, x10⟩
  · exact wpAny_pyNext_zip_end hh o.d x6 x1 x7 x2 x3 a1 a2 he hQ
  · exact wpAny_pyNext_zip_end_held hh o.d x5 x6 x1 x2 x3 a1 a2 he fun h' k => hQ h' fun c u c1 _ c3 c4 e => k c u c1 c3 c4 e
/-- the tuples so far -/
structure TG (xs ys : Array Value) (lo : Addr) (h : Heap) (ts : List Addr) : Prop where
  up : ts.Pairwise (· < ·)
  lo : ∀ a ∈ ts, lo < a
  at_ : ∀ (j : Nat) (a : Addr), ts[j]? = some a → ∃ x y, xs[j]? = some x ∧ ys[j]? = some y ∧ IsPair h a x y
theorem TG.lt {xs ys : Array Value} {lo a : Addr} {h : Heap} {ts : List Addr} (g : TG xs ys lo h ts) (ha : a ∈ ts) : a < h.objs.size := by
  obtain ⟨j, hj⟩ := List.mem_iff_getElem?.mp ha
  obtain ⟨_, _, _, _, e⟩ := g.at_ j a hj
  exact Heap.lt_size e
end
section
variable {pr : Program} {ww : World} {A : Around} {s : Shared} {R : Result → Shared → Prop} {xs ys : Array Value}
theorem ZA.loop {q : ZA} (hh : A.handled = none) (o : q.Ok) (n : Nat) (hn : n = min xs.size ys.size) (hnz : n ≤ sizeLine) (zl : q.z < q.S ∧ q.TO < q.S ∧ q.i1 < q.S ∧ q.i2 < q.S) (res : Value) {h₁ : Heap}
    (hR : ∀ h' tk acc c ts, (∀ b u, b ≠ q.S → b ≠ q.z → b ≠ q.TO → b ≠ q.i1 → b ≠ q.i2 → h₁.get? b = some u → h'.get? b = some u) → h'.get? q.S = some { cls := .type "list", dict := none, data := .seq acc c, slots := #[] } → ts.length = n → TG xs ys q.S h' ts → acc.toList = ts.map Value.ref →
      R (.ok (.ret res)) { s with heap := h', toks := tk }) :
    ∀ (k i : Nat) (h : Heap) (tk c : Nat) (acc : Array Value) (ts : List Addr), n - i = k → i ≤ n → q.st i h → h.IsList q.l1 xs → h.IsList q.l2 ys → (∀ b u, b ≠ q.S → b ≠ q.z → b ≠ q.TO → b ≠ q.i1 → b ≠ q.i2 → h₁.get? b = some u → h.get? b = some u) →
      h.get? q.S = some { cls := .type "list", dict := none, data := .seq acc c, slots := #[] } → acc.toList = ts.map Value.ref → ts.length = i → TG xs ys q.S h ts →
      codeAny (model pr ww) A (.builtin "list.extend.loop" ⟨[.ref q.S, .ref q.z, res], []⟩) R { s with heap := h, toks := tk } := by
  intro k
  induction k with
  | zero =>
    intro i h tk c acc ts hk hi st a1 a2 hkeep hS hacc hl hG
    have hin : i = n := by omega
    refine codeAny_builtin F.entry_extend_loop ?_
    rw [Around.under_plainId F.plain_extend_loop (⟨_, _⟩ : Args)]
    show wpAny (model pr ww) A.in1 (pyNext (.ref q.z) >>= _) _ _ _
    refine wpAny_bind (ZA.done (s := { s with heap := h, toks := tk }) (A := A.in1) hh o st a1 a2 ?_ fun h' he => ?_)
    · rcases (by omega : xs.size ≤ i ∨ ys.size ≤ i) with z | z
      · exact .inl (Array.getElem?_eq_none z)
      · exact .inr (Array.getElem?_eq_none z)
    · refine wpAny_pure (hR h' tk acc c ts (fun b u h1 h2 h3 h4 h5 e => he b u h2 h3 h4 h5 (hkeep b u h1 h2 h3 h4 h5 e)) (he _ _ o.sz o.sTO o.s1 o.s2 hS) (by omega) ⟨hG.up, hG.lo, fun j a hj => ?_⟩ hacc)
      obtain ⟨x, y, e1, e2, e3⟩ := hG.at_ j a hj
      have hlo := hG.lo a (List.mem_of_getElem? hj)
      exact ⟨x, y, e1, e2, he a _ (Nat.ne_of_gt (Nat.lt_trans zl.1 hlo)) (Nat.ne_of_gt (Nat.lt_trans zl.2.1 hlo)) (Nat.ne_of_gt (Nat.lt_trans zl.2.2.1 hlo)) (Nat.ne_of_gt (Nat.lt_trans zl.2.2.2 hlo)) e3⟩
  | succ k ih =>
    intro i h tk c acc ts hk hi st a1 a2 hkeep hS hacc hl hG
    have hx : xs[i]? = some xs[i] := Array.getElem?_eq_getElem (by omega)
    have hy : ys[i]? = some ys[i] := Array.getElem?_eq_getElem (by omega)
    generalize xs[i] = x at hx
    generalize ys[i] = y at hy
    have hasz : acc.size = i := by rw [← Array.length_toList, hacc, List.length_map, hl]
    have hSl : q.S < h.objs.size := Heap.lt_size hS
    refine codeAny_builtin F.entry_extend_loop ?_
    rw [Around.under_plainId F.plain_extend_loop (⟨_, _⟩ : Args)]
    show wpAny (model pr ww) A.in1 (pyNext (.ref q.z) >>= _) _ _ _
    refine wpAny_bind (ZA.item (s := { s with heap := h, toks := tk }) o st hSl a1 a2 hx hy fun h' st' ht hz hkp => ?_)
    dsimp only at ht hz hkp ⊢
    have hS' := hkp _ _ o.sz o.sTO o.s1 o.s2 hS
    have up : ∀ b u, b ≠ q.S → h'.get? b = some u → (h'.update q.S (Obj.mapSeq (·.push (Value.ref h.objs.size)))).get? b = some u := fun b u hb e => (Heap.get?_update_other _ _ (Ne.symm hb)).trans e
    have low : ∀ a, q.S < a → a ≠ q.z ∧ a ≠ q.TO ∧ a ≠ q.i1 ∧ a ≠ q.i2 := fun a hlo => ⟨Nat.ne_of_gt (Nat.lt_trans zl.1 hlo), Nat.ne_of_gt (Nat.lt_trans zl.2.1 hlo), Nat.ne_of_gt (Nat.lt_trans zl.2.2.1 hlo), Nat.ne_of_gt (Nat.lt_trans zl.2.2.2 hlo)⟩
    show wpAny (model pr ww) A.in1 (updateSeq q.S (·.push (Value.ref h.objs.size)) >>= _) _ _ _
    refine wpAny_bind ?_
    refine wpAny_updateSeq hS' rfl (wpAny_pure ⟨plainId_quiet F.plain_extend_loop _, ih (i + 1) _ tk _ (acc.push (Value.ref h.objs.size)) (ts ++ [h.objs.size]) (by omega) (by omega) (st'.turn o up)
      (a1.at fun u e => up _ u o.sl1.symm (hkp _ u o.d.l1z o.d.l1TO o.d.l1i1 o.d.l1i2 e)) (a2.at fun u e => up _ u o.sl2.symm (hkp _ u o.d.l2z o.d.l2TO o.d.l2i1 o.d.l2i2 e))
      (fun b u h1 h2 h3 h4 h5 e => up b u h1 (hkp b u h2 h3 h4 h5 (hkeep b u h1 h2 h3 h4 h5 e))) (Heap.get?_update_self _ hS' rfl) (by rw [Array.toList_push, hacc, List.map_append]; rfl) (by rw [List.length_append, hl]; rfl) ⟨?_, ?_, ?_⟩⟩) (by rw [hasz]; omega) (by show (acc.push (Value.ref h.objs.size)).size ≤ sizeLine + 1; rw [Array.size_push, hasz]; omega)
    · refine List.pairwise_append.mpr ⟨hG.up, List.pairwise_singleton _ _, fun a ha b hb => ?_⟩
      have := hG.lt ha
      rwa [List.mem_singleton.mp hb]
    · intro a ha
      rcases List.mem_append.mp ha with ha | ha
      · exact hG.lo a ha
      · have := List.mem_singleton.mp ha
        subst this
        exact hSl
    · intro j b hj
      rcases Nat.lt_trichotomy j ts.length with h1 | h1 | h1
      · rw [List.getElem?_append_left h1] at hj
        obtain ⟨x', y', e1, e2, e3⟩ := hG.at_ j b hj
        have hb := hG.lo b (List.mem_of_getElem? hj)
        obtain ⟨c1, c2, c3, c4⟩ := low b hb
        exact ⟨x', y', e1, e2, up b _ (Nat.ne_of_gt hb) (hkp b _ c1 c2 c3 c4 e3)⟩
      · subst h1
        have hb : h.objs.size = b := by simpa using hj
        subst hb
        exact ⟨x, y, by rw [hl]; exact hx, by rw [hl]; exact hy, up _ _ (Nat.ne_of_gt hSl) ht⟩
      · have hnone : (ts ++ [h.objs.size])[j]? = none := List.getElem?_eq_none (by rw [List.length_append, List.length_singleton]; omega)
        rw [hnone] at hj
        cases hj
end
theorem nolen_zip : typeLookup (.type "zip") "__len__" = pure none := by
  rw [typeLookup_type, builtinLookup_eq_fast]; kernel_rfl
theorem nohint_zip : typeLookup (.type "zip") "__length_hint__" = pure none := by
  rw [typeLookup_type, builtinLookup_eq_fast]; kernel_rfl
section
variable {pr : Program} {ww : World} {A : Around} {s : Shared} {xs ys : Array Value}
theorem ZA.hint {E : Value → Shared → Prop} {z : Addr} {Q : Bool → Shared → Prop} (hT : s.TypeIs (.ref z) "zip") (h : Q true s) : wpAny (model pr ww) A (Builtin.List.listLengthHint (.ref z)) Q E s := by
  unfold Builtin.List.listLengthHint
  refine wpAny_bind (wpAny_specialOf hT nolen_zip ?_)
  show wpAny (model pr ww) A (specialOf (Value.ref z) (Str.ofString "__length_hint__") >>= _) _ _ _
  exact wpAny_bind (wpAny_specialOf hT nohint_zip (wpAny_pure h))
theorem ZA.extend {q : ZA} {R : Result → Shared → Prop} (hh : A.handled = none) (o : q.Ok) (n : Nat) (hn : n = min xs.size ys.size) (hnz : n ≤ sizeLine) (zl : q.z < q.S ∧ q.TO < q.S ∧ q.i1 < q.S ∧ q.i2 < q.S) (res : Value) (st : q.st 0 s.heap) (zz : IsZip s.heap q.z q.TI q.TO .none) (a1 : s.heap.IsList q.l1 xs) (a2 : s.heap.IsList q.l2 ys) (c₀ : Nat) (hS : s.heap.get? q.S = some { cls := .type "list", data := .seq #[] c₀ })
    (hR : ∀ h' tk acc c ts, (∀ b u, b ≠ q.S → b ≠ q.z → b ≠ q.TO → b ≠ q.i1 → b ≠ q.i2 → s.heap.get? b = some u → h'.get? b = some u) → h'.get? q.S = some { cls := .type "list", dict := none, data := .seq acc c, slots := #[] } → ts.length = n → TG xs ys q.S h' ts → acc.toList = ts.map Value.ref →
      R (.ok (.ret res)) { s with heap := h', toks := tk }) :
    wpAny (model pr ww) A.in1 (Builtin.List.listExtendWith (.ref q.S) (.ref q.z) res)
      (fun fin s' => match fin with | .done f => R (.ok f) s' | .again c' => c'.quiet = true ∧ codeAny (model pr ww) A c' R s') (fun e s' => R (.error e) s') s := by
  have hT : s.TypeIs (.ref q.z) "zip" := ⟨_, zz, rfl⟩
  unfold Builtin.List.listExtendWith
  refine wpAny_bind (wpAny_typeOf (T := "zip") hT ?_)
  have h1 : Builtin.List.listSameRef (.ref q.S) (.ref q.z) = false := by simp [Builtin.List.listSameRef, o.sz]
  have h2 : (Value.type "zip" == Value.type "list") = false := by decide
  have h3 : (Value.type "zip" == Value.type "tuple") = false := by decide
  simp only [h1, h2, h3, Bool.or_false, if_false, Bool.false_eq_true]
  refine wpAny_bind (wpAny_pyIter_zip zz ?_)
  refine wpAny_bind (wpAny_holding (ZA.hint hT ?_))
  show wpAny (model pr ww) A.in1 (rule "list.extend.makes-room" >>= fun _ => Builtin.List.listTouch (.ref q.S) >>= fun _ => again (.builtin "list.extend.loop" ⟨[.ref q.S, .ref q.z, res], []⟩)) _ _ s
  refine wpAny_bind (wpAny_rule ?_)
  refine wpAny_bind ?_
  show wpAny (model pr ww) A.in1 (updateSeq q.S (·.push .none) >>= fun _ => updateSeq q.S (·.pop)) _ _ s
  refine wpAny_bind (wpAny_updateSeq hS rfl ?_)
  have g2 := Heap.get?_update_self (Obj.mapSeq (·.push Value.none)) hS rfl
  refine wpAny_updateSeq (hz := by seq_fits) g2 rfl ?_
  have g3 := Heap.get?_update_self (Obj.mapSeq (·.pop)) g2 rfl
  have oth : ∀ b u, b ≠ q.S → s.heap.get? b = some u → ((s.heap.update q.S (Obj.mapSeq (·.push Value.none))).update q.S (Obj.mapSeq (·.pop))).get? b = some u := fun b u hb e =>
    (Heap.get?_update_other _ _ (Ne.symm hb)).trans ((Heap.get?_update_other _ _ (Ne.symm hb)).trans e)
  refine wpAny_pure ⟨plainId_quiet F.plain_extend_loop _, ZA.loop (s := s) (h₁ := s.heap) hh o n hn hnz zl res hR n 0 _ s.toks _ #[] [] (Nat.sub_zero _) (Nat.zero_le _) (st.turn o oth) (a1.at fun u e => oth _ u o.sl1.symm e) (a2.at fun u e => oth _ u o.sl2.symm e) (fun b u hb _ _ _ _ e => oth b u hb e) g3 rfl rfl
    ⟨List.Pairwise.nil, (fun _ ha => nomatch ha), (fun j a hj => by simp at hj)⟩⟩
theorem ZA.call {l1 l2 z TI TO i1 i2 : Addr} {E : Value → Shared → Prop} {Q : Value → Shared → Prop} (hh : A.handled = none) (D : ZipApart z TI TO i1 i2 l1 l2) (zz : IsZip s.heap z TI TO .none) (t1 : IsPair s.heap TI (.ref i1) (.ref i2)) (t2 : ∃ a b, IsPair s.heap TO a b) (j1 : s.heap.IsListIter i1 l1 0) (j2 : s.heap.IsListIter i2 l2 0) (a1 : s.heap.IsList l1 xs) (a2 : s.heap.IsList l2 ys) (hnz : min xs.size ys.size ≤ sizeLine)
    (hQ : ∀ h' tk acc c ts, (∀ b u, b ≠ z → b ≠ TO → b ≠ i1 → b ≠ i2 → s.heap.get? b = some u → h'.get? b = some u) → h'.get? s.heap.objs.size = some { cls := .type "list", dict := none, data := .seq acc c, slots := #[] } → ts.length = min xs.size ys.size → TG xs ys s.heap.objs.size h' ts → acc.toList = ts.map Value.ref →
      Q (.ref s.heap.objs.size) { s with heap := h', toks := tk }) :
    wpAny (model pr ww) A (PySem.call (.type "list") [.ref z]) Q E s := by
  refine callType_codes (Q₁ := fun obj s₁ => obj = .ref s.heap.objs.size ∧ s₁ = { s with heap := s.heap.push { cls := .type "list", data := .seq #[] } }) F.called_list (F.typeCall_list_1 _) F.entry_list_init
    (code_list_new _ ⟨rfl, rfl⟩) fun obj s₁ h₁ => ?_
  obtain ⟨rfl, rfl⟩ := h₁
  have hS : (s.heap.push { cls := .type "list", data := .seq #[] }).get? s.heap.objs.size = some { cls := .type "list", data := .seq #[] } := Heap.get?_push_size _ rfl
  have lt : ∀ {c : Addr} {u : Obj}, s.heap.get? c = some u → c < s.heap.objs.size := fun e => Heap.lt_size e
  have ltI : ∀ {c l : Addr} {k : Nat}, s.heap.IsListIter c l k → c < s.heap.objs.size := fun ⟨u, e, _⟩ => Heap.lt_size e
  have ltL : ∀ {c : Addr} {v : Array Value}, s.heap.IsList c v → c < s.heap.objs.size := fun ⟨u, e, _⟩ => Heap.lt_size e
  obtain ⟨p, r, t2⟩ := t2
  have ok : ZA.Ok ⟨z, TI, TO, i1, i2, l1, l2, s.heap.objs.size⟩ := ⟨D, Nat.ne_of_gt (lt zz), Nat.ne_of_gt (lt t1), Nat.ne_of_gt (lt t2), Nat.ne_of_gt (ltI j1), Nat.ne_of_gt (ltI j2), Nat.ne_of_gt (ltL a1), Nat.ne_of_gt (ltL a2)⟩
  have pu : ∀ b u, s.heap.get? b = some u → (s.heap.push { cls := .type "list", data := .seq #[] }).get? b = some u := fun b u e => Heap.get?_push_of_some _ e
  refine ⟨⟨_, hS, rfl⟩, F.args_list_init_2 _ _, ?_⟩
  show wpAny (model pr ww) A.in1.in1 (do let old ← Builtin.List.listItems (.ref s.heap.objs.size); Builtin.List.listUpdate (.ref s.heap.objs.size) (fun _ => #[]); letGo old.toList.reverse; Builtin.List.listExtendWith (.ref s.heap.objs.size) (.ref z) .none) _ _ _
  refine wpAny_bind ?_
  unfold Builtin.List.listItems
  refine wpAny_bind (wpAny_seqItems hS rfl (wpAny_pure ?_))
  show wpAny (model pr ww) A.in1.in1 (updateSeq s.heap.objs.size (fun _ => #[]) >>= fun _ => letGo (#[] : Array Value).toList.reverse >>= fun _ => Builtin.List.listExtendWith (.ref s.heap.objs.size) (.ref z) .none) _ _ _
  refine wpAny_bind (wpAny_updateSeq hS rfl ?_)
  have g2 := Heap.get?_update_self (Obj.mapSeq (fun _ => (#[] : Array Value))) hS rfl
  have oth : ∀ b u, s.heap.get? b = some u → ((s.heap.push { cls := .type "list", data := .seq #[] }).update s.heap.objs.size (Obj.mapSeq (fun _ => (#[] : Array Value)))).get? b = some u :=
    fun b u e => (Heap.get?_update_other _ _ (Nat.ne_of_gt (Heap.lt_size e))).trans (pu b u e)
  refine wpAny_bind (wpAny_letGo ?_)
  refine ZA.extend (q := ⟨z, TI, TO, i1, i2, l1, l2, s.heap.objs.size⟩) (A := A.in1) hh ok _ rfl hnz ⟨lt zz, lt t2, ltI j1, ltI j2⟩ .none ⟨oth _ _ t1, j1.at fun u e => oth _ u e, j2.at fun u e => oth _ u e, .inl ⟨rfl, oth _ _ zz, p, r, oth _ _ t2⟩⟩ (oth _ _ zz) (a1.at fun u e => oth _ u e) (a2.at fun u e => oth _ u e) _ g2 fun h' tk acc c ts hk hS' hl hG hacc => ?_
  exact ⟨rfl, hQ h' tk acc c ts (fun b u h1 h2 h3 h4 e => hk b u (Nat.ne_of_lt (Heap.lt_size e)) h1 h2 h3 h4 (oth b u e)) hS' hl hG hacc⟩
end
end DLZ
namespace DL
open PySem L2 DLZ
section
variable {X : Cx} {W : WX} {ios : Ios}
def dListZip (da : DA) : DO := fun ρ R X => da ρ (fun xs ρ1 => ∃ ys zs, xs = [.lst ys, .lst zs] ∧ R (.l (zipD ys zs)) ρ1) X
end
section
variable {ρ : Env} {RO : Slot → Env → Prop} {X : XR}
def as2l : List Dat → Option (List Dat × List Dat)
  | [.lst j, .lst k] => some (j, k)
  | _ => none
theorem as2l_l {j k : List Dat} : as2l [.lst j, .lst k] = some (j, k) := rfl
theorem as2l_e {xs : List Dat} {p : List Dat × List Dat} : as2l xs = some p ↔ xs = [.lst p.1, .lst p.2] := by
  unfold as2l
  split
  · simp [Prod.ext_iff]
  · rename_i h
    exact ⟨fun e => (by cases e), fun e => absurd e (h p.1 p.2)⟩
theorem f_dListZip {da : DA} : dListZip da ρ RO X = da ρ (fun xs ρ1 => pick (as2l xs) (blk (fun p => RO (.l (zipD p.1 p.2)) ρ1) .mk)) X := by
  simp only [pickE, as2l_e]
  show da ρ _ X = da ρ _ X
  congr 1
  funext xs ρ1
  exact propext ⟨fun ⟨i, j, h⟩ => ⟨(i, j), h⟩, fun ⟨p, h⟩ => ⟨p.1, p.2, h⟩⟩
end
end DL
/-! DL: part 32: a new thing of its own lent to a callee as its first argument. -/
namespace DL
open PySem L2
section
variable {X : Cx} {W : WX} {ios : Ios}
def dCallT (pt : List (Option Nat)) (S : DSpec) (d0 : DO) (ds : DA) : DO := fun ρ R X => d0 ρ (fun s ρ1 => ds ρ1 (fun xs ρ2 => ∃ as, fillS ρ2 pt xs = some as ∧
  S (s :: as) (fun r os => os.length = (tgOf pt).length + 1 ∧ R r (putS ρ2 (tgOf pt) os.tail)) (fun c os => os.length = (tgOf pt).length + 1 ∧ X c (putS ρ2 (tgOf pt) os.tail))) X) X
end
section
variable {ρ : Env} {RO : Slot → Env → Prop} {X : XR}
theorem f_dCallT {pt : List (Option Nat)} {S : DSpec} {d0 : DO} {da : DA} : dCallT pt S d0 da ρ RO X = d0 ρ (fun s ρ0 => da ρ0 (fun xs ρ1 => pick (fillS ρ1 pt xs) (blk (fun args => S (s :: args) (blk (fun r os => os.length = (tgOf pt).length + 1 ∧ RO r (putS ρ1 (tgOf pt) os.tail)) .mk) (blk (fun c os => os.length = (tgOf pt).length + 1 ∧ X c (putS ρ1 (tgOf pt) os.tail)) .mk)) .mk)) X) X := by
  simp only [pickE]; rfl
end
end DL
/-! DL, part 33: list(range(..)), sorted(ints), one's own. -/
namespace DL
open PySem PySem.Spec L2
section
variable {X : Cx} {W : WX} {ios : Ios}
def dListRg1 (da : DA) : DO := fun ρ R X => da ρ (fun xs ρ1 => ∃ j : Int, xs = [.int j] ∧ RgOk 0 j ∧ R (.l (rngD 0 j.toNat)) ρ1) X
def dListRg2 (da : DA) : DO := fun ρ R X => da ρ (fun xs ρ1 => ∃ i j : Int, xs = [.int i, .int j] ∧ RgOk i j ∧ R (.l (rngD i (j - i).toNat)) ρ1) X
end
/-- sorted(whole numbers) -/
def fSortI : FL
  | [.lst xs], T => ∃ ns : List Int, xs = ns.map .int ∧ ∀ ns' : List Int, ns'.Perm ns → ns'.Pairwise (· ≤ ·) → T (ns'.map .int)
  | _, _ => False
section
variable {ρ : Env} {RO : Slot → Env → Prop} {X : XR}
theorem q_sortI {xs : List Dat} {T : List Dat → Prop} : fSortI [.lst xs] T = ∃ ns : List Int, xs = ns.map .int ∧ ∀ ns' : List Int, ns'.Perm ns → ns'.Pairwise (· ≤ ·) → T (ns'.map .int) := rfl
theorem f_dListRg1 {da : DA} : dListRg1 da ρ RO X = da ρ (fun xs ρ1 => pick (as1I xs) (blk (fun j => RgOk 0 j ∧ RO (.l (rngD 0 j.toNat)) ρ1) .mk)) X := by
  simp only [pickE, as1I_e]; rfl
theorem f_dListRg2 {da : DA} : dListRg2 da ρ RO X = da ρ (fun xs ρ1 => pick (as2I xs) (blk (fun p => RgOk p.1 p.2 ∧ RO (.l (rngD p.1 (p.2 - p.1).toNat)) ρ1) .mk)) X := by
  simp only [pickE, as2I_e]
  show da ρ _ X = da ρ _ X
  congr 1
  funext xs ρ1
  exact propext ⟨fun ⟨i, j, h⟩ => ⟨(i, j), h⟩, fun ⟨p, h⟩ => ⟨p.1, p.2, h⟩⟩
end
end DL
/-! DL, part 34: sorted(pairs of whole numbers), list.pop(i). -/
namespace DL
open PySem PySem.Spec L2
def prI (q : Int × Int) : Dat := .tup [.int q.1, .int q.2]
def leP (p q : Int × Int) : Prop := p.1 < q.1 ∨ (p.1 = q.1 ∧ p.2 ≤ q.2)
/-- sorted(pairs of whole numbers) -/
def fSortP : FL
  | [.lst xs], T => ∃ ps : List (Int × Int), xs = ps.map prI ∧ ∀ ps' : List (Int × Int), ps'.Perm ps → ps'.Pairwise leP → T (ps'.map prI)
  | _, _ => False
theorem q_sortP {xs : List Dat} {T : List Dat → Prop} : fSortP [.lst xs] T = ∃ ps : List (Int × Int), xs = ps.map prI ∧ ∀ ps' : List (Int × Int), ps'.Perm ps → ps'.Pairwise leP → T (ps'.map prI) := rfl
section
variable {X : Cx} {W : WX} {ios : Ios}
theorem Reps.eraseIdx {K : Frag} {F : Hp} {vs : List V} {xs : List Dat} (r : Reps K F vs xs) (k : Nat) : Reps K F (vs.eraseIdx k) (xs.eraseIdx k) := by
  rw [List.eraseIdx_eq_take_drop_succ, List.eraseIdx_eq_take_drop_succ]
  exact (r.take k).append (r.drop (k + 1))
/-- o.pop(e), o a slot's own list -/
def dPopAt (i : Nat) (d : DE) : DE := fun ρ R X => (∃ xs, ρ[i]? = some (some (.l xs))) ∧ d ρ (fun y ρ1 => ∃ xs j x, ρ1[i]? = some (some (.l xs)) ∧ y = .int j ∧ 0 ≤ j ∧ j < 2 ^ 62 ∧ xs[j.toNat]? = some x ∧ R x (ρ1.set i (some (.l (xs.eraseIdx j.toNat))))) X
end
section
variable {ρ : Env} {R : Dat → Env → Prop} {X : XR}
theorem f_dPopAt {i : Nat} {d : DE} : dPopAt i d ρ R X = pick (sL ρ[i]?) (blk (fun _ => d ρ (fun y ρ1 => pick (sL ρ1[i]?) (blk (fun xs => pick (asI y) (blk (fun j => 0 ≤ j ∧ j < 2 ^ 62 ∧ ∃ x, xs[j.toNat]? = some x ∧ R x (ρ1.set i (some (.l (xs.eraseIdx j.toNat))))) .mk)) .mk)) X) .mk) := by
  simp only [pickE, blk1, sL_i, asI_e]
  have e : (fun (y : Dat) (ρ1 : Env) => ∃ xs j x, ρ1[i]? = some (some (.l xs)) ∧ y = .int j ∧ 0 ≤ j ∧ j < 2 ^ 62 ∧ xs[j.toNat]? = some x ∧ R x (ρ1.set i (some (.l (xs.eraseIdx j.toNat))))) = fun y ρ1 => ∃ xs, ρ1[i]? = some (some (.l xs)) ∧ ∃ j, y = .int j ∧ 0 ≤ j ∧ j < 2 ^ 62 ∧ ∃ x, xs[j.toNat]? = some x ∧ R x (ρ1.set i (some (.l (xs.eraseIdx j.toNat)))) := by
    funext y ρ1
    exact propext ⟨fun ⟨xs, j, x, h1, h2, h3, h4, h5, h6⟩ => ⟨xs, h1, j, h2, h3, h4, x, h5, h6⟩, fun ⟨xs, h1, j, h2, h3, h4, x, h5, h6⟩ => ⟨xs, j, x, h1, h2, h3, h4, h5, h6⟩⟩
  show (_ ∧ d ρ _ X) = _
  rw [e]
  exact propext ⟨fun ⟨⟨s, h⟩, k⟩ => ⟨s, h, k⟩, fun ⟨s, h, k⟩ => ⟨⟨s, h⟩, k⟩⟩
end
end DL
/-! DL, part 35: dict(pairs). -/
namespace DL
open PySem PySem.Spec L2
def kvP (kv : Key × Dat) : Dat := .tup [kD kv.1, kv.2]
/-- dict(list of pairs) -/
def dDictP (da : DA) : DO := fun ρ R X => da ρ (fun xs ρ1 => ∃ kvs : List (Key × Dat), xs = [.lst (kvs.map kvP)] ∧ R (.k (mergeD kvs)) ρ1) X
section
variable {ρ : Env} {RO : Slot → Env → Prop} {X : XR}
theorem w_dDictP {da : DA} : dDictP da ρ RO X = da ρ (fun xs ρ1 => ∃ kvs : List (Key × Dat), xs = [.lst (kvs.map kvP)] ∧ RO (.k (mergeD kvs)) ρ1) X := rfl
end
end DL
/-! DL, part 36: an own dict of tuple keys is read. -/
namespace DL
open PySem PySem.Spec L2
section
variable {X : Cx} {W : WX} {ios : Ios}
/-- e not in o, o a slot's own dict of tuple keys -/
def dOwnNotinT (i : Nat) (dk : DE) : DT := fun ρ R X => dk ρ (fun k ρ1 => ∃ kvs ds ks, ρ1[i]? = some (some (.t kvs)) ∧ k = .tup ds ∧ keysOf ds = some ks ∧ R (!(valD kvs ks).isSome) ρ1) X
/-- o[e], o a slot's own dict of tuple keys -/
def dOwnGetT (i : Nat) (dk : DE) : DE := fun ρ R X => (∃ s, ρ[i]? = some (some (.t s))) ∧ dk ρ (fun k ρ1 => ∃ kvs ds ks y, ρ1[i]? = some (some (.t kvs)) ∧ k = .tup ds ∧ keysOf ds = some ks ∧ valD kvs ks = some y ∧ R y ρ1) X
end
end DL
/-! DL, part 37: for k, v in d.items(), d a dict of tuple keys that is still. -/
namespace DL
open PySem PySem.Spec L2
section
variable {X : Cx} {W : WX} {ios : Ios}
def diItemsT (d : DE) : DI := fun ρ R X => d ρ (fun x ρ1 => ∃ kvs, x = .dt kvs ∧ R (kvs.map fun kv => .tup [.tup (kv.1.map kD), kv.2]) ρ1) X
end
end DL
/-! DL, part 38: list(d.values()), d a still dict of tuple keys. -/
namespace DL
open PySem PySem.Spec L2
section
variable {X : Cx} {W : WX} {ios : Ios}
def dListValsT (d : DE) : DO := fun ρ R X => d ρ (fun x ρ1 => ∃ kvs, x = .dt kvs ∧ R (.l (kvs.map (·.2))) ρ1) X
end
end DL
/-! DL, part 39: {key: value}, the key a tuple. -/
namespace PySem
open Sem (wp)
end PySem
namespace DL
open PySem PySem.Spec L2
def dDispT1 (dk dv : DE) : DO := fun ρ R X => dk ρ (fun k ρ1 => ∃ ds ks, k = .tup ds ∧ keysOf ds = some ks ∧ dv ρ1 (fun v ρ2 => R (.t [(ks, v)]) ρ2) X) X
end DL
/-! DL, part 40: sorted(a tuple of whole numbers). -/
namespace DL
open PySem PySem.Spec L2
def fSortIT : FL
  | [.tup xs], T => ∃ ns : List Int, xs = ns.map .int ∧ ∀ ns' : List Int, ns'.Perm ns → ns'.Pairwise (· ≤ ·) → T (ns'.map .int)
  | _, _ => False
theorem q_sortIT {xs : List Dat} {T : List Dat → Prop} : fSortIT [.tup xs] T = ∃ ns : List Int, xs = ns.map .int ∧ ∀ ns' : List Int, ns'.Perm ns → ns'.Pairwise (· ≤ ·) → T (ns'.map .int) := rfl
end DL
/-! DL, part 41: the walk's equations for dicts of tuple keys. -/
namespace DL
open PySem L2
def sT : Option (Option Slot) → Option (List (List Key × Dat))
  | some (some (.t k)) => some k
  | _ => none
theorem sT_t {k : List (List Key × Dat)} : sT (some (some (.t k))) = some k := rfl
theorem sT_i {o : Option (Option Slot)} {k : List (List Key × Dat)} : sT o = some k ↔ o = some (some (.t k)) := by
  constructor
  · intro h
    unfold sT at h
    split at h
    · cases h; rfl
    · cases h
  · rintro rfl
    rfl
def asTu : Dat → Option (List Dat)
  | .tup k => some k
  | _ => none
theorem asTu_t {k : List Dat} : asTu (.tup k) = some k := rfl
theorem asTu_e {x : Dat} {k : List Dat} : asTu x = some k ↔ x = .tup k := by
  cases x <;> simp [asTu]
def asDt : Dat → Option (List (List Key × Dat))
  | .dt k => some k
  | _ => none
theorem asDt_t {k : List (List Key × Dat)} : asDt (.dt k) = some k := rfl
theorem asDt_e {x : Dat} {k : List (List Key × Dat)} : asDt x = some k ↔ x = .dt k := by
  cases x <;> simp [asDt]
section
variable {ρ : Env} {X : XR}
theorem f_dOwnNotinT {i : Nat} {dk : DE} {R : Bool → Env → Prop} : dOwnNotinT i dk ρ R X = dk ρ (fun k ρ1 => pick (sT ρ1[i]?) (blk (fun kvs => pick (asTu k) (blk (fun ds => pick (keysOf ds) (blk (fun ks => R (!(valD kvs ks).isSome) ρ1) .mk)) .mk)) .mk)) X := by
  simp only [pickE, blk1, sT_i, asTu_e]
  show dk ρ _ X = dk ρ _ X
  congr 1
  funext k ρ1
  exact propext ⟨fun ⟨a, b, c, h1, h2, h3, h4⟩ => ⟨a, h1, b, h2, c, h3, h4⟩, fun ⟨a, h1, b, h2, c, h3, h4⟩ => ⟨a, b, c, h1, h2, h3, h4⟩⟩
theorem f_dOwnGetT {i : Nat} {dk : DE} {R : Dat → Env → Prop} : dOwnGetT i dk ρ R X = pick (sT ρ[i]?) (blk (fun _ => dk ρ (fun k ρ1 => pick (sT ρ1[i]?) (blk (fun kvs => pick (asTu k) (blk (fun ds => pick (keysOf ds) (blk (fun ks => pick (valD kvs ks) (blk (fun y => R y ρ1) .mk)) .mk)) .mk)) .mk)) X) .mk) := by
  simp only [pickE, blk1, sT_i, asTu_e]
  have e : (fun (k : Dat) (ρ1 : Env) => ∃ kvs ds ks y, ρ1[i]? = some (some (.t kvs)) ∧ k = .tup ds ∧ keysOf ds = some ks ∧ valD kvs ks = some y ∧ R y ρ1) = fun k ρ1 => ∃ kvs, ρ1[i]? = some (some (.t kvs)) ∧ ∃ ds, k = .tup ds ∧ ∃ ks, keysOf ds = some ks ∧ ∃ y, valD kvs ks = some y ∧ R y ρ1 := by
    funext k ρ1
    exact propext ⟨fun ⟨a, b, c, d, h1, h2, h3, h4, h5⟩ => ⟨a, h1, b, h2, c, h3, d, h4, h5⟩, fun ⟨a, h1, b, h2, c, h3, d, h4, h5⟩ => ⟨a, b, c, d, h1, h2, h3, h4, h5⟩⟩
  show (_ ∧ dk ρ _ X) = _
  rw [e]
  exact propext ⟨fun ⟨⟨s, h⟩, k⟩ => ⟨s, h, k⟩, fun ⟨s, h, k⟩ => ⟨⟨s, h⟩, k⟩⟩
theorem f_diItemsT {d : DE} {RA : List Dat → Env → Prop} : diItemsT d ρ RA X = d ρ (fun x ρ1 => pick (asDt x) (blk (fun kvs => RA (kvs.map fun kv => .tup [.tup (kv.1.map kD), kv.2]) ρ1) .mk)) X := by
  simp only [pickE, asDt_e]; rfl
theorem f_dListValsT {d : DE} {RO : Slot → Env → Prop} : dListValsT d ρ RO X = d ρ (fun x ρ1 => pick (asDt x) (blk (fun kvs => RO (.l (kvs.map (·.2))) ρ1) .mk)) X := by
  simp only [pickE, asDt_e]; rfl
theorem f_dDispT1 {dk dv : DE} {RO : Slot → Env → Prop} : dDispT1 dk dv ρ RO X = dk ρ (fun k ρ1 => pick (asTu k) (blk (fun ds => pick (keysOf ds) (blk (fun ks => dv ρ1 (fun v ρ2 => RO (.t [(ks, v)]) ρ2) X) .mk)) .mk)) X := by
  simp only [pickE, blk1, asTu_e]
  show dk ρ _ X = dk ρ _ X
  congr 1
  funext k ρ1
  exact propext ⟨fun ⟨a, b, h1, h2, h3⟩ => ⟨a, h1, b, h2, h3⟩, fun ⟨a, h1, b, h2, h3⟩ => ⟨a, b, h1, h2, h3⟩⟩
end
theorem keysOf_nil : keysOf [] = some [] := rfl
end DL
/-! DL, part 42: sorted(rows (word, a, b)), the word one and the same. -/
namespace L2
open PySem PySem.Spec PyProof.Rows
end L2
namespace DL
open PySem PySem.Spec L2
def nmI (z : Str) (q : Int × Int) : Dat := .tup [.str z, .int q.1, .int q.2]
/-- sorted(rows of one word and two whole numbers) -/
def fSortN : FL
  | [.lst xs], T => ∃ (z : Str) (ps : List (Int × Int)), xs = ps.map (nmI z) ∧ ∀ ps' : List (Int × Int), ps'.Perm ps → ps'.Pairwise leP → T (ps'.map (nmI z))
  | _, _ => False
theorem q_sortN {xs : List Dat} {T : List Dat → Prop} : fSortN [.lst xs] T = ∃ (z : Str) (ps : List (Int × Int)), xs = ps.map (nmI z) ∧ ∀ ps' : List (Int × Int), ps'.Perm ps → ps'.Pairwise leP → T (ps'.map (nmI z)) := rfl
end DL
/-! DL, part 43: a new tuple (list, whole number) of one's own; the list within it is read and changed. -/
namespace DL
open PySem L2
/-- a tuple of an own list and a whole number: the tuple lies still, the list is one's own -/
def tpo (xs : List Dat) (n : Int) : Own where
  rep := fun K F H v fp => ∃ t p vs, v = .ref t ∧ F t = some (.tup [.ref p, .int n]) ∧ H p = some (.lst vs) ∧ Reps K F vs xs ∧ ∀ a, fp a ↔ a = p
  stay := fun ⟨t, p, vs, e, h1, h2, h3, h4⟩ sm k => ⟨t, p, vs, e, sm _ _ h1, (k p ((h4 p).mpr rfl)).trans h2, h3.mono sm, h4⟩
  dat := some (.tup [.lst xs, .int n])
  frz := fun e ⟨t, p, vs, ev, h1, h2, h3, h4⟩ => ⟨p, _, h2, h4, fun F' sm hp => by
    cases e
    subst ev
    refine .tup (sm _ _ h1) rfl fun i v x g1 g2 => ?_
    match i with
    | 0 => cases g1; cases g2; exact .lst hp h3.len (h3.mono sm).at_
    | 1 => cases g1; cases g2; exact .int _
    | i + 2 => cases g1⟩
theorem tpo_dat {xs : List Dat} {n : Int} : (tpo xs n).dat = some (.tup [.lst xs, .int n]) := rfl
section
variable {X : Cx} {W : WX} {ios : Ios}
/-- (l, e): l a new list, e a whole number, told by a look -/
def dPairO (dl : DO) (de : DE) : DO := fun ρ R X => dl ρ (fun r ρ1 => ∃ xs, r = .l xs ∧ de (stillE ρ1) (fun y _ => ∃ i, y = .int i ∧ R (.o (tpo xs i)) ρ1) (fun _ _ => False)) X
/-- a new list of flat things, made by a look -/
def dPeekO (d : DO) : DO := fun ρ R X => d (stillE ρ) (fun r _ => ∃ xs, r = .l xs ∧ xs.all flatD = true ∧ R (.l xs) ρ) (fun _ _ => False)
end
/-! ### the walk's equations -/
section
variable {ρ : Env} {X : XR} {D : DK}
theorem f_dPairO {dl : DO} {de : DE} {R : Slot → Env → Prop} : dPairO dl de ρ R X = dl ρ (fun r ρ1 => pick (sL (some (some r))) (blk (fun xs => de (stillE ρ1) (fun y _ => pick (asI y) (blk (fun i => R (.o (tpo xs i)) ρ1) .mk)) (fun _ _ => False)) .mk)) X := by
  simp only [pickE, blk1, sL_i, asI_e, Option.some.injEq]
  rfl
theorem f_dPeekO {d : DO} {R : Slot → Env → Prop} : dPeekO d ρ R X = d (stillE ρ) (fun r _ => pick (sL (some (some r))) (blk (fun xs => xs.all flatD = true ∧ R (.l xs) ρ) .mk)) (fun _ _ => False) := by
  simp only [pickE, blk1, sL_i, Option.some.injEq]
  rfl
end
end DL
/-! DL, part 44: an instance with rows of its own (Slot.h): its fields, its dicts by address. -/
namespace DL
open PySem L2
def HS.at_ (S : HS) (a : Addr) : Option (List (Key × Dat)) := (S.cells.find? fun c => decide (c.1 = a)).map (·.2)
def HS.put (S : HS) (a : Addr) (kvs : List (Key × Dat)) : HS := { S with cells := S.cells.map fun c => if c.1 = a then (a, kvs) else c }
def HS.new (S : HS) (a : Addr) (kvs : List (Key × Dat)) : HS := { S with cells := S.cells ++ [(a, kvs)] }
def HS.app (S : HS) (a : Addr) : HS := { S with rows := S.rows ++ [a] }
def HS.setM (S : HS) (n : Int) : HS := { S with makes := n }
def asP : Dat → Option Addr
  | .ptr a => some a
  | _ => none
def sH : Option (Option Slot) → Option (Addr × HS)
  | some (some (.h C S)) => some (C, S)
  | _ => none
theorem asP_p {a : Addr} : asP (.ptr a) = some a := rfl
theorem sH_h {C : Addr} {S : HS} : sH (some (some (.h C S))) = some (C, S) := rfl
section
variable {K : Frag} {fr : Fr} {F H : Hp} {ρ : Env} {σ : St} {fps : Nat → Addr → Prop}
theorem valK_rep : ∀ {ws : List (Key × V)} {kvs : List (Key × Dat)} {k : Key} {y : Dat}, RepsK K F ws kvs → valD kvs k = some y → ∃ v, valV ws k = some v ∧ Rep K F v y
  | [], [], k, y, _, h => by simp [valD] at h
  | [], _ :: _, k, y, r, _ => by have := r.keys; simp at this
  | _ :: _, [], k, y, r, _ => by have := r.keys; simp at this
  | (w1, w2) :: ws, (q1, q2) :: kvs, k, y, r, h => by
    have hk := r.keys
    simp only [List.map_cons, List.cons.injEq] at hk
    obtain ⟨h1, h2⟩ := hk
    subst h1
    by_cases e : w1 = k
    · subst e
      have h0 : valD ((w1, q2) :: kvs) w1 = some q2 := by simp [valD]
      rw [h0] at h
      cases h
      exact ⟨w2, valV_pos rfl, r.at_ 0 w1 w1 w2 q2 rfl rfl⟩
    · have h3 : valD ((w1, q2) :: kvs) k = valD kvs k := by simp [valD, e]
      rw [h3] at h
      obtain ⟨v, h4, h5⟩ := valK_rep (ws := ws) (kvs := kvs) ⟨h2, fun i a b v x g1 g2 => r.at_ (i + 1) a b v x (by simpa using g1) (by simpa using g2)⟩ h
      exact ⟨v, by rw [valV_neg e]; exact h4, h5⟩
end
section
variable {X : Cx} {W : WX} {ios : Ios} {C : Addr}
/-- o.makes_there -/
def dMakes (C : Addr) (i : Nat) : DE := fun ρ R _ => ∃ S, ρ[i]? = some (some (.h C S)) ∧ R (.int S.makes) ρ
/-- r["k"], r an address of a dict of the instance in slot i -/
def dRowGet (i : Nat) (de : DE) (k : Str) : DE := fun ρ R X => de ρ (fun x ρ1 => pick (asP x) (blk (fun a => pick (sH ρ1[i]?) (blk (fun S => pick (S.2.at_ a) (blk (fun kvs => pick (valD kvs (.inr k)) (blk (fun y => R y ρ1) .mk)) .mk)) .mk)) .mk)) X
/-- r["k"] = e -/
def dRowSet (i : Nat) (de : DE) (k : Str) (dv : DE) : DS := fun D ρ => dv ρ (fun y ρ1 => de ρ1 (fun x ρ2 => pick (asP x) (blk (fun a => pick (sH ρ2[i]?) (blk (fun S => pick (S.2.at_ a) (blk (fun kvs => kvs.length < sizeLine ∧ D.nx (ρ2.set i (some (.h S.1 (S.2.put a (putD kvs (.inr k) y)))))) .mk)) .mk)) .mk)) D.ex) D.ex
/-- o.makes_there = e -/
def dSetMakes (C : Addr) (i : Nat) (dv : DE) : DS := fun D ρ => dv ρ (fun y ρ1 => pick (asI y) (blk (fun n => ∃ S, ρ1[i]? = some (some (.h C S)) ∧ D.nx (ρ1.set i (some (.h C (S.setM n))))) .mk)) D.ex
/-- a slot's thing is told anew, with new addresses of its own -/
theorem SR.putS {K : Frag} {fr : Fr} {F H : Hp} {ρ : Env} {σ : St} {fps : Nat → Addr → Prop} {i : Nat} {s s' : Slot} {fp : Addr → Prop} (r : SR K fr F H ρ σ fps) (hs : ρ[i]? = some (some s)) (h : ∀ v, σ[i]? = some (some v) → SlotRep K F H s' v fp)
    (hf : ∀ a, fp a → fps i a ∨ (F a = none ∧ H a ≠ none ∧ fr.H a = none ∧ ¬ IsT H a ∧ ∀ j, ¬ fps j a)) : SR K fr F H (ρ.set i (some s')) σ (fun j a => if j = i then fp a else fps j a) where
  sub := r.sub
  le := r.le
  keep := r.keep
  tr := r.tr
  fresh := r.fresh
  slots := fun j t e => by
    rcases getSet e with ⟨e1, e2⟩ | ⟨e1, e2⟩
    · subst e1
      cases e2
      obtain ⟨v, h1, _⟩ := r.slots i s hs
      refine ⟨v, h1, ?_⟩
      have ef : (fun a => if i = i then fp a else fps i a) = fp := funext fun a => if_pos rfl
      rw [ef]
      exact h v h1
    · obtain ⟨v, h1, h2⟩ := r.slots j t e2
      refine ⟨v, h1, ?_⟩
      have ef : (fun a => if j = i then fp a else fps j a) = fps j := funext fun a => if_neg (Ne.symm e1)
      rw [ef]
      exact h2
  own := fun j a q => by
    by_cases c : j = i
    · simp only [if_pos c] at q
      rcases hf a q with z | ⟨z1, z2, z3, _⟩
      · rw [c]; exact r.own i a z
      · exact ⟨z1, z2, .inl z3⟩
    · simp only [if_neg c] at q; exact r.own j a q
  apart := fun j k a q1 q2 => by
    by_cases c : j = i
    · by_cases c' : k = i
      · rw [c, c']
      · simp only [if_pos c, if_neg c'] at q1 q2
        rcases hf a q1 with z | ⟨_, _, _, _, z⟩
        · rw [c]; exact r.apart i k a z q2
        · exact absurd q2 (z k)
    · by_cases c' : k = i
      · simp only [if_neg c, if_pos c'] at q1 q2
        rcases hf a q2 with z | ⟨_, _, _, _, z⟩
        · rw [c']; exact r.apart j i a q1 z
        · exact absurd q1 (z j)
      · simp only [if_neg c, if_neg c'] at q1 q2
        exact r.apart j k a q1 q2
  io := r.io
  len := by simp [r.len]
  nt := fun j a q => by
    by_cases c : j = i
    · simp only [if_pos c] at q
      rcases hf a q with z | ⟨_, _, _, z, _⟩
      · exact r.nt i a z
      · exact z
    · simp only [if_neg c] at q; exact r.nt j a q
  tk := r.tk
/-- o.rows_laid.append(e) -/
def dRowsApp (C : Addr) (i : Nat) (d : DE) : DS := fun D ρ => (∃ S, ρ[i]? = some (some (.h C S))) ∧ d ρ (fun x ρ1 => pick (asP x) (blk (fun a => ∃ S, ρ1[i]? = some (some (.h C S)) ∧ S.rows.length < sizeLine ∧ D.nx (ρ1.set i (some (.h C (S.app a))))) .mk)) D.ex
/-- name = {..}: a new dict, of the instance's own -/
def dRowNew (C : Addr) (i j : Nat) (d : DO) : DS := fun D ρ => d ρ (fun r ρ1 => ∃ kvs S, r = .k kvs ∧ ρ1[i]? = some (some (.h C S)) ∧ ∀ a, a ∉ S.cells.map (·.1) → D.nx ((ρ1.set i (some (.h C (S.new a kvs)))).set j (some (.d (.ptr a))))) D.ex
/-- a bare instance; one with its list alone -/
def newO (C : Addr) : Own where
  rep := fun K F H v fp => ∃ p dx, v = .ref p ∧ H p = some (.ins C dx []) ∧ ∀ a, fp a ↔ a = p
  stay := fun ⟨p, dx, e, h1, h2⟩ _ k => ⟨p, dx, e, (k p ((h2 p).mpr rfl)).trans h1, h2⟩
  dat := none
  frz := fun e => by cases e
end
end DL
/-! DL, part 45: loops and comprehensions over what lies in a slot of one's own and stays there. -/
namespace DL
open PySem L2
abbrev DIP := DL.Env → (List Dat → (DL.Env → Prop) → DL.Env → Prop) → XR → Prop
def dForP (it : DIP) (g : DG) (body : DS) : DS := fun D ρ => it ρ (fun xs P ρ1 => ∃ I : Nat → DL.Env → Prop, I 0 ρ1 ∧
  (∀ i y ρ2, xs[i]? = some y → I i ρ2 → P ρ2 ∧ g y ρ2 fun ρ3 => body { D with nx := I (i + 1), ct := I (i + 1), bk := D.nx } ρ3) ∧ ∀ ρ2, I xs.length ρ2 → P ρ2 ∧ D.nx ρ2) D.ex
def dLcP (it : DIP) (g : DG) (tt : DT) (te : DE) (vs : List Nat) : DO := fun ρ R X => it ρ (fun xs P ρ1 => ∃ I : Nat → List Dat → DL.Env → Prop, I 0 [] ρ1 ∧
  (∀ i y acc ρ2, xs[i]? = some y → I i acc ρ2 → P ρ2 ∧ plainE ρ2 vs ∧ acc.length < sizeLine ∧ g y (wipeE ρ2 vs) fun ρ3 => tt ρ3 (fun b ρ4 => if b = true then te ρ4 (fun z ρ5 => I (i + 1) (acc ++ [z]) (backE ρ2 ρ5 vs)) noX else I (i + 1) acc (backE ρ2 ρ4 vs)) noX) ∧
  ∀ acc ρ2, I xs.length acc ρ2 → P ρ2 ∧ R (.l acc) ρ2) X
section
variable {X : Cx} {W : WX} {ios : Ios}
/-- o.rows_laid, walked -/
def rowsStay (C : Addr) (i : Nat) (S : HS) : DL.Env → Prop := fun ρ => ∃ S', ρ[i]? = some (some (.h C S')) ∧ S'.l = S.l ∧ S'.rows = S.rows
def diRows (C : Addr) (i : Nat) : DIP := fun ρ R _ => ∃ S, ρ[i]? = some (some (.h C S)) ∧ R (S.rows.map Dat.ptr) (rowsStay C i S) ρ
/-- d.pop(k), d a slot's own dict, the key there -/
def dropD (kvs : List (Key × Dat)) (k : Key) : List (Key × Dat) := kvs.filter fun kv => decide (kv.1 ≠ k)
def dPopK (i : Nat) (d : DE) : DE := fun ρ R X => (∃ kvs, ρ[i]? = some (some (.k kvs))) ∧ d ρ (fun y ρ1 => ∃ kvs ky x, ρ1[i]? = some (some (.k kvs)) ∧ keyOf y = some ky ∧ valD kvs ky = some x ∧ R x (ρ1.set i (some (.k (dropD kvs ky))))) X
theorem drop_rep {K : Frag} {F : Hp} (k : Key) : ∀ {ws : List (Key × V)} {kvs : List (Key × Dat)}, RepsK K F ws kvs → RepsK K F (dropK ws k) (dropD kvs k)
  | [], [], r => r
  | [], _ :: _, r => by have := r.keys; simp at this
  | _ :: _, [], r => by have := r.keys; simp at this
  | (w1, w2) :: ws, (q1, q2) :: kvs, r => by
    have hk := r.keys
    simp only [List.map_cons, List.cons.injEq] at hk
    obtain ⟨h1, h2⟩ := hk
    subst h1
    have ih := drop_rep k (ws := ws) (kvs := kvs) ⟨h2, fun i a b v x g1 g2 => r.at_ (i + 1) a b v x (by simpa using g1) (by simpa using g2)⟩
    unfold dropK dropD at ih ⊢
    rw [List.filter_cons, List.filter_cons]
    simp only
    by_cases e : w1 = k
    · rw [if_neg (by simp [e]), if_neg (by simp [e])]
      exact ih
    · rw [if_pos (by simp [e]), if_pos (by simp [e])]
      exact repsK_cons (r.at_ 0 w1 w1 w2 q2 rfl rfl) ih
theorem je_popK (i : Nat) {x : Str} {e : Expr} {d : DE} {p0 apos cpos : Pos} (h : JE X W ios e d) (m : M1 X (.Name x p0) "pop" apos e cpos := by exact ⟨rfl, rfl, rfl, rfl⟩) (hN : X.N[i]? = some x := by rfl) (hv : Vis X.env.scope x := by first | exact Or.inl rfl | exact Or.inr (Or.inl rfl) | exact Or.inr (Or.inr rfl)) (hd : (x == ("__debug__" : Str)) = false := by decide) (hcd : (x == ("__classdict__" : Str)) = false := by decide) :
    JE X W ios (.Call (.Attribute (.Name x p0) "pop" apos) [e] [] cpos) (dPopK i d) := by
  refine pe_imp (pe_dpop1 (pe_var hN hv hd hcd) h m) fun σ H Q ⟨fr, F, ρ, fps, R, XX, ok, sr, ⟨⟨kvs0, e0⟩, hd⟩, hq, hx⟩ => ?_
  obtain ⟨v0, g, p, ws0, rfl, hp, rp, fp⟩ := sr.slots i _ e0
  refine ⟨_, g, p, rfl, .inl ⟨_, .inl hp⟩, ?_⟩
  refine ⟨fr, F, ρ, fps, _, XX, ok, sr, hd, fun u F1 H1 y ρ1 fps1 s1 m1 r1 ⟨kvs, ky, z, e1, ek, hval, hR⟩ => ?_, hx⟩
  obtain ⟨v1, g1, q, ws, ev, hq2, rq, fq⟩ := s1.slots i _ e1
  rw [g] at g1
  cases g1
  cases ev
  have eu : u = kV ky := key_rep r1 ek
  subst eu
  obtain ⟨w, hw, rw_⟩ := valK_rep rq hval
  refine ⟨ws, ky, w, hq2, rfl, hw, ?_⟩
  exact hq w F1 _ z _ fps1 (s1.write e1 ((fq p).mpr rfl) fun v' hv' => by
    rw [g] at hv'
    cases hv'
    exact ⟨p, _, rfl, upd_same, drop_rep ky rq, fq⟩) m1 rw_ hR
end
end DL
/-! DL, part 46: methods called, instances made. -/
namespace DL
open PySem L2
section
variable {X : Cx} {W : WX} {ios : Ios}
/-- e in o, e not in o, o a slot's own dict -/
def dOwnIn (n : Bool → Bool) (i : Nat) (dk : DE) : DT := fun ρ R X => dk ρ (fun k ρ1 => ∃ kvs ky, ρ1[i]? = some (some (.k kvs)) ∧ keyOf k = some ky ∧ R (n (valD kvs ky).isSome) ρ1) X
end
/-! ### methods at the hand layer, errors at the caller's slots -/
/-! ### over data -/
/-- a method of the text, by its promise over data -/
def HasM (P : Program) (w : World) (K : Frag) (mg : Str → Option Value) (base : Heap) (k : Nat) (C : Addr) (m : Str) (ps : List Str) (ios : List Nat) (S : DSpec) : Prop :=
  ∃ f fd, FnOk P w K mg base (L2.CX P w) k f fd ps (spD K ios S) ∧ Meth K C m f ∧ Binds K fd ps []
theorem HasM.mono {P : Program} {w : World} {K : Frag} {mg : Str → Option Value} {base : Heap} {j k : Nat} {C : Addr} {m : Str} {ps : List Str} {ios : List Nat} {S : DSpec} (h : HasM P w K mg base j C m ps ios S) (l : j ≤ k) : HasM P w K mg base k C m ps ios S := by
  obtain ⟨f, fd, h1, h2⟩ := h
  exact ⟨f, fd, h1.mono l, h2⟩
theorem HasM.imp {P : Program} {w : World} {K : Frag} {mg : Str → Option Value} {base : Heap} {k : Nat} {C : Addr} {m : Str} {ps : List Str} {ios : List Nat} {S S' : DSpec} (h : HasM P w K mg base k C m ps ios S) (i : ∀ a R X, S' a R X → S a R X) : HasM P w K mg base k C m ps ios S' := by
  obtain ⟨f, fd, h1, h2⟩ := h
  exact ⟨f, fd, h1.imp (spD_imp i), h2⟩
section
variable {X : Cx} {W : WX} {ios : Ios}
/-- o.m(..), o a slot's instance -/
def dMeth (C : Addr) (i : Nat) (pt : List (Option Nat)) (S : DSpec) (da : DA) : DO := fun ρ R X => (∃ S0, ρ[i]? = some (some (.h C S0))) ∧ da ρ (fun xs ρ1 => ∃ args, fillS ρ1 (some i :: pt) xs = some args ∧
  S args (fun r os => os.length = (tgOf (some i :: pt)).length ∧ R r (putS ρ1 (tgOf (some i :: pt)) os)) (fun c os => os.length = (tgOf (some i :: pt)).length ∧ X c (putS ρ1 (tgOf (some i :: pt)) os))) X
/-- C(..): the instance made, all arguments data -/
def dMake (C : Addr) (S : DSpec) (da : DA) : DO := fun ρ R X => da ρ (fun xs ρ1 => S (.o (newO C) :: xs.map Slot.d) (fun r os => r = .d .non ∧ ∃ t, os = [t] ∧ R t ρ1) (fun c os => ∃ t : Slot, os = [t] ∧ X c ρ1)) X
end
end DL
/-! DL, part 47: methods of the text by their promises. -/
namespace DL
open PySem L2
/-- a class's making, by its __init__'s promise -/
def HasI (P : Program) (w : World) (K : Frag) (mg : Str → Option Value) (base : Heap) (k : Nat) (C : Addr) (ps : List Str) (S : DSpec) : Prop :=
  ∃ f fd j, j + 1 ≤ k ∧ FnOk P w K mg base (L2.CX P w) j f fd ps (spD K [0] S) ∧ Mk K C f ∧ Binds K fd ps []
theorem HasI.mono {P : Program} {w : World} {K : Frag} {mg : Str → Option Value} {base : Heap} {j k : Nat} {C : Addr} {ps : List Str} {S : DSpec} (h : HasI P w K mg base j C ps S) (l : j ≤ k) : HasI P w K mg base k C ps S := by
  obtain ⟨f, fd, i, hi, h1, h2⟩ := h
  exact ⟨f, fd, i, Nat.le_trans hi l, h1, h2⟩
/-! ### the walk's equations -/
section
variable {ρ : DL.Env} {X : XR} {D : DK} {C : Addr}
theorem f_dMeth {i : Nat} {pt : List (Option Nat)} {S : DSpec} {da : DA} {RO : Slot → DL.Env → Prop} : dMeth C i pt S da ρ RO X = ((∃ S0, ρ[i]? = some (some (.h C S0))) ∧ da ρ (fun xs ρ1 => pick (fillS ρ1 (some i :: pt) xs) (blk (fun args => S args (blk (fun r os => os.length = (tgOf (some i :: pt)).length ∧ RO r (putS ρ1 (tgOf (some i :: pt)) os)) .mk) (blk (fun c os => os.length = (tgOf (some i :: pt)).length ∧ X c (putS ρ1 (tgOf (some i :: pt)) os)) .mk)) .mk)) X) := by
  simp only [pickE]; rfl
theorem f_dMake {S : DSpec} {da : DA} {RO : Slot → DL.Env → Prop} : dMake C S da ρ RO X = da ρ (fun xs ρ1 => S (.o (newO C) :: xs.map Slot.d) (blk (fun r os => r = .d .non ∧ ∃ t, os = [t] ∧ RO t ρ1) .mk) (blk (fun c os => ∃ t : Slot, os = [t] ∧ X c ρ1) .mk)) X := rfl
theorem f_dRowGet {i : Nat} {de : DE} {k : Str} {R : Dat → DL.Env → Prop} : dRowGet i de k ρ R X = de ρ (fun x ρ1 => pick (asP x) (blk (fun a => pick (sH ρ1[i]?) (blk (fun S => pick (S.2.at_ a) (blk (fun kvs => pick (valD kvs (.inr k)) (blk (fun y => R y ρ1) .mk)) .mk)) .mk)) .mk)) X := rfl
theorem f_dRowSet {i : Nat} {de dv : DE} {k : Str} : dRowSet i de k dv D ρ = dv ρ (fun y ρ1 => de ρ1 (fun x ρ2 => pick (asP x) (blk (fun a => pick (sH ρ2[i]?) (blk (fun S => pick (S.2.at_ a) (blk (fun kvs => kvs.length < sizeLine ∧ D.nx (ρ2.set i (some (.h S.1 (S.2.put a (putD kvs (.inr k) y)))))) .mk)) .mk)) .mk)) D.ex) D.ex := rfl
def FoPP (P : DL.Env → Prop) (g : DG) (body : DS) (D : DK) (xs : List Dat) (ρ1 : DL.Env) : Prop := ∃ I : Nat → DL.Env → Prop, I 0 ρ1 ∧
  (∀ i y ρ2, xs[i]? = some y → I i ρ2 → P ρ2 ∧ g y ρ2 fun ρ3 => body { D with nx := I (i + 1), ct := I (i + 1), bk := D.nx } ρ3) ∧ ∀ ρ2, I xs.length ρ2 → P ρ2 ∧ D.nx ρ2
theorem FoPP.mk {P : DL.Env → Prop} {g : DG} {body : DS} {xs : List Dat} {ρ1 : DL.Env} (I : Nat → DL.Env → Prop) (h0 : I 0 ρ1)
    (hs : ∀ i y ρ2, xs[i]? = some y → I i ρ2 → P ρ2 ∧ g y ρ2 fun ρ3 => body { D with nx := I (i + 1), ct := I (i + 1), bk := D.nx } ρ3) (he : ∀ ρ2, I xs.length ρ2 → P ρ2 ∧ D.nx ρ2) : FoPP P g body D xs ρ1 := ⟨I, h0, hs, he⟩
theorem f_dForP {it : DIP} {g : DG} {body : DS} : dForP it g body D ρ = it ρ (fun xs P ρ1 => FoPP P g body (blk D .mk) xs ρ1) D.ex := rfl
def LcPP (P : DL.Env → Prop) (g : DG) (tt : DT) (te : DE) (vs : List Nat) (R : Slot → DL.Env → Prop) (xs : List Dat) (ρ1 : DL.Env) : Prop := ∃ I : Nat → List Dat → DL.Env → Prop, I 0 [] ρ1 ∧
  (∀ i y acc ρ2, xs[i]? = some y → I i acc ρ2 → P ρ2 ∧ plainE ρ2 vs ∧ acc.length < sizeLine ∧ g y (wipeE ρ2 vs) fun ρ3 => tt ρ3 (fun b ρ4 => if b = true then te ρ4 (fun z ρ5 => I (i + 1) (acc ++ [z]) (backE ρ2 ρ5 vs)) noX else I (i + 1) acc (backE ρ2 ρ4 vs)) noX) ∧
  ∀ acc ρ2, I xs.length acc ρ2 → P ρ2 ∧ R (.l acc) ρ2
theorem f_dLcP {it : DIP} {g : DG} {tt : DT} {te : DE} {vs : List Nat} {RO : Slot → DL.Env → Prop} : dLcP it g tt te vs ρ RO X = it ρ (fun xs P ρ1 => LcPP P g tt te vs (blk RO .mk) xs ρ1) X := rfl
theorem f_diRows {i : Nat} {RI : List Dat → (DL.Env → Prop) → DL.Env → Prop} : diRows C i ρ RI X = ∃ S, ρ[i]? = some (some (.h C S)) ∧ RI (S.rows.map Dat.ptr) (rowsStay C i S) ρ := rfl
theorem f_dMakes {i : Nat} {R : Dat → DL.Env → Prop} : dMakes C i ρ R X = ∃ S, ρ[i]? = some (some (.h C S)) ∧ R (.int S.makes) ρ := rfl
theorem f_dSetMakes {i : Nat} {dv : DE} : dSetMakes C i dv D ρ = dv ρ (fun y ρ1 => pick (asI y) (blk (fun n => ∃ S, ρ1[i]? = some (some (.h C S)) ∧ D.nx (ρ1.set i (some (.h C (S.setM n))))) .mk)) D.ex := rfl
theorem f_dRowsApp {i : Nat} {d : DE} : dRowsApp C i d D ρ = ((∃ S, ρ[i]? = some (some (.h C S))) ∧ d ρ (fun x ρ1 => pick (asP x) (blk (fun a => ∃ S, ρ1[i]? = some (some (.h C S)) ∧ S.rows.length < sizeLine ∧ D.nx (ρ1.set i (some (.h C (S.app a))))) .mk)) D.ex) := rfl
theorem f_dRowNew {i j : Nat} {d : DO} : dRowNew C i j d D ρ = d ρ (blk (fun r ρ1 => ∃ kvs S, r = .k kvs ∧ ρ1[i]? = some (some (.h C S)) ∧ ∀ a, a ∉ S.cells.map (·.1) → D.nx ((ρ1.set i (some (.h C (S.new a kvs)))).set j (some (.d (.ptr a))))) .mk) D.ex := rfl
end
end DL
/-! DL, part 48: rows of a house, plain. -/
namespace DL
open PySem L2
/-! ### a row -/
structure HR where
  nm : Str
  kd : Dat
  ag : Dat
  came : Int
  drop : Option Int
  place : Int
def opD : Option Int → Dat
  | none => .non
  | some i => .int i
def kNm : Key := .inr "name"
def kKd : Key := .inr "kind"
def kAg : Key := .inr "agreed"
def kCa : Key := .inr "came"
def kDr : Key := .inr "dropped"
def kPl : Key := .inr "place"
def HR.kv (x : HR) : List (Key × Dat) := [(kNm, .str x.nm), (kKd, x.kd), (kAg, x.ag), (kCa, .int x.came), (kDr, opD x.drop), (kPl, .int x.place)]
/-! ### the instance's dicts -/
/-- the instance's rows, in their order -/
structure HW (S : HS) (R : List HR) : Prop where
  len : S.rows.length = R.length
  at_ : ∀ (i : Nat) (a : Addr) (x : HR), S.rows[i]? = some a → R[i]? = some x → S.at_ a = some x.kv
  nd : S.rows.Nodup
theorem HW.get {S : HS} {R : List HR} (h : HW S R) {i : Nat} {a : Addr} (e : S.rows[i]? = some a) : ∃ x, R[i]? = some x ∧ S.at_ a = some x.kv := by
  have hi := (List.getElem?_eq_some_iff.mp e).1
  have hx := List.getElem?_eq_getElem (show i < R.length by rw [← h.len]; exact hi)
  exact ⟨_, hx, h.at_ i a _ e hx⟩
/-- a field handed in, of whatever form -/
def isF : Dat → Bool
  | .tup [n, kd, ag] => isN n && isK 5 kd && isV 5 kd ag
  | _ => false
/-- a change that is none, whatever stands -/
def oddC : Dat → Bool
  | .tup (.str a :: .str b :: r) => if a = "drop" ∧ r.length = 0 then false else if a = "add" then !isF (.tup (.str b :: r)) else true
  | _ => true
inductive Chg where
  | drop (nm : Str)
  | add (nm : Str) (kd ag : Dat)
  | bad (d : Dat)
def Chg.dat : Chg → Dat
  | .drop nm => .tup [.str "drop", .str nm]
  | .add nm kd ag => .tup [.str "add", .str nm, kd, ag]
  | .bad d => d
/-- what may be handed in -/
def Chg.ok : Chg → Prop
  | .drop nm => nm.length ≤ 1000000
  | .add nm kd ag => nm.length ≤ 1000000 ∧ Pg 40 kd ∧ Pg 40 ag
  | .bad d => oddC d = true ∧ Pg 41 d ∧ ∀ a r, d = .tup (a :: r) → flatD a = true
/-- stands: not dropped before, nor by the list at hand -/
def Stn (nm : Str) (e : HR × Bool) : Prop := e.1.nm = nm ∧ e.1.drop = none ∧ e.2 = false
instance (nm : Str) (e : HR × Bool) : Decidable (Stn nm e) := by unfold Stn; infer_instance
end DL
/-! DL, part 49: more of the walk's equations. -/
namespace DL
open PySem L2
def sK : Option (Option Slot) → Option (List (Key × Dat))
  | some (some (.k x)) => some x
  | _ => none
theorem sK_k {x : List (Key × Dat)} : sK (some (some (.k x))) = some x := rfl
theorem sK_i {o : Option (Option Slot)} {x : List (Key × Dat)} : sK o = some x ↔ o = some (some (.k x)) := by
  unfold sK
  split
  · simp
  · rename_i h
    constructor
    · intro e; cases e
    · intro e; exact absurd e (h x)
section
variable {ρ : DL.Env} {X : XR} {D : DK} {C : Addr}
theorem f_dPopK2 {i : Nat} {d : DE} {R : Dat → DL.Env → Prop} : dPopK i d ρ R X = pick (sK ρ[i]?) (blk (fun _ => d ρ (fun y ρ1 => pick (sK ρ1[i]?) (blk (fun kvs => pick (keyOf y) (blk (fun ky => pick (valD kvs ky) (blk (fun x => R x (ρ1.set i (some (.k (dropD kvs ky))))) .mk)) .mk)) .mk)) X) .mk) := by
  simp only [pickE, blk1, sK_i]
  refine propext ⟨fun ⟨⟨s, h⟩, k⟩ => ⟨s, h, ?_⟩, fun ⟨s, h, k⟩ => ⟨⟨s, h⟩, ?_⟩⟩
  · refine cast ?_ k
    congr 1
    funext y ρ1
    exact propext ⟨fun ⟨a, b, c, h1, h2, h3, h4⟩ => ⟨a, h1, b, h2, c, h3, h4⟩, fun ⟨a, h1, b, h2, c, h3, h4⟩ => ⟨a, b, c, h1, h2, h3, h4⟩⟩
  · refine cast ?_ k
    congr 1
    funext y ρ1
    exact propext ⟨fun ⟨a, h1, b, h2, c, h3, h4⟩ => ⟨a, b, c, h1, h2, h3, h4⟩, fun ⟨a, b, c, h1, h2, h3, h4⟩ => ⟨a, h1, b, h2, c, h3, h4⟩⟩
theorem f_dOwnIn2 {n : Bool → Bool} {i : Nat} {dk : DE} {R : Bool → DL.Env → Prop} : dOwnIn n i dk ρ R X = dk ρ (fun k ρ1 => pick (sK ρ1[i]?) (blk (fun kvs => pick (keyOf k) (blk (fun ky => R (n (valD kvs ky).isSome) ρ1) .mk)) .mk)) X := by
  simp only [pickE, blk1, sK_i]
  show dk ρ _ X = dk ρ _ X
  congr 1
  funext y ρ1
  exact propext ⟨fun ⟨a, b, h1, h2, h3⟩ => ⟨a, h1, b, h2, h3⟩, fun ⟨a, h1, b, h2, h3⟩ => ⟨a, b, h1, h2, h3⟩⟩
theorem s_ad : (("add" : Str) = ("drop" : Str)) = False := eq_false (by decide +kernel)
theorem s_da : (("drop" : Str) = ("add" : Str)) = False := eq_false (by decide +kernel)
end
/-- a field handed in -/
structure Fd where
  nm : Str
  kd : Dat
  ag : Dat
def Fd.dat (f : Fd) : Dat := .tup [.str f.nm, f.kd, f.ag]
def Fd.add (f : Fd) : Chg := .add f.nm f.kd f.ag
end DL
/-! DL, part 50: a, b = an own tuple (list, whole number): the list is the first name's own. -/
namespace DL
open PySem L2
end DL
/-! DL, part 51: the walk's equations, put together. -/
namespace DL
open PySem L2
theorem FSd : type_of% @f_dMeth ∧ type_of% @f_dMake ∧ type_of% @f_dRowGet ∧ type_of% @f_dRowSet ∧ type_of% @f_dForP ∧ type_of% @f_dLcP ∧ type_of% @f_diRows ∧ type_of% @f_dMakes ∧ type_of% @f_dSetMakes ∧ type_of% @f_dRowsApp ∧ type_of% @f_dRowNew ∧ type_of% @f_dPopK2 ∧ type_of% @f_dOwnIn2 ∧ type_of% @f_dPairO ∧ type_of% @f_dPeekO ∧ type_of% @f_dOwnNotinT ∧ type_of% @f_dOwnGetT ∧ type_of% @f_diItemsT ∧ type_of% @f_dListValsT ∧ type_of% @f_dDispT1 ∧ type_of% @q_sortIT ∧ type_of% @q_sortN ∧ type_of% @w_dDictP ∧ type_of% @f_dPopAt ∧ type_of% @q_sortP ∧ type_of% @f_dListRg1 ∧ type_of% @f_dListRg2 ∧ type_of% @q_sortI ∧ type_of% @f_dListZip ∧ type_of% @as2l_l ∧ type_of% @f_dCallT ∧ type_of% @f_dTryAs ∧ type_of% @f_dCaught ∧ type_of% @cau_n ∧ type_of% @cau_o ∧ type_of% @f_dVar ∧ type_of% @f_dTest ∧ type_of% @f_dStill ∧ type_of% @f_dIf ∧ type_of% @f_dOp ∧ type_of% @f_dFn ∧ type_of% @f_dFnL ∧ type_of% @f_dAnd ∧ type_of% @f_dOr ∧ type_of% @f_dAndV ∧ type_of% @f_dOrV ∧ type_of% @f_dNotV ∧ type_of% @f_dNeg ∧ type_of% @f_dLend ∧ type_of% @f_dChain ∧ type_of% @f_dSomeP ∧ type_of% @f_dSlice ∧ type_of% @f_dSliceO ∧ type_of% @f_dRevO ∧ type_of% @f_dRevS ∧ type_of% @f_dSetItem ∧ type_of% @f_dAppend ∧ type_of% @f_dExtend ∧ type_of% @f_dPop ∧ type_of% @f_dMove ∧ type_of% @f_dTake ∧ type_of% @f_dFrz ∧ type_of% @f_dFdivAt ∧ type_of% @f_gtTup ∧ type_of% @f_gtCons ∧ type_of% @f_gtNil ∧ type_of% @f_diRange1 ∧ type_of% @f_diRange2 ∧ type_of% @f_diRange3 ∧ type_of% @f_dOwnIx ∧ type_of% @f_diEnum ∧ type_of% @f_diZipA ∧ type_of% @f_diItems ∧ type_of% @f_diAny ∧ type_of% @f_dCallO ∧ type_of% @f_dPCons ∧ type_of% @f_dMulO ∧ type_of% @f_dAddO ∧ type_of% @f_dJoin ∧ type_of% @f_dFor ∧ type_of% @f_dLc ∧ type_of% @f_dWhile ∧ type_of% @f_il ∧ type_of% @f_it ∧ type_of% @f_is ∧ type_of% @f_iki ∧ type_of% @f_iks ∧ type_of% @f_ikk ∧ type_of% @f_str ∧ type_of% @f_take ∧ type_of% @blk1 ∧ type_of% @blk2 ∧ type_of% @pick_map ∧ type_of% @w_dDisp ∧ type_of% @w_dPNil ∧ type_of% @q_dkNotin ∧ type_of% @q_keyOf ∧ type_of% @q_lend ∧ type_of% @q_listt ∧ type_of% @q_listl ∧ type_of% @q_eqn ∧ type_of% @q_eqnil ∧ type_of% @q_tupl ∧ type_of% @w_dSeq ∧ type_of% @w_dNext ∧ type_of% @w_dSet ∧ type_of% @w_dSetO ∧ type_of% @w_dC ∧ type_of% @w_dCons ∧ type_of% @w_dNil ∧ type_of% @w_dRet ∧ type_of% @w_dRetO ∧ type_of% @w_dRetN ∧ type_of% @w_dLst ∧ type_of% @w_dTup ∧ type_of% @w_dPeek ∧ type_of% @w_dPeekT ∧ type_of% @w_dNot ∧ type_of% @w_dIsi ∧ type_of% @w_dIsi2 ∧ type_of% @w_dPass ∧ type_of% @w_dBreak ∧ type_of% @w_dCont ∧ type_of% @w_dDrop ∧ type_of% @w_dAsg ∧ type_of% @w_gtName ∧ type_of% @w_dDict0 ∧ type_of% @w_dDictT ∧ type_of% @w_dNoP ∧ type_of% @w_dRaise ∧ type_of% @w_dYes ∧ type_of% @w_poolE ∧ type_of% @q_eqEl ∧ type_of% @q_eqEt ∧ type_of% @q_add ∧ type_of% @q_adds ∧ type_of% @q_addl ∧ type_of% @q_addt ∧ type_of% @q_sub ∧ type_of% @q_mul ∧ type_of% @q_mull ∧ type_of% @q_fI ∧ type_of% @q_fB ∧ type_of% @q_eq ∧ type_of% @q_eqs ∧ type_of% @q_eqb ∧ type_of% @q_ne ∧ type_of% @q_nes ∧ type_of% @q_neb ∧ type_of% @q_ls ∧ type_of% @q_ll ∧ type_of% @q_lt ∧ type_of% @q_lx ∧ type_of% @q_max2 ∧ type_of% @q_min2 ∧ type_of% @q_fli ∧ type_of% @q_flb ∧ type_of% @q_fls ∧ type_of% @q_fln ∧ type_of% @q_int ∧ type_of% @q_intb := ⟨@f_dMeth, @f_dMake, @f_dRowGet, @f_dRowSet, @f_dForP, @f_dLcP, @f_diRows, @f_dMakes, @f_dSetMakes, @f_dRowsApp, @f_dRowNew, @f_dPopK2, @f_dOwnIn2, @f_dPairO, @f_dPeekO, @f_dOwnNotinT, @f_dOwnGetT, @f_diItemsT, @f_dListValsT, @f_dDispT1, @q_sortIT, @q_sortN, @w_dDictP, @f_dPopAt, @q_sortP, @f_dListRg1, @f_dListRg2, @q_sortI, @f_dListZip, @as2l_l, @f_dCallT, @f_dTryAs, @f_dCaught, @cau_n, @cau_o, @f_dVar, @f_dTest, @f_dStill, @f_dIf, @f_dOp, @f_dFn, @f_dFnL, @f_dAnd, @f_dOr, @f_dAndV, @f_dOrV, @f_dNotV, @f_dNeg, @f_dLend, @f_dChain, @f_dSomeP, @f_dSlice, @f_dSliceO, @f_dRevO, @f_dRevS, @f_dSetItem, @f_dAppend, @f_dExtend, @f_dPop, @f_dMove, @f_dTake, @f_dFrz, @f_dFdivAt, @f_gtTup, @f_gtCons, @f_gtNil, @f_diRange1, @f_diRange2, @f_diRange3, @f_dOwnIx, @f_diEnum, @f_diZipA, @f_diItems, @f_diAny, @f_dCallO, @f_dPCons, @f_dMulO, @f_dAddO, @f_dJoin, @f_dFor, @f_dLc, @f_dWhile, @f_il, @f_it, @f_is, @f_iki, @f_iks, @f_ikk, @f_str, @f_take, @blk1, @blk2, @pick_map, @w_dDisp, @w_dPNil, @q_dkNotin, @q_keyOf, @q_lend, @q_listt, @q_listl, @q_eqn, @q_eqnil, @q_tupl, @w_dSeq, @w_dNext, @w_dSet, @w_dSetO, @w_dC, @w_dCons, @w_dNil, @w_dRet, @w_dRetO, @w_dRetN, @w_dLst, @w_dTup, @w_dPeek, @w_dPeekT, @w_dNot, @w_dIsi, @w_dIsi2, @w_dPass, @w_dBreak, @w_dCont, @w_dDrop, @w_dAsg, @w_gtName, @w_dDict0, @w_dDictT, @w_dNoP, @w_dRaise, @w_dYes, @w_poolE, @q_eqEl, @q_eqEt, @q_add, @q_adds, @q_addl, @q_addt, @q_sub, @q_mul, @q_mull, @q_fI, @q_fB, @q_eq, @q_eqs, @q_eqb, @q_ne, @q_nes, @q_neb, @q_ls, @q_ll, @q_lt, @q_lx, @q_max2, @q_min2, @q_fli, @q_flb, @q_fls, @q_fln, @q_int, @q_intb⟩
theorem FSn : type_of% @sK_k ∧ type_of% @s_ad ∧ type_of% @s_da ∧ type_of% @asP_p ∧ type_of% @sH_h ∧ type_of% @td_o ∧ type_of% @tp_o ∧ type_of% @tpo_dat ∧ type_of% @sT_t ∧ type_of% @asTu_t ∧ type_of% @asDt_t ∧ type_of% @keysOf_nil ∧ type_of% @nd_n ∧ type_of% @nd_b ∧ type_of% @nd_i ∧ type_of% @nd_s ∧ type_of% @nd_l ∧ type_of% @nd_t ∧ type_of% @nd_k ∧ type_of% @nd_c ∧ type_of% @blk_nx ∧ type_of% @blk_rt ∧ type_of% @blk_bk ∧ type_of% @blk_ct ∧ type_of% @blk_ex ∧ type_of% @q_equ ∧ type_of% @q_isb ∧ type_of% @q_isn ∧ type_of% @ko_s ∧ type_of% @ko_i ∧ type_of% @pick_some ∧ type_of% @pick_at ∧ type_of% @pick_val ∧ type_of% @brq_t ∧ type_of% @brq_f ∧ type_of% @brq_dec ∧ type_of% @brq_not ∧ type_of% @brq_and ∧ type_of% @brq_or ∧ type_of% @sD_d ∧ type_of% @sL_l ∧ type_of% @sS_s ∧ type_of% @asB_b ∧ type_of% @asI_i ∧ type_of% @asL_l ∧ type_of% @asS_s ∧ type_of% @asK_k ∧ type_of% @asLT_l ∧ type_of% @asLT_t ∧ type_of% @seqN_t2 ∧ type_of% @seqN_l2 ∧ type_of% @seqN_t3 ∧ type_of% @seqN_l3 ∧ type_of% @seqN_t4 ∧ type_of% @as1I_i ∧ type_of% @as2I_i ∧ type_of% @as3I_i ∧ type_of% @as1L_l ∧ type_of% @as2L_l ∧ type_of% @as2L_t ∧ type_of% @itrD_l ∧ type_of% @itrD_t ∧ type_of% @itrD_r ∧ type_of% @itrD_s ∧ type_of% @itrD_k ∧ type_of% @slc_l ∧ type_of% @slc_t ∧ type_of% @slc_s ∧ type_of% @stI_l ∧ type_of% @stI_k ∧ type_of% @stI_t ∧ type_of% @k_nx ∧ type_of% @k_rt ∧ type_of% @k_ex ∧ type_of% @s_rn ∧ type_of% @s_cn ∧ type_of% @s_hn ∧ type_of% @s_cr ∧ type_of% @s_hr ∧ type_of% @s_hc ∧ type_of% @td_d ∧ type_of% @td_l ∧ type_of% @td_k ∧ type_of% @td_t ∧ type_of% @tp_d ∧ type_of% @tp_l ∧ type_of% @tp_k ∧ type_of% @tp_t ∧ type_of% @at_0 ∧ type_of% @at_1 ∧ type_of% @at_2 ∧ type_of% @at_3 ∧ type_of% @at_4 ∧ type_of% @at_5 ∧ type_of% @at_6 ∧ type_of% @at_7 := ⟨@sK_k, @s_ad, @s_da, @asP_p, @sH_h, @td_o, @tp_o, @tpo_dat, @sT_t, @asTu_t, @asDt_t, @keysOf_nil, @nd_n, @nd_b, @nd_i, @nd_s, @nd_l, @nd_t, @nd_k, @nd_c, @blk_nx, @blk_rt, @blk_bk, @blk_ct, @blk_ex, @q_equ, @q_isb, @q_isn, @ko_s, @ko_i, @pick_some, @pick_at, @pick_val, @brq_t, @brq_f, @brq_dec, @brq_not, @brq_and, @brq_or, @sD_d, @sL_l, @sS_s, @asB_b, @asI_i, @asL_l, @asS_s, @asK_k, @asLT_l, @asLT_t, @seqN_t2, @seqN_l2, @seqN_t3, @seqN_l3, @seqN_t4, @as1I_i, @as2I_i, @as3I_i, @as1L_l, @as2L_l, @as2L_t, @itrD_l, @itrD_t, @itrD_r, @itrD_s, @itrD_k, @slc_l, @slc_t, @slc_s, @stI_l, @stI_k, @stI_t, @k_nx, @k_rt, @k_ex, @s_rn, @s_cn, @s_hn, @s_cr, @s_hr, @s_hc, @td_d, @td_l, @td_k, @td_t, @tp_d, @tp_l, @tp_k, @tp_t, @at_0, @at_1, @at_2, @at_3, @at_4, @at_5, @at_6, @at_7⟩
theorem Sd : type_of% @w_dDisp ∧ type_of% @w_dPCons ∧ type_of% @w_dPNil ∧ type_of% @w_dMulO ∧ type_of% @w_dAddO ∧ type_of% @w_diItems ∧ type_of% @w_dRevS ∧ type_of% @w_diZipA ∧ type_of% @w_dFrz ∧ type_of% @w_dJoin ∧ type_of% @w_dLc ∧ type_of% @w_dSeq ∧ type_of% @w_dNext ∧ type_of% @w_dSet ∧ type_of% @w_dSetO ∧ type_of% @w_dIf ∧ type_of% @w_dTest ∧ type_of% @w_dOp ∧ type_of% @w_dVar ∧ type_of% @w_dC ∧ type_of% @w_dFn ∧ type_of% @w_dFnL ∧ type_of% @w_dCons ∧ type_of% @w_dNil ∧ type_of% @w_dRet ∧ type_of% @w_dRetO ∧ type_of% @w_dRetN ∧ type_of% @w_dLst ∧ type_of% @w_dTup ∧ type_of% @w_dStill ∧ type_of% @w_dSetItem ∧ type_of% @w_dAppend ∧ type_of% @w_dPeek ∧ type_of% @w_dPeekT ∧ type_of% @w_dMove ∧ type_of% @w_dTake ∧ type_of% @w_dAnd ∧ type_of% @w_dOr ∧ type_of% @w_dNot ∧ type_of% @w_dAndV ∧ type_of% @w_dOrV ∧ type_of% @w_dNotV ∧ type_of% @w_dNeg ∧ type_of% @w_dIsi ∧ type_of% @w_dIsi2 ∧ type_of% @w_dLend ∧ type_of% @w_dPass ∧ type_of% @w_dBreak ∧ type_of% @w_dCont ∧ type_of% @w_dDrop ∧ type_of% @w_dAsg ∧ type_of% @w_gtName ∧ type_of% @w_gtTup ∧ type_of% @w_gtCons ∧ type_of% @w_gtNil ∧ type_of% @w_dDict0 ∧ type_of% @w_dDictT ∧ type_of% @w_dChain ∧ type_of% @w_dNoP ∧ type_of% @w_dSomeP ∧ type_of% @w_dSlice ∧ type_of% @w_dSliceO ∧ type_of% @w_dRevO ∧ type_of% @w_dRaise ∧ type_of% @w_dFdivAt ∧ type_of% @w_diAny ∧ type_of% @w_diRange1 ∧ type_of% @w_diRange2 ∧ type_of% @w_diEnum ∧ type_of% @w_diZip ∧ type_of% @w_dYes ∧ type_of% @w_dCallO ∧ type_of% @w_dFor ∧ type_of% @w_takeE ∧ type_of% @w_poolE ∧ type_of% @w_dPop ∧ type_of% @w_dExtend := ⟨@w_dDisp, @w_dPCons, @w_dPNil, @w_dMulO, @w_dAddO, @w_diItems, @w_dRevS, @w_diZipA, @w_dFrz, @w_dJoin, @w_dLc, @w_dSeq, @w_dNext, @w_dSet, @w_dSetO, @w_dIf, @w_dTest, @w_dOp, @w_dVar, @w_dC, @w_dFn, @w_dFnL, @w_dCons, @w_dNil, @w_dRet, @w_dRetO, @w_dRetN, @w_dLst, @w_dTup, @w_dStill, @w_dSetItem, @w_dAppend, @w_dPeek, @w_dPeekT, @w_dMove, @w_dTake, @w_dAnd, @w_dOr, @w_dNot, @w_dAndV, @w_dOrV, @w_dNotV, @w_dNeg, @w_dIsi, @w_dIsi2, @w_dLend, @w_dPass, @w_dBreak, @w_dCont, @w_dDrop, @w_dAsg, @w_gtName, @w_gtTup, @w_gtCons, @w_gtNil, @w_dDict0, @w_dDictT, @w_dChain, @w_dNoP, @w_dSomeP, @w_dSlice, @w_dSliceO, @w_dRevO, @w_dRaise, @w_dFdivAt, @w_diAny, @w_diRange1, @w_diRange2, @w_diEnum, @w_diZip, @w_dYes, @w_dCallO, @w_dFor, @w_takeE, @w_poolE, @w_dPop, @w_dExtend⟩
theorem Sn : type_of% @nd_n ∧ type_of% @nd_b ∧ type_of% @nd_i ∧ type_of% @nd_s ∧ type_of% @nd_l ∧ type_of% @nd_t ∧ type_of% @nd_k ∧ type_of% @nd_c ∧ type_of% @q_dkItem ∧ type_of% @q_dkNotin ∧ type_of% @q_keyOf ∧ type_of% @q_lend ∧ type_of% @q_listt ∧ type_of% @q_listl ∧ type_of% @q_eqn ∧ type_of% @q_eqnil ∧ type_of% @q_tupl ∧ type_of% @s_rn ∧ type_of% @s_cn ∧ type_of% @s_hn ∧ type_of% @s_cr ∧ type_of% @s_hr ∧ type_of% @s_hc ∧ type_of% @td_d ∧ type_of% @td_l ∧ type_of% @td_k ∧ type_of% @td_t ∧ type_of% @tp_d ∧ type_of% @tp_l ∧ type_of% @tp_k ∧ type_of% @tp_t ∧ type_of% @q_eqEl ∧ type_of% @q_eqEt ∧ type_of% @q_add ∧ type_of% @q_adds ∧ type_of% @q_addl ∧ type_of% @q_addt ∧ type_of% @q_sub ∧ type_of% @q_mul ∧ type_of% @q_mull ∧ type_of% @q_fI ∧ type_of% @q_fB ∧ type_of% @q_eq ∧ type_of% @q_eqs ∧ type_of% @q_eqb ∧ type_of% @q_ne ∧ type_of% @q_nes ∧ type_of% @q_neb ∧ type_of% @q_il ∧ type_of% @q_it ∧ type_of% @q_is ∧ type_of% @q_ls ∧ type_of% @q_ll ∧ type_of% @q_lt ∧ type_of% @q_lx ∧ type_of% @q_max2 ∧ type_of% @q_min2 ∧ type_of% @q_fli ∧ type_of% @q_flb ∧ type_of% @q_fls ∧ type_of% @q_fln ∧ type_of% @q_int ∧ type_of% @q_intb ∧ type_of% @at_0 ∧ type_of% @at_1 ∧ type_of% @at_2 ∧ type_of% @at_3 ∧ type_of% @at_4 ∧ type_of% @at_5 ∧ type_of% @at_6 ∧ type_of% @at_7 := ⟨@nd_n, @nd_b, @nd_i, @nd_s, @nd_l, @nd_t, @nd_k, @nd_c, @q_dkItem, @q_dkNotin, @q_keyOf, @q_lend, @q_listt, @q_listl, @q_eqn, @q_eqnil, @q_tupl, @s_rn, @s_cn, @s_hn, @s_cr, @s_hr, @s_hc, @td_d, @td_l, @td_k, @td_t, @tp_d, @tp_l, @tp_k, @tp_t, @q_eqEl, @q_eqEt, @q_add, @q_adds, @q_addl, @q_addt, @q_sub, @q_mul, @q_mull, @q_fI, @q_fB, @q_eq, @q_eqs, @q_eqb, @q_ne, @q_nes, @q_neb, @q_il, @q_it, @q_is, @q_ls, @q_ll, @q_lt, @q_lx, @q_max2, @q_min2, @q_fli, @q_flb, @q_fls, @q_fln, @q_int, @q_intb, @at_0, @at_1, @at_2, @at_3, @at_4, @at_5, @at_6, @at_7⟩
theorem BSn : type_of% @List.getElem?_cons_zero.{0} ∧ type_of% @List.getElem?_cons_succ.{0} ∧ type_of% @List.getElem?_nil.{0} ∧ type_of% @List.set_cons_zero.{0} ∧ type_of% @List.set_cons_succ.{0} ∧ type_of% @List.map_cons.{0, 0} ∧ type_of% @List.map_nil.{0, 0} ∧ type_of% @List.length_cons.{0} ∧ type_of% @List.length_nil.{0} ∧ type_of% @List.replicate_succ.{0} ∧ type_of% @List.replicate_zero.{0} ∧ type_of% @List.cons_append.{0} ∧ type_of% @List.nil_append.{0} ∧ type_of% @List.filterMap_cons.{0, 0} ∧ type_of% @List.filterMap_nil.{0, 0} ∧ type_of% @Option.join_some.{0} ∧ type_of% @Option.map_some.{0, 0} ∧ type_of% @Option.some.injEq.{0} ∧ type_of% @true_and ∧ type_of% @and_true ∧ type_of% @Slot.d.injEq ∧ type_of% @Slot.l.injEq ∧ type_of% @Dat.int.injEq ∧ type_of% @Dat.bl.injEq ∧ type_of% @Dat.lst.injEq ∧ type_of% @List.cons.injEq.{0} ∧ type_of% @Option.bind_some.{0, 0} ∧ type_of% @Int.cast_ofNat_Int ∧ type_of% @Nat.zero_add ∧ type_of% @decide_true ∧ type_of% @decide_false ∧ type_of% @Bool.not_true ∧ type_of% @Bool.not_false ∧ type_of% @Bool.true_eq_false ∧ type_of% @Bool.false_eq_true ∧ type_of% @Bool.true_or ∧ type_of% @Bool.or_true ∧ type_of% @Bool.or_false ∧ type_of% @Bool.false_or ∧ type_of% @Slot.h.injEq ∧ type_of% @Slot.k.injEq := ⟨@List.getElem?_cons_zero.{0}, @List.getElem?_cons_succ.{0}, @List.getElem?_nil.{0}, @List.set_cons_zero.{0}, @List.set_cons_succ.{0}, @List.map_cons.{0, 0}, @List.map_nil.{0, 0}, @List.length_cons.{0}, @List.length_nil.{0}, @List.replicate_succ.{0}, @List.replicate_zero.{0}, @List.cons_append.{0}, @List.nil_append.{0}, @List.filterMap_cons.{0, 0}, @List.filterMap_nil.{0, 0}, @Option.join_some.{0}, @Option.map_some.{0, 0}, @Option.some.injEq.{0}, @true_and, @and_true, @Slot.d.injEq, @Slot.l.injEq, @Dat.int.injEq, @Dat.bl.injEq, @Dat.lst.injEq, @List.cons.injEq.{0}, @Option.bind_some.{0, 0}, @Int.cast_ofNat_Int, @Nat.zero_add, @decide_true, @decide_false, @Bool.not_true, @Bool.not_false, @Bool.true_eq_false, @Bool.false_eq_true, @Bool.true_or, @Bool.or_true, @Bool.or_false, @Bool.false_or, @Slot.h.injEq, @Slot.k.injEq⟩
end DL
/-! DL, part 52: a list of lists of one's own. -/
namespace DL
open PySem L2
def GS.at_ (S : GS) (a : Addr) : Option (List Dat) := (S.cells.find? fun c => decide (c.1 = a)).map (·.2)
def GS.put (S : GS) (a : Addr) (xs : List Dat) : GS := { S with cells := S.cells.map fun c => if c.1 = a then (a, xs) else c }
def GS.new (S : GS) (a : Addr) (xs : List Dat) : GS := { S with cells := S.cells ++ [(a, xs)] }
def sG : Option (Option Slot) → Option GS
  | some (some (.g S)) => some S
  | _ => none
theorem sG_g {S : GS} : sG (some (some (.g S))) = some S := rfl
section
variable {X : Cx} {W : WX} {ios : Ios}
/-- r[k] -/
def dGGet (i : Nat) (de : DE) (k : Int) : DE := fun ρ R X => de ρ (fun x ρ1 => pick (asP x) (blk (fun a => pick (sG ρ1[i]?) (blk (fun S => pick (S.at_ a) (blk (fun xs => pick (atI xs k) (blk (fun y => R y ρ1) .mk)) .mk)) .mk)) .mk)) X
/-- r[k] = e -/
def dGSet (i : Nat) (de : DE) (k : Int) (dv : DE) : DS := fun D ρ => dv ρ (fun y ρ1 => de ρ1 (fun x ρ2 => pick (asP x) (blk (fun a => pick (sG ρ2[i]?) (blk (fun S => pick (S.at_ a) (blk (fun xs => pick (ixN xs.length k) (blk (fun n => D.nx (ρ2.set i (some (.g (S.put a (xs.set n y)))))) .mk)) .mk)) .mk)) .mk)) D.ex) D.ex
/-- x.append([..]): a new list of the region's, its address in a list of one's own -/
def dGNew (i j : Nat) (d : DO) : DS := fun D ρ => (∃ ys, ρ[j]? = some (some (.l ys))) ∧ d ρ (fun r ρ1 => ∃ xs S ys, r = .l xs ∧ ρ1[i]? = some (some (.g S)) ∧ ρ1[j]? = some (some (.l ys)) ∧ ys.length < sizeLine ∧ ∀ a, a ∉ S.cells.map (·.1) → D.nx ((ρ1.set i (some (.g (S.new a xs)))).set j (some (.l (ys ++ [.ptr a]))))) D.ex
end
end DL
/-! DL, part 53: a list of lists of one's own: put together, gone along, taken over. -/
namespace DL
open PySem L2
section
variable {X : Cx} {W : WX} {ios : Ios}
/-- x + y, x such a list, y a list of addresses of one's own: as data -/
def dGCat (i j : Nat) : DE := fun ρ R _ => ∃ S ys, ρ[i]? = some (some (.g S)) ∧ ρ[j]? = some (some (.l ys)) ∧ S.rows.length + ys.length ≤ sizeLine ∧ R (.lst (S.rows.map Dat.ptr ++ ys)) ρ
/-- x + e, x such a list, e a list of addresses: a new list -/
def dGCatO (i : Nat) (de : DE) : DO := fun ρ R X => (∃ S, ρ[i]? = some (some (.g S))) ∧ de ρ (fun y ρ1 => ∃ S ys, ρ1[i]? = some (some (.g S)) ∧ y = .lst ys ∧ S.rows.length + ys.length ≤ sizeLine ∧ R (.l (S.rows.map Dat.ptr ++ ys)) ρ1) X
/-- gone along, the outer list as it is -/
def gStay (i : Nat) (S : GS) : DL.Env → Prop := fun ρ => ∃ S', ρ[i]? = some (some (.g S')) ∧ S'.l = S.l ∧ S'.rows = S.rows
def diG (i : Nat) : DIP := fun ρ R _ => ∃ S, ρ[i]? = some (some (.g S)) ∧ R (S.rows.map Dat.ptr) (gStay i S) ρ
/-- x = a list of addresses: it is the outer one from here on -/
def dSetG (i : Nat) (d : DO) : DS := fun D ρ => d ρ (fun r ρ1 => ∃ S l, ρ1[i]? = some (some (.g S)) ∧ r = .l (l.map Dat.ptr) ∧ ∀ p, D.nx (ρ1.set i (some (.g ⟨p, l, S.cells⟩)))) D.ex
end
end DL
/-! DL, part 54: [[..] for ..], the inner lists one's own. -/
namespace DL
open PySem L2
section
variable {X : Cx} {W : WX} {ios : Ios}
def dLcG (it : DI) (g : DG) (tt : DT) (te : DO) (vs : List Nat) : DO := fun ρ R X => it ρ (fun xs ρ1 => ∃ I : Nat → List (List Dat) → DL.Env → Prop, I 0 [] ρ1 ∧
  (∀ i y acc ρ2, xs[i]? = some y → I i acc ρ2 → plainE ρ2 vs ∧ acc.length < sizeLine ∧ g y (wipeE ρ2 vs) fun ρ3 => tt ρ3 (fun b ρ4 => if b = true then te ρ4 (fun r ρ5 => ∃ zs, r = .l zs ∧ I (i + 1) (acc ++ [zs]) (backE ρ2 ρ5 vs)) noX else I (i + 1) acc (backE ρ2 ρ4 vs)) noX) ∧
  ∀ acc ρ2, I xs.length acc ρ2 → ∀ S : GS, S.rows = S.cells.map (·.1) → S.cells.map (·.2) = acc → (S.cells.map (·.1)).Nodup → R (.g S) ρ2) X
end
end DL
/-! DL, part 55: (a house, its rows) returned and unpacked. -/
namespace DL
open PySem L2
section
variable {X : Cx} {W : WX} {ios : Ios}
/-- return (house, rows) -/
def dRetHG (i j : Nat) : DS := fun D ρ => ∃ C S G, ρ[i]? = some (some (.h C S)) ∧ ρ[j]? = some (some (.g G)) ∧ D.rt (.hg C S G) ((ρ.set i none).set j none)
/-- house, rows = .. -/
def dUnHG (i j : Nat) (d : DO) : DS := fun D ρ => d ρ (fun r ρ1 => ∃ C S G, r = .hg C S G ∧ D.nx ((ρ1.set i (some (.h C S))).set j (some (.g G)))) D.ex
end
/-! ### the walk's equations -/
section
variable {ρ : DL.Env} {X : XR} {D : DK}
theorem f_dGGet {i : Nat} {de : DE} {k : Int} {R : Dat → DL.Env → Prop} : dGGet i de k ρ R X = de ρ (fun x ρ1 => pick (asP x) (blk (fun a => pick (sG ρ1[i]?) (blk (fun S => pick (S.at_ a) (blk (fun xs => pick (atI xs k) (blk (fun y => R y ρ1) .mk)) .mk)) .mk)) .mk)) X := rfl
theorem f_dGSet {i : Nat} {de dv : DE} {k : Int} : dGSet i de k dv D ρ = dv ρ (fun y ρ1 => de ρ1 (fun x ρ2 => pick (asP x) (blk (fun a => pick (sG ρ2[i]?) (blk (fun S => pick (S.at_ a) (blk (fun xs => pick (ixN xs.length k) (blk (fun n => D.nx (ρ2.set i (some (.g (S.put a (xs.set n y)))))) .mk)) .mk)) .mk)) .mk)) D.ex) D.ex := rfl
theorem f_dGNew {i j : Nat} {d : DO} : dGNew i j d D ρ = ((∃ ys, ρ[j]? = some (some (.l ys))) ∧ d ρ (blk (fun r ρ1 => ∃ xs S ys, r = .l xs ∧ ρ1[i]? = some (some (.g S)) ∧ ρ1[j]? = some (some (.l ys)) ∧ ys.length < PySem.sizeLine ∧ ∀ a, a ∉ S.cells.map (·.1) → D.nx ((ρ1.set i (some (.g (S.new a xs)))).set j (some (.l (ys ++ [.ptr a]))))) .mk) D.ex) := rfl
theorem f_dGCat {i j : Nat} {R : Dat → DL.Env → Prop} : dGCat i j ρ R X = ∃ S ys, ρ[i]? = some (some (.g S)) ∧ ρ[j]? = some (some (.l ys)) ∧ S.rows.length + ys.length ≤ PySem.sizeLine ∧ R (.lst (S.rows.map Dat.ptr ++ ys)) ρ := rfl
theorem f_dGCatO {i : Nat} {de : DE} {R : Slot → DL.Env → Prop} : dGCatO i de ρ R X = ((∃ S, ρ[i]? = some (some (.g S))) ∧ de ρ (fun y ρ1 => ∃ S ys, ρ1[i]? = some (some (.g S)) ∧ y = .lst ys ∧ S.rows.length + ys.length ≤ PySem.sizeLine ∧ R (.l (S.rows.map Dat.ptr ++ ys)) ρ1) X) := rfl
theorem f_diG {i : Nat} {RI : List Dat → (DL.Env → Prop) → DL.Env → Prop} : diG i ρ RI X = ∃ S, ρ[i]? = some (some (.g S)) ∧ RI (S.rows.map Dat.ptr) (gStay i S) ρ := rfl
theorem f_dSetG {i : Nat} {d : DO} : dSetG i d D ρ = d ρ (blk (fun r ρ1 => ∃ S l, ρ1[i]? = some (some (.g S)) ∧ r = .l (l.map Dat.ptr) ∧ ∀ p, D.nx (ρ1.set i (some (.g ⟨p, l, S.cells⟩)))) .mk) D.ex := rfl
theorem f_dRetHG {i j : Nat} : dRetHG i j D ρ = ∃ C S G, ρ[i]? = some (some (.h C S)) ∧ ρ[j]? = some (some (.g G)) ∧ D.rt (.hg C S G) ((ρ.set i none).set j none) := rfl
theorem f_dUnHG {i j : Nat} {d : DO} : dUnHG i j d D ρ = d ρ (blk (fun r ρ1 => ∃ C S G, r = .hg C S G ∧ D.nx ((ρ1.set i (some (.h C S))).set j (some (.g G)))) .mk) D.ex := rfl
def LcG (g : DG) (tt : DT) (te : DO) (vs : List Nat) (R : Slot → DL.Env → Prop) (xs : List Dat) (ρ1 : DL.Env) : Prop := ∃ I : Nat → List (List Dat) → DL.Env → Prop, I 0 [] ρ1 ∧
  (∀ i y acc ρ2, xs[i]? = some y → I i acc ρ2 → plainE ρ2 vs ∧ acc.length < PySem.sizeLine ∧ g y (wipeE ρ2 vs) fun ρ3 => tt ρ3 (fun b ρ4 => if b = true then te ρ4 (fun r ρ5 => ∃ zs, r = .l zs ∧ I (i + 1) (acc ++ [zs]) (backE ρ2 ρ5 vs)) noX else I (i + 1) acc (backE ρ2 ρ4 vs)) noX) ∧
  ∀ acc ρ2, I xs.length acc ρ2 → ∀ S : GS, S.rows = S.cells.map (·.1) → S.cells.map (·.2) = acc → (S.cells.map (·.1)).Nodup → R (.g S) ρ2
theorem f_dLcG {it : DI} {g : DG} {tt : DT} {te : DO} {vs : List Nat} {R : Slot → DL.Env → Prop} : dLcG it g tt te vs ρ R X = it ρ (fun xs ρ1 => LcG g tt te vs (blk R .mk) xs ρ1) X := rfl
end
end DL
/-! DL, part 56: == and in of data at any depth, dicts too, told by evidence. -/
namespace PySem.SeqAt
open AutoSeq1 (wpAny_loadPart')
open MeetsSeq MeetsSeq2 MeetsSeq3 SeqRoads2
section
variable {pr : Program} {wo : World}
/-- the items are asked one by one, no more behind the first unlike ones -/
def Asks (pr : Program) (wo : World) (B : Around) (t : Shared) (us vs : Array Value) (c : Nat → Bool) : Prop :=
  ∀ j (g1 : j < us.size) (g2 : j < vs.size), (∀ i, i < j → c i = true) → EqP pr wo B t us[j] vs[j] (c j)
theorem dq_list_loop (p q : Addr) (us vs : Array Value) (n1 n2 : Nat) (d1 d2 : Option Addr) (z1 z2 : Array (Option Value)) (same : us.size = vs.size) (c : Nat → Bool) (k : Nat) :
    ∀ i : Nat, us.size - i = k → (∀ m, m < i → c m = true) → MeetsIn pr wo (Builtin.«list.__eq__.loop» ⟨[.ref p, .ref q, rawInt i, rawInt 2], []⟩)
      (fun B R t => t.heap.get? p = some { cls := .type "list", dict := d1, data := .seq us n1, slots := z1 } ∧ t.heap.get? q = some { cls := .type "list", dict := d2, data := .seq vs n2, slots := z2 } ∧
        Asks pr wo B.in1 t us vs c ∧ R (.ok (.ret (.bool (((List.range us.size).drop i).all c)))) t) := by
  induction k with
  | zero =>
    intro i hk hc B R t h
    obtain ⟨hp, g, d, tk, os⟩ := t; obtain ⟨h1, h2, asks, h⟩ := h
    wp_walk using wpAny_loadPart' h1, wpAny_loadPart' h2
    have e1 : us[((i : Nat) : Int).toNat]? = none := by simp; omega
    have e2 : vs[((i : Nat) : Int).toNat]? = none := by simp; omega
    have e3 : (List.range us.size).drop i = [] := by simp; omega
    rw [e3] at h; rw [e1, e2]
    wp_walk using wpAny_loadPart' h1, wpAny_loadPart' h2
    show R (.ok (.ret (.bool (us.size == vs.size)))) _
    rw [same]; simpa using h
  | succ k ih =>
    intro i hk hc B R t h
    obtain ⟨hp, g, d, tk, os⟩ := t; obtain ⟨h1, h2, asks, h⟩ := h
    wp_walk using wpAny_loadPart' h1, wpAny_loadPart' h2
    have l1 : i < us.size := by omega
    have l2 : i < vs.size := by omega
    have e1 : us[((i : Nat) : Int).toNat]? = some us[i] := by simp [l1]
    have e2 : vs[((i : Nat) : Int).toNat]? = some vs[i] := by simp [l2]
    have e3 : (List.range us.size).drop i = i :: (List.range us.size).drop (i + 1) := by simp [List.drop_eq_getElem_cons, l1]
    have e4 : ((i : Int) + 1) = ((i + 1 : Nat) : Int) := by push_cast; rfl
    rw [e3, List.all_cons] at h; rw [e1, e2]
    refine wpAny_bind (asks i l1 l2 hc _ _ ?_)
    cases ec : c i with
    | true =>
      rw [ec] at h
      wp_walk
      rw [e4]
      refine ⟨plainId_quiet plain_eq_loop _, codeAny_builtin entry_eq_loop ?_⟩
      rw [Around.under_plainId plain_eq_loop _]
      refine ih (i + 1) (by omega) (fun m hm => ?_) B R _ ⟨h1, h2, asks, by simpa using h⟩
      rcases Nat.lt_succ_iff_lt_or_eq.mp hm with hm | rfl
      · exact hc m hm
      · exact ec
    | false =>
      rw [ec] at h
      wp_walk using wpAny_loadPart' h1, wpAny_loadPart' h2
      rw [e1, e2]
      wp_walk
      simpa using h
theorem dq_list (p q : Addr) (us vs : Array Value) (n1 n2 : Nat) (d1 d2 : Option Addr) (z1 z2 : Array (Option Value)) (same : us.size = vs.size) (c : Nat → Bool) :
    MeetsIn pr wo (Builtin.«list.__eq__» ⟨[.ref p, .ref q], []⟩)
      (fun B R t => t.heap.get? p = some { cls := .type "list", dict := d1, data := .seq us n1, slots := z1 } ∧ t.heap.get? q = some { cls := .type "list", dict := d2, data := .seq vs n2, slots := z2 } ∧
        Asks pr wo B.in1 t us vs c ∧ R (.ok (.ret (.bool ((List.range us.size).all c)))) t) := by
  intro B R t h
  obtain ⟨hp, g, d, tk, os⟩ := t; obtain ⟨h1, h2, asks, h⟩ := h
  have f := AutoSeq1.sub_list_list
  have ns : ¬ (us.size != vs.size) = true := by simp [same]
  wp_walk using wpAny_loadPart' h1, wpAny_loadPart' h2
  refine ⟨plainId_quiet plain_eq_loop _, codeAny_builtin entry_eq_loop ?_⟩
  rw [Around.under_plainId plain_eq_loop _]
  exact dq_list_loop p q us vs n1 n2 d1 d2 z1 z2 same c _ 0 rfl (fun m hm => absurd hm (Nat.not_lt_zero m)) B R _ ⟨h1, h2, asks, by simpa using h⟩
theorem dq_lists {B : Around} {t : Shared} {p q : Addr} {us vs : Array Value} {c : Nat → Bool} (hp : t.heap.IsList p us) (hq : t.heap.IsList q vs) (same : us.size = vs.size) (hu : B.units < cLine)
    (asks : Asks pr wo B.in1 t us vs c) (E Q : Value → Shared → Prop) (h : Q (.bool ((List.range us.size).all c)) t) : wpAny (model pr wo) B (richCompare .Eq (.ref p) (.ref q)) Q E t := by
  obtain ⟨⟨c1, d1, a1, z1⟩, o1, k1, n1, y1⟩ := id hp
  obtain ⟨⟨c2, d2, a2, z2⟩, o2, k2, n2, y2⟩ := id hq
  simp only at k1 y1 k2 y2
  subst k1 y1 k2 y2
  have t1 : t.TypeIs (.ref p) "list" := ⟨_, o1, rfl⟩
  have t2 : t.TypeIs (.ref q) "list" := ⟨_, o2, rfl⟩
  refine wpAny_richCompare_same_room (op := .Eq) t1 t2 F.slot_list_eq ?_ hu
  exact call_meetsIn F.slot_list_eq t1 F.entry_list_eq (F.args_list_eq_2 _ _) (dq_list p q us vs n1 n2 d1 d2 z1 z2 same c)
    ⟨o1, o2, asks, show Value.bool _ ≠ Value.notImplemented ∧ Q (.bool _) t from ⟨(fun x => nomatch x), h⟩⟩
theorem dq_tuple (p q : Addr) (us vs : Array Value) (n1 n2 : Nat) (d1 d2 : Option Addr) (z1 z2 : Array (Option Value)) (c : Nat → Bool) :
    MeetsIn pr wo (Builtin.«tuple.__eq__» ⟨[.ref p, .ref q], []⟩)
      (fun B R t => t.heap.get? p = some { cls := .type "tuple", dict := d1, data := .seq us n1, slots := z1 } ∧ t.heap.get? q = some { cls := .type "tuple", dict := d2, data := .seq vs n2, slots := z2 } ∧
        Asks pr wo B.in1 t us vs c ∧ R (.ok (.ret (.bool ((List.range (min us.size vs.size)).all c && us.size == vs.size)))) t) :=
  .of_wp fun B R t h => by
    obtain ⟨hp, g, d, tk, os⟩ := t; obtain ⟨h1, h2, asks, h⟩ := h
    have f := AutoSeq1.sub_tuple_tuple
    have hz : (us.toList.zip vs.toList).length = min us.size vs.size := by simp
    wp_walk using wpAny_loadPart' h1, wpAny_loadPart' h2, wpAny_forIn_list _ (fun rest b t' => b.1 = none ∧ t' = ⟨hp, g, d, tk, os⟩ ∧ ∃ i, (∀ m, m < i → c m = true) ∧ rest = (us.toList.zip vs.toList).drop i ∧
      R (.ok (.ret (.bool (((List.range (min us.size vs.size)).drop i).all c && us.size == vs.size)))) ⟨hp, g, d, tk, os⟩) _
    case turn =>
      rintro ⟨y, x⟩ rest b t' ⟨hb, rfl, i, hc, er, hR⟩
      have l0 : i < (us.toList.zip vs.toList).length := by
        rcases Nat.lt_or_ge i (us.toList.zip vs.toList).length with z | z
        · exact z
        · rw [List.drop_of_length_le z] at er; cases er
      have l3 : i < min us.size vs.size := hz ▸ l0
      have l1 : i < us.size := Nat.lt_of_lt_of_le l3 (Nat.min_le_left _ _)
      have l2 : i < vs.size := Nat.lt_of_lt_of_le l3 (Nat.min_le_right _ _)
      rw [List.drop_eq_getElem_cons l0] at er
      injection er with e1 e2
      have ey : y = us[i] := by have := congrArg Prod.fst e1; simpa using this
      have ex : x = vs[i] := by have := congrArg Prod.snd e1; simpa using this
      subst ey ex
      have e3 : (List.range (min us.size vs.size)).drop i = i :: (List.range (min us.size vs.size)).drop (i + 1) := by simp [List.drop_eq_getElem_cons, l3]
      rw [e3, List.all_cons] at hR
      refine wpAny_bind (asks i l1 l2 hc _ _ ?_)
      cases ec : c i with
      | true =>
        rw [ec] at hR
        wp_walk
        refine ⟨rfl, rfl, i + 1, fun m hm => ?_, e2, by simpa using hR⟩
        rcases Nat.lt_succ_iff_lt_or_eq.mp hm with hm | rfl
        · exact hc m hm
        · exact ec
      | false =>
        rw [ec] at hR
        wp_walk
        exact ⟨_, rfl, by simpa using hR⟩
    case fin =>
      rintro ⟨b1, b2⟩ t' ⟨hb, rfl, i, hc, er, hR⟩
      simp only at hb
      subst hb
      have ge : min us.size vs.size ≤ i := by
        rcases Nat.lt_or_ge i (us.toList.zip vs.toList).length with z | z
        · rw [List.drop_eq_getElem_cons z] at er; cases er
        · exact hz ▸ z
      rw [List.drop_of_length_le (by simpa using ge)] at hR
      wp_walk
      exact ⟨_, rfl, by simpa [Builtin.Tuple.tupleCompareSizes] using hR⟩
    case h =>
      exact ⟨rfl, rfl, 0, fun m hm => absurd hm (Nat.not_lt_zero m), rfl, by simpa using h⟩
theorem dq_tuples {B : Around} {t : Shared} {p q : Addr} {us vs : Array Value} {c : Nat → Bool} (hp : t.heap.IsTuple p us) (hq : t.heap.IsTuple q vs) (hu : B.units < cLine)
    (asks : Asks pr wo B.in1 t us vs c) (E Q : Value → Shared → Prop) (h : Q (.bool ((List.range (min us.size vs.size)).all c && us.size == vs.size)) t) : wpAny (model pr wo) B (richCompare .Eq (.ref p) (.ref q)) Q E t := by
  obtain ⟨⟨c1, d1, a1, z1⟩, o1, k1, n1, y1⟩ := id hp
  obtain ⟨⟨c2, d2, a2, z2⟩, o2, k2, n2, y2⟩ := id hq
  simp only at k1 y1 k2 y2
  subst k1 y1 k2 y2
  have t1 : t.TypeIs (.ref p) "tuple" := ⟨_, o1, rfl⟩
  have t2 : t.TypeIs (.ref q) "tuple" := ⟨_, o2, rfl⟩
  refine wpAny_richCompare_same_room (op := .Eq) t1 t2 F.slot_tuple_eq ?_ hu
  exact call_meetsIn F.slot_tuple_eq t1 F.entry_tuple_eq (F.args_tuple_eq_2 _ _) (dq_tuple p q us vs n1 n2 d1 d2 z1 z2 c)
    ⟨o1, o2, asks, show Value.bool _ ≠ Value.notImplemented ∧ Q (.bool _) t from ⟨(fun x => nomatch x), h⟩⟩
theorem dqn_list_loop (p q : Addr) (us vs : Array Value) (n1 n2 : Nat) (d1 d2 : Option Addr) (z1 z2 : Array (Option Value)) (same : us.size = vs.size) (c : Nat → Bool) (k : Nat) :
    ∀ i : Nat, us.size - i = k → (∀ m, m < i → c m = true) → MeetsIn pr wo (Builtin.«list.__eq__.loop» ⟨[.ref p, .ref q, rawInt i, rawInt 3], []⟩)
      (fun B R t => t.heap.get? p = some { cls := .type "list", dict := d1, data := .seq us n1, slots := z1 } ∧ t.heap.get? q = some { cls := .type "list", dict := d2, data := .seq vs n2, slots := z2 } ∧
        Asks pr wo B.in1 t us vs c ∧ R (.ok (.ret (.bool (!((List.range us.size).drop i).all c)))) t) := by
  induction k with
  | zero =>
    intro i hk hc B R t h
    obtain ⟨hp, g, d, tk, os⟩ := t; obtain ⟨h1, h2, asks, h⟩ := h
    wp_walk using wpAny_loadPart' h1, wpAny_loadPart' h2
    have e1 : us[((i : Nat) : Int).toNat]? = none := by simp; omega
    have e2 : vs[((i : Nat) : Int).toNat]? = none := by simp; omega
    have e3 : (List.range us.size).drop i = [] := by simp; omega
    rw [e3] at h; rw [e1, e2]
    wp_walk using wpAny_loadPart' h1, wpAny_loadPart' h2
    show R (.ok (.ret (.bool (us.size != vs.size)))) _
    rw [same]; simpa using h
  | succ k ih =>
    intro i hk hc B R t h
    obtain ⟨hp, g, d, tk, os⟩ := t; obtain ⟨h1, h2, asks, h⟩ := h
    wp_walk using wpAny_loadPart' h1, wpAny_loadPart' h2
    have l1 : i < us.size := by omega
    have l2 : i < vs.size := by omega
    have e1 : us[((i : Nat) : Int).toNat]? = some us[i] := by simp [l1]
    have e2 : vs[((i : Nat) : Int).toNat]? = some vs[i] := by simp [l2]
    have e3 : (List.range us.size).drop i = i :: (List.range us.size).drop (i + 1) := by simp [List.drop_eq_getElem_cons, l1]
    have e4 : ((i : Int) + 1) = ((i + 1 : Nat) : Int) := by push_cast; rfl
    rw [e3, List.all_cons] at h; rw [e1, e2]
    refine wpAny_bind (asks i l1 l2 hc _ _ ?_)
    cases ec : c i with
    | true =>
      rw [ec] at h
      wp_walk
      rw [e4]
      refine ⟨plainId_quiet plain_eq_loop _, codeAny_builtin entry_eq_loop ?_⟩
      rw [Around.under_plainId plain_eq_loop _]
      refine ih (i + 1) (by omega) (fun m hm => ?_) B R _ ⟨h1, h2, asks, by simpa using h⟩
      rcases Nat.lt_succ_iff_lt_or_eq.mp hm with hm | rfl
      · exact hc m hm
      · exact ec
    | false =>
      rw [ec] at h
      wp_walk using wpAny_loadPart' h1, wpAny_loadPart' h2
      rw [e1, e2]
      wp_walk
      simpa using h
theorem dqn_list (p q : Addr) (us vs : Array Value) (n1 n2 : Nat) (d1 d2 : Option Addr) (z1 z2 : Array (Option Value)) (same : us.size = vs.size) (c : Nat → Bool) :
    MeetsIn pr wo (Builtin.«list.__ne__» ⟨[.ref p, .ref q], []⟩)
      (fun B R t => t.heap.get? p = some { cls := .type "list", dict := d1, data := .seq us n1, slots := z1 } ∧ t.heap.get? q = some { cls := .type "list", dict := d2, data := .seq vs n2, slots := z2 } ∧
        Asks pr wo B.in1 t us vs c ∧ R (.ok (.ret (.bool (!(List.range us.size).all c)))) t) := by
  intro B R t h
  obtain ⟨hp, g, d, tk, os⟩ := t; obtain ⟨h1, h2, asks, h⟩ := h
  have f := AutoSeq1.sub_list_list
  have ns : ¬ (us.size != vs.size) = true := by simp [same]
  wp_walk using wpAny_loadPart' h1, wpAny_loadPart' h2
  refine ⟨plainId_quiet plain_eq_loop _, codeAny_builtin entry_eq_loop ?_⟩
  rw [Around.under_plainId plain_eq_loop _]
  exact dqn_list_loop p q us vs n1 n2 d1 d2 z1 z2 same c _ 0 rfl (fun m hm => absurd hm (Nat.not_lt_zero m)) B R _ ⟨h1, h2, asks, by simpa using h⟩
theorem dqn_lists {B : Around} {t : Shared} {p q : Addr} {us vs : Array Value} {c : Nat → Bool} (hp : t.heap.IsList p us) (hq : t.heap.IsList q vs) (same : us.size = vs.size) (hu : B.units < cLine)
    (asks : Asks pr wo B.in1 t us vs c) (E Q : Value → Shared → Prop) (h : Q (.bool (!(List.range us.size).all c)) t) : wpAny (model pr wo) B (richCompare .NotEq (.ref p) (.ref q)) Q E t := by
  obtain ⟨⟨c1, d1, a1, z1⟩, o1, k1, n1, y1⟩ := id hp
  obtain ⟨⟨c2, d2, a2, z2⟩, o2, k2, n2, y2⟩ := id hq
  simp only at k1 y1 k2 y2
  subst k1 y1 k2 y2
  have t1 : t.TypeIs (.ref p) "list" := ⟨_, o1, rfl⟩
  have t2 : t.TypeIs (.ref q) "list" := ⟨_, o2, rfl⟩
  refine wpAny_richCompare_same_room (op := .NotEq) t1 t2 F.slot_list_ne ?_ hu
  exact call_meetsIn F.slot_list_ne t1 F.entry_list_ne (F.args_list_ne_2 _ _) (dqn_list p q us vs n1 n2 d1 d2 z1 z2 same c)
    ⟨o1, o2, asks, show Value.bool _ ≠ Value.notImplemented ∧ Q (.bool _) t from ⟨(fun x => nomatch x), h⟩⟩
theorem dqn_tuple (p q : Addr) (us vs : Array Value) (n1 n2 : Nat) (d1 d2 : Option Addr) (z1 z2 : Array (Option Value)) (c : Nat → Bool) :
    MeetsIn pr wo (Builtin.«tuple.__ne__» ⟨[.ref p, .ref q], []⟩)
      (fun B R t => t.heap.get? p = some { cls := .type "tuple", dict := d1, data := .seq us n1, slots := z1 } ∧ t.heap.get? q = some { cls := .type "tuple", dict := d2, data := .seq vs n2, slots := z2 } ∧
        Asks pr wo B.in1 t us vs c ∧ R (.ok (.ret (.bool (!((List.range (min us.size vs.size)).all c && us.size == vs.size))))) t) :=
  .of_wp fun B R t h => by
    obtain ⟨hp, g, d, tk, os⟩ := t; obtain ⟨h1, h2, asks, h⟩ := h
    have f := AutoSeq1.sub_tuple_tuple
    have hz : (us.toList.zip vs.toList).length = min us.size vs.size := by simp
    wp_walk using wpAny_loadPart' h1, wpAny_loadPart' h2, wpAny_forIn_list _ (fun rest b t' => b.1 = none ∧ t' = ⟨hp, g, d, tk, os⟩ ∧ ∃ i, (∀ m, m < i → c m = true) ∧ rest = (us.toList.zip vs.toList).drop i ∧
      R (.ok (.ret (.bool (!(((List.range (min us.size vs.size)).drop i).all c && us.size == vs.size))))) ⟨hp, g, d, tk, os⟩) _
    case turn =>
      rintro ⟨y, x⟩ rest b t' ⟨hb, rfl, i, hc, er, hR⟩
      have l0 : i < (us.toList.zip vs.toList).length := by
        rcases Nat.lt_or_ge i (us.toList.zip vs.toList).length with z | z
        · exact z
        · rw [List.drop_of_length_le z] at er; cases er
      have l3 : i < min us.size vs.size := hz ▸ l0
      have l1 : i < us.size := Nat.lt_of_lt_of_le l3 (Nat.min_le_left _ _)
      have l2 : i < vs.size := Nat.lt_of_lt_of_le l3 (Nat.min_le_right _ _)
      rw [List.drop_eq_getElem_cons l0] at er
      injection er with e1 e2
      have ey : y = us[i] := by have := congrArg Prod.fst e1; simpa using this
      have ex : x = vs[i] := by have := congrArg Prod.snd e1; simpa using this
      subst ey ex
      have e3 : (List.range (min us.size vs.size)).drop i = i :: (List.range (min us.size vs.size)).drop (i + 1) := by simp [List.drop_eq_getElem_cons, l3]
      rw [e3, List.all_cons] at hR
      refine wpAny_bind (asks i l1 l2 hc _ _ ?_)
      cases ec : c i with
      | true =>
        rw [ec] at hR
        wp_walk
        refine ⟨rfl, rfl, i + 1, fun m hm => ?_, e2, by simpa using hR⟩
        rcases Nat.lt_succ_iff_lt_or_eq.mp hm with hm | rfl
        · exact hc m hm
        · exact ec
      | false =>
        rw [ec] at hR
        wp_walk
        exact ⟨_, rfl, by simpa using hR⟩
    case fin =>
      rintro ⟨b1, b2⟩ t' ⟨hb, rfl, i, hc, er, hR⟩
      simp only at hb
      subst hb
      have ge : min us.size vs.size ≤ i := by
        rcases Nat.lt_or_ge i (us.toList.zip vs.toList).length with z | z
        · rw [List.drop_eq_getElem_cons z] at er; cases er
        · exact hz ▸ z
      rw [List.drop_of_length_le (by simpa using ge)] at hR
      wp_walk
      exact ⟨_, rfl, by simpa [Builtin.Tuple.tupleCompareSizes, bne] using hR⟩
    case h =>
      exact ⟨rfl, rfl, 0, fun m hm => absurd hm (Nat.not_lt_zero m), rfl, by simpa using h⟩
theorem dqn_tuples {B : Around} {t : Shared} {p q : Addr} {us vs : Array Value} {c : Nat → Bool} (hp : t.heap.IsTuple p us) (hq : t.heap.IsTuple q vs) (hu : B.units < cLine)
    (asks : Asks pr wo B.in1 t us vs c) (E Q : Value → Shared → Prop) (h : Q (.bool (!((List.range (min us.size vs.size)).all c && us.size == vs.size))) t) : wpAny (model pr wo) B (richCompare .NotEq (.ref p) (.ref q)) Q E t := by
  obtain ⟨⟨c1, d1, a1, z1⟩, o1, k1, n1, y1⟩ := id hp
  obtain ⟨⟨c2, d2, a2, z2⟩, o2, k2, n2, y2⟩ := id hq
  simp only at k1 y1 k2 y2
  subst k1 y1 k2 y2
  have t1 : t.TypeIs (.ref p) "tuple" := ⟨_, o1, rfl⟩
  have t2 : t.TypeIs (.ref q) "tuple" := ⟨_, o2, rfl⟩
  refine wpAny_richCompare_same_room (op := .NotEq) t1 t2 F.slot_tuple_ne ?_ hu
  exact call_meetsIn F.slot_tuple_ne t1 F.entry_tuple_ne (F.args_tuple_ne_2 _ _) (dqn_tuple p q us vs n1 n2 d1 d2 z1 z2 c)
    ⟨o1, o2, asks, show Value.bool _ ≠ Value.notImplemented ∧ Q (.bool _) t from ⟨(fun x => nomatch x), h⟩⟩
end
end PySem.SeqAt
/-! DL, part 57: == and in of data at any depth: the evidence, the rules. -/
namespace DL
open PySem L2
/-- what == of two data says, told by evidence; n: how deep -/
inductive DQ : Nat → Dat → Dat → Bool → Prop where
  | flat {n : Nat} {x y : Dat} : flatD x = true → flatD y = true → DQ n x y (eqD x y)
  | lstL {n : Nat} {xs ys : List Dat} : xs.length ≠ ys.length → DQ n (.lst xs) (.lst ys) false
  | lst {n : Nat} {xs ys : List Dat} (c : Nat → Bool) : xs.length = ys.length → (∀ (j : Nat) (x y : Dat), xs[j]? = some x → ys[j]? = some y → (∀ i, i < j → c i = true) → DQ n x y (c j)) → DQ (n + 1) (.lst xs) (.lst ys) ((List.range xs.length).all c)
  | tup {n : Nat} {xs ys : List Dat} (c : Nat → Bool) : (∀ (j : Nat) (x y : Dat), xs[j]? = some x → ys[j]? = some y → (∀ i, i < j → c i = true) → DQ n x y (c j)) → DQ (n + 1) (.tup xs) (.tup ys) ((List.range (min xs.length ys.length)).all c && xs.length == ys.length)
  | dk {n : Nat} {ks ls : List (Key × Dat)} (c : Key → Bool) (w : Key → Dat) : (ks.map (·.1)).Nodup → (ls.map (·.1)).Nodup → ks.length = ls.length → (∀ p ∈ ks, valD ls p.1 = some (w p.1)) → (∀ p ∈ ks, DQ n p.2 (w p.1) (c p.1)) → DQ (n + 1) (.dk ks) (.dk ls) (ks.all fun p => c p.1)
theorem all_range_true {n : Nat} {c : Nat → Bool} (h : ∀ j, j < n → c j = true) : (List.range n).all c = true := List.all_eq_true.mpr fun j hj => h j (List.mem_range.mp hj)
theorem valD_nd {ks : List (Key × Dat)} {p : Key × Dat} (nd : (ks.map (·.1)).Nodup) (h : p ∈ ks) : valD ks p.1 = some p.2 := by
  unfold valD
  induction ks with
  | nil => cases h
  | cons q qs ih =>
    rw [List.map_cons, List.nodup_cons] at nd
    rcases List.mem_cons.mp h with rfl | h
    · simp
    · have : ¬ q.1 = p.1 := fun z => nd.1 (by rw [z]; exact List.mem_map_of_mem h)
      rw [List.find?_cons, decide_eq_false this]
      exact ih nd.2 h
theorem eqD_self {x : Dat} (h : flatD x = true) : eqD x x = true := by
  cases x <;> first | (cases h; done) | (simp [eqD, py, PyData.eqv]; done)
/-- the same thing: equal -/
theorem DQ.same {K : Frag} {F : Hp} {n : Nat} {x y : Dat} {b : Bool} (h : DQ n x y b) : ∀ {v : V}, Rep K F v x → Rep K F v y → b = true := by
  induction h with
  | @flat n x y hx hy =>
    intro v r1 r2
    cases r1 <;> first | (cases hx; done) | (cases r2 <;> first | (cases hy; done) | exact eqD_self rfl)
  | lstL hl =>
    intro v r1 r2
    cases r1 with
    | lst h1 l1 _ =>
      cases r2 with
      | lst h2 l2 _ =>
        rw [h1] at h2
        cases h2
        exact absurd (l1.symm.trans l2) hl
  | @lst n xs ys c hl _ ih =>
    intro v r1 r2
    cases r1 with
    | @lst a vs _ h1 l1 q1 =>
      cases r2 with
      | @lst _ us _ h2 l2 q2 =>
        rw [h1] at h2
        cases h2
        refine all_range_true fun j => ?_
        induction j using Nat.strongRecOn with
        | ind j ihj =>
          intro hj
          have hx := List.getElem?_eq_getElem hj
          have hy := List.getElem?_eq_getElem (show j < ys.length by omega)
          have hv := List.getElem?_eq_getElem (show j < vs.length by omega)
          exact ih j _ _ hx hy (fun i hi => ihj i hi (by omega)) (q1 j _ _ hv hx) (q2 j _ _ hv hy)
  | @tup n xs ys c _ ih =>
    intro v r1 r2
    cases r1 with
    | @tup a vs _ h1 l1 q1 =>
      cases r2 with
      | @tup _ us _ h2 l2 q2 =>
        rw [h1] at h2
        cases h2
        have hl : xs.length = ys.length := l1.symm.trans l2
        rw [Bool.and_eq_true, beq_iff_eq]
        refine ⟨?_, hl⟩
        rw [← hl, Nat.min_self]
        refine all_range_true fun j => ?_
        induction j using Nat.strongRecOn with
        | ind j ihj =>
          intro hj
          have hx := List.getElem?_eq_getElem hj
          have hy := List.getElem?_eq_getElem (show j < ys.length by omega)
          have hv := List.getElem?_eq_getElem (show j < vs.length by omega)
          exact ih j _ _ hx hy (fun i hi => ihj i hi (by omega)) (q1 j _ _ hv hx) (q2 j _ _ hv hy)
  | @dk n ks ls c w0 nd1 nd2 hl hp hdq ih =>
    intro v r1 r2
    cases r1 with
    | @dk a o ws _ h1 k1 q1 =>
      cases r2 with
      | @dk _ o2 ws2 _ h2 k2 q2 =>
        rw [h1] at h2
        cases h2
        refine List.all_eq_true.mpr fun p hp' => ?_
        have hu := hp p hp'
        obtain ⟨i, hi⟩ := List.getElem?_of_mem hp'
        have hil := (List.getElem?_eq_some_iff.mp hi).1
        have hw : i < ws.length := by have := congrArg List.length k1; simp at this; omega
        have hw2 : i < ls.length := by omega
        have e1 := congrArg (fun l => l[i]?) k1
        have e2 := congrArg (fun l => l[i]?) k2
        simp only [List.getElem?_map, hi, List.getElem?_eq_getElem hw, List.getElem?_eq_getElem hw2, Option.map_some, Option.some.injEq] at e1 e2
        have hu2 : valD ls p.1 = some ls[i].2 := by
          rw [← e1, e2]
          exact valD_nd nd2 (List.getElem_mem hw2)
        rw [hu] at hu2
        have ihd : ∀ {v : V}, Rep K F v p.2 → Rep K F v ls[i].2 → c p.1 = true := by
          rw [← Option.some.inj hu2]
          exact ih p hp'
        exact ihd (q1 i ws[i].1 p.1 ws[i].2 p.2 (List.getElem?_eq_getElem hw) hi) (q2 i ws[i].1 ls[i].1 ws[i].2 ls[i].2 (List.getElem?_eq_getElem hw) (List.getElem?_eq_getElem hw2))
theorem vals_at {vs : List V} {us : List Value} (h : Vals vs us) : ∀ {j : Nat} (h1 : j < us.length), ∃ v, vs[j]? = some v ∧ RelV v us[j] := by
  induction h with
  | nil => intro j h1; exact absurd h1 (Nat.not_lt_zero j)
  | @cons v u vs us r t ih =>
    intro j h1
    cases j with
    | zero => exact ⟨v, rfl, r⟩
    | succ j => exact ih (Nat.lt_of_succ_lt_succ h1)
theorem eqP_of {pr : Program} {wo : World} {A : Around} {s : Shared} {p q : Addr} {b : Bool} (same : p = q → b = true) (h : ∀ (E Q : Value → Shared → Prop), Q (.bool b) s → wpAny (model pr wo) A (richCompare .Eq (.ref p) (.ref q)) Q E s) : SeqAt.EqP pr wo A s (.ref p) (.ref q) b := by
  by_cases c : p = q
  · subst c
    rw [same rfl]
    exact (SeqAt.EqAt.same _).eqP
  · exact SeqAt.eqP_refs c h
section
variable {X : Cx} {pins : List (Addr × Obj)} {σ : St} {F H : Hp} {s : Shared}
def Rich (X : Cx) (A : Around) (s : Shared) (v u : Value) (b : Bool) : Prop := (∀ (E Q : Value → Shared → Prop), Q (.bool b) s → wpAny (model X.prog X.w) A (richCompare .Eq v u) Q E s) ∧ ∀ (E Q : Value → Shared → Prop), Q (.bool (!b)) s → wpAny (model X.prog X.w) A (richCompare .NotEq v u) Q E s
theorem nePairs {pr : Program} {wo : World} {K : Type} [DecidableEq K] {knd : KeyKind pr wo K} {B : Around} {t : Shared} {p q : Addr} {ka kb : List (K × Value)} {r : Bool} (g1 : (p == sysModules) = false) (g2 : (q == sysModules) = false)
    (d1 : t.heap.DictOf knd p ka) (d2 : t.heap.DictOf knd q kb) (hu : B.units < cLine) (hits : ka.length = kb.length → PySem.W.KeqHitsP pr wo B.in1 t kb ka r) (E Q : Value → Shared → Prop) (h : Q (.bool (!(ka.length == kb.length && r))) t) : wpAny (model pr wo) B (richCompare .NotEq (.ref p) (.ref q)) Q E t := by
  refine wpAny_richCompare_same_room (op := .NotEq) d1.typeIs d2.typeIs PySem.F.slot_dict_ne (wpAny_call_entry PySem.F.slot_dict_ne d1.typeIs PySem.F.entry_dict_ne ?_ (PySem.F.args_dict_ne_2 _ _)) hu
  show wpAny _ _ (Builtin.Dict.dictSlotArgs "__ne__" ⟨[.ref p, .ref q], []⟩ >>= _) _ _ t
  refine wpAny_bind ?_
  unfold Builtin.Dict.dictSlotArgs
  refine wpAny_bind (wpAny_notOrdered_dict d1.typeIs ?_)
  show wpAny _ _ (pure (Value.ref p, Value.ref q)) _ _ t
  refine wpAny_pure ?_
  refine wpAny_bind (wpAny_isInstance (T := "dict") d2.typeIs PySem.F.sub_dict_dict ?_)
  simp only [Bool.not_true, Bool.false_eq_true, if_false]
  refine wpAny_bind (wpAny_pure (wpAny_bind (wpAny_pure ?_)))
  refine wpAny_bind (PySem.W.samePairsP g1 g2 d1 d2 hits ?_)
  refine wpAny_pure ⟨_, rfl, ?_, ?_⟩
  · exact fun x => nomatch x
  · simpa using h
theorem DQ.run (I : Inv X pins σ H s) (sb : Same F H) {n : Nat} {x y : Dat} {b : Bool} (h : DQ n x y b) : ∀ (A : Around), A.units + n < cLine → ∀ {v u : V} {v' u' : Value}, Rep X.K F v x → Rep X.K F u y → RelV v v' → RelV u u' → SeqAt.EqP X.prog X.w A s v' u' b ∧ (flatD x = false → Rich X A s v' u' b) := by
  induction h with
  | @flat n x y hx hy =>
    intro A hA v u v' u' r1 r2 g1 g2
    have := (eqAt_V (A := A) (s := s) g1 g2 (flat_of r1 hx) (flat_of r2 hy)).eqP (prog := X.prog) (w := X.w)
    rw [eq_flat r2 r1 hy hx] at this
    exact ⟨this, fun z => by rw [hx] at z; cases z⟩
  | @lstL n xs ys hl =>
    intro A hA v u v' u' r1 r2 g1 g2
    have same := (DQ.lstL (n := n) hl).same r1
    cases r1 with
    | @lst p vs _ h1 l1 _ =>
      cases r2 with
      | @lst q us _ h2 l2 q2 =>
        cases (show v' = Value.ref p from g1)
        cases (show u' = Value.ref q from g2)
        have rich : Rich X A s (.ref p) (.ref q) false := ⟨fun E Q hq => by
          obtain ⟨i1, e1, p1, _⟩ := I.list (SqL.of (sb _ _ h1))
          obtain ⟨i2, e2, p2, _⟩ := I.list (SqL.of (sb _ _ h2))
          refine SeqAt.RcAt.lists_lengths p1.isList p2.isList ?_ (by omega) X.prog X.w E Q hq
          have g1 := e1.length
          have g2 := e2.length
          simp only [List.size_toArray, bne_iff_ne, ne_eq]
          omega, fun E Q hq => by
          obtain ⟨i1, e1, p1, _⟩ := I.list (SqL.of (sb _ _ h1))
          obtain ⟨i2, e2, p2, _⟩ := I.list (SqL.of (sb _ _ h2))
          refine SeqAt.RcNeAt.lists_lengths p1.isList p2.isList ?_ (by omega) X.prog X.w E Q hq
          have g1 := e1.length
          have g2 := e2.length
          simp only [List.size_toArray, bne_iff_ne, ne_eq]
          omega⟩
        exact ⟨eqP_of (fun z => by subst z; exact same (.lst h2 l2 q2)) rich.1, fun _ => rich⟩
  | @lst n xs ys c hl hd ih =>
    intro A hA v u v' u' r1 r2 g1 g2
    have same := (DQ.lst (n := n) c hl hd).same r1
    cases r1 with
    | @lst p vs _ h1 l1 q1 =>
      cases r2 with
      | @lst q us _ h2 l2 q2 =>
        cases (show v' = Value.ref p from g1)
        cases (show u' = Value.ref q from g2)
        have rich : Rich X A s (.ref p) (.ref q) ((List.range xs.length).all c) := ⟨fun E Q hq => by
          obtain ⟨i1, e1, p1, _⟩ := I.list (SqL.of (sb _ _ h1))
          obtain ⟨i2, e2, p2, _⟩ := I.list (SqL.of (sb _ _ h2))
          have m1 := e1.length
          have m2 := e2.length
          refine SeqAt.dq_lists (c := c) p1.isList p2.isList (by simp; omega) (by omega) (fun j k1 k2 hc => ?_) E Q ?_
          · have k1' : j < i1.length := by simpa using k1
            have k2' : j < i2.length := by simpa using k2
            obtain ⟨w1, o1, t1⟩ := vals_at e1 k1'
            obtain ⟨w2, o2, t2⟩ := vals_at e2 k2'
            have hx := List.getElem?_eq_getElem (show j < xs.length by omega)
            have hy := List.getElem?_eq_getElem (show j < ys.length by omega)
            have := (ih j _ _ hx hy hc A.in1 (by show A.units + 1 + n < cLine; omega) (q1 j _ _ o1 hx) (q2 j _ _ o2 hy) t1 t2).1
            simpa using this
          · have e : i1.toArray.size = xs.length := by simp; omega
            rw [e]
            exact hq, fun E Q hq => by
          obtain ⟨i1, e1, p1, _⟩ := I.list (SqL.of (sb _ _ h1))
          obtain ⟨i2, e2, p2, _⟩ := I.list (SqL.of (sb _ _ h2))
          have m1 := e1.length
          have m2 := e2.length
          refine SeqAt.dqn_lists (c := c) p1.isList p2.isList (by simp; omega) (by omega) (fun j k1 k2 hc => ?_) E Q ?_
          · have k1' : j < i1.length := by simpa using k1
            have k2' : j < i2.length := by simpa using k2
            obtain ⟨w1, o1, t1⟩ := vals_at e1 k1'
            obtain ⟨w2, o2, t2⟩ := vals_at e2 k2'
            have hx := List.getElem?_eq_getElem (show j < xs.length by omega)
            have hy := List.getElem?_eq_getElem (show j < ys.length by omega)
            have := (ih j _ _ hx hy hc A.in1 (by show A.units + 1 + n < cLine; omega) (q1 j _ _ o1 hx) (q2 j _ _ o2 hy) t1 t2).1
            simpa using this
          · have e : i1.toArray.size = xs.length := by simp; omega
            rw [e]
            exact hq⟩
        exact ⟨eqP_of (fun z => by subst z; exact same (.lst h2 l2 q2)) rich.1, fun _ => rich⟩
  | @tup n xs ys c hd ih =>
    intro A hA v u v' u' r1 r2 g1 g2
    have same := (DQ.tup (n := n) c hd).same r1
    cases r1 with
    | @tup p vs _ h1 l1 q1 =>
      cases r2 with
      | @tup q us _ h2 l2 q2 =>
        cases (show v' = Value.ref p from g1)
        cases (show u' = Value.ref q from g2)
        have rich : Rich X A s (.ref p) (.ref q) ((List.range (min xs.length ys.length)).all c && xs.length == ys.length) := ⟨fun E Q hq => by
          obtain ⟨i1, e1, p1, _⟩ := I.tuple (SqT.of (sb _ _ h1))
          obtain ⟨i2, e2, p2, _⟩ := I.tuple (SqT.of (sb _ _ h2))
          have m1 := e1.length
          have m2 := e2.length
          refine SeqAt.dq_tuples (c := c) p1 p2 (by omega) (fun j k1 k2 hc => ?_) E Q ?_
          · have k1' : j < i1.length := by simpa using k1
            have k2' : j < i2.length := by simpa using k2
            obtain ⟨w1, o1, t1⟩ := vals_at e1 k1'
            obtain ⟨w2, o2, t2⟩ := vals_at e2 k2'
            have hx := List.getElem?_eq_getElem (show j < xs.length by omega)
            have hy := List.getElem?_eq_getElem (show j < ys.length by omega)
            have := (ih j _ _ hx hy hc A.in1 (by show A.units + 1 + n < cLine; omega) (q1 j _ _ o1 hx) (q2 j _ _ o2 hy) t1 t2).1
            simpa using this
          · have e : i1.toArray.size = xs.length := by simp; omega
            have e' : i2.toArray.size = ys.length := by simp; omega
            rw [e, e']
            exact hq, fun E Q hq => by
          obtain ⟨i1, e1, p1, _⟩ := I.tuple (SqT.of (sb _ _ h1))
          obtain ⟨i2, e2, p2, _⟩ := I.tuple (SqT.of (sb _ _ h2))
          have m1 := e1.length
          have m2 := e2.length
          refine SeqAt.dqn_tuples (c := c) p1 p2 (by omega) (fun j k1 k2 hc => ?_) E Q ?_
          · have k1' : j < i1.length := by simpa using k1
            have k2' : j < i2.length := by simpa using k2
            obtain ⟨w1, o1, t1⟩ := vals_at e1 k1'
            obtain ⟨w2, o2, t2⟩ := vals_at e2 k2'
            have hx := List.getElem?_eq_getElem (show j < xs.length by omega)
            have hy := List.getElem?_eq_getElem (show j < ys.length by omega)
            have := (ih j _ _ hx hy hc A.in1 (by show A.units + 1 + n < cLine; omega) (q1 j _ _ o1 hx) (q2 j _ _ o2 hy) t1 t2).1
            simpa using this
          · have e : i1.toArray.size = xs.length := by simp; omega
            have e' : i2.toArray.size = ys.length := by simp; omega
            rw [e, e']
            exact hq⟩
        exact ⟨eqP_of (fun z => by subst z; exact same (.tup h2 l2 q2)) rich.1, fun _ => rich⟩
  | @dk n ks ls c w0 nd1 nd2 hl hp hdq ih =>
    intro A hA v u v' u' r1 r2 g1 g2
    have same := (DQ.dk (n := n) c w0 nd1 nd2 hl hp hdq).same r1
    cases r1 with
    | @dk p o ws _ h1 k1 q1 =>
      cases r2 with
      | @dk q o2 us _ h2 k2 q2 =>
        cases (show v' = Value.ref p from g1)
        cases (show u' = Value.ref q from g2)
        have rich : Rich X A s (.ref p) (.ref q) (ks.all fun p => c p.1) := ⟨fun E Q hq => by
          obtain ⟨_, _, ya, va, ra, da⟩ := (show ObjOk X.prog X.w H s.heap p (.frz o (.dK ws)) from I.hok p _ (sb _ _ h1))
          obtain ⟨_, _, yb, vb, rb, db⟩ := (show ObjOk X.prog X.w H s.heap q (.frz o2 (.dK us)) from I.hok q _ (sb _ _ h2))
          have w1 := congrArg List.length k1
          have w2 := congrArg List.length k2
          rw [List.length_map, List.length_map] at w1 w2
          have hits : ∀ (ts : List (Key × Dat)) (wt : List (Key × V)) (vt : List (Key × Value)), (∀ p ∈ ts, p ∈ ks) → wt.map (·.1) = ts.map (·.1) → (∀ (i : Nat) (k k' : Key) (v : V) (x : Dat), wt[i]? = some (k, v) → ts[i]? = some (k', x) → Rep X.K F v x) → KV wt vt → PySem.W.KeqHitsP X.prog X.w A.in1 s vb vt (ts.all fun p => c p.1) := by
            intro ts
            induction ts with
            | nil =>
              intro wt vt _ e1 _ kv
              cases wt with
              | nil => cases kv; exact .nil
              | cons a b => simp at e1
            | cons t ts iht =>
              intro wt vt hm e1 hr kv
              cases wt with
              | nil => simp at e1
              | cons a wt =>
                simp only [List.map_cons, List.cons.injEq] at e1
                cases kv with
                | @cons _ z _ vt hz kt =>
                  obtain ⟨key, val⟩ := z
                  obtain ⟨z1, z2⟩ := hz
                  have z1 : a.1 = key := z1
                  have hw := hp t (hm t List.mem_cons_self)
                  have ihd := ih t (hm t List.mem_cons_self)
                  obtain ⟨u0, hu0, ru0⟩ := ((⟨k2, q2⟩ : RepsK X.K F us ls).get t.1).2 (w0 t.1) hw
                  have rr : RelO (some u0) (valueAt vb t.1) := by rw [← hu0]; exact rb.val t.1
                  obtain ⟨y0, hy0, ry0⟩ := rr.some_of
                  rw [← e1.1, z1] at hy0
                  have ra0 := hr 0 a.1 t.1 a.2 t.2 rfl rfl
                  have step := (ihd A.in1 (by show A.units + 1 + n < cLine; omega) ra0 ru0 z2 ry0).1
                  rw [List.all_cons]
                  exact .hit hy0 step (iht wt vt (fun p hp => hm p (List.mem_cons_of_mem _ hp)) e1.2 (fun i k k' v x o1 o2 => hr (i + 1) k k' v x o1 o2) kt)
          refine PySem.W.rcP_dicts (knd := mixKind X.prog X.w) (r := ks.all fun p => c p.1) ya yb da db (by omega) (fun _ => hits ks ws va (fun p hp => hp) k1 q1 ra) E Q ?_
          have e : va.length = vb.length := by rw [← ra.length, ← rb.length]; omega
          rw [show (va.length == vb.length && ks.all fun p => c p.1) = ks.all fun p => c p.1 from by rw [e]; simp]
          exact hq, fun E Q hq => by
          obtain ⟨_, _, ya, va, ra, da⟩ := (show ObjOk X.prog X.w H s.heap p (.frz o (.dK ws)) from I.hok p _ (sb _ _ h1))
          obtain ⟨_, _, yb, vb, rb, db⟩ := (show ObjOk X.prog X.w H s.heap q (.frz o2 (.dK us)) from I.hok q _ (sb _ _ h2))
          have w1 := congrArg List.length k1
          have w2 := congrArg List.length k2
          rw [List.length_map, List.length_map] at w1 w2
          have hits : ∀ (ts : List (Key × Dat)) (wt : List (Key × V)) (vt : List (Key × Value)), (∀ p ∈ ts, p ∈ ks) → wt.map (·.1) = ts.map (·.1) → (∀ (i : Nat) (k k' : Key) (v : V) (x : Dat), wt[i]? = some (k, v) → ts[i]? = some (k', x) → Rep X.K F v x) → KV wt vt → PySem.W.KeqHitsP X.prog X.w A.in1 s vb vt (ts.all fun p => c p.1) := by
            intro ts
            induction ts with
            | nil =>
              intro wt vt _ e1 _ kv
              cases wt with
              | nil => cases kv; exact .nil
              | cons a b => simp at e1
            | cons t ts iht =>
              intro wt vt hm e1 hr kv
              cases wt with
              | nil => simp at e1
              | cons a wt =>
                simp only [List.map_cons, List.cons.injEq] at e1
                cases kv with
                | @cons _ z _ vt hz kt =>
                  obtain ⟨key, val⟩ := z
                  obtain ⟨z1, z2⟩ := hz
                  have z1 : a.1 = key := z1
                  have hw := hp t (hm t List.mem_cons_self)
                  have ihd := ih t (hm t List.mem_cons_self)
                  obtain ⟨u0, hu0, ru0⟩ := ((⟨k2, q2⟩ : RepsK X.K F us ls).get t.1).2 (w0 t.1) hw
                  have rr : RelO (some u0) (valueAt vb t.1) := by rw [← hu0]; exact rb.val t.1
                  obtain ⟨y0, hy0, ry0⟩ := rr.some_of
                  rw [← e1.1, z1] at hy0
                  have ra0 := hr 0 a.1 t.1 a.2 t.2 rfl rfl
                  have step := (ihd A.in1 (by show A.units + 1 + n < cLine; omega) ra0 ru0 z2 ry0).1
                  rw [List.all_cons]
                  exact .hit hy0 step (iht wt vt (fun p hp => hm p (List.mem_cons_of_mem _ hp)) e1.2 (fun i k k' v x o1 o2 => hr (i + 1) k k' v x o1 o2) kt)
          refine nePairs (knd := mixKind X.prog X.w) (r := ks.all fun p => c p.1) ya yb da db (by omega) (fun _ => hits ks ws va (fun p hp => hp) k1 q1 ra) E Q ?_
          have e : va.length = vb.length := by rw [← ra.length, ← rb.length]; omega
          rw [show (va.length == vb.length && ks.all fun p => c p.1) = ks.all fun p => c p.1 from by rw [e]; simp]
          exact hq⟩
        exact ⟨eqP_of (fun z => by subst z; exact same (.dk h2 k2 q2)) rich.1, fun _ => rich⟩
end
end DL
/-! DL, part 58: ==, != and in by evidence; d.get(k, x); (a house, its rows) unpacked, the rows still from here on. -/
namespace DL
open PySem L2
/-! ### d.get(k, x) -/
def isDk : Dat → Bool
  | .dk _ => true
  | .dt _ => true
  | _ => false
def getD2 : Dat → Dat → (Option Dat → Prop) → Prop
  | .dk kvs, .int i, T => T (valD kvs (.inl i))
  | .dk kvs, .str s, T => T (valD kvs (.inr s))
  | .dt kvs, .tup ds, T => ∃ ks, keysOf ds = some ks ∧ T (valD kvs ks)
  | _, _, _ => False
def dGet2 (dd dk dx : DE) : DE := fun ρ R X => dd ρ (fun d ρ1 => isDk d = true ∧ dk ρ1 (fun k ρ2 => dx ρ2 (fun x ρ3 => getD2 d k fun o => R (o.getD x) ρ3) X) X) X
/-! ### (a house, its rows) unpacked, the rows still from here on -/
def GS.dats (G : GS) (L : List (List Dat)) : Prop := G.rows.map G.at_ = L.map some
/-- house, rows = .. -/
def dUnHD (i j : Nat) (d : DO) : DS := fun D ρ => d ρ (fun r ρ1 => ∃ C S G L, r = .hg C S G ∧ G.dats L ∧ D.nx ((ρ1.set i (some (.h C S))).set j (some (.d (.lst (L.map Dat.lst)))))) D.ex
section
variable {K : Frag} {fr : Fr} {F H : Hp} {ρ : Env} {σ : St} {fps : Nat → Addr → Prop}
/-- some things no slot has become still -/
theorem SR.calm (r : SR K fr F H ρ σ fps) (P : Addr → Prop) (h1 : ∀ a, P a → F a = none ∧ H a ≠ none ∧ fr.H a = none) (h2 : ∀ i a, P a → ¬ fps i a) :
    ∃ F', SR K fr F' H ρ σ fps ∧ Same F F' ∧ (∀ a, P a → F' a = H a) ∧ ∀ a, ¬ P a → F' a = F a := by
  classical
  refine ⟨fun a => if P a then H a else F a, ?_, ?_, fun a h => if_pos h, fun a h => if_neg h⟩
  · have sm : Same F (fun a => if P a then H a else F a) := fun a u q => by
      by_cases c : P a
      · rw [(h1 a c).1] at q; cases q
      · show (if P a then H a else F a) = _
        rw [if_neg c]; exact q
    refine ⟨fun a u q => ?_, r.le.trans sm, r.keep, r.tr, fun a q => ?_, fun i t q => ?_, fun i a q => ?_, r.apart, r.io, r.len, r.nt, r.tk⟩
    · by_cases c : P a
      · have q : (if P a then H a else F a) = _ := q
        rw [if_pos c] at q; exact q
      · have q : (if P a then H a else F a) = _ := q
        rw [if_neg c] at q; exact r.sub a u q
    · by_cases c : P a
      · exact .inr (.inl (h1 a c).2.2)
      · have q : (if P a then H a else F a) ≠ none := q
        rw [if_neg c] at q; exact r.fresh a q
    · obtain ⟨u, q1, q2⟩ := r.slots i t q
      exact ⟨u, q1, q2.stay sm fun _ _ => rfl⟩
    · obtain ⟨q1, q2, q3⟩ := r.own i a q
      refine ⟨?_, q2, q3⟩
      show (if P a then H a else F a) = none
      rw [if_neg fun z => h2 i a z q]
      exact q1
  · intro a u q
    by_cases c : P a
    · rw [(h1 a c).1] at q; cases q
    · show (if P a then H a else F a) = _
      rw [if_neg c]; exact q
end
/-! ### the walk's equations -/
section
variable {ρ : DL.Env} {X : XR} {D : DK}
theorem f_dGet2 {dd dk dx : DE} {R : Dat → DL.Env → Prop} : dGet2 dd dk dx ρ R X = dd ρ (blk (fun d ρ1 => isDk d = true ∧ dk ρ1 (fun k ρ2 => dx ρ2 (fun x ρ3 => getD2 d k fun o => R (o.getD x) ρ3) X) X) .mk) X := rfl
theorem f_dUnHD {i j : Nat} {d : DO} : dUnHD i j d D ρ = d ρ (blk (fun r ρ1 => ∃ C S G L, r = .hg C S G ∧ G.dats L ∧ D.nx ((ρ1.set i (some (.h C S))).set j (some (.d (.lst (L.map Dat.lst)))))) .mk) D.ex := rfl
end
end DL
/-! DL, part 59: == of kinds, of values, of a law's rows. -/
namespace DL
open PySem L2
theorem eqD_int {i j : Int} : eqD (.int i) (.int j) = decide (i = j) := by
  rw [Bool.eq_iff_iff]
  simp [eqD, py, PyData.eqv]
theorem eqD_str {i j : Str} : eqD (.str i) (.str j) = decide (i = j) := by
  rw [Bool.eq_iff_iff]
  simp [eqD, py, PyData.eqv]
theorem DQ.int {n : Nat} (i j : Int) : DQ n (.int i) (.int j) (decide (i = j)) := by
  rw [← eqD_int]
  exact .flat rfl rfl
theorem DQ.str {n : Nat} (i j : Str) : DQ n (.str i) (.str j) (decide (i = j)) := by
  rw [← eqD_str]
  exact .flat rfl rfl
theorem DQ.mono {n k : Nat} {x y : Dat} {b : Bool} (h : DQ n x y b) (l : n ≤ k) : DQ k x y b := by
  induction h generalizing k with
  | flat h1 h2 => exact .flat h1 h2
  | lstL h => exact .lstL h
  | lst c hl h ih =>
    cases k with
    | zero => omega
    | succ k => exact .lst c hl fun j x y h1 h2 h3 => ih j x y h1 h2 h3 (by omega)
  | tup c h ih =>
    cases k with
    | zero => omega
    | succ k => exact .tup c fun j x y h1 h2 h3 => ih j x y h1 h2 h3 (by omega)
  | dk c w n1 n2 hl hp hd ih =>
    cases k with
    | zero => omega
    | succ k => exact .dk c w n1 n2 hl hp fun p hp => ih p hp (by omega)
/-- the items, one behind the other -/
inductive DQs (n : Nat) : List Dat → List Dat → Bool → Prop where
  | nil : DQs n [] [] true
  | nilL {y : Dat} {ys : List Dat} : DQs n [] (y :: ys) false
  | nilR {x : Dat} {xs : List Dat} : DQs n (x :: xs) [] false
  | hit {x y : Dat} {xs ys : List Dat} {b : Bool} : DQ n x y true → DQs n xs ys b → DQs n (x :: xs) (y :: ys) b
  | stop {x y : Dat} {xs ys : List Dat} : DQ n x y false → DQs n (x :: xs) (y :: ys) false
theorem DQs.run {n : Nat} {xs ys : List Dat} {b : Bool} (h : DQs n xs ys b) : ∃ c : Nat → Bool, (∀ (j : Nat) (x y : Dat), xs[j]? = some x → ys[j]? = some y → (∀ i, i < j → c i = true) → DQ n x y (c j)) ∧ b = ((List.range (min xs.length ys.length)).all c && xs.length == ys.length) := by
  induction h with
  | nil => exact ⟨fun _ => true, by simp, rfl⟩
  | nilL => exact ⟨fun _ => true, by simp, by simp⟩
  | nilR => exact ⟨fun _ => true, by simp, by simp⟩
  | @hit x y xs ys b hd _ ih =>
    obtain ⟨c, h1, h2⟩ := ih
    refine ⟨fun j => match j with | 0 => true | j + 1 => c j, fun j u v g1 g2 g3 => ?_, ?_⟩
    · cases j with
      | zero => cases g1; cases g2; exact hd
      | succ j => exact h1 j u v g1 g2 fun i hi => g3 (i + 1) (by omega)
    · rw [h2, List.length_cons, List.length_cons, Nat.add_min_add_right, List.range_succ_eq_map, List.all_cons, List.all_map]
      simp
      rfl
  | @stop x y xs ys hd =>
    refine ⟨fun j => false, fun j u v g1 g2 g3 => ?_, ?_⟩
    · cases j with
      | zero => cases g1; cases g2; exact hd
      | succ j => exact absurd (g3 0 (by omega)) (by simp)
    · rw [List.length_cons, List.length_cons, Nat.add_min_add_right, List.range_succ_eq_map, List.all_cons]
      rfl
theorem DQs.tup {n : Nat} {xs ys : List Dat} {b : Bool} (h : DQs n xs ys b) : DQ (n + 1) (.tup xs) (.tup ys) b := by
  obtain ⟨c, h1, rfl⟩ := h.run
  exact .tup c h1
theorem DQs.lst {n : Nat} {xs ys : List Dat} {b : Bool} (h : DQs n xs ys b) : DQ (n + 1) (.lst xs) (.lst ys) b := by
  obtain ⟨c, h1, rfl⟩ := h.run
  by_cases hl : xs.length = ys.length
  · have e : ((List.range (min xs.length ys.length)).all c && xs.length == ys.length) = (List.range xs.length).all c := by rw [hl]; simp
    rw [e]
    exact .lst c hl h1
  · have e : ((List.range (min xs.length ys.length)).all c && xs.length == ys.length) = false := by
      rw [show (xs.length == ys.length) = false from by simpa using hl, Bool.and_false]
    rw [e]
    exact .lstL hl
end DL
/-! DL, part 60: the walk's equations put together, once more. -/
namespace DL
open PySem L2
theorem FGd : type_of% @f_dGet2 ∧ type_of% @f_dUnHD ∧ type_of% @f_dGGet ∧ type_of% @f_dGSet ∧ type_of% @f_dGNew ∧ type_of% @f_dGCat ∧ type_of% @f_dGCatO ∧ type_of% @f_diG ∧ type_of% @f_dSetG ∧ type_of% @f_dRetHG ∧ type_of% @f_dUnHG ∧ type_of% @f_dLcG := ⟨@f_dGet2, @f_dUnHD, @f_dGGet, @f_dGSet, @f_dGNew, @f_dGCat, @f_dGCatO, @f_diG, @f_dSetG, @f_dRetHG, @f_dUnHG, @f_dLcG⟩
theorem FGn : type_of% @sG_g ∧ type_of% @Slot.g.injEq ∧ type_of% @Slot.hg.injEq ∧ type_of% @List.tail_cons.{0} ∧ type_of% @Bool.and_true ∧ type_of% @Bool.and_false ∧ type_of% @Bool.true_and ∧ type_of% @Bool.false_and ∧ type_of% @PySem.sizeLine_eq ∧ type_of% @Int.natAbs_natCast := ⟨@sG_g, @Slot.g.injEq, @Slot.hg.injEq, @List.tail_cons.{0}, @Bool.and_true, @Bool.and_false, @Bool.true_and, @Bool.false_and, @PySem.sizeLine_eq, @Int.natAbs_natCast⟩
theorem BGn : type_of% @exists_eq_left'.{1} ∧ type_of% @exists_eq_left.{1} ∧ type_of% @exists_eq'.{1} ∧ type_of% @exists_const.{1} ∧ type_of% @exists_and_left.{1} ∧ type_of% @decide_eq_true_eq ∧ type_of% @if_true.{1} ∧ type_of% @if_false.{1} ∧ type_of% @ite_true.{1} ∧ type_of% @ite_false.{1} ∧ type_of% @id_eq.{1} ∧ type_of% @eq_self.{1} ∧ type_of% @iff_self :=
  ⟨@exists_eq_left'.{1}, @exists_eq_left.{1}, @exists_eq'.{1}, @exists_const.{1}, @exists_and_left.{1}, @decide_eq_true_eq, @if_true.{1}, @if_false.{1}, @ite_true.{1}, @ite_false.{1}, @id_eq.{1}, @eq_self.{1}, @iff_self⟩
end DL
/-! DL, part 61: an own list lent as still to a call that returns nothing; a slice of an own list; a temporary own thing lent last. -/
namespace DL
open PySem L2
section
variable {X : Cx} {W : WX} {ios : Ios}
/-- f(x, e), x a slot's own list, read only by f, which returns nothing -/
def dDropQ (i : Nat) (S : DSpec) (de : DE) : DS := fun D ρ => (∃ xs, ρ[i]? = some (some (.l xs))) ∧ de ρ (fun y ρ1 => ∃ xs, ρ1[i]? = some (some (.l xs)) ∧ S [.d (.lst xs), .d y] (fun _ os => os = [] → D.nx ρ1) (fun c os => os = [] → D.ex c ρ1)) D.ex
/-- x[a:b], x a slot's own list, as data -/
def dOwnCut (i : Nat) (dl dh : DP) : DE := fun ρ R X => (∃ s, ρ[i]? = some (some (.l s))) ∧ dl ρ (fun lo ρ2 => dh ρ2 (fun hi ρ3 => ∃ xs, ρ3[i]? = some (some (.l xs)) ∧ R (.lst (cutD xs lo hi)) ρ3) X) X
/-- f(x, e1, e2, g(..)), x a slot's own thing, the last one a temporary one -/
def dCall3T (i : Nat) (S : DSpec) (d1 d2 : DE) (d0 : DO) : DO := fun ρ R X => (∃ s, ρ[i]? = some (some s)) ∧ d1 ρ (fun x1 ρ1 => d2 ρ1 (fun x2 ρ2 => d0 ρ2 (fun s ρ3 => ∃ s0, ρ3[i]? = some (some s0) ∧
  S [s0, .d x1, .d x2, s] (fun r os => os.length = 2 ∧ R r (putS ρ3 [i] [os.headD s])) (fun c os => os.length = 2 ∧ X c (putS ρ3 [i] [os.headD s]))) X) X) X
end
section
variable {ρ : DL.Env} {X : XR} {D : DK}
theorem f_dDropQ {i : Nat} {S : DSpec} {de : DE} : dDropQ i S de D ρ = pick (sL ρ[i]?) (blk (fun _ => de ρ (fun y ρ1 => pick (sL ρ1[i]?) (blk (fun xs => S [.d (.lst xs), .d y] (blk (fun _ os => os = [] → D.nx ρ1) .mk) (blk (fun c os => os = [] → D.ex c ρ1) .mk)) .mk)) D.ex) .mk) := by
  simp only [pickE, blk1, sL_i]
  exact propext ⟨fun ⟨⟨s, h⟩, k⟩ => ⟨s, h, k⟩, fun ⟨s, h, k⟩ => ⟨⟨s, h⟩, k⟩⟩
theorem f_dOwnCut {i : Nat} {dl dh : DP} {R : Dat → DL.Env → Prop} : dOwnCut i dl dh ρ R X = pick (sL ρ[i]?) (blk (fun _ => dl ρ (fun lo ρ2 => dh ρ2 (fun hi ρ3 => pick (sL ρ3[i]?) (blk (fun xs => R (.lst (cutD xs lo hi)) ρ3) .mk)) X) X) .mk) := by
  simp only [pickE, blk1, sL_i]
  exact propext ⟨fun ⟨⟨s, h⟩, k⟩ => ⟨s, h, k⟩, fun ⟨s, h, k⟩ => ⟨⟨s, h⟩, k⟩⟩
theorem f_dCall3T {i : Nat} {S : DSpec} {d1 d2 : DE} {d0 : DO} {R : Slot → DL.Env → Prop} : dCall3T i S d1 d2 d0 ρ R X = ((∃ s, ρ[i]? = some (some s)) ∧ d1 ρ (fun x1 ρ1 => d2 ρ1 (fun x2 ρ2 => d0 ρ2 (blk (fun s ρ3 => ∃ s0, ρ3[i]? = some (some s0) ∧
  S [s0, .d x1, .d x2, s] (blk (fun r os => os.length = 2 ∧ R r (putS ρ3 [i] [os.headD s])) .mk) (blk (fun c os => os.length = 2 ∧ X c (putS ρ3 [i] [os.headD s])) .mk)) .mk) X) X) X) := rfl
theorem FHd : type_of% @f_dDropQ ∧ type_of% @f_dOwnCut ∧ type_of% @f_dCall3T := ⟨@f_dDropQ, @f_dOwnCut, @f_dCall3T⟩
end
end DL
/-! DL, part 62: own dicts read where they lie: ==, isinstance, d[k], len. -/
namespace DL
open PySem L2
section
variable {X : Cx} {W : WX} {ios : Ios}
/-- x != e, x a slot's own dict -/
def dNeLK (i : Nat) (d : DE) : DT := fun ρ R X => (∃ s, ρ[i]? = some (some (.k s))) ∧ d ρ (fun y ρ1 => ∃ ks ls n b, ρ1[i]? = some (some (.k ks)) ∧ y = .dk ls ∧ n ≤ 60 ∧ DQ n (.dk ks) (.dk ls) b ∧ R (!b) ρ1) X
/-- e != x, x a slot's own dict -/
def dNeRK (i : Nat) (d : DE) : DT := fun ρ R X => d ρ (fun y ρ1 => ∃ ks ls n b, ρ1[i]? = some (some (.k ls)) ∧ y = .dk ks ∧ n ≤ 60 ∧ DQ n (.dk ks) (.dk ls) b ∧ R (!b) ρ1) X
/-- o[e], o a slot's own dict of plain keys -/
def dOwnGetK (i : Nat) (dk : DE) : DE := fun ρ R X => (∃ s, ρ[i]? = some (some (.k s))) ∧ dk ρ (fun k ρ1 => ∃ kvs ky y, ρ1[i]? = some (some (.k kvs)) ∧ keyOf k = some ky ∧ valD kvs ky = some y ∧ R y ρ1) X
/-- isinstance(x, dict), x a slot's own dict -/
def dIsDictK (i : Nat) : DE := fun ρ R _ => (∃ s, ρ[i]? = some (some (.k s))) ∧ R (.bl true) ρ
end
section
variable {ρ : DL.Env} {X : XR} {D : DK}
theorem f_dNeLK {i : Nat} {d : DE} {R : Bool → DL.Env → Prop} : dNeLK i d ρ R X = ((∃ s, ρ[i]? = some (some (.k s))) ∧ d ρ (blk (fun y ρ1 => ∃ ks ls n b, ρ1[i]? = some (some (.k ks)) ∧ y = .dk ls ∧ n ≤ 60 ∧ DQ n (.dk ks) (.dk ls) b ∧ R (!b) ρ1) .mk) X) := rfl
theorem f_dNeRK {i : Nat} {d : DE} {R : Bool → DL.Env → Prop} : dNeRK i d ρ R X = d ρ (blk (fun y ρ1 => ∃ ks ls n b, ρ1[i]? = some (some (.k ls)) ∧ y = .dk ks ∧ n ≤ 60 ∧ DQ n (.dk ks) (.dk ls) b ∧ R (!b) ρ1) .mk) X := rfl
theorem f_dOwnGetK {i : Nat} {dk : DE} {R : Dat → DL.Env → Prop} : dOwnGetK i dk ρ R X = ((∃ s, ρ[i]? = some (some (.k s))) ∧ dk ρ (fun k ρ1 => pick (sK ρ1[i]?) (blk (fun kvs => pick (keyOf k) (blk (fun ky => pick (valD kvs ky) (blk (fun y => R y ρ1) .mk)) .mk)) .mk)) X) := by
  simp only [pickE, blk1, sK_i]
  have e : (fun (k : Dat) (ρ1 : DL.Env) => ∃ kvs ky y, ρ1[i]? = some (some (.k kvs)) ∧ keyOf k = some ky ∧ valD kvs ky = some y ∧ R y ρ1) = fun k ρ1 => ∃ kvs, ρ1[i]? = some (some (.k kvs)) ∧ ∃ ky, keyOf k = some ky ∧ ∃ y, valD kvs ky = some y ∧ R y ρ1 := by
    funext k ρ1
    exact propext ⟨fun ⟨a, b, c, h1, h2, h3, h4⟩ => ⟨a, h1, b, h2, c, h3, h4⟩, fun ⟨a, h1, b, h2, c, h3, h4⟩ => ⟨a, b, c, h1, h2, h3, h4⟩⟩
  show (_ ∧ dk ρ _ X) = _
  rw [e]
theorem f_dIsDictK {i : Nat} {R : Dat → DL.Env → Prop} : dIsDictK i ρ R X = ((∃ s, ρ[i]? = some (some (.k s))) ∧ R (.bl true) ρ) := rfl
theorem FKd : type_of% @f_dNeLK ∧ type_of% @f_dNeRK ∧ type_of% @f_dOwnGetK ∧ type_of% @f_dIsDictK := ⟨@f_dNeLK, @f_dNeRK, @f_dOwnGetK, @f_dIsDictK⟩
end
end DL
/-! DL, part 63: the length of an own dict. -/
namespace DL
open PySem L2
section
variable {X : Cx} {W : WX} {ios : Ios}
def dLenK (i : Nat) : DE := fun ρ R _ => ∃ kvs, ρ[i]? = some (some (.k kvs)) ∧ R (.int kvs.length) ρ
end
section
variable {ρ : DL.Env} {X : XR} {D : DK}
theorem f_dLenK {i : Nat} {R : Dat → DL.Env → Prop} : dLenK i ρ R X = pick (sK ρ[i]?) (blk (fun kvs => R (.int kvs.length) ρ) .mk) := by
  simp only [pickE, blk1, sK_i]
  rfl
theorem FLd : type_of% @f_dLenK ∧ type_of% @f_dNeLK := ⟨@f_dLenK, @f_dNeLK⟩
end
end DL
/-! DL, part 64: zip of three lists. -/
namespace DL.Z3
open PySem PySem.Spec PyProof.Rows L2
open PySem.Sem (wp)
end DL.Z3
/-! DL, part 65: zip of three lists in a for. -/
namespace DL
open PySem L2
section
variable {X : Cx} {W : WX} {ios : Ios}
def zip3D (xs ys zs : List Dat) : List Dat := (List.range xs.length).map fun i => Dat.tup [xs[i]?.getD .non, ys[i]?.getD .non, zs[i]?.getD .non]
def diZip3 (da : DA) : DI := fun ρ R X => da ρ (fun xs ρ1 => ∃ ys zs us, xs = [.lst ys, .lst zs, .lst us] ∧ ys.length = zs.length ∧ ys.length = us.length ∧ R (zip3D ys zs us) ρ1) X
end
section
variable {ρ : DL.Env} {X : XR}
def as3L : List Dat → Option (List Dat × List Dat × List Dat)
  | [.lst ys, .lst zs, .lst us] => some (ys, zs, us)
  | _ => none
theorem as3L_e {xs : List Dat} {p : List Dat × List Dat × List Dat} : as3L xs = some p ↔ xs = [.lst p.1, .lst p.2.1, .lst p.2.2] := by
  constructor
  · intro h
    unfold as3L at h
    split at h
    · cases h
      rfl
    · cases h
  · rintro rfl
    rfl
theorem f_diZip3 {da : DA} {RA : List Dat → DL.Env → Prop} : diZip3 da ρ RA X = da ρ (fun xs ρ1 => pick (as3L xs) (blk (fun p => p.1.length = p.2.1.length ∧ p.1.length = p.2.2.length ∧ RA (zip3D p.1 p.2.1 p.2.2) ρ1) .mk)) X := by
  simp only [pickE, as3L_e]
  show da ρ _ X = da ρ _ X
  congr 1
  funext xs ρ1
  exact propext ⟨fun ⟨i, j, k, h⟩ => ⟨(i, j, k), h⟩, fun ⟨p, h⟩ => ⟨p.1, p.2.1, p.2.2, h⟩⟩
theorem as3L_l {a b c : List Dat} : as3L [.lst a, .lst b, .lst c] = some (a, b, c) := rfl
theorem FMd : type_of% @f_diZip3 ∧ type_of% @as3L_l := ⟨@f_diZip3, @as3L_l⟩
end
end DL
/-! DL, part 66: sorted(texts), sorted(a slot's own dict of texts). -/
namespace DL
open PySem L2
open PyProof.Rows (sortedS risingS)
theorem strs_of_reps {K : Frag} {F : Hp} : ∀ (ns : List Str) (vs : List V), Reps K F vs (ns.map Dat.str) → vs = ns.map V.str
  | [], vs, r => by obtain rfl := r.unnil; rfl
  | n :: ns, vs, r => by
    obtain ⟨v, ws, rfl, rv, r2⟩ := r.uncons
    cases rv
    rw [strs_of_reps ns ws r2]
    rfl
theorem reps_strs {K : Frag} {F : Hp} : ∀ (ns : List Str), Reps K F (ns.map V.str) (ns.map Dat.str)
  | [] => Reps.nil
  | n :: ns => Reps.cons (.str n) (reps_strs ns)
/-- sorted(texts) -/
def fSortS : FL
  | [.lst xs], T => ∃ ns : List Str, xs = ns.map .str ∧ ns.length < 64 ∧ ∀ ns' : List Str, ns'.Perm ns → sortedS ns' = true → T (ns'.map .str)
  | _, _ => False
section
variable {X : Cx} {W : WX} {ios : Ios}
/-- sorted(x), x a slot's own dict of texts -/
def dSortK (i : Nat) : DO := fun ρ R _ => ∃ (kvs : List (Key × Dat)) (ks : List Str), ρ[i]? = some (some (.k kvs)) ∧ kvs.map (·.1) = ks.map Sum.inr ∧ ks.length < 64 ∧ ∀ ys : List Str, ys.Perm ks → sortedS ys = true → R (.l (ys.map .str)) ρ
end
section
variable {ρ : DL.Env} {RO : Slot → DL.Env → Prop} {X : XR}
theorem q_sortS {xs : List Dat} {T : List Dat → Prop} : fSortS [.lst xs] T = ∃ ns : List Str, xs = ns.map .str ∧ ns.length < 64 ∧ ∀ ns' : List Str, ns'.Perm ns → sortedS ns' = true → T (ns'.map .str) := rfl
theorem f_dSortK {i : Nat} : dSortK i ρ RO X = pick (sK ρ[i]?) (blk (fun kvs => ∃ ks : List Str, kvs.map (·.1) = ks.map Sum.inr ∧ ks.length < 64 ∧ ∀ ys : List Str, ys.Perm ks → sortedS ys = true → RO (.l (ys.map .str)) ρ) .mk) := by
  simp only [pickE, blk1, sK_i]
  exact propext ⟨fun ⟨a, b, h1, h2⟩ => ⟨a, h1, b, h2⟩, fun ⟨a, h1, b, h2⟩ => ⟨a, b, h1, h2⟩⟩
theorem FJd : type_of% @q_sortS ∧ type_of% @f_dSortK := ⟨@q_sortS, @f_dSortK⟩
end
end DL
/-! DL, part 67: own things in a row (own tuples), calls without arguments, d.get(k), list(own list), own.remove(x), slices of the script. -/
namespace PySem.SeqAt
open AutoSeq1 (wpAny_loadPart')
open MeetsSeq MeetsSeq2 MeetsSeq3 SeqRoads2
end PySem.SeqAt
namespace L2
open PySem PySem.Spec PyProof.Rows
end L2
namespace DL
open PySem L2
inductive SlotsRep (K : Frag) (F H : Hp) : List Slot → List V → (Addr → Prop) → Prop where
  | nil {fp : Addr → Prop} : (∀ a, ¬ fp a) → SlotsRep K F H [] [] fp
  | cons {s : Slot} {ss : List Slot} {v : V} {vs : List V} {fp fp1 fp2 : Addr → Prop} : SlotRep K F H s v fp1 → SlotsRep K F H ss vs fp2 → (∀ a, fp1 a → ¬ fp2 a) → (∀ a, fp a ↔ fp1 a ∨ fp2 a) → SlotsRep K F H (s :: ss) (v :: vs) fp
theorem SlotsRep.stay {K : Frag} {F H F' H' : Hp} {ss : List Slot} {vs : List V} {fp : Addr → Prop} (h : SlotsRep K F H ss vs fp) : Same F F' → (∀ a, fp a → H' a = H a) → SlotsRep K F' H' ss vs fp := by
  induction h with
  | nil h => exact fun _ _ => .nil h
  | cons h1 h2 hd hf ih => exact fun e k => .cons (h1.stay e fun a ha => k a ((hf a).mpr (.inl ha))) (ih e fun a ha => k a ((hf a).mpr (.inr ha))) hd hf
theorem SlotsRep.len {K : Frag} {F H : Hp} {ss : List Slot} {vs : List V} {fp : Addr → Prop} (h : SlotsRep K F H ss vs fp) : vs.length = ss.length := by
  induction h with
  | nil => rfl
  | cons _ _ _ _ ih => simp [ih]
/-- a tuple of things of one's own -/
def tupO (ss : List Slot) : Own where
  rep := fun K F H v fp => ∃ t vs, v = .ref t ∧ F t = some (.tup vs) ∧ SlotsRep K F H ss vs fp
  stay := fun ⟨t, vs, e, h1, h2⟩ sm k => ⟨t, vs, e, sm _ _ h1, h2.stay sm k⟩
  dat := none
  frz := fun e => nomatch e
abbrev DOs := DL.Env → (List Slot → DL.Env → Prop) → XR → Prop
def dOsNil : DOs := fun ρ R _ => R [] ρ
def dOsCons (d : DO) (ds : DOs) : DOs := fun ρ R X => d ρ (fun r ρ1 => ds ρ1 (fun rs ρ2 => R (r :: rs) ρ2) X) X
/-- data, as a thing handed back -/
def dDatO (d : DE) : DO := fun ρ R X => d ρ (fun x ρ1 => R (.d x) ρ1) X
def dTupO (ds : DOs) : DO := fun ρ R X => ds ρ (fun rs ρ1 => rs.length ≤ 100 ∧ R (.o (tupO rs)) ρ1) X
section
variable {X : Cx} {W : WX} {ios : Ios}
/-- a, b = .. -/
def dUnT2 (i j : Nat) (d : DO) : DS := fun D ρ => d ρ (fun r ρ1 => ∃ s t, r = .o (tupO [s, t]) ∧ D.nx ((ρ1.set i (some s)).set j (some t))) D.ex
/-- a, b, c = .. -/
def dUnT3 (i j k : Nat) (d : DO) : DS := fun D ρ => d ρ (fun r ρ1 => ∃ s t u, r = .o (tupO [s, t, u]) ∧ D.nx (((ρ1.set i (some s)).set j (some t)).set k (some u))) D.ex
/-- list(x), x a slot's own list: a copy -/
def dListOwn (i : Nat) : DO := fun ρ R _ => ∃ xs, ρ[i]? = some (some (.l xs)) ∧ R (.l xs) ρ
/-- xs.remove(e), xs a slot's own list -/
def dRemove (i : Nat) (d : DE) : DS := fun D ρ => (∃ xs, ρ[i]? = some (some (.l xs))) ∧ d ρ (fun x ρ1 => ∃ xs j n, ∃ c : Nat → Bool, ρ1[i]? = some (some (.l xs)) ∧ n ≤ 60 ∧ (∀ (k : Nat) (z : Dat), xs[k]? = some z → DQ n z x (c k)) ∧ j < xs.length ∧ c j = true ∧ (∀ k, k < j → c k = false) ∧ D.nx (ρ1.set i (some (.l (xs.eraseIdx j))))) D.ex
end
section
variable {ρ : DL.Env} {X : XR} {D : DK}
theorem f_dOsNil {R : List Slot → DL.Env → Prop} : dOsNil ρ R X = R [] ρ := rfl
theorem f_dOsCons {d : DO} {ds : DOs} {R : List Slot → DL.Env → Prop} : dOsCons d ds ρ R X = d ρ (fun r ρ1 => ds ρ1 (fun rs ρ2 => R (r :: rs) ρ2) X) X := rfl
theorem f_dDatO {d : DE} {R : Slot → DL.Env → Prop} : dDatO d ρ R X = d ρ (fun x ρ1 => R (.d x) ρ1) X := rfl
theorem f_dTupO {ds : DOs} {R : Slot → DL.Env → Prop} : dTupO ds ρ R X = ds ρ (blk (fun rs ρ1 => rs.length ≤ 100 ∧ R (.o (tupO rs)) ρ1) .mk) X := rfl
theorem f_dUnT2 {i j : Nat} {d : DO} : dUnT2 i j d D ρ = d ρ (blk (fun r ρ1 => ∃ s t, r = .o (tupO [s, t]) ∧ D.nx ((ρ1.set i (some s)).set j (some t))) .mk) D.ex := rfl
theorem f_dUnT3 {i j k : Nat} {d : DO} : dUnT3 i j k d D ρ = d ρ (blk (fun r ρ1 => ∃ s t u, r = .o (tupO [s, t, u]) ∧ D.nx (((ρ1.set i (some s)).set j (some t)).set k (some u))) .mk) D.ex := rfl
theorem f_dListOwn {i : Nat} {R : Slot → DL.Env → Prop} : dListOwn i ρ R X = pick (sL ρ[i]?) (blk (fun xs => R (.l xs) ρ) .mk) := by
  simp only [pickE, blk1, sL_i]
  rfl
theorem f_dRemove {i : Nat} {d : DE} : dRemove i d D ρ = ((∃ xs, ρ[i]? = some (some (.l xs))) ∧ d ρ (blk (fun x ρ1 => ∃ xs j n, ∃ c : Nat → Bool, ρ1[i]? = some (some (.l xs)) ∧ n ≤ 60 ∧ (∀ (k : Nat) (z : Dat), xs[k]? = some z → DQ n z x (c k)) ∧ j < xs.length ∧ c j = true ∧ (∀ k, k < j → c k = false) ∧ D.nx (ρ1.set i (some (.l (xs.eraseIdx j))))) .mk) D.ex) := rfl
theorem FId : type_of% @f_dOsNil ∧ type_of% @f_dOsCons ∧ type_of% @f_dDatO ∧ type_of% @f_dTupO ∧ type_of% @f_dUnT2 ∧ type_of% @f_dUnT3 ∧ type_of% @f_dListOwn ∧ type_of% @f_dRemove := ⟨@f_dOsNil, @f_dOsCons, @f_dDatO, @f_dTupO, @f_dUnT2, @f_dUnT3, @f_dListOwn, @f_dRemove⟩
end
end DL
/-! DL, part 68: calls without arguments, d.get(k), slices of rows and of the script. -/
namespace DL
open PySem L2
section
variable {X : Cx} {W : WX} {ios : Ios}
/-- d.get(k) -/
def dGet1 (dd dk : DE) : DE := fun ρ R X => dd ρ (fun d ρ1 => isDk d = true ∧ dk ρ1 (fun k ρ2 => getD2 d k fun o => R (o.getD .non) ρ2) X) X
/-- len(x), x a slot's own list -/
def dLenL (i : Nat) : DE := fun ρ R _ => ∃ xs, ρ[i]? = some (some (.l xs)) ∧ R (.int xs.length) ρ
/-- a row, the script too -/
def asQ : Dat → Option (List Dat)
  | .lst xs => some xs
  | .scr ns => some (ns.map .int)
  | _ => none
def dSliceQ (da : DE) (dl dh : DP) : DE := fun ρ R X => da ρ (fun x ρ1 => dl ρ1 (fun lo ρ2 => dh ρ2 (fun hi ρ3 => ∃ xs, asQ x = some xs ∧ R (.lst (cutD xs lo hi)) ρ3) X) X) X
end
section
variable {ρ : DL.Env} {X : XR} {D : DK}
theorem f_dGet1 {dd dk : DE} {R : Dat → DL.Env → Prop} : dGet1 dd dk ρ R X = dd ρ (blk (fun d ρ1 => isDk d = true ∧ dk ρ1 (fun k ρ2 => getD2 d k fun o => R (o.getD .non) ρ2) X) .mk) X := rfl
theorem f_dSliceQ {da : DE} {dl dh : DP} {R : Dat → DL.Env → Prop} : dSliceQ da dl dh ρ R X = da ρ (fun x ρ1 => dl ρ1 (fun lo ρ2 => dh ρ2 (fun hi ρ3 => pick (asQ x) (blk (fun xs => R (.lst (cutD xs lo hi)) ρ3) .mk)) X) X) X := by
  simp only [pickE, blk1]
  rfl
theorem f_dLenL {i : Nat} {R : Dat → DL.Env → Prop} : dLenL i ρ R X = pick (sL ρ[i]?) (blk (fun xs => R (.int xs.length) ρ) .mk) := by
  simp only [pickE, blk1, sL_i]
  rfl
theorem asQ_l {xs : List Dat} : asQ (.lst xs) = some xs := rfl
theorem asQ_s {ns : List Int} : asQ (.scr ns) = some (ns.map .int) := rfl
theorem FPd : type_of% @f_dGet1 ∧ type_of% @f_dSliceQ ∧ type_of% @f_dLenL ∧ type_of% @asQ_l ∧ type_of% @asQ_s := ⟨@f_dGet1, @f_dSliceQ, @f_dLenL, @asQ_l, @asQ_s⟩
end
end DL
/-! DL, part 69: a slot's own list gone along where it lies (its address is known meanwhile). -/
namespace DL
open PySem L2
/-- a list of one's own at a known address -/
def lstAt (p : Addr) (xs : List Dat) : Own where
  rep := fun K F H v fp => v = .ref p ∧ ∃ vs, H p = some (.lst vs) ∧ Reps K F vs xs ∧ ∀ a, fp a ↔ a = p
  stay := fun ⟨e, vs, h1, h2, h3⟩ sm k => ⟨e, vs, (k p ((h3 p).mpr rfl)).trans h1, h2.mono sm, h3⟩
  dat := none
  frz := fun e => nomatch e
theorem SR.ghost {K : Frag} {fr : Fr} {F H : Hp} {ρ : DL.Env} {σ : St} {fps : Nat → Addr → Prop} {i : Nat} {s : Slot} (r : SR K fr F H ρ σ fps) (h : ∀ s0, ρ[i]? = some (some s0) → ∀ v, SlotRep K F H s0 v (fps i) → SlotRep K F H s v (fps i)) (h0 : ∃ s0, ρ[i]? = some (some s0)) : SR K fr F H (ρ.set i (some s)) σ fps where
  sub := r.sub
  le := r.le
  keep := r.keep
  tr := r.tr
  fresh := r.fresh
  slots := fun j t e => by
    rcases getSet e with ⟨e1, e2⟩ | ⟨e1, e2⟩
    · subst e1
      cases e2
      obtain ⟨s0, e0⟩ := h0
      obtain ⟨v, h1, h2⟩ := r.slots i s0 e0
      exact ⟨v, h1, h s0 e0 v h2⟩
    · exact r.slots j t e2
  own := r.own
  apart := r.apart
  io := r.io
  len := by rw [List.length_set]; exact r.len
  nt := r.nt
  tk := r.tk
section
variable {K : Frag} {fr : Fr} {F H : Hp} {ρ : DL.Env} {σ : St} {fps : Nat → Addr → Prop} {i : Nat} {xs : List Dat} {p : Addr}
theorem SR.at_ (r : SR K fr F H ρ σ fps) (e : ρ[i]? = some (some (.l xs))) : ∃ p, SR K fr F H (ρ.set i (some (.o (lstAt p xs)))) σ fps := by
  obtain ⟨v, h1, q, vs, rfl, hq, hr, hf⟩ := r.slots i _ e
  refine ⟨q, r.ghost (fun s0 e0 v h => ?_) ⟨_, e⟩⟩
  rw [e] at e0
  cases e0
  obtain ⟨q', vs', rfl, hq', hr', hf'⟩ := h
  have : q' = q := (hf q').mp ((hf' q').mpr rfl)
  subst this
  exact ⟨rfl, vs', hq', hr', hf'⟩
end
def unAt (i : Nat) (T : DL.Env → Prop) : DL.Env → Prop := fun ρ => ∃ p xs, ρ[i]? = some (some (.o (lstAt p xs))) ∧ T (ρ.set i (some (.l xs)))
def unAtD (i : Nat) (D : DK) : DK := ⟨unAt i D.nx, fun r => unAt i (D.rt r), unAt i D.bk, unAt i D.ct, fun c => unAt i (D.ex c)⟩
/-- the own list of slot i gone along in a statement -/
def dAtS (i : Nat) (d : DS) : DS := fun D ρ => ∃ xs, ρ[i]? = some (some (.l xs)) ∧ ∀ p, d (unAtD i D) (ρ.set i (some (.o (lstAt p xs))))
def dAtE (i : Nat) (d : DE) : DE := fun ρ R X => ∃ xs, ρ[i]? = some (some (.l xs)) ∧ ∀ p, d (ρ.set i (some (.o (lstAt p xs)))) (fun y => unAt i (R y)) (fun c => unAt i (X c))
def ownStay (i : Nat) (p : Addr) (xs : List Dat) : DL.Env → Prop := fun ρ => ρ[i]? = some (some (.o (lstAt p xs)))
def diOwn (i : Nat) : DIP := fun ρ R _ => ∃ p xs, ρ[i]? = some (some (.o (lstAt p xs))) ∧ R xs (ownStay i p xs) ρ
section
variable {ρ : DL.Env} {X : XR} {D : DK}
theorem f_dAtS {i : Nat} {d : DS} : dAtS i d D ρ = pick (sL ρ[i]?) (blk (fun xs => ∀ p, d (unAtD i D) (ρ.set i (some (.o (lstAt p xs))))) .mk) := by
  simp only [pickE, blk1, sL_i]
  rfl
theorem f_dAtE {i : Nat} {d : DE} {R : Dat → DL.Env → Prop} : dAtE i d ρ R X = pick (sL ρ[i]?) (blk (fun xs => ∀ p, d (ρ.set i (some (.o (lstAt p xs)))) (fun y => unAt i (R y)) (fun c => unAt i (X c))) .mk) := by
  simp only [pickE, blk1, sL_i]
  rfl
theorem f_diOwn {i : Nat} {RI : List Dat → (DL.Env → Prop) → DL.Env → Prop} : diOwn i ρ RI X = ∃ p xs, ρ[i]? = some (some (.o (lstAt p xs))) ∧ RI xs (ownStay i p xs) ρ := rfl
theorem FQd : type_of% @f_dAtS ∧ type_of% @f_dAtE ∧ type_of% @f_diOwn := ⟨@f_dAtS, @f_dAtE, @f_diOwn⟩
end
end DL
/-! DL, part 70: sorted(texts), or sorted(a dict of texts). -/
namespace DL
open PySem L2
open PyProof.Rows (sortedS)
def fSortX : FL
  | [.lst xs], T => ∃ ns : List Str, xs = ns.map .str ∧ ns.length < 64 ∧ ∀ ns' : List Str, ns'.Perm ns → sortedS ns' = true → T (ns'.map .str)
  | [.dk kvs], T => ∃ ks : List Str, kvs.map (·.1) = ks.map Sum.inr ∧ ks.length < 64 ∧ ∀ ns' : List Str, ns'.Perm ks → sortedS ns' = true → T (ns'.map .str)
  | _, _ => False
def rSortX (K : Frag) : CR := CRor (rSortedS K) (fun xs H Q => ∃ (a : Addr) (kvs : List (Key × V)) (ks : List Str), xs = [.ref a] ∧ Rd H a (.dK kvs) ∧ kvs.map (·.1) = ks.map Sum.inr ∧ ks.length < 64 ∧
    ∀ ys p, ys.Perm ks → sortedS ys = true → H p = none → Q (.ref p) (upd H p (.lst (ys.map V.str))))
theorem cr_sortX {X : Cx} (hc : X.calm = true) : CallR X (.builtin "sorted") (rSortX X.K) := cr_sortedS.or (call_sortedD hc)
theorem cl_sortX {X : Cx} : CLinkL X.K (rSortX X.K) fSortX := by
  intro F H xs vs T Q s r h k
  match xs with
  | [] => exact h.elim
  | x :: y :: z => cases x <;> exact h.elim
  | [x] =>
    obtain ⟨v, ws, rfl, rx, r2⟩ := r.uncons
    obtain rfl := r2.unnil
    cases x <;> try exact h.elim
    · obtain ⟨ns, rfl, hl, h⟩ := h
      cases rx with
      | @lst p us _ hp l r3 =>
        obtain rfl := strs_of_reps ns us ⟨l, r3⟩
        exact .inl ⟨p, ns, rfl, SqL.of (s _ _ hp), hl, fun ns' q h1 h2 hq => k q _ _ hq (reps_strs ns') (h ns' h1 h2)⟩
    · obtain ⟨ks, ek, hl, h⟩ := h
      cases rx with
      | @dk a ob us _ ha l r3 =>
        exact .inr ⟨a, us, ks, rfl, .inr ⟨ob, s _ _ ha⟩, l.trans ek, hl, fun ns' q h1 h2 hq => k q _ _ hq (reps_strs ns') (h ns' h1 h2)⟩
theorem q_sortX {xs : List Dat} {T : List Dat → Prop} : fSortX [.lst xs] T = ∃ ns : List Str, xs = ns.map .str ∧ ns.length < 64 ∧ ∀ ns' : List Str, ns'.Perm ns → sortedS ns' = true → T (ns'.map .str) := rfl
theorem q_sortXd {kvs : List (Key × Dat)} {T : List Dat → Prop} : fSortX [.dk kvs] T = ∃ ks : List Str, kvs.map (·.1) = ks.map Sum.inr ∧ ks.length < 64 ∧ ∀ ns' : List Str, ns'.Perm ks → sortedS ns' = true → T (ns'.map .str) := rfl
theorem FRd : type_of% @q_sortX ∧ type_of% @q_sortXd := ⟨@q_sortX, @q_sortXd⟩
end DL
/-! DL, part 71: a caught exception that is known by its class behind the clause. -/
namespace L2
open PySem PySem.Spec PyProof.Rows
/-- an exception of the class cls, by what is true of its one object -/
def excHO (a : Addr) (cls : Value) (d : Option Addr) : HO := .ext fun h => ∃ oe vs, h.get? a = some oe ∧ Zc cls d oe ∧ oe.data = .fields vs
end L2
namespace L2
open PySem PySem.Spec PyProof.Rows
end L2
namespace DL
open PySem L2
/-- a kept exception, by its class -/
def exoC (cls : Value) : Own where
  rep := fun K F _ v fp => (∃ a D, cls = .ref D ∧ ExcC K D ∧ v = .ref a ∧ F a = some (excHO a cls none)) ∧ ∀ a, ¬ fp a
  stay := fun ⟨⟨a, D, h1, h2, h3, h4⟩, h5⟩ s _ => ⟨⟨a, D, h1, h2, h3, s _ _ h4⟩, h5⟩
  dat := none
  frz := fun e => nomatch e
section
variable {X : Cx} {W : WX} {ios : Ios}
def dTryX (xm : Value → Option Bool) (ie ic : Nat) (dB : DS) : DS := fun D ρ => dB { D with ex := fun cls ρ1 => ∃ b, xm cls = some b ∧ (b = true → ie < ρ1.length ∧ D.nx ((ρ1.set ie none).set ic (some (.o (exoC cls))))) ∧ (b = false → D.ex cls ρ1) } ρ
/-- isinstance(e, ..) of a kept exception -/
def dIsX (N : Value → Option Bool) (i : Nat) : DE := fun ρ R _ => ∃ cls b, ρ[i]? = some (some (.o (exoC cls))) ∧ N cls = some b ∧ R (.bl b) ρ
end
section
variable {ρ : DL.Env} {X : XR} {D : DK}
theorem f_dTryX {M : Value → Option Bool} {ie ic : Nat} {dB : DS} : dTryX M ie ic dB D ρ = dB { D with ex := blk (fun cls ρ1 => pick (M cls) (blk (fun b => brq b (blk (fun _ => ie < ρ1.length ∧ D.nx ((ρ1.set ie none).set ic (some (.o (exoC cls))))) .mk) (blk (fun _ => D.ex cls ρ1) .mk)) .mk)) .mk } ρ := by
  unfold dTryX
  congr 1
  congr 1
  funext cls ρ1
  rw [blk2, pickE]
  refine propext ⟨fun ⟨b, e, h1, h2⟩ => ⟨b, e, ?_⟩, fun ⟨b, e, h⟩ => ⟨b, e, ?_⟩⟩
  · cases b with
    | true => exact h1 rfl
    | false => exact h2 rfl
  · cases b with
    | true => exact ⟨fun _ => h, fun z => Bool.noConfusion z⟩
    | false => exact ⟨fun z => Bool.noConfusion z, fun _ => h⟩
theorem f_dIsX {N : Value → Option Bool} {i : Nat} {R : Dat → DL.Env → Prop} : dIsX N i ρ R X = ∃ cls, ρ[i]? = some (some (.o (exoC cls))) ∧ pick (N cls) (blk (fun b => R (.bl b) ρ) .mk) := by
  unfold dIsX
  simp only [pickE, blk1]
  exact propext ⟨fun ⟨c, b, h1, h2, h3⟩ => ⟨c, h1, b, h2, h3⟩, fun ⟨c, h1, b, h2, h3⟩ => ⟨c, b, h1, h2, h3⟩⟩
theorem FTd : type_of% @f_dTryX ∧ type_of% @f_dIsX := ⟨@f_dTryX, @f_dIsX⟩
end
end DL
/-! DL, part 72: the head's facts of the classes whose errors are kept. -/
namespace DL
open PySem L2
end DL
/-! DL, part 73: a row of own lists: x[k].append(e); looked at as data. -/
namespace DL
open PySem L2
theorem SlotsRep.app {K : Frag} {F H : Hp} {ss : List Slot} {vs : List V} {fp : Addr → Prop} (h : SlotsRep K F H ss vs fp) : ∀ {n : Nat} {xs : List Dat}, ss[n]? = some (.l xs) → ∃ p ws, vs[n]? = some (.ref p) ∧ H p = some (.lst ws) ∧ ws.length = xs.length ∧ fp p ∧ ∀ u y, Rep K F u y → SlotsRep K F (upd H p (.lst (ws ++ [u]))) (ss.set n (.l (xs ++ [y]))) vs fp := by
  induction h with
  | nil h => exact fun {n xs} e => by simp at e
  | @cons s ss v vs fp fp1 fp2 h1 h2 hd hf ih =>
    intro n xs e
    cases n with
    | zero =>
      rw [List.getElem?_cons_zero] at e
      cases e
      obtain ⟨p, ws, rfl, hp, rq, fq⟩ := h1
      have p1 : fp1 p := (fq p).mpr rfl
      refine ⟨p, ws, rfl, hp, rq.len.symm ▸ rfl, (hf p).mpr (.inl p1), fun u y r => ?_⟩
      rw [List.set_cons_zero]
      exact .cons ⟨p, _, rfl, upd_same, rq.snoc r, fq⟩ (h2.stay (Same.refl F) fun a ha => upd_ne fun z => hd p p1 (z ▸ ha)) hd hf
    | succ n =>
      rw [List.getElem?_cons_succ] at e
      obtain ⟨p, ws, g1, g2, g3, g4, g5⟩ := ih e
      refine ⟨p, ws, by rw [List.getElem?_cons_succ]; exact g1, g2, g3, (hf p).mpr (.inr g4), fun u y r => ?_⟩
      rw [List.set_cons_succ]
      exact .cons (h1.stay (Same.refl F) fun a ha => upd_ne fun z => hd a ha (z ▸ g4)) (g5 u y r) hd hf
theorem SlotsRep.lists {K : Frag} {F F' H : Hp} {ss : List Slot} {vs : List V} {fp : Addr → Prop} (h : SlotsRep K F H ss vs fp) : ∀ {Ls : List (List Dat)}, ss = Ls.map Slot.l → Same F F' → (∀ a, fp a → F' a = H a) → Reps K F' vs (Ls.map Dat.lst) := by
  induction h with
  | nil h =>
    intro Ls e _ _
    cases Ls with
    | nil => exact Reps.nil
    | cons _ _ => cases e
  | @cons s ss v vs fp fp1 fp2 h1 h2 hd hf ih =>
    intro Ls e sm k
    cases Ls with
    | nil => cases e
    | cons L Ls =>
      rw [List.map_cons] at e
      cases e
      obtain ⟨p, ws, rfl, hp, rq, fq⟩ := h1
      have hk := k p ((hf p).mpr (.inl ((fq p).mpr rfl)))
      exact Reps.cons (.lst (hk.trans hp) rq.len (rq.mono sm).at_) (ih rfl sm fun a ha => k a ((hf a).mpr (.inr ha)))
end DL
/-! DL, part 74: texts: split, find, index; is a kept error None. -/
namespace DL
open PySem L2
section
variable {X : Cx} {W : WX} {ios : Ios}
/-- o.split(e) -/
def dSplit (da db : DE) : DO := fun ρ R X => da ρ (fun x ρ1 => ∃ a, x = .str a ∧ db ρ1 (fun y ρ2 => ∃ b, y = .str b ∧ (b.length == 0) = false ∧ a.length + 2 ≤ PySem.sizeLine ∧ R (.l ((Txt.split a b).map .str)) ρ2) X) X
/-- o.find(e) -/
def dFind (da db : DE) : DE := fun ρ R X => da ρ (fun x ρ1 => ∃ a, x = .str a ∧ db ρ1 (fun y ρ2 => ∃ b, y = .str b ∧ R (.int (Txt.find a b)) ρ2) X) X
def dIdxS (da db : DE) : DE := fun ρ R X => da ρ (fun x ρ1 => ∃ a, x = .str a ∧ db ρ1 (fun y ρ2 => ∃ b k, y = .str b ∧ Txt.index0 a b = some k ∧ R (.int (k : Nat)) ρ2) X) X
end
section
variable {ρ : DL.Env} {X : XR}
theorem f_dSplit {da db : DE} {R : Slot → DL.Env → Prop} : dSplit da db ρ R X = da ρ (blk (fun x ρ1 => pick (asS x) (blk (fun a => db ρ1 (blk (fun y ρ2 => pick (asS y) (blk (fun b => (b.length == 0) = false ∧ a.length + 2 ≤ PySem.sizeLine ∧ R (.l ((Txt.split a b).map .str)) ρ2) .mk)) .mk) X) .mk)) .mk) X := by
  show dSplit da db ρ R X = da ρ (fun x ρ1 => pick (asS x) (fun a => db ρ1 (fun y ρ2 => pick (asS y) (fun b => (b.length == 0) = false ∧ a.length + 2 ≤ PySem.sizeLine ∧ R (.l ((Txt.split a b).map .str)) ρ2)) X)) X
  unfold dSplit
  simp only [pickE, asS_e]
theorem f_dFind {da db : DE} {R : Dat → DL.Env → Prop} : dFind da db ρ R X = da ρ (blk (fun x ρ1 => pick (asS x) (blk (fun a => db ρ1 (blk (fun y ρ2 => pick (asS y) (blk (fun b => R (.int (Txt.find a b)) ρ2) .mk)) .mk) X) .mk)) .mk) X := by
  show dFind da db ρ R X = da ρ (fun x ρ1 => pick (asS x) (fun a => db ρ1 (fun y ρ2 => pick (asS y) (fun b => R (.int (Txt.find a b)) ρ2)) X)) X
  unfold dFind
  simp only [pickE, asS_e]
theorem f_dIdxS {da db : DE} {R : Dat → DL.Env → Prop} : dIdxS da db ρ R X = da ρ (blk (fun x ρ1 => pick (asS x) (blk (fun a => db ρ1 (blk (fun y ρ2 => pick (asS y) (blk (fun b => pick (Txt.index0 a b) (blk (fun k => R (.int (k : Nat)) ρ2) .mk)) .mk)) .mk) X) .mk)) .mk) X := by
  show dIdxS da db ρ R X = da ρ (fun x ρ1 => pick (asS x) (fun a => db ρ1 (fun y ρ2 => pick (asS y) (fun b => pick (Txt.index0 a b) (fun k => R (.int (k : Nat)) ρ2))) X)) X
  unfold dIdxS
  have e : ∀ a : Str, (fun (y : Dat) (ρ2 : DL.Env) => ∃ b k, y = .str b ∧ Txt.index0 a b = some k ∧ R (.int (k : Nat)) ρ2) = fun y ρ2 => ∃ b, y = .str b ∧ ∃ k, Txt.index0 a b = some k ∧ R (.int (k : Nat)) ρ2 := fun a => by
    funext y ρ2
    exact propext ⟨fun ⟨b, k, h1, h2, h3⟩ => ⟨b, h1, k, h2, h3⟩, fun ⟨b, h1, k, h2, h3⟩ => ⟨b, k, h1, h2, h3⟩⟩
  simp only [pickE, asS_e, e]
theorem FUd : type_of% @f_dSplit ∧ type_of% @f_dFind ∧ type_of% @f_dIdxS := ⟨@f_dSplit, @f_dFind, @f_dIdxS⟩
end
end DL
namespace PySem
open Builtin Builtin.Str
end PySem
/-! DL, part 75: a token is out behind a test against a number. -/
namespace L2
open PySem PySem.Spec PyProof.Rows
end L2
namespace PySem
open Builtin Builtin.Str
end PySem
namespace DL
open PySem L2 CwR
end DL
/-! DL, part 76: None in a list of things of any kind. -/
namespace PySem.SeqAt
open AutoSeq1 (wpAny_loadPart')
open MeetsSeq MeetsSeq2 MeetsSeq3 SeqRoads2
end PySem.SeqAt
namespace DL
open PySem L2
end DL
/-! DL, part 77: a list comprehension whose element may raise. -/
namespace PySem
end PySem
namespace L2
open PySem PySem.Spec PyProof.Rows
end L2
namespace DL
open PySem L2
section
variable {X : Cx} {W : WX} {ios : Ios}
def LcPX (g : DG) (tt : DT) (te : DE) (vs : List Nat) (R : Slot → DL.Env → Prop) (XX : XR) (xs : List Dat) (ρ1 : DL.Env) : Prop := ∃ I : Nat → List Dat → DL.Env → Prop, I 0 [] ρ1 ∧
  (∀ i y acc ρ2, xs[i]? = some y → I i acc ρ2 → plainE ρ2 vs ∧ acc.length < PySem.sizeLine ∧ g y (wipeE ρ2 vs) fun ρ3 => tt ρ3 (fun b ρ4 => if b = true then te ρ4 (fun z ρ5 => I (i + 1) (acc ++ [z]) (backE ρ2 ρ5 vs)) (fun cls ρ5 => XX cls (backE ρ2 ρ5 vs)) else I (i + 1) acc (backE ρ2 ρ4 vs)) noX) ∧
  ∀ acc ρ2, I xs.length acc ρ2 → R (.l acc) ρ2
end
theorem LcPX.mk {g : DG} {tt : DT} {te : DE} {vs : List Nat} {R : Slot → DL.Env → Prop} {XX : XR} {xs : List Dat} {ρ1 : DL.Env} (I : Nat → List Dat → DL.Env → Prop) (h0 : I 0 [] ρ1)
    (hs : ∀ i y acc ρ2, xs[i]? = some y → I i acc ρ2 → plainE ρ2 vs ∧ acc.length < PySem.sizeLine ∧ g y (wipeE ρ2 vs) fun ρ3 => tt ρ3 (fun b ρ4 => if b = true then te ρ4 (fun z ρ5 => I (i + 1) (acc ++ [z]) (backE ρ2 ρ5 vs)) (fun cls ρ5 => XX cls (backE ρ2 ρ5 vs)) else I (i + 1) acc (backE ρ2 ρ4 vs)) noX)
    (he : ∀ acc ρ2, I xs.length acc ρ2 → R (.l acc) ρ2) : LcPX g tt te vs R XX xs ρ1 := ⟨I, h0, hs, he⟩
end DL
/-! DL, part 78: text.partition; d[k], x = ..; a temporary thing lent behind data. -/
namespace DL
open PySem L2
end DL
/-! DL, part 79: str of any still thing, in a law itself: the law is called by nothing that shows a thing. -/
namespace DL
open PySem L2 PySem.Spec PyProof.Rows
/-! ### str -/
end DL
/-! DL, part 80: x not in range(lo, hi). -/
namespace DL
open PySem L2
end DL
/-! DL, part 81: `x in e`, x a row of a list of lists of one's own, e a list of such rows. -/
namespace DL
open PySem L2
end DL
/-! DL, part 82: xs.insert(k, e); a list of another's rows looked at. -/
namespace DL
open PySem L2
end DL
/-! DL, part 83: f(x, y, e, g(..)): two slots' own things, a datum, a temporary own thing last. -/
namespace DL
open PySem L2
end DL
/-! DL, part 84: == of data of unlike kinds, by evidence. -/
namespace DL
open PySem L2
/-- unlike kinds: never equal -/
def unlD : Dat → Dat → Bool
  | .lst _, .tup _ => true
  | .lst _, .str _ => true
  | .lst _, .int _ => true
  | .tup _, .str _ => true
  | .tup _, .int _ => true
  | .dk _, .int _ => true
  | .non, .tup _ => true
  | .bl _, .tup _ => true
  | .int _, .tup _ => true
  | .str _, .tup _ => true
  | _, _ => false
/-- what == of two data says, kinds unlike -/
inductive DW : Nat → Dat → Dat → Bool → Prop where
  | flat {n : Nat} {x y : Dat} : flatD x = true → flatD y = true → DW n x y (eqD x y)
  | unl {n : Nat} {x y : Dat} : unlD x y = true → DW n x y false
  | tup {n : Nat} {xs ys : List Dat} (c : Nat → Bool) : (∀ (j : Nat) (x y : Dat), xs[j]? = some x → ys[j]? = some y → (∀ i, i < j → c i = true) → DW n x y (c j)) → DW (n + 1) (.tup xs) (.tup ys) ((List.range (min xs.length ys.length)).all c && xs.length == ys.length)
theorem DW.same {K : Frag} {F : Hp} {n : Nat} {x y : Dat} {b : Bool} (h : DW n x y b) : ∀ {v : V}, Rep K F v x → Rep K F v y → b = true := by
  induction h with
  | @flat n x y hx hy =>
    intro v r1 r2
    cases r1 <;> first | (cases hx; done) | (cases r2 <;> first | (cases hy; done) | exact eqD_self rfl)
  | @unl n x y hu =>
    intro v r1 r2
    cases r1 with
    | lst h1 _ _ => cases r2 with
      | tup h2 _ _ => rw [h1] at h2; cases h2
      | _ => cases hu
    | tup h1 _ _ => cases r2 <;> cases hu
    | dk h1 _ _ => cases r2 <;> cases hu
    | _ => cases r2 <;> cases hu
  | @tup n xs ys c _ ih =>
    intro v r1 r2
    cases r1 with
    | @tup a vs _ h1 l1 q1 =>
      cases r2 with
      | @tup _ us _ h2 l2 q2 =>
        rw [h1] at h2
        cases h2
        have hl : xs.length = ys.length := l1.symm.trans l2
        rw [Bool.and_eq_true, beq_iff_eq]
        refine ⟨?_, hl⟩
        rw [← hl, Nat.min_self]
        refine all_range_true fun j => ?_
        induction j using Nat.strongRecOn with
        | ind j ihj =>
          intro hj
          have hx := List.getElem?_eq_getElem hj
          have hy := List.getElem?_eq_getElem (show j < ys.length by omega)
          have hv := List.getElem?_eq_getElem (show j < vs.length by omega)
          exact ih j _ _ hx hy (fun i hi => ihj i hi (by omega)) (q1 j _ _ hv hx) (q2 j _ _ hv hy)
section
variable {X : Cx} {pins : List (Addr × Obj)} {σ : St} {F H : Hp} {s : Shared}
def RichE (X : Cx) (A : Around) (s : Shared) (v u : Value) (b : Bool) : Prop := ∀ (E Q : Value → Shared → Prop), Q (.bool b) s → wpAny (model X.prog X.w) A (richCompare .Eq v u) Q E s
theorem unl_run (I : Inv X pins σ H s) (sb : Same F H) {x y : Dat} (h : unlD x y = true) {A : Around} (hA : A.units < cLine) {v u : V} {v' u' : Value} (r1 : Rep X.K F v x) (r2 : Rep X.K F u y) (g1 : RelV v v') (g2 : RelV u u') : SeqAt.EqP X.prog X.w A s v' u' false ∧ RichE X A s v' u' false := by
  cases r1 with
  | @lst p vs _ h1 l1 _ =>
    cases (show v' = Value.ref p from g1)
    obtain ⟨i1, e1, p1, _⟩ := I.list (SqL.of (sb _ _ h1))
    cases r2 with
    | @tup q us _ h2 l2 q2 =>
      cases (show u' = Value.ref q from g2)
      obtain ⟨i2, e2, p2, _⟩ := I.tuple (SqT.of (sb _ _ h2))
      exact ⟨(SeqAt.EqAt.list_tuple p1.isList p2 hA).eqP, fun E Q hq => SeqAt.RcAt.list_tuple p1.isList p2 hA _ _ E Q hq⟩
    | str t =>
      obtain ⟨k, rfl⟩ := (show ∃ k, u' = Value.str t k from g2)
      exact ⟨(SeqAt.EqAt.list_str t k p1.isList hA).eqP, fun E Q hq => SeqAt.RcAt.list_str t k p1.isList hA _ _ E Q hq⟩
    | int t =>
      obtain ⟨k, rfl⟩ := (show ∃ k, u' = Value.int t k from g2)
      exact ⟨(SeqAt.EqAt.list_int t k p1.isList hA).eqP, fun E Q hq => SeqAt.RcAt.list_int t k p1.isList hA _ _ E Q hq⟩
    | _ => cases h
  | @tup p vs _ h1 l1 _ =>
    cases (show v' = Value.ref p from g1)
    obtain ⟨i1, e1, p1, _⟩ := I.tuple (SqT.of (sb _ _ h1))
    cases r2 with
    | str t =>
      obtain ⟨k, rfl⟩ := (show ∃ k, u' = Value.str t k from g2)
      exact ⟨(SeqAt.EqAt.tuple_str t k p1 hA).eqP, fun E Q hq => SeqAt.RcAt.tuple_str t k p1 hA _ _ E Q hq⟩
    | int t =>
      obtain ⟨k, rfl⟩ := (show ∃ k, u' = Value.int t k from g2)
      exact ⟨(SeqAt.EqAt.tuple_int t k p1 hA).eqP, fun E Q hq => SeqAt.RcAt.tuple_int t k p1 hA _ _ E Q hq⟩
    | _ => cases h
  | @dk p o ws _ h1 k1 _ =>
    cases (show v' = Value.ref p from g1)
    cases r2 with
    | int t =>
      obtain ⟨k, rfl⟩ := (show ∃ k, u' = Value.int t k from g2)
      have dI := isD_of I (sb _ _ h1)
      refine ⟨fun E Q hq => ?_, fun E Q hq => SeqAt.RcAt.dict_int t k dI hA _ _ E Q hq⟩
      unfold eqBool
      refine wpAny_holding ?_
      refine wpAny_ite_split (fun hab => absurd (eq_of_beq hab) nofun) (fun _ => ?_)
      exact wpAny_bind (SeqAt.RcAt.dict_int t k dI hA _ _ E _ (wpAny_truthy_bool hq))
    | _ => cases h
  | non =>
    cases (show v' = Value.none from g1)
    cases r2 with
    | @tup q us _ h2 l2 q2 =>
      cases (show u' = Value.ref q from g2)
      obtain ⟨i2, e2, p2, _⟩ := I.tuple (SqT.of (sb _ _ h2))
      exact ⟨(SeqAt.EqAt.none_tuple p2 hA).eqP, fun E Q hq => SeqAt.RcAt.none_tuple p2 hA _ _ E Q hq⟩
    | _ => cases h
  | bl b =>
    cases (show v' = Value.bool b from g1)
    cases r2 with
    | @tup q us _ h2 l2 q2 =>
      cases (show u' = Value.ref q from g2)
      obtain ⟨i2, e2, p2, _⟩ := I.tuple (SqT.of (sb _ _ h2))
      exact ⟨(SeqAt.EqAt.bool_tuple b p2 hA).eqP, fun E Q hq => SeqAt.RcAt.bool_tuple b p2 hA _ _ E Q hq⟩
    | _ => cases h
  | int b =>
    obtain ⟨k, rfl⟩ := (show ∃ k, v' = Value.int b k from g1)
    cases r2 with
    | @tup q us _ h2 l2 q2 =>
      cases (show u' = Value.ref q from g2)
      obtain ⟨i2, e2, p2, _⟩ := I.tuple (SqT.of (sb _ _ h2))
      exact ⟨(SeqAt.EqAt.int_tuple b k p2 hA).eqP, fun E Q hq => SeqAt.RcAt.int_tuple b k p2 hA _ _ E Q hq⟩
    | _ => cases h
  | str b =>
    obtain ⟨k, rfl⟩ := (show ∃ k, v' = Value.str b k from g1)
    cases r2 with
    | @tup q us _ h2 l2 q2 =>
      cases (show u' = Value.ref q from g2)
      obtain ⟨i2, e2, p2, _⟩ := I.tuple (SqT.of (sb _ _ h2))
      exact ⟨(SeqAt.EqAt.str_tuple b k p2 hA).eqP, fun E Q hq => SeqAt.RcAt.str_tuple b k p2 hA _ _ E Q hq⟩
    | _ => cases h
  | _ => cases h
theorem DW.run (I : Inv X pins σ H s) (sb : Same F H) {n : Nat} {x y : Dat} {b : Bool} (h : DW n x y b) : ∀ (A : Around), A.units + n < cLine → ∀ {v u : V} {v' u' : Value}, Rep X.K F v x → Rep X.K F u y → RelV v v' → RelV u u' → SeqAt.EqP X.prog X.w A s v' u' b ∧ ((flatD x && flatD y) = false → RichE X A s v' u' b) := by
  induction h with
  | @flat n x y hx hy =>
    intro A hA v u v' u' r1 r2 g1 g2
    have := (eqAt_V (A := A) (s := s) g1 g2 (flat_of r1 hx) (flat_of r2 hy)).eqP (prog := X.prog) (w := X.w)
    rw [eq_flat r2 r1 hy hx] at this
    exact ⟨this, fun z => by rw [hx, hy] at z; cases z⟩
  | @unl n x y hu =>
    intro A hA v u v' u' r1 r2 g1 g2
    have := unl_run I sb hu (A := A) (by omega) r1 r2 g1 g2
    exact ⟨this.1, fun _ => this.2⟩
  | @tup n xs ys c hd ih =>
    intro A hA v u v' u' r1 r2 g1 g2
    have same := (DW.tup (n := n) c hd).same r1
    cases r1 with
    | @tup p vs _ h1 l1 q1 =>
      cases r2 with
      | @tup q us _ h2 l2 q2 =>
        cases (show v' = Value.ref p from g1)
        cases (show u' = Value.ref q from g2)
        have rich : RichE X A s (.ref p) (.ref q) ((List.range (min xs.length ys.length)).all c && xs.length == ys.length) := fun E Q hq => by
          obtain ⟨i1, e1, p1, _⟩ := I.tuple (SqT.of (sb _ _ h1))
          obtain ⟨i2, e2, p2, _⟩ := I.tuple (SqT.of (sb _ _ h2))
          have m1 := e1.length
          have m2 := e2.length
          refine SeqAt.dq_tuples (c := c) p1 p2 (by omega) (fun j k1 k2 hc => ?_) E Q ?_
          · have k1' : j < i1.length := by simpa using k1
            have k2' : j < i2.length := by simpa using k2
            obtain ⟨w1, o1, t1⟩ := vals_at e1 k1'
            obtain ⟨w2, o2, t2⟩ := vals_at e2 k2'
            have hx := List.getElem?_eq_getElem (show j < xs.length by omega)
            have hy := List.getElem?_eq_getElem (show j < ys.length by omega)
            have := (ih j _ _ hx hy hc A.in1 (by show A.units + 1 + n < cLine; omega) (q1 j _ _ o1 hx) (q2 j _ _ o2 hy) t1 t2).1
            simpa using this
          · have e : i1.toArray.size = xs.length := by simp; omega
            have e' : i2.toArray.size = ys.length := by simp; omega
            rw [e, e']
            exact hq
        exact ⟨eqP_of (fun z => by subst z; exact same (.tup h2 l2 q2)) rich, fun _ => rich⟩
end
end DL
/-! DL, part 85: dicts with keys of any kind (texts, whole numbers, None, truths, tuples of such, beside one another): what the dict's own deeds do. -/
namespace DL
open PySem L2
section
variable {prog : Program} {w : World} {A : Around} {E : Value → Shared → Prop} {s : Shared} {d : Addr}
theorem ite_x {α : Type} {c : Prop} [Decidable c] {x y : Sem α} {Q : α → Shared → Prop} (h1 : c → wpAny (model prog w) A x Q E s) (h2 : ¬ c → wpAny (model prog w) A y Q E s) : wpAny (model prog w) A (if c then x else y) Q E s := by
  by_cases h : c
  · rw [if_pos h]; exact h1 h
  · rw [if_neg h]; exact h2 h
def entX (w : World) (x : NestedKey × Value × Value) : DictEntry := ⟨x.1.hash w, x.2.1, x.2.2⟩
def KeyX (h : Heap) (k : NestedKey) (u : Value) : Prop := NestedIs h k u ∧ k.depth ≤ 8
theorem entX_at {es : Array DictEntry} {xs : List (NestedKey × Value × Value)} (he : es.toList = xs.map (entX w)) (j : Nat) : es[j]? = (xs[j]?).map (entX w) := by
  rw [← Array.getElem?_toList, he, List.getElem?_map]
theorem entX_size {es : Array DictEntry} {xs : List (NestedKey × Value × Value)} (he : es.toList = xs.map (entX w)) : es.size = xs.length := by
  rw [← Array.length_toList, he, List.length_map]
theorem entX_mem {es : Array DictEntry} {xs : List (NestedKey × Value × Value)} (he : es.toList = xs.map (entX w)) {e : DictEntry} (h : e ∈ es) : ∃ x ∈ xs, e = entX w x := by
  have : e ∈ xs.map (entX w) := he ▸ Array.mem_toList_iff.mpr h
  obtain ⟨x, hx, rfl⟩ := List.mem_map.mp this
  exact ⟨x, hx, rfl⟩
theorem once {xs : List (NestedKey × Value × Value)} (hn : (xs.map (·.1)).Nodup) {i j : Nat} {k : NestedKey} {p q : Value × Value} (hi : xs[i]? = some (k, p)) (hj : xs[j]? = some (k, q)) : i = j := by
  have hi' : (xs.map (·.1))[i]? = some k := by rw [List.getElem?_map, hi]; rfl
  have hj' : (xs.map (·.1))[j]? = some k := by rw [List.getElem?_map, hj]; rfl
  exact (List.getElem?_inj (List.getElem?_eq_some_iff.mp hi').1 hn).mp (hi'.trans hj'.symm)
theorem eq_x {u v : Value} {x y : NestedKey} {Q : Bool → Shared → Prop} (hu : A.units + 8 < cLine) (hx : KeyX s.heap x u) (hy : KeyX s.heap y v) (h : Q (decide (x = y)) s) : wpAny (model prog w) A (PySem.eqBool u v) Q E s :=
  eqAt_key x y A s _ _ hx.1 hy.1 (by have := hx.2; omega) _ _ _ _ (by rw [← NestedKey.decide_eq]; exact h)
theorem quiet_x {u : Value} {stored : List Value} {k : NestedKey} {Q : Bool → Shared → Prop} (hk : KeyX s.heap k u) (hst : ∀ v ∈ stored, ∃ k', KeyX s.heap k' v) (h : Q false s) : wpAny (model prog w) A (tableMayTell u stored) Q E s := by
  unfold tableMayTell
  split
  · exact wpAny_pure h
  · refine wpAny_bind (quiet_key k _ 8 s hk.1 hk.2 A E _ ?_)
    simp only [Bool.not_true, Bool.false_eq_true, if_false]
    refine wpAny_bind ?_
    refine wpAny_forIn_list _ (fun rest r s' => s' = s ∧ r = (none, ()) ∧ ∀ v ∈ rest, ∃ k', KeyX s.heap k' v) _ ?_ ?_ _ _ ⟨rfl, rfl, hst⟩
    · rintro x rest r s' ⟨rfl, rfl, hr⟩
      obtain ⟨k', hb⟩ := hr x List.mem_cons_self
      refine wpAny_bind (quiet_key k' _ 8 _ hb.1 hb.2 A E _ ?_)
      simp only [Bool.not_true, Bool.false_eq_true, if_false]
      exact wpAny_pure ⟨rfl, rfl, fun v hv => hr v (List.mem_cons_of_mem _ hv)⟩
    · rintro r s' ⟨rfl, rfl, _⟩
      exact wpAny_pure h
/-- what a search among the entries is asked for: the place of the key, or none -/
def FindX (xs : List (NestedKey × Value × Value)) (k : NestedKey) (Q : Option Nat → Shared → Prop) (s : Shared) : Prop :=
  ((∀ (j : Nat) (p : Value × Value), xs[j]? ≠ some (k, p)) → Q none s) ∧ ∀ (j : Nat) (p : Value × Value), xs[j]? = some (k, p) → Q (some j) s
section
variable {o : Obj} {es : Array DictEntry} {ep : Nat} {xs : List (NestedKey × Value × Value)} {k : NestedKey} {u : Value} {Q : Option Nat → Shared → Prop}
theorem hash_at (he : es.toList = xs.map (entX w)) (j : Nat) (p : Value × Value) (hj : xs[j]? = some (k, p)) : ((es[j]?.map (·.hash)) == some (k.hash w)) = true := by
  rw [entX_at he j, hj]
  simp [entX]
theorem stored_x (he : es.toList = xs.map (entX w)) (his : ∀ x ∈ xs, KeyX s.heap x.1 x.2.1) : ∀ v ∈ (placesWithHash es.size (fun i => es[i]?.map (·.hash)) (k.hash w)).filterMap (fun i => es[i]?.map (·.key)), ∃ k', KeyX s.heap k' v := by
  intro v hv
  obtain ⟨i, _, hi⟩ := List.mem_filterMap.mp hv
  cases hei : es[i]? with
  | none => rw [hei] at hi; cases hi
  | some e =>
    rw [hei] at hi
    obtain rfl : e.key = v := by simpa using hi
    obtain ⟨x, hx, rfl⟩ := entX_mem he (Array.mem_of_getElem? hei)
    exact ⟨x.1, his x hx⟩
theorem walk_x (hu : A.units + 8 < cLine) (hk : KeyX s.heap k u) (ho : s.heap.get? d = some o) (hd : o.data = .dict es ep) (he : es.toList = xs.map (entX w)) (his : ∀ x ∈ xs, KeyX s.heap x.1 x.2.1) (hn : (xs.map (·.1)).Nodup)
    (h : FindX xs k Q s) : wpAny (model prog w) A (dictWalkPlain d u (k.hash w) es (placesWithHash es.size (fun i => es[i]?.map (·.hash)) (k.hash w))) Q E s := by
  have hsz : es.size = xs.length := entX_size he
  unfold dictWalkPlain
  refine wpAny_bind ?_
  refine wpAny_forIn_list _
    (fun rest b s' => s' = s ∧ b = (none, ()) ∧ ∃ i, rest = (List.range' i (es.size - i)).filter (fun i => (es[i]?.map (·.hash)) == some (k.hash w)) ∧ i ≤ es.size ∧ ∀ j p, j < i → xs[j]? ≠ some (k, p)) _ ?_ ?_ _ _
    ⟨rfl, rfl, 0, by rw [placesWithHash, List.range_eq_range', Nat.sub_zero], Nat.zero_le _, fun _ _ h => absurd h (Nat.not_lt_zero _)⟩
  · rintro x rest b s' ⟨rfl, rfl, i, hr, hi, hno⟩
    obtain ⟨hix, hxn, hpx, hskip, hrest⟩ := filter_range'_cons _ _ _ _ _ hr.symm
    have hlt : x < es.size := by omega
    obtain ⟨⟨k', b, v'⟩, hkv⟩ : ∃ y, xs[x]? = some y := ⟨xs[x]'(by rw [← hsz]; exact hlt), List.getElem?_eq_getElem _⟩
    have hib : KeyX s'.heap k' b := his _ (List.mem_of_getElem? hkv)
    have hex : es[x]? = some ⟨k'.hash w, b, v'⟩ := by rw [entX_at he x, hkv]; rfl
    have hno2 : ∀ j p, j < x → xs[j]? ≠ some (k, p) := fun j p hjx hj => by
      rcases Nat.lt_or_ge j i with h | h
      · exact hno j p h hj
      · have := hskip j h hjx
        rw [hash_at he j p hj] at this
        exact absurd this (by decide)
    have hstay : ¬ k' = k → ∃ i, rest = (List.range' i (es.size - i)).filter (fun i => (es[i]?.map (·.hash)) == some (k.hash w)) ∧ i ≤ es.size ∧ ∀ j p, j < i → xs[j]? ≠ some (k, p) := fun hne =>
      ⟨x + 1, by rw [hrest]; congr 2; omega, hlt, fun j p hjx hj => by
        rcases Nat.lt_or_ge j x with h | h
        · exact hno2 j p h hj
        · have hjx' : j = x := by omega
          subst hjx'
          rw [hkv] at hj
          injection hj with hj
          injection hj with hj
          exact hne hj⟩
    rw [hex]
    dsimp only
    by_cases hh : (k'.hash w == k.hash w) = true
    · rw [if_pos hh]
      refine wpAny_bind (wpAny_dictEpoch ho hd (wpAny_bind (eq_x hu hib hk (wpAny_bind (wpAny_dictEpoch ho hd ?_)))))
      show wpAny _ _ (if (ep != ep) = true then _ else _) _ E _
      rw [if_neg (by simp)]
      by_cases hkk : k' = k
      · rw [decide_eq_true hkk]
        subst hkk
        exact wpAny_bind (wpAny_rule (wpAny_pure (wpAny_pure (h.2 x _ hkv))))
      · rw [decide_eq_false hkk]
        exact wpAny_bind (wpAny_rule (wpAny_pure ⟨rfl, rfl, hstay hkk⟩))
    · rw [if_neg hh]
      refine wpAny_pure ⟨rfl, rfl, hstay ?_⟩
      intro hkk
      rw [hkk] at hh; simp at hh
  · rintro b s' ⟨rfl, rfl, i, hr, hi, hno⟩
    have hall : ∀ j, i ≤ j → j < es.size → ((es[j]?.map (·.hash)) == some (k.hash w)) = false := by
      intro j h1 h2
      have := List.filter_eq_nil_iff.mp hr.symm j (List.mem_range'_1.mpr ⟨h1, by omega⟩)
      simpa using this
    refine wpAny_pure (h.1 fun j p hj => ?_)
    rcases Nat.lt_or_ge j i with h | h
    · exact hno j p h hj
    · have hjl : j < es.size := by
        rw [hsz]
        rcases Nat.lt_or_ge j xs.length with h' | h'
        · exact h'
        · rw [List.getElem?_eq_none h'] at hj; exact nomatch hj
      have := hall j h hjl
      rw [hash_at he j p hj] at this
      exact absurd this (by decide)
theorem text_x {x : Str} {t : Nat} (hu : A.units + 8 < cLine) (hk : KeyX s.heap (.text x) (.str x t)) (ho : s.heap.get? d = some o) (hd : o.data = .dict es ep) (he : es.toList = xs.map (entX w)) (his : ∀ x ∈ xs, KeyX s.heap x.1 x.2.1) (hn : (xs.map (·.1)).Nodup)
    (hstr : (es.all fun e => isExactStrKey e.key) = true) (h : FindX xs (.text x) Q s) : wpAny (model prog w) A (foundByValue d (.str x t) es x) Q E s := by
  have hsz : es.size = xs.length := entX_size he
  have key : ∀ j (hj : j < es.size), ∃ y p, xs[j]? = some (.text y, p) ∧ es[j].key.isStr x = decide (y = x) := fun j hj => by
    obtain ⟨⟨k', b, v'⟩, hkv⟩ : ∃ y, xs[j]? = some y := ⟨xs[j]'(by rw [← hsz]; exact hj), List.getElem?_eq_getElem _⟩
    have hib := his _ (List.mem_of_getElem? hkv)
    have hex : es[j]? = some ⟨k'.hash w, b, v'⟩ := by rw [entX_at he j, hkv]; rfl
    rw [Array.getElem?_eq_getElem hj] at hex
    have hs := Array.all_eq_true.mp hstr j hj
    injection hex with hex
    rw [hex] at hs ⊢
    obtain ⟨hib, _⟩ := hib
    simp only at hib
    cases hib with
    | none => simp [isExactStrKey] at hs
    | bool _ => simp [isExactStrKey] at hs
    | int _ _ => simp [isExactStrKey] at hs
    | tup _ _ _ _ => simp [isExactStrKey] at hs
    | text y t2 => exact ⟨y, _, hkv, by simp only [Value.isStr]; first | rfl | exact Bool.eq_iff_iff.mpr (by simp)⟩
  unfold foundByValue
  cases hf : es.findIdx? (fun e => e.key.isStr x) with
  | none =>
    refine wpAny_pure (h.1 fun j p hj => ?_)
    have hjl : j < es.size := by
      rw [hsz]
      rcases Nat.lt_or_ge j xs.length with h' | h'
      · exact h'
      · rw [List.getElem?_eq_none h'] at hj; exact nomatch hj
    obtain ⟨y, q, h1, h2⟩ := key j hjl
    rw [hj] at h1
    cases h1
    have := Array.findIdx?_eq_none_iff.mp hf _ (Array.getElem_mem hjl)
    rw [h2] at this
    simp at this
  | some i =>
    obtain ⟨hlt, hi, _⟩ := Array.findIdx?_eq_some_iff_getElem.mp hf
    obtain ⟨y, q, h1, h2⟩ := key i hlt
    rw [h2] at hi
    obtain rfl : y = x := of_decide_eq_true hi
    have hib := his _ (List.mem_of_getElem? h1)
    have hex : es[i]? = some ⟨(NestedKey.text y).hash w, q.1, q.2⟩ := by rw [entX_at he i, h1]; rfl
    dsimp only
    rw [hex]
    dsimp only
    refine wpAny_bind (wpAny_dictEpoch ho hd (wpAny_bind (eq_x hu hib hk (wpAny_bind (wpAny_dictEpoch ho hd ?_)))))
    show wpAny _ _ (if (ep != ep) = true then _ else _) _ E _
    rw [if_neg (by simp), decide_eq_true rfl]
    exact wpAny_bind (wpAny_rule (wpAny_pure (h.2 i q h1)))
theorem find_x (hu : A.units + 8 < cLine) (hk : KeyX s.heap k u) (ho : s.heap.get? d = some o) (hd : o.data = .dict es ep) (he : es.toList = xs.map (entX w)) (his : ∀ x ∈ xs, KeyX s.heap x.1 x.2.1) (hn : (xs.map (·.1)).Nodup)
    (h : FindX xs k Q s) : wpAny (model prog w) A (dictFind d u (k.hash w)) Q E s := by
  have hsz : es.size = xs.length := entX_size he
  have hst := stored_x (w := w) (k := k) he his
  have hany : ∀ a, u = .ref a → ¬ (es.any fun e => e.key == Value.ref a && e.hash != k.hash w) = true := by
    intro a hua
    subst hua
    rw [← Array.any_toList, List.any_eq_true]
    rintro ⟨e, hin, hc⟩
    obtain ⟨x, hx, rfl⟩ := entX_mem he (Array.mem_toList_iff.mp hin)
    simp only [entX, Bool.and_eq_true, beq_iff_eq, bne_iff_ne, ne_eq] at hc
    obtain ⟨hxa, hne⟩ := hc
    have := his x hx
    rw [hxa] at this
    exact hne (by rw [NestedIs.inj _ _ _ this.1 hk.1])
  unfold dictFind
  try with_reducible refine wpAny_holding ?_
  refine wpAny_bind (wpAny_dictEntries ho hd ?_)
  have hk' := hk
  cases u <;> dsimp only
  case' str x t => refine ite_x (fun hstrs => by
    obtain ⟨hk1, hk2⟩ := hk
    cases hk1
    exact text_x hu hk' ho hd he his hn hstrs h) fun _ => ?_
  all_goals refine ite_x (fun hall => walk_x hu hk' ho hd he his hn h) fun _ => ?_
  case' ref => refine ite_x (fun hc => absurd hc (hany _ rfl)) fun _ => ?_
  all_goals refine ite_x (fun _ => wpAny_bind (wpAny_pure ?_)) (fun _ => wpAny_bind (quiet_x hk' hst ?_))
  all_goals refine ite_x (fun hc => absurd hc (by simp)) fun _ => ?_
  all_goals (
    refine wpAny_bind ?_
    refine wpAny_forIn_list _
      (fun rest b s' => s' = s ∧ ∃ i hit, b = (none, hit) ∧ rest = (List.range' i (es.size - i)).filter (fun i => (es[i]?.map (·.hash)) == some (k.hash w)) ∧ i ≤ es.size ∧
        ((hit = none ∧ ∀ j p, j < i → xs[j]? ≠ some (k, p)) ∨ ∃ j p, hit = some j ∧ j < i ∧ xs[j]? = some (k, p))) _ ?_ ?_ _ _
      ⟨rfl, 0, none, rfl, by rw [placesWithHash, List.range_eq_range', Nat.sub_zero], Nat.zero_le _, .inl ⟨rfl, fun _ _ h => absurd h (Nat.not_lt_zero _)⟩⟩
    · rintro x rest b s' ⟨rfl, i, hit, rfl, hr, hi, hH⟩
      obtain ⟨hix, hxn, hpx, hskip, hrest⟩ := filter_range'_cons _ _ _ _ _ hr.symm
      have hlt : x < es.size := by omega
      have hrest' : rest = (List.range' (x + 1) (es.size - (x + 1))).filter (fun i => (es[i]?.map (·.hash)) == some (k.hash w)) := by rw [hrest]; congr 2; omega
      obtain ⟨⟨k', b, v'⟩, hkv⟩ : ∃ y, xs[x]? = some y := ⟨xs[x]'(by rw [← hsz]; exact hlt), List.getElem?_eq_getElem _⟩
      have hib : KeyX s'.heap k' b := his _ (List.mem_of_getElem? hkv)
      have hex : es[x]? = some ⟨k'.hash w, b, v'⟩ := by rw [entX_at he x, hkv]; rfl
      have hHx : (hit = none ∧ ∀ j p, j < x → xs[j]? ≠ some (k, p)) ∨ ∃ j p, hit = some j ∧ j < x ∧ xs[j]? = some (k, p) := by
        rcases hH with ⟨h0, hno⟩ | ⟨j, p, h1, hji, hj⟩
        · refine .inl ⟨h0, fun j p hjx hj => ?_⟩
          rcases Nat.lt_or_ge j i with h | h
          · exact hno j p h hj
          · have := hskip j h hjx
            rw [hash_at he j p hj] at this
            exact absurd this (by decide)
        · exact .inr ⟨j, p, h1, by omega, hj⟩
      have hstay : ¬ k' = k → ((hit = none ∧ ∀ j p, j < x + 1 → xs[j]? ≠ some (k, p)) ∨ ∃ j p, hit = some j ∧ j < x + 1 ∧ xs[j]? = some (k, p)) := by
        intro hne
        rcases hHx with ⟨h0, hno⟩ | ⟨j, p, h1, hjx, hj⟩
        · refine .inl ⟨h0, fun j p hjx hj => ?_⟩
          rcases Nat.lt_or_ge j x with h | h
          · exact hno j p h hj
          · have hjx' : j = x := by omega
            subst hjx'
            rw [hkv] at hj
            injection hj with hj
            injection hj with hj
            exact hne hj
        · exact .inr ⟨j, p, h1, by omega, hj⟩
      rw [hex]
      dsimp only
      refine ite_x (fun hh => ?_) fun hh => wpAny_pure ⟨rfl, x + 1, hit, rfl, hrest', hlt, hstay fun hkk => by rw [hkk] at hh; simp at hh⟩
      refine wpAny_bind (wpAny_dictEpoch ho hd (wpAny_bind (eq_x hu hib hk' (wpAny_bind (wpAny_dictEpoch ho hd ?_)))))
      refine ite_x (fun hc => absurd hc (by simp)) fun _ => ?_
      refine ite_x (fun hkk => ?_) (fun hkk => ?_)
      · have hkk := of_decide_eq_true hkk
        subst hkk
        rcases hHx with ⟨rfl, _⟩ | ⟨j, p, _, hjx, hj⟩
        · refine ite_x (fun hc => absurd hc (by simp)) fun _ => ?_
          refine wpAny_bind (wpAny_rule ?_)
          refine ite_x (fun _ => wpAny_pure (wpAny_pure (h.2 x _ hkv))) fun _ => wpAny_pure ⟨rfl, x + 1, some x, rfl, hrest', hlt, .inr ⟨x, _, rfl, Nat.lt_succ_self x, hkv⟩⟩
        · exact absurd (once hn hj hkv) (by omega)
      · have hkk : ¬ k' = k := fun e => hkk (decide_eq_true e)
        refine wpAny_bind (wpAny_rule ?_)
        refine ite_x (fun hc => absurd hc (by simp)) fun _ => wpAny_pure ⟨rfl, x + 1, hit, rfl, hrest', hlt, hstay hkk⟩
    · rintro b s' ⟨rfl, i, hit, rfl, hr, hi, hH⟩
      have hall : ∀ j, i ≤ j → j < es.size → ((es[j]?.map (·.hash)) == some (k.hash w)) = false := by
        intro j h1 h2
        have := List.filter_eq_nil_iff.mp hr.symm j (List.mem_range'_1.mpr ⟨h1, by omega⟩)
        simpa using this
      rcases hH with ⟨rfl, hno⟩ | ⟨j, p, rfl, _, hj⟩
      · refine wpAny_pure (h.1 fun j p hj => ?_)
        rcases Nat.lt_or_ge j i with h | h
        · exact hno j p h hj
        · have hjl : j < es.size := by
            rw [hsz]
            rcases Nat.lt_or_ge j xs.length with h' | h'
            · exact h'
            · rw [List.getElem?_eq_none h'] at hj; exact nomatch hj
          have := hall j h hjl
          rw [hash_at he j p hj] at this
          exact absurd this (by decide)
      · exact wpAny_pure (h.2 j p hj))
end
end
end DL
/-! DL, part 86: dicts with keys of any kind: d[k], k in d, d[k] = v over a heap that is held. -/
namespace DL
open PySem L2
section
variable {prog : Program} {w : World} {A : Around} {E : Value → Shared → Prop} {s : Shared} {d : Addr} {k : NestedKey} {u : Value} {xs : List (NestedKey × Value × Value)}
def XOf (w : World) (h : Heap) (d : Addr) (xs : List (NestedKey × Value × Value)) : Prop :=
  ∃ o es ep, h.get? d = some o ∧ o.ExactDict ∧ o.data = .dict es ep ∧ es.toList = xs.map (entX w) ∧ (∀ x ∈ xs, KeyX h x.1 x.2.1) ∧ (xs.map (·.1)).Nodup
theorem XOf.typeIs (hm : XOf w s.heap d xs) : s.TypeIs (.ref d) "dict" := let ⟨o, _, _, ho, hc, _⟩ := hm; ⟨o, ho, hc.1⟩
def fx (xs : List (NestedKey × Value × Value)) (k : NestedKey) : Option (Value × Value) := (xs.find? fun x => decide (x.1 = k)).map (·.2)
theorem fx_of (hn : (xs.map (·.1)).Nodup) {j : Nat} {p : Value × Value} (hj : xs[j]? = some (k, p)) : fx xs k = some p := by
  unfold fx
  cases hf : xs.find? fun x => decide (x.1 = k) with
  | none => exact absurd (decide_eq_true (rfl : k = k)) (List.find?_eq_none.mp hf _ (List.mem_of_getElem? hj))
  | some y =>
    have h1 : y.1 = k := of_decide_eq_true (List.find?_some (p := fun x : NestedKey × Value × Value => decide (x.1 = k)) hf)
    obtain ⟨i, hi⟩ := List.getElem?_of_mem (List.mem_of_find?_eq_some hf)
    have hy : y = (k, y.2) := by rw [← h1]
    rw [hy] at hi
    have e := once hn hi hj
    subst e
    rw [hi] at hj
    cases hj
    rfl
theorem fx_none (h : ∀ (j : Nat) (p : Value × Value), xs[j]? ≠ some (k, p)) : fx xs k = none := by
  unfold fx
  cases hf : xs.find? fun x => decide (x.1 = k) with
  | none => rfl
  | some y =>
    have h1 : y.1 = k := of_decide_eq_true (List.find?_some (p := fun x : NestedKey × Value × Value => decide (x.1 = k)) hf)
    obtain ⟨i, hi⟩ := List.getElem?_of_mem (List.mem_of_find?_eq_some hf)
    exact absurd (show xs[i]? = some (k, y.2) by rw [hi, ← h1]) (h i y.2)
theorem KeyX.keep {h h' : Heap} {o : Obj} {es : Array DictEntry} {ep : Nat} (x : KeyX h k u) (ho : h.get? d = some o) (hd : o.data = .dict es ep) (hs : Heap.SameBut d h h') : KeyX h' k u :=
  ⟨NestedIs.at (fun b ob vs n hb hc => by
    refine (hs.2 b fun e => ?_).trans hb
    subst e
    rw [ho] at hb
    cases hb
    rw [hd] at hc
    cases hc) k _ x.1, x.2⟩
theorem get_x {Q : Option Value → Shared → Prop} (hu : A.units + 8 < cLine) (hk : KeyX s.heap k u) (hm : XOf w s.heap d xs)
    (h : Q ((fx xs k).map (·.2)) { s with toks := s.toks + k.draws }) : wpAny (model prog w) A (dictGet d u) Q E s := by
  obtain ⟨o, es, ep, ho, _, hd, he, his, hn⟩ := hm
  unfold dictGet
  try with_reducible refine wpAny_holding ?_
  refine wpAny_bind (pyHash_key _ _ _ _ _ hk.1 (by have := hk.2; omega) (wpAny_bind (find_x (s := { s with toks := s.toks + k.draws }) hu hk ho hd he his hn ⟨fun hno => ?_, fun j p hj => ?_⟩)))
  · rw [fx_none hno] at h
    exact wpAny_pure h
  · rw [fx_of hn hj] at h
    refine wpAny_bind (wpAny_dictEntries (s := { s with toks := s.toks + k.draws }) ho hd ?_)
    rw [entX_at he j, hj]
    exact wpAny_pure h
theorem contains_x {Q : Bool → Shared → Prop} (hu : A.units + 9 < cLine) (hk : KeyX s.heap k u) (hd : (d == sysModules) = false) (hm : XOf w s.heap d xs)
    (h : Q (fx xs k).isSome { s with toks := s.toks + k.draws }) : wpAny (model prog w) A (contains (.ref d) u) Q E s := by
  refine wpAny_contains_slot hm.typeIs PySem.F.slot_dict_contains ?_
  refine call_meetsIn PySem.F.slot_dict_contains hm.typeIs PySem.F.entry_dict_contains (PySem.F.args_dict_contains_2 _ _) (S := fun A' R s' => A' = A ∧ s' = s ∧ R (.ok (.ret (.bool (fx xs k).isSome))) { s with toks := s.toks + k.draws }) (fun A' R s' hS => ?_) ⟨rfl, rfl, wpAny_truthy_bool h⟩
  obtain ⟨rfl, rfl, hq⟩ := hS
  show wpAny _ _ (dictGet d u >>= _) _ _ _
  refine wpAny_bind (get_x (show A'.in1.units + 8 < cLine by simp only [Around.in1_units]; omega) hk hm ?_)
  cases hf : fx xs k with
  | some p =>
    rw [hf] at hq
    show wpAny _ _ (ret (.bool true)) _ _ _
    exact wpAny_pure hq
  | none =>
    rw [hf] at hq
    show wpAny _ _ (Builtin.Dict.pendingKey? d u >>= _) _ _ _
    exact wpAny_bind (wpAny_pendingKey_other hd (wpAny_pure hq))
theorem notIn_x {Q : Value → Shared → Prop} (hu : A.units + 9 < cLine) (hk : KeyX s.heap k u) (hd : (d == sysModules) = false) (hm : XOf w s.heap d xs)
    (h : Q (.bool (!(fx xs k).isSome)) { s with toks := s.toks + k.draws }) : wpAny (model prog w) A (compareOp .NotIn u (.ref d)) Q E s := by
  show wpAny _ _ (do return .bool (!(← contains (.ref d) u))) Q E s
  exact wpAny_bind (contains_x hu hk hd hm (wpAny_pure h))
theorem getItem_x {p : Value × Value} {Q : Value → Shared → Prop} (hu : A.units + 9 < cLine) (hk : KeyX s.heap k u) (hm : XOf w s.heap d xs) (hp : fx xs k = some p)
    (h : Q p.2 { s with toks := s.toks + k.draws }) : wpAny (model prog w) A (getItem (.ref d) u) Q E s := by
  unfold getItem
  try with_reducible refine wpAny_holding ?_
  refine wpAny_bind (wpAny_sequenceKey hm.typeIs (by decide) ?_)
  refine wpAny_bind (wpAny_callSpecial?_slot (name := Str.ofString "__getitem__") hm.typeIs slot_dict_getitem
    (wpAny_call_entry slot_dict_getitem hm.typeIs entry_dict_getitem ?_ (args_dict_getitem _ _)))
  show wpAny _ _ (dictGet d u >>= _) _ _ s
  refine wpAny_bind (get_x (by simp only [Around.in1_units]; omega) hk hm ?_)
  rw [hp]
  exact wpAny_pure ⟨p.2, rfl, wpAny_pure h⟩
def pairX (xs : List (NestedKey × Value × Value)) (k : NestedKey) (u v : Value) : List (NestedKey × Value × Value) :=
  if (fx xs k).isSome then xs.map (fun x => if x.1 = k then (x.1, x.2.1, v) else x) else xs ++ [(k, u, v)]
theorem map_set {p : Value × Value} {v : Value} : ∀ {xs : List (NestedKey × Value × Value)} {j : Nat}, (xs.map (·.1)).Nodup → xs[j]? = some (k, p) → xs.map (fun x => if x.1 = k then (x.1, x.2.1, v) else x) = xs.set j (k, p.1, v)
  | [], _, _, h => by simp at h
  | x :: xs, 0, hn, h => by
    simp only [List.getElem?_cons_zero, Option.some.injEq] at h
    subst h
    rw [List.map_cons, List.nodup_cons] at hn
    simp only [List.map_cons, if_true, List.set_cons_zero]
    refine congrArg _ ?_
    refine (List.map_congr_left (g := id) fun y hy => ?_).trans (List.map_id _)
    rw [if_neg (fun e => hn.1 (by rw [← e]; exact List.mem_map_of_mem (f := (·.1)) hy))]
    rfl
  | x :: xs, j + 1, hn, h => by
    simp only [List.getElem?_cons_succ] at h
    rw [List.map_cons, List.nodup_cons] at hn
    have hm : k ∈ xs.map (·.1) := List.mem_map.mpr ⟨(k, p), List.mem_of_getElem? h, rfl⟩
    rw [List.map_cons, List.set_cons_succ, map_set hn.2 h, if_neg (fun e => hn.1 (by rw [e]; exact hm))]
theorem set_x {v : Value} {Q : Unit → Shared → Prop} (hu : A.units + 8 < cLine) (hk : KeyX s.heap k u) (hm : XOf w s.heap d xs)
    (hQ : ∀ h', XOf w h' d (pairX xs k u v) → Heap.SameBut d s.heap h' → Q () { s with heap := h', toks := s.toks + k.draws })
    (hsz : xs.length ≤ sizeLine) : wpAny (model prog w) A (dictSet d u v) Q E s := by
  obtain ⟨o, es, ep, ho, hc, hd, he, his, hn⟩ := hm
  unfold dictSet
  try with_reducible refine wpAny_holding ?_
  refine wpAny_bind (pyHash_key _ _ _ _ _ hk.1 (by have := hk.2; omega) ?_)
  unfold dictSetHashed
  try with_reducible refine wpAny_holding ?_
  refine wpAny_bind (find_x (s := { s with toks := s.toks + k.draws }) hu hk ho hd he his hn ⟨fun hno => ?_, fun j p hj => ?_⟩)
  · have hnot : k ∉ xs.map (·.1) := fun hm => by
      obtain ⟨x, hx, rfl⟩ := List.mem_map.mp hm
      obtain ⟨j, hj⟩ := List.getElem?_of_mem hx
      exact hno j x.2 hj
    have ep2 : pairX xs k u v = xs ++ [(k, u, v)] := by unfold pairX; rw [fx_none hno]; rfl
    refine wpAny_bind (wpAny_rule (wpAny_updateDictKeys (hz := by have e := entX_size he; omega) (s := { s with toks := s.toks + k.draws }) ho hd (hQ _ ⟨_, _, ep + 1, Heap.get?_update_self _ ho (Obj.isFreed_of_dict (Obj.data_mapDictKeys hd _)),
      hc.mapDictKeys _, Obj.data_mapDictKeys hd _, ?_, ?_, ?_⟩ (Heap.SameBut.update ..))))
    · rw [ep2]
      simp [he, entX]
    · rw [ep2]
      intro x hx
      rcases List.mem_append.mp hx with hx | hx
      · exact (his x hx).keep ho hd (Heap.SameBut.update ..)
      · simp only [List.mem_singleton] at hx
        subst hx
        exact hk.keep ho hd (Heap.SameBut.update ..)
    · rw [ep2, List.map_append, List.nodup_append]
      refine ⟨hn, by simp, ?_⟩
      intro x hx y hy
      simp only [List.map_cons, List.map_nil, List.mem_singleton] at hy
      subst hy
      exact fun e => hnot (e ▸ hx)
  · have ep2 : pairX xs k u v = xs.set j (k, p.1, v) := by unfold pairX; rw [fx_of hn hj]; exact map_set hn hj
    have hjl : j < xs.length := (List.getElem?_eq_some_iff.mp hj).1
    refine wpAny_bind (wpAny_rule (wpAny_bind (wpAny_updateDict (s := { s with toks := s.toks + k.draws }) ho hd (wpAny_point (hQ _ ⟨_, _, ep, Heap.get?_update_self _ ho (Obj.isFreed_of_dict (Obj.data_mapDict hd _)),
      hc.mapDict _, Obj.data_mapDict hd _, ?_, ?_, ?_⟩ (Heap.SameBut.update ..))))))
    · rw [ep2]
      refine List.ext_getElem? fun i => ?_
      rw [List.getElem?_map, List.getElem?_set, Array.getElem?_toList, Array.getElem?_modify]
      by_cases e : j = i
      · subst e
        rw [if_pos rfl, if_pos rfl, if_pos hjl, entX_at he j, hj]
        rfl
      · rw [if_neg e, if_neg e, entX_at he i]
    · rw [ep2]
      intro x hx
      rcases List.mem_or_eq_of_mem_set hx with hx | rfl
      · exact (his x hx).keep ho hd (Heap.SameBut.update ..)
      · exact KeyX.keep (his (k, p) (List.mem_of_getElem? hj)) ho hd (Heap.SameBut.update ..)
    · rw [ep2]
      have : (xs.set j (k, p.1, v)).map (·.1) = xs.map (·.1) := by
        rw [List.map_set]
        refine List.ext_getElem? fun i => ?_
        rw [List.getElem?_set]
        by_cases e : j = i
        · subst e
          rw [if_pos rfl, List.length_map, if_pos hjl, List.getElem?_map, hj]
          rfl
        · rw [if_neg e]
      rw [this]
      exact hn
theorem setItem_x {v : Value} {Q : Unit → Shared → Prop} (hu : A.units + 9 < cLine) (hk : KeyX s.heap k u) (hm : XOf w s.heap d xs)
    (hQ : ∀ h', XOf w h' d (pairX xs k u v) → Heap.SameBut d s.heap h' → Q () { s with heap := h', toks := s.toks + k.draws })
    (hsz : xs.length ≤ sizeLine) : wpAny (model prog w) A (setItem (.ref d) u v) Q E s := by
  unfold setItem
  try with_reducible refine wpAny_holding ?_
  refine wpAny_bind (wpAny_sequenceKey hm.typeIs (by decide) ?_)
  refine wpAny_bind (wpAny_callSpecial?_slot (name := Str.ofString "__setitem__") hm.typeIs slot_dict_setitem
    (wpAny_call_entry slot_dict_setitem hm.typeIs entry_dict_setitem ?_ (args_dict_setitem _ _ _)))
  show wpAny _ _ (Builtin.Dict.notOrdered "__setitem__" ⟨[.ref d, u, v], []⟩ >>= _) _ _ s
  refine wpAny_bind (wpAny_notOrdered_dict hm.typeIs ?_)
  show wpAny _ _ (dictSet d u v >>= _) _ _ s
  exact wpAny_bind (set_x (by simp only [Around.in1_units]; omega) hk hm (fun h' hm' hs' => wpAny_pure ⟨.none, rfl, wpAny_pure (hQ h' hm' hs')⟩) hsz)
end
end DL
/-! DL, part 87: dicts with keys of any kind, over the held heap: in, item, item set, len, list, isinstance. -/
namespace DL
open PySem L2
/-- how keys hash in the world -/
def hxW (w : World) : HX := fun k => k.hash w
abbrev EX := KX × V × V
def PX (w : EX) (x : NestedKey × Value × Value) : Prop := x.1 = w.1.nk ∧ RelV w.2.1 x.2.1 ∧ RelV w.2.2 x.2.2
def valW (ws : List EX) (n : NestedKey) : Option V := (ws.find? fun w => decide (w.1.nk = n)).map (·.2.2)
def putW (ws : List EX) (k : KX) (kv v : V) : List EX := if (valW ws k.nk).isSome then ws.map (fun w => if w.1.nk = k.nk then (w.1, w.2.1, v) else w) else ws ++ [(k, kv, v)]
def putX (kvs : List (KX × Dat)) (k : KX) (x : Dat) : List (KX × Dat) := if (valX kvs k.nk).isSome then kvs.map (fun w => if w.1.nk = k.nk then (w.1, x) else w) else kvs ++ [(k, x)]
theorem valW_cons {w : EX} {ws : List EX} {n : NestedKey} : valW (w :: ws) n = if w.1.nk = n then some w.2.2 else valW ws n := by
  unfold valW
  rw [List.find?_cons]
  by_cases h : w.1.nk = n
  · rw [decide_eq_true h, if_pos h]; rfl
  · rw [decide_eq_false h, if_neg h]
theorem fx_cons {w : NestedKey × Value × Value} {ws : List (NestedKey × Value × Value)} {n : NestedKey} : fx (w :: ws) n = if w.1 = n then some w.2 else fx ws n := by
  unfold fx
  rw [List.find?_cons]
  by_cases h : w.1 = n
  · rw [decide_eq_true h, if_pos h]; rfl
  · rw [decide_eq_false h, if_neg h]
theorem px_of {w : World} {ws : List EX} {el : List DictEntry} (h : Paired (fun (e : EX) (d : DictEntry) => d.hash = hxW w e.1.nk ∧ RelV e.2.1 d.key ∧ RelV e.2.2 d.val) ws el) : ∃ xs, el = xs.map (entX w) ∧ Paired PX ws xs := by
  induction h with
  | nil => exact ⟨[], rfl, .nil⟩
  | @cons a b _ _ r t ih =>
    obtain ⟨xs, e, q⟩ := ih
    refine ⟨(a.1.nk, b.key, b.val) :: xs, ?_, .cons ⟨rfl, r.2.1, r.2.2⟩ q⟩
    rw [List.map_cons, ← e]
    obtain ⟨bh, bk, bv⟩ := b
    simp only at r
    simp only [entX, r.1, hxW]
theorem px_back {w : World} {ws : List EX} {xs : List (NestedKey × Value × Value)} (h : Paired PX ws xs) : Paired (fun (e : EX) (d : DictEntry) => d.hash = hxW w e.1.nk ∧ RelV e.2.1 d.key ∧ RelV e.2.2 d.val) ws (xs.map (entX w)) := by
  induction h with
  | nil => exact .nil
  | cons r t ih => exact .cons ⟨by rw [show (entX w _).hash = (_ : NestedKey × Value × Value).1.hash w from rfl, r.1]; rfl, r.2.1, r.2.2⟩ ih
theorem px_keys {ws : List EX} {xs : List (NestedKey × Value × Value)} (h : Paired PX ws xs) : xs.map (·.1) = ws.map (·.1.nk) := by
  induction h with
  | nil => rfl
  | cons r t ih => rw [List.map_cons, List.map_cons, ih, r.1]
theorem px_mem {ws : List EX} {xs : List (NestedKey × Value × Value)} (h : Paired PX ws xs) {x : NestedKey × Value × Value} (m : x ∈ xs) : ∃ w ∈ ws, PX w x := by
  induction h with
  | nil => cases m
  | cons r t ih =>
    rcases List.mem_cons.mp m with rfl | m
    · exact ⟨_, List.mem_cons_self, r⟩
    · obtain ⟨w, h1, h2⟩ := ih m
      exact ⟨w, List.mem_cons_of_mem _ h1, h2⟩
theorem px_get {ws : List EX} {xs : List (NestedKey × Value × Value)} (h : Paired PX ws xs) (n : NestedKey) : RelO (valW ws n) ((fx xs n).map (·.2)) := by
  induction h with
  | nil => exact True.intro
  | @cons a b _ _ r t ih =>
    rw [valW_cons, fx_cons, r.1]
    by_cases e : a.1.nk = n
    · rw [if_pos e, if_pos e]; exact r.2.2
    · rw [if_neg e, if_neg e]; exact ih
theorem px_some {ws : List EX} {xs : List (NestedKey × Value × Value)} (h : Paired PX ws xs) (n : NestedKey) : (valW ws n).isSome = (fx xs n).isSome := by
  have := (px_get h n).isSome_eq
  rw [this, Option.isSome_map]
theorem px_map {ws : List EX} {xs : List (NestedKey × Value × Value)} (h : Paired PX ws xs) {n : NestedKey} {v : V} {r : Value} (rr : RelV v r) :
    Paired PX (ws.map (fun w => if w.1.nk = n then (w.1, w.2.1, v) else w)) (xs.map (fun x => if x.1 = n then (x.1, x.2.1, r) else x)) := by
  induction h with
  | nil => exact .nil
  | @cons a b _ _ q t ih =>
    rw [List.map_cons, List.map_cons]
    refine .cons ?_ ih
    rw [q.1]
    by_cases e : a.1.nk = n
    · rw [if_pos e, if_pos e]; exact ⟨rfl, q.2.1, rr⟩
    · rw [if_neg e, if_neg e]; exact q
theorem px_put {ws : List EX} {xs : List (NestedKey × Value × Value)} (h : Paired PX ws xs) {k : KX} {kv v : V} {u r : Value} (ru : RelV kv u) (rr : RelV v r) : Paired PX (putW ws k kv v) (pairX xs k.nk u r) := by
  unfold putW pairX
  rw [px_some h]
  split
  · exact px_map h rr
  · exact Paired.snoc h ⟨rfl, ru, rr⟩
section
variable {X : Cx} {pins : List (Addr × Obj)} {σ : St} {H : Hp} {s : Shared} {a : Addr}
theorem key_x (I : Inv X pins σ H s) {v : V} {u : Value} {k : KX} (r : XKR H v k) (ru : RelV v u) : KeyX s.heap k.nk u := by
  cases k with
  | k κ =>
    cases (show v = kV κ from r)
    cases κ with
    | inl i => obtain ⟨t, rfl⟩ := ru; exact ⟨.int i t, by simp [KX.nk, NestedKey.depth]⟩
    | inr x => obtain ⟨t, rfl⟩ := ru; exact ⟨.text x t, by simp [KX.nk, NestedKey.depth]⟩
  | non => cases (show v = V.non from r); cases (show u = Value.none from ru); exact ⟨.none, by simp [KX.nk, NestedKey.depth]⟩
  | tru => cases (show v = V.bl true from r); cases (show u = Value.bool true from ru); exact ⟨.bool rfl, by simp [KX.nk, NestedKey.depth]⟩
  | tup z =>
    obtain ⟨b, rfl, hb⟩ := r
    cases (show u = Value.ref b from ru)
    obtain ⟨_, its, rv, o, h1, h2, n, h3⟩ := (show ObjOk X.prog X.w H s.heap b (.tup [.str z]) from I.hok b _ hb)
    cases rv with
    | cons r1 r2 =>
      cases r2
      obtain ⟨t, rfl⟩ := r1
      exact ⟨.tup h1 h2 h3 (.cons (.text z t) .nil), by simp [KX.nk, NestedKey.depth, NestedKey.depthAll]⟩
/-- a dict that may be read by keys of any kind -/
structure OpX (X : Cx) (s : Shared) (a : Addr) (ws : List EX) : Prop where
  low : (a == sysModules) = false
  len : ws.length ≤ sizeLine
  of : ∃ xs, XOf X.w s.heap a xs ∧ Paired PX ws xs
def DX (hx : HX) (H : Hp) (a : Addr) (ws : List EX) : Prop :=
  ((H a = some (.ext (XD hx a ws)) ∨ ∃ o, H a = some (.frz o (.ext (XD hx a ws)))) ∧ ∀ (i : Nat) (w : EX), ws[i]? = some w → XKR H w.2.1 w.1) ∨ ∃ kvs : List (Key × V), Rd H a (.dK kvs) ∧ ws = kvs.map fun p => (KX.k p.1, kV p.1, p.2)
theorem open_xd (I : Inv X pins σ H s) {ws : List EX} (h : XD (hxW X.w) a ws s.heap) (own : ∀ (i : Nat) (w : EX), ws[i]? = some w → XKR H w.2.1 w.1) : OpX X s a ws := by
  obtain ⟨z, hs, o, es, ep, ho, hex, hd, pr, nd⟩ := h
  obtain ⟨xs, e, q⟩ := px_of pr
  refine ⟨hs, z, xs, ⟨o, es, ep, ho, hex, hd, e, fun x hx => ?_, by rw [px_keys q]; exact nd⟩, q⟩
  obtain ⟨w, hw, h1, h2, h3⟩ := px_mem q hx
  obtain ⟨i, hi⟩ := List.getElem?_of_mem hw
  rw [h1]
  exact key_x I (own i w hi) h2
theorem kx_hash {w : World} (κ : Key) : keyH w κ = (KX.k κ).nk.hash w := by cases κ <;> simp [keyH, KX.nk, NestedKey.hash]
theorem open_kv {w : World} {es : List DictEntry} {vs : List (Key × Value)} {kvs : List (Key × V)} {prog : Program} (hp : Pairs (mixKind prog w) es vs) (hk : ∀ e ∈ es, ∃ k, keyIs k e.key = true ∧ e.hash = keyH w k) (kv : KV kvs vs) :
    ∃ xs, es = xs.map (entX w) ∧ Paired PX (kvs.map fun p => (KX.k p.1, kV p.1, p.2)) xs := by
  induction hp generalizing kvs with
  | nil => cases kv; exact ⟨[], rfl, .nil⟩
  | @cons e p es vs h1 h2 t ih =>
    cases kv with
    | @cons q _ l _ r kv =>
      obtain ⟨xs, e1, e2⟩ := ih (fun e he => hk e (List.mem_cons_of_mem _ he)) kv
      obtain ⟨k, hk1, hk2⟩ := hk e List.mem_cons_self
      have ek : k = p.1 := (mixKind prog w).inj e.key k p.1 hk1 h1
      subst ek
      refine ⟨((KX.k q.1).nk, e.key, e.val) :: xs, ?_, .cons ⟨rfl, ?_, ?_⟩ e2⟩
      · rw [List.map_cons, ← e1]
        obtain ⟨eh, ek, ev⟩ := e
        simp only at hk2
        rw [hk2, ← r.1, kx_hash]
        rfl
      · show RelV (kV q.1) e.key
        rw [r.1]
        exact relV_key h1
      · show RelV q.2 e.val
        rw [h2]
        exact r.2
theorem nk_k : ∀ {a b : Key}, (KX.k a).nk = (KX.k b).nk → a = b
  | .inl _, .inl _, h => by simp [KX.nk] at h; rw [h]
  | .inr _, .inr _, h => by simp [KX.nk] at h; rw [h]
  | .inl _, .inr _, h => by simp [KX.nk] at h
  | .inr _, .inl _, h => by simp [KX.nk] at h
theorem open_kd (I : Inv X pins σ H s) {kvs : List (Key × V)} (h : Rd H a (.dK kvs)) : OpX X s a (kvs.map fun p => (KX.k p.1, kV p.1, p.2)) := by
  obtain ⟨z, hs, vs, kv, o, es, ep, ho, hex, hd, hk, hp, hn⟩ := dk_rd I.hok h
  obtain ⟨xs, e, q⟩ := open_kv hp (fun e he => hk e (Array.mem_toList_iff.mp he)) kv
  refine ⟨hs, by rw [List.length_map]; exact z, xs, ⟨o, es, ep, ho, hex, hd, e, fun x hx => ?_, ?_⟩, q⟩
  · obtain ⟨w, hw, h1, h2, h3⟩ := px_mem q hx
    obtain ⟨p, hp, rfl⟩ := List.mem_map.mp hw
    rw [h1]
    exact key_x I (show XKR H (kV p.1) (.k p.1) from rfl) h2
  · rw [px_keys q, List.map_map]
    have e1 : kvs.map (·.1) = vs.map (·.1) := kv.keys
    have e2 : kvs.map ((fun w : EX => w.1.nk) ∘ fun p => (KX.k p.1, kV p.1, p.2)) = (vs.map (·.1)).map fun κ => (KX.k κ).nk := by
      rw [← e1, List.map_map]; rfl
    rw [e2]
    exact List.Pairwise.map _ (fun a b h e => h (nk_k e)) hn
theorem DX.open (I : Inv X pins σ H s) {ws : List EX} (h : DX (hxW X.w) H a ws) : OpX X s a ws := by
  rcases h with ⟨h | ⟨o, h⟩, own⟩ | ⟨kvs, h, rfl⟩
  · exact open_xd I (I.hok a _ h).1 own
  · exact open_xd I (I.hok a _ h).2.1 own
  · exact open_kd I h
theorem xd_ok {P : Program} {w : World} {H' : Hp} {h' : Heap} {hx : HX} {ws : List EX} (h : XD hx a ws h') : ObjOk P w H' h' a (.ext (XD hx a ws)) := by
  obtain ⟨z, hs, o, es, ep, ho, hex, hd, pr, nd⟩ := id h
  refine ⟨h, ⟨o, ho⟩, fun h1 h2 ⟨z, hs, o, es, ep, ho, hex, hd, pr, nd⟩ k => ⟨z, hs, o, es, ep, k _ ho, hex, hd, pr, nd⟩⟩
theorem xof_xd {w : World} {h : Heap} {ws : List EX} {xs : List (NestedKey × Value × Value)} (z : ws.length ≤ sizeLine) (hs : (a == sysModules) = false) (x : XOf w h a xs) (q : Paired PX ws xs) : XD (hxW w) a ws h := by
  obtain ⟨o, es, ep, ho, hex, hd, e, his, nd⟩ := x
  exact ⟨z, hs, o, es, ep, ho, hex, hd, by rw [e]; exact px_back q, by rw [← px_keys q]; exact nd⟩
theorem putW_length {ws : List EX} {k : KX} {kv v : V} : (putW ws k kv v).length ≤ ws.length + 1 := by
  unfold putW
  split
  · rw [List.length_map]; omega
  · simp
def rInX (hx : HX) (n : Bool → Bool) : R2 := fun y x H Q => ∃ a ws k, x = .ref a ∧ DX hx H a ws ∧ XKR H y k ∧ Q (.bl (n (valW ws k.nk).isSome)) H
theorem op_notinX (hu : X.A.units + 9 < cLine) : OpR X (compareOp .NotIn) (rInX (hxW X.w) fun b => !b) := by
  intro pins s σ H y x u v Q I ry rx h
  obtain ⟨a, ws, k, rfl, d, kx, q⟩ := h
  cases rx
  obtain ⟨hs, z, xs, x, pr⟩ := d.open I
  refine notIn_x hu (key_x I kx ry) hs x ⟨.bl _, H, I.tok _, ?_, q⟩
  rw [px_some pr]
  rfl
def rIxX (hx : HX) : R2 := fun x y H Q => ∃ a ws k v, x = .ref a ∧ DX hx H a ws ∧ XKR H y k ∧ valW ws k.nk = some v ∧ Q v H
theorem ix_dictX (hu : X.A.units + 9 < cLine) : IxR X (rIxX (hxW X.w)) := by
  intro value slice pins s σ H x y v u Q I rx ry h hs
  obtain ⟨a, ws, k, w, rfl, d, kx, hv, q⟩ := h
  cases rx
  obtain ⟨hl, z, xs, x, pr⟩ := d.open I
  have r := px_get pr k.nk
  rw [hv] at r
  obtain ⟨w', hw, rw'⟩ := RelO.some_of (v := w) (o := (fx xs k.nk).map (·.2)) r
  obtain ⟨p, hp, hp2⟩ := Option.map_eq_some_iff.mp hw
  refine PyProof.Rows.tail_any (s := s) x.typeIs PySem.F.slot_dict_getitem.lookup (getItem_x hu (key_x I kx ry) x hp ?_) hs
  rw [hp2]
  exact ⟨w, H, I.tok _, rw', q⟩
def rSetX (hx : HX) : TSet := fun o i v H Q => ∃ a ws k, o = .ref a ∧ ((H a = some (.ext (XD hx a ws)) ∧ ∀ (i : Nat) (w : EX), ws[i]? = some w → XKR H w.2.1 w.1) ∨ ∃ kvs : List (Key × V), H a = some (.dK kvs) ∧ ws = kvs.map fun p => (KX.k p.1, kV p.1, p.2)) ∧
  XKR H i k ∧ ws.length < sizeLine ∧ Q (upd H a (.ext (XD hx a (putW ws k i v))))
theorem set_dictX (hu : X.A.units + 9 < cLine) : PSet X (rSetX (hxW X.w)) := by
  intro pins s σ H o i v ov iv u Q I ro ri rv h
  obtain ⟨a, ws, k, eo, d, kx, z1, q⟩ := h
  subst eo
  cases (show ov = Value.ref a from ro)
  have mu : Mut (H a) := by
    rcases d with ⟨h, _⟩ | ⟨kvs, h, _⟩ <;> (rw [h]; exact True.intro)
  have d' : DX (hxW X.w) H a ws := by
    rcases d with ⟨h, o⟩ | ⟨kvs, h, e⟩
    · exact .inl ⟨.inl h, o⟩
    · exact .inr ⟨kvs, .inl h, e⟩
  obtain ⟨hl, z, xs, x, pr⟩ := d'.open I
  have hlen : ws.length = xs.length := Paired.length pr
  refine setItem_x hu (key_x I kx ri) x (fun h' x' sb => ⟨_, d_write I mu sb (let ⟨o, _, _, ho, _⟩ := x'; ⟨o, ho⟩) (xd_ok (xof_xd (Nat.le_trans putW_length z1) hl x' (px_put pr ri rv))), q⟩) (by omega)
end
end DL
/-! DL, part 88: dicts with keys of any kind, read over plain data. -/
namespace DL
open PySem L2
def keyX : Dat → Option KX
  | .int i => some (.k (.inl i))
  | .str s => some (.k (.inr s))
  | .non => some .non
  | .bl true => some .tru
  | .tup [.str s] => some (.tup s)
  | _ => none
def kX (kvs : List (Key × Dat)) : List (KX × Dat) := kvs.map fun p => (.k p.1, p.2)
open Classical in
noncomputable def kvX (hx : HX) : Dat → Option (List (KX × Dat))
  | .dk kvs => some (kX kvs)
  | .dx hx' kvs => if hx' = hx then some kvs else none
  | _ => none
theorem kvX_k {hx : HX} {kvs : List (Key × Dat)} : kvX hx (.dk kvs) = some (kX kvs) := rfl
theorem kvX_x {hx : HX} {kvs : List (KX × Dat)} : kvX hx (.dx hx kvs) = some kvs := if_pos rfl
theorem keyX_i {i : Int} : keyX (.int i) = some (.k (.inl i)) := rfl
theorem keyX_s {s : Str} : keyX (.str s) = some (.k (.inr s)) := rfl
theorem keyX_kD (κ : Key) : keyX (kD κ) = some (.k κ) := by cases κ <;> rfl
theorem keyX_D (k : KX) : keyX (kxD k) = some k := by
  cases k with
  | k κ => exact keyX_kD κ
  | _ => rfl
section
variable {K : Frag} {F H : Hp}
theorem keyX_rep {v : V} {x : Dat} {k : KX} (r : Rep K F v x) (e : keyX x = some k) : XKR F v k := by
  cases x with
  | int i => cases e; cases r; rfl
  | str i => cases e; cases r; rfl
  | non => cases e; cases r; rfl
  | bl b => cases b with
    | true => cases e; cases r; rfl
    | false => cases e
  | tup xs =>
    match xs, e with
    | [.str s], e =>
      cases e
      cases r with
      | @tup a vs _ ha l q =>
        match vs, l with
        | [v], _ =>
          have := q 0 v (.str s) rfl rfl
          cases this
          exact ⟨a, rfl, ha⟩
  | _ => cases e
theorem RepsX.cons {w : EX} {ws : List EX} {p : KX × Dat} {kvs : List (KX × Dat)} (e : w.1 = p.1) (o : XKR F w.2.1 w.1) (q : Rep K F w.2.2 p.2) (r : RepsX K F ws kvs) : RepsX K F (w :: ws) (p :: kvs) :=
  ⟨by rw [List.map_cons, List.map_cons, e, r.keys], fun i w' h => by
    cases i with
    | zero => cases h; exact o
    | succ i => exact r.own i w' h, fun i w' p' h1 h2 => by
    cases i with
    | zero => cases h1; cases h2; exact q
    | succ i => exact r.at_ i w' p' h1 h2⟩
theorem RepsX.nil : RepsX K F [] [] := ⟨rfl, fun i w h => by simp at h, fun i w p h => by simp at h⟩
theorem RepsX.unnil {ws : List EX} (r : RepsX K F ws []) : ws = [] := by
  cases ws with
  | nil => rfl
  | cons w ws => have := r.keys; simp at this
theorem RepsX.get (n : NestedKey) : ∀ {kvs : List (KX × Dat)} {ws : List EX}, RepsX K F ws kvs → (valW ws n).isSome = (valX kvs n).isSome ∧ ∀ x, valX kvs n = some x → ∃ v, valW ws n = some v ∧ Rep K F v x
  | [], ws, r => by rw [r.unnil]; exact ⟨rfl, fun x h => by cases h⟩
  | p :: kvs, ws, r => by
    obtain ⟨w, vs, rfl, e, o, q, r'⟩ := r.uncons
    rw [valW_cons, valX_cons, e]
    by_cases h : p.1.nk = n
    · rw [if_pos h, if_pos h]
      exact ⟨rfl, fun x hx => by cases hx; exact ⟨_, rfl, q⟩⟩
    · rw [if_neg h, if_neg h]
      exact RepsX.get n r'
theorem RepsX.map {n : NestedKey} {v : V} {x : Dat} (rx : Rep K F v x) : ∀ {kvs : List (KX × Dat)} {ws : List EX}, RepsX K F ws kvs → RepsX K F (ws.map (fun w => if w.1.nk = n then (w.1, w.2.1, v) else w)) (kvs.map (fun w => if w.1.nk = n then (w.1, x) else w))
  | [], ws, r => by rw [r.unnil]; exact .nil
  | p :: kvs, ws, r => by
    obtain ⟨w, vs, rfl, e, o, q, r'⟩ := r.uncons
    rw [List.map_cons, List.map_cons]
    refine .cons ?_ ?_ ?_ (RepsX.map rx r')
    · rw [e]
      by_cases h : p.1.nk = n
      · rw [if_pos h, if_pos h]
      · rw [if_neg h, if_neg h]; exact e
    · split
      · exact o
      · exact o
    · rw [e]
      by_cases h : p.1.nk = n
      · rw [if_pos h, if_pos h]; exact rx
      · rw [if_neg h, if_neg h]; exact q
theorem RepsX.snoc {k : KX} {kv v : V} {x : Dat} (o : XKR F kv k) (rx : Rep K F v x) : ∀ {kvs : List (KX × Dat)} {ws : List EX}, RepsX K F ws kvs → RepsX K F (ws ++ [(k, kv, v)]) (kvs ++ [(k, x)])
  | [], ws, r => by rw [r.unnil]; exact .cons rfl o rx .nil
  | p :: kvs, ws, r => by
    obtain ⟨w, vs, rfl, e, o', q, r'⟩ := r.uncons
    exact .cons e o' q (RepsX.snoc o rx r')
theorem RepsX.put {ws : List EX} {kvs : List (KX × Dat)} {k : KX} {kv v : V} {x : Dat} (r : RepsX K F ws kvs) (o : XKR F kv k) (rx : Rep K F v x) : RepsX K F (putW ws k kv v) (putX kvs k x) := by
  unfold putW putX
  rw [(r.get k.nk).1]
  split
  · exact r.map rx
  · exact r.snoc o rx
theorem RepsX.len {ws : List EX} {kvs : List (KX × Dat)} (r : RepsX K F ws kvs) : ws.length = kvs.length := by have := congrArg List.length r.keys; simpa using this
theorem RepsX.ofK : ∀ {kvs : List (Key × Dat)} {ws : List (Key × V)}, RepsK K F ws kvs → RepsX K F (ws.map fun p => (KX.k p.1, kV p.1, p.2)) (kX kvs)
  | [], ws, r => by
    have : ws = [] := by
      cases ws with
      | nil => rfl
      | cons w ws => have := r.keys; simp at this
    subst this
    exact .nil
  | p :: kvs, [], r => by have := r.keys; simp at this
  | p :: kvs, w :: ws, r => by
    have e := r.keys
    simp only [List.map_cons, List.cons.injEq] at e
    refine .cons ?_ rfl (r.at_ 0 w.1 p.1 w.2 p.2 rfl rfl) (RepsX.ofK ⟨e.2, fun i k k' v x h1 h2 => r.at_ (i + 1) k k' v x h1 h2⟩)
    show KX.k w.1 = KX.k p.1
    rw [e.1]
theorem kvX_rep {hx : HX} {v : V} {y : Dat} {kvs : List (KX × Dat)} (r : Rep K F v y) (e : kvX hx y = some kvs) (s : Same F H) : ∃ a ws, v = .ref a ∧ DX hx H a ws ∧ RepsX K F ws kvs := by
  cases y with
  | dk kvs =>
    cases e
    cases r with
    | @dk a o ws _ ha l q => exact ⟨a, _, rfl, .inr ⟨ws, .inr ⟨o, s _ _ ha⟩, rfl⟩, RepsX.ofK ⟨l, q⟩⟩
  | dx hx' kvs =>
    unfold kvX at e
    dsimp only at e
    by_cases h : hx' = hx
    · rw [if_pos h] at e
      cases e
      subst h
      cases r with
      | @dx a o _ ws _ ha l g q => exact ⟨a, ws, rfl, .inl ⟨.inr ⟨o, s _ _ ha⟩, fun i w hw => (g i w hw).mono s⟩, ⟨l, g, q⟩⟩
    · rw [if_neg h] at e
      cases e
  | _ => cases e
end
def fInX (hx : HX) (n : Bool → Bool) : F2 := fun x y T => ∃ kvs, kvX hx y = some kvs ∧ ∃ k, keyX x = some k ∧ T (.bl (n (valX kvs k.nk).isSome))
abbrev fNotinX (hx : HX) : F2 := fInX hx fun b => !b
def isSeqD : Dat → Bool
  | .lst _ => true
  | .tup _ => true
  | .scr _ => true
  | .str _ => true
  | _ => false
def fItX (hx : HX) : F2 := fun x y T => if isSeqD x = true then fItem x y T else ∃ kvs, kvX hx x = some kvs ∧ ∃ k, keyX y = some k ∧ ∃ v, valX kvs k.nk = some v ∧ T v
section
variable {X : Cx} {W : WX} {ios : Ios} {a b e : Expr} {da db d : DE} {pos : Pos} {hx : HX}
theorem ol_inX {n : Bool → Bool} : OLink X.K (rInX hx n) (fInX hx n) := by
  intro F H x y vx vy T Q s rx ry ⟨kvs, e1, k, e2, h⟩ kk
  obtain ⟨a, ws, rfl, d, r⟩ := kvX_rep ry e1 s
  exact ⟨a, ws, k, rfl, d, (keyX_rep rx e2).mono s, kk _ F H _ (Grow.refl s) (.bl _) (by rw [(r.get k.nk).1]; exact h)⟩
theorem jt_notinX (hu : X.A.units + 65 < cLine) (ha : JE X W ios a da) (hb : JE X W ios b db) (hm : behindInMarks .NotIn b = false := by rfl) : JT X W ios (.Compare a [.NotIn] [b] pos) (dTest (dOp (fNotinX (hxW X.w)) da db)) := jt_cmp (op_notinX (by omega)) ol_inX ha hb hm
theorem ol_itX : OLink X.K (R2or (rIxA X.K) (rIxX hx)) (fItX hx) := by
  intro F H x y vx vy T Q s rx ry h kk
  unfold fItX at h
  split at h
  · exact .inl (ol_item F H x y vx vy T Q s rx ry h kk)
  · obtain ⟨kvs, e1, k, e2, z, e3, h⟩ := h
    obtain ⟨a, ws, rfl, d, r⟩ := kvX_rep rx e1 s
    obtain ⟨v, h1, h2⟩ := (r.get k.nk).2 z e3
    exact .inr ⟨a, ws, k, v, rfl, d, (keyX_rep ry e2).mono s, h1, kk _ F H _ (Grow.refl s) h2 h⟩
theorem je_itX (hu : X.A.units + 65 < cLine) (ha : JE X W ios a da) (hb : JE X W ios b db) (hs : PlainIx b := by exact fun _ _ => rfl) : JE X W ios (.Subscript a b pos) (dOp (fItX (hxW X.w)) da db) :=
  pe_imp (pe_ix ((ix_any (by omega)).or (ix_dictX (by omega))) ha hb hs) (lift_op ol_itX)
/-! d[k] = v -/
def slLen : Slot → Nat
  | .k kvs => kvs.length
  | .xk _ kvs => kvs.length
  | _ => 0
open Classical in
noncomputable def stX (hx : HX) (s : Slot) (ky : KX) (y : Dat) : Option Slot := match s with
  | .k kvs => match ky with
    | .k κ => some (.k (putD kvs κ y))
    | _ => some (.xk hx (putX (kX kvs) ky y))
  | .xk hx' kvs => if hx' = hx then some (.xk hx (putX kvs ky y)) else none
  | _ => none
theorem stX_k {kvs : List (Key × Dat)} {κ : Key} {y : Dat} : stX hx (.k kvs) (.k κ) y = some (.k (putD kvs κ y)) := rfl
theorem stX_n {kvs : List (Key × Dat)} {y : Dat} : stX hx (.k kvs) .non y = some (.xk hx (putX (kX kvs) .non y)) := rfl
theorem stX_b {kvs : List (Key × Dat)} {y : Dat} : stX hx (.k kvs) .tru y = some (.xk hx (putX (kX kvs) .tru y)) := rfl
theorem stX_t {kvs : List (Key × Dat)} {z : Str} {y : Dat} : stX hx (.k kvs) (.tup z) y = some (.xk hx (putX (kX kvs) (.tup z) y)) := rfl
theorem stX_x {kvs : List (KX × Dat)} {ky : KX} {y : Dat} : stX hx (.xk hx kvs) ky y = some (.xk hx (putX kvs ky y)) := if_pos rfl
def dSetX (hx : HX) (i : Nat) (dk dv : DE) : DS := fun D ρ => dv ρ (fun y ρ1 => (∃ s, ρ1[i]? = some (some s)) ∧ dk ρ1 (fun k ρ2 => ∃ s ky s', ρ2[i]? = some (some s) ∧ keyX k = some ky ∧ slLen s < sizeLine ∧ stX hx s ky y = some s' ∧ D.nx (ρ2.set i (some s'))) D.ex) D.ex
theorem js_setX (i : Nat) {x : Str} {ie e : Expr} {dk dv : DE} {p0 p1 pos : Pos} (hu : X.A.units + 65 < cLine) (hv' : JE X W ios e dv) (hk : JE X W ios ie dk) (hN : X.N[i]? = some x := by rfl) (hv : Vis X.env.scope x := by first | exact Or.inl rfl | exact Or.inr (Or.inl rfl) | exact Or.inr (Or.inr rfl)) (hd : (x == ("__debug__" : Str)) = false := by decide) (hcd : (x == ("__classdict__" : Str)) = false := by decide)
    (ha : ∀ v, assign (.Subscript (.Name x p0) ie p1) X.env v = (do
      let ov ← holding [v] (eval (.Name x p0) X.env)
      let iv ← holding [v, ov] (eval ie X.env)
      standAt p1
      holding [v, ov, iv] (setItem ov iv v)
      release [v, ov, iv] []) := by intro _; rfl)
    (hs : swapsWithSole [.Subscript (.Name x p0) ie p1] e pos.line X.env = pure false := by rfl) (hw : swappedStores [.Subscript (.Name x p0) ie p1] e X.env = pure none := by rfl)
    (h1 : (assignEach [.Subscript (.Name x p0) ie p1] X.env).map (·.2) = [assign (.Subscript (.Name x p0) ie p1) X.env] := by rfl) :
    JS X W ios (.Assign [.Subscript (.Name x p0) ie p1] e pos) (dSetX (hxW X.w) i dk dv) := by
  have hset : PSet X (fun o i v H Q => rSetD o i v H Q ∨ rSetX (hxW X.w) o i v H Q) := fun pins s σ H o i v ov iv u Q I r1 r2 r3 h => h.elim (set_dict (by omega) pins s σ H o i v ov iv u Q I r1 r2 r3) (set_dictX (by omega) pins s σ H o i v ov iv u Q I r1 r2 r3)
  refine ps_imp (ps_asg hv' (pg_sub (pe_var hN hv hd hcd) hk hset ha) hs hw h1) fun D σ H ⟨fr, F, ρ, fps, DD, ok, sr, hd, so⟩ => ?_
  refine ⟨fr, F, ρ, fps, _, DD.ex, ok, sr, hd, fun u F1 H1 y ρ1 fps1 s1 m1 r1 ⟨⟨s0, e0⟩, hR⟩ => ?_, so.xok⟩
  obtain ⟨v0, g0, _⟩ := s1.slots i s0 e0
  refine ⟨v0, g0, ?_⟩
  refine ⟨fr, F1, ρ1, fps1, _, DD.ex, ok, s1, hR, fun kv F2 H2 k ρ2 fps2 s2 m2 r2 ⟨s, ky, s', e2, ek, hz, hst, hS⟩ => ?_, so.xok⟩
  obtain ⟨v1, g1, rs⟩ := s2.slots i s e2
  rw [g0] at g1
  cases g1
  have r1 := r1.mono m2
  have kr : XKR F2 kv ky := keyX_rep r2 ek
  cases s with
  | k kvs =>
    obtain ⟨p, ws, rfl, hp, rp, fp⟩ := rs
    have hl : ws.length = kvs.length := by have e := congrArg List.length rp.keys; simpa using e
    cases ky with
    | k κ =>
      cases hst
      have e : kv = kV κ := kr
      subst e
      refine .inl ⟨p, _, rfl, DPut.k hp (by rw [hl]; exact hz), ?_⟩
      refine so.nx F2 _ _ σ fps2 (s2.write e2 ((fp p).mpr rfl) fun v' hv' => ?_) hS
      rw [g0] at hv'
      cases hv'
      exact ⟨p, _, rfl, upd_same, put_rep rp κ r1, fp⟩
    | _ =>
      cases hst
      refine .inr ⟨p, _, _, rfl, .inr ⟨ws, hp, rfl⟩, kr.mono s2.sub, by rw [List.length_map, hl]; exact hz, ?_⟩
      refine so.nx F2 _ _ σ fps2 (s2.write e2 ((fp p).mpr rfl) fun v' hv' => ?_) hS
      rw [g0] at hv'
      cases hv'
      exact ⟨p, _, rfl, upd_same, (RepsX.ofK rp).put kr r1, fp⟩
  | xk hx' kvs =>
    obtain ⟨p, ws, rfl, hp, rp, fp⟩ := rs
    unfold stX at hst
    simp only at hst
    by_cases h : hx' = hxW X.w
    · rw [if_pos h] at hst
      subst h
      cases hst
      refine .inr ⟨p, _, _, rfl, .inl ⟨hp, fun i w hw => (rp.own i w hw).mono s2.sub⟩, kr.mono s2.sub, by rw [rp.len]; exact hz, ?_⟩
      refine so.nx F2 _ _ σ fps2 (s2.write e2 ((fp p).mpr rfl) fun v' hv' => ?_) hS
      rw [g0] at hv'
      cases hv'
      exact ⟨p, _, rfl, upd_same, rp.put kr r1, fp⟩
    · rw [if_neg h] at hst
      cases hst
  | _ => cases hst
end
/-! equations for the walk -/
section
variable {ρ : Env} {R : Dat → Env → Prop} {X : XR} {D : DK} {T : Dat → Prop} {hx : HX}
theorem td_x {hx : HX} {x : List (KX × Dat)} : Slot.toD (.xk hx x) = some (.dx hx x) := rfl
theorem f_inX {n : Bool → Bool} {x y : Dat} : fInX hx n x y T = pick (kvX hx y) (blk (fun kvs => pick (keyX x) (blk (fun k => T (.bl (n (valX kvs k.nk).isSome))) .mk)) .mk) := by
  simp only [pickE, blk]; rfl
theorem f_itXd {kvs : List (Key × Dat)} {y : Dat} : fItX hx (.dk kvs) y T = pick (keyX y) (blk (fun k => pick (valX (kX kvs) k.nk) (blk (fun v => T v) .mk)) .mk) := by
  simp only [pickE, blk]
  show (if false = true then _ else _) = _
  rw [if_neg (by decide), kvX_k]
  exact propext ⟨fun ⟨kvs', e, h⟩ => by cases e; exact h, fun h => ⟨_, rfl, h⟩⟩
theorem f_itXx {kvs : List (KX × Dat)} {y : Dat} : fItX hx (.dx hx kvs) y T = pick (keyX y) (blk (fun k => pick (valX kvs k.nk) (blk (fun v => T v) .mk)) .mk) := by
  simp only [pickE, blk]
  show (if false = true then _ else _) = _
  rw [if_neg (by decide), kvX_x]
  exact propext ⟨fun ⟨kvs', e, h⟩ => by cases e; exact h, fun h => ⟨_, rfl, h⟩⟩
theorem f_itXl {xs : List Dat} {y : Dat} : fItX hx (.lst xs) y T = fItem (.lst xs) y T := if_pos rfl
theorem f_itXt {xs : List Dat} {y : Dat} : fItX hx (.tup xs) y T = fItem (.tup xs) y T := if_pos rfl
theorem f_lenXx {kvs : List (KX × Dat)} {T : Dat → Prop} : fLen [.dx hx kvs] T = T (.int kvs.length) := rfl
theorem f_listXx {kvs : List (KX × Dat)} {T : List Dat → Prop} : fListL [.dx hx kvs] T = T (kvs.map fun kv => kxD kv.1) := rfl
theorem nd_x {kvs : List (KX × Dat)} : ndt (.dx hx kvs) = True := rfl
theorem f_dSetX {i : Nat} {dk dv : DE} : dSetX hx i dk dv D ρ = dv ρ (fun y ρ1 => pick (sS ρ1[i]?) (blk (fun _ => dk ρ1 (fun k ρ2 => pick (sS ρ2[i]?) (blk (fun s => pick (keyX k) (blk (fun ky => slLen s < sizeLine ∧ pick (stX hx s ky y) (blk (fun s' => D.nx (ρ2.set i (some s'))) .mk)) .mk)) .mk)) D.ex) .mk)) D.ex := by
  show dv ρ _ D.ex = dv ρ _ D.ex
  congr 1
  funext y ρ1
  have key : ∀ {P : Slot → Prop} {o : Option (Option Slot)}, pick (sS o) (blk P .mk) = ∃ s, o = some (some s) ∧ P s := by
    intro P o
    rw [pickE]
    cases o with
    | none => simp [sS]
    | some o =>
      cases o with
      | none => simp [sS]
      | some s => simp [sS, blk]
  rw [key]
  refine propext ⟨fun ⟨⟨s, h⟩, k⟩ => ⟨s, h, ?_⟩, fun ⟨s, h, k⟩ => ⟨⟨s, h⟩, ?_⟩⟩
  · refine cast ?_ k
    congr 1
    funext k ρ2
    rw [key]
    simp only [pickE, blk]
    refine propext ⟨fun ⟨s, ky, s', a, b, c, d, e⟩ => ⟨s, a, ky, b, c, s', d, e⟩, fun ⟨s, a, ky, b, c, s', d, e⟩ => ⟨s, ky, s', a, b, c, d, e⟩⟩
  · refine cast ?_ k
    congr 1
    funext k ρ2
    rw [key]
    simp only [pickE, blk]
    refine propext ⟨fun ⟨s, a, ky, b, c, s', d, e⟩ => ⟨s, ky, s', a, b, c, d, e⟩, fun ⟨s, ky, s', a, b, c, d, e⟩ => ⟨s, a, ky, b, c, s', d, e⟩⟩
end
end DL
/-! DL, part 89: data with dicts of keys of any kind: evidence, and a dict in the making. -/
namespace DL
open PySem L2
/-- plain data of some depth, dicts with keys of any kind among it (told so only where a key is odd) -/
inductive PgX (hx : HX) : Nat → Dat → Prop where
  | non {n : Nat} : PgX hx (n + 1) .non
  | bl {n : Nat} (b : Bool) : PgX hx (n + 1) (.bl b)
  | int {n : Nat} (i : Int) : PgX hx (n + 1) (.int i)
  | str {n : Nat} {s : Str} : s.length ≤ 1000000 → PgX hx (n + 1) (.str s)
  | lst {n : Nat} {xs : List Dat} : (∀ x ∈ xs, PgX hx n x) → xs.length ≤ 1000000 → PgX hx (n + 1) (.lst xs)
  | tup {n : Nat} {xs : List Dat} : (∀ x ∈ xs, PgX hx n x) → xs.length ≤ 1000000 → PgX hx (n + 1) (.tup xs)
  | dk {n : Nat} {kvs : List (Key × Dat)} : (∀ kv ∈ kvs, PgX hx n kv.2) → kvs.length ≤ 1000000 → (kvs.map (·.1)).Nodup → PgX hx (n + 1) (.dk kvs)
  | dx {n : Nat} {kvs : List (KX × Dat)} : (∀ kv ∈ kvs, PgX hx n kv.2) → kvs.length ≤ 1000000 → (kvs.map (·.1.nk)).Nodup → (∃ kv ∈ kvs, ∀ κ, kv.1 ≠ .k κ) → PgX hx (n + 1) (.dx hx kvs)
theorem PgX.mono {hx : HX} {n : Nat} {x : Dat} (h : PgX hx n x) : PgX hx (n + 1) x := by
  induction h with
  | non => exact .non
  | bl b => exact .bl b
  | int i => exact .int i
  | str h => exact .str h
  | lst _ l ih => exact .lst ih l
  | tup _ l ih => exact .tup ih l
  | dk _ l nd ih => exact .dk ih l nd
  | dx _ l nd o ih => exact .dx ih l nd o
theorem pgx_up {hx : HX} {n m : Nat} {x : Dat} (h : PgX hx n x) (l : n ≤ m) : PgX hx m x := by
  induction l with
  | refl => exact h
  | step _ ih => exact ih.mono
theorem Pg.x {hx : HX} {n : Nat} {x : Dat} (h : Pg n x) : PgX hx n x := by
  induction h with
  | non => exact .non
  | bl b => exact .bl b
  | int i => exact .int i
  | str h => exact .str h
  | lst _ l ih => exact .lst ih l
  | tup _ l ih => exact .tup ih l
  | dk _ l nd ih => exact .dk ih l nd
theorem pgx_zero {hx : HX} {x : Dat} {C : Prop} (h : PgX hx 0 x) : C := by cases h
def PgsX (hx : HX) (n : Nat) (xs : List Dat) : Prop := ∀ x ∈ xs, PgX hx n x
theorem pgsx_nil {hx : HX} {n : Nat} : PgsX hx n [] := fun x h => by cases h
theorem pgsx_cons {hx : HX} {n : Nat} {x : Dat} {xs : List Dat} (h : PgX hx n x) (hs : PgsX hx n xs) : PgsX hx n (x :: xs) := fun y hy => by
  rcases List.mem_cons.mp hy with rfl | hy
  · exact h
  · exact hs y hy
theorem pgsx_app {hx : HX} {n : Nat} {xs ys : List Dat} (h : PgsX hx n xs) (hs : PgsX hx n ys) : PgsX hx n (xs ++ ys) := fun y hy => by
  rcases List.mem_append.mp hy with hy | hy
  · exact h y hy
  · exact hs y hy
theorem pgsx_cut {hx : HX} {n : Nat} {xs : List Dat} (h : PgsX hx n xs) (lo hi : Option Int) : PgsX hx n (cutD xs lo hi) := fun x hx => h x (List.mem_of_mem_drop (List.mem_of_mem_take hx))
theorem pgsx_rep {hx : HX} {n : Nat} {xs : List Dat} (h : PgsX hx n xs) (k : Int) : PgsX hx n (repD xs k) := fun x hx => by
  unfold repD at hx
  obtain ⟨ys, h1, h2⟩ := List.mem_flatten.mp hx
  rw [(List.mem_replicate.mp h1).2] at h2
  exact h x h2
theorem pgsx_up {hx : HX} {n m : Nat} {xs : List Dat} (h : PgsX hx n xs) (l : n ≤ m) : PgsX hx m xs := fun x hx => pgx_up (h x hx) l
theorem pgx_k1 {hx : HX} {n m : Nat} {k : Key} {x : Dat} (h : PgX hx n x) (hm : n + 1 ≤ m) : PgX hx m (.dk [(k, x)]) := pgx_up (.dk (fun y hy => by rw [List.mem_singleton.mp hy]; exact h) (by simp) (by simp)) hm
theorem at_pgx {hx : HX} {n : Nat} {xs : List Dat} {i : Int} {T : Dat → Prop} (hs : PgsX hx n xs) (h0 : 0 ≤ i) (h : i < xs.length) (k : ∀ x, PgX hx n x → T x) : ∃ x, atI xs i = some x ∧ T x := by
  obtain ⟨x, ex, mx⟩ := at_mem h0 h
  exact ⟨x, ex, k x (hs x mx)⟩
/-! a dict in the making -/
theorem valX_none {kvs : List (KX × Dat)} {n : NestedKey} (h : n ∉ kvs.map (·.1.nk)) : valX kvs n = none := by
  unfold valX
  rw [List.find?_eq_none.mpr]
  · rfl
  · intro p hp c
    exact h (List.mem_map.mpr ⟨p, hp, of_decide_eq_true c⟩)
theorem valX_at {kvs : List (KX × Dat)} (nd : (kvs.map (·.1.nk)).Nodup) {kv : KX × Dat} (h : kv ∈ kvs) : valX kvs kv.1.nk = some kv.2 := by
  induction kvs with
  | nil => cases h
  | cons p r ih =>
    rw [List.map_cons, List.nodup_cons] at nd
    rw [valX_cons]
    rcases List.mem_cons.mp h with rfl | h
    · rw [if_pos rfl]
    · rw [if_neg (fun e => nd.1 (by rw [e]; exact List.mem_map.mpr ⟨kv, h, rfl⟩))]
      exact ih nd.2 h
theorem valX_mem {kvs : List (KX × Dat)} {n : NestedKey} {x : Dat} (h : valX kvs n = some x) : ∃ kv ∈ kvs, kv.2 = x ∧ kv.1.nk = n := by
  unfold valX at h
  cases e : kvs.find? fun w => decide (w.1.nk = n) with
  | none => rw [e] at h; cases h
  | some p =>
    rw [e] at h
    cases h
    exact ⟨p, List.mem_of_find?_eq_some e, rfl, of_decide_eq_true (List.find?_some (p := fun w : KX × Dat => decide (w.1.nk = n)) e)⟩
theorem valX_k {kvs : List (Key × Dat)} {κ : Key} : valX (kX kvs) (KX.k κ).nk = valD kvs κ := by
  unfold valX valD kX
  rw [List.find?_map]
  have : ((fun w : KX × Dat => decide (w.1.nk = (KX.k κ).nk)) ∘ fun p : Key × Dat => (KX.k p.1, p.2)) = fun p => decide (p.1 = κ) := by
    funext p
    show decide ((KX.k p.1).nk = (KX.k κ).nk) = _
    by_cases h : p.1 = κ
    · rw [h, decide_eq_true rfl, decide_eq_true rfl]
    · rw [decide_eq_false h, decide_eq_false (fun e => h (nk_k e))]
  rw [this, Option.map_map]
  rfl
theorem putX_new {kvs : List (KX × Dat)} {k : KX} {x : Dat} (h : k.nk ∉ kvs.map (·.1.nk)) : putX kvs k x = kvs ++ [(k, x)] := by
  unfold putX
  rw [valX_none h]
  rfl
def unK : List (KX × Dat) → Option (List (Key × Dat))
  | [] => some []
  | (.k κ, x) :: r => (unK r).map ((κ, x) :: ·)
  | _ => none
theorem unK_kX : ∀ l : List (Key × Dat), unK (kX l) = some l
  | [] => rfl
  | (κ, x) :: l => by
    show (unK (kX l)).map ((κ, x) :: ·) = _
    rw [unK_kX l]
    rfl
theorem unK_some : ∀ {kvs : List (KX × Dat)} {l : List (Key × Dat)}, unK kvs = some l → kvs = kX l
  | [], l, h => by cases h; rfl
  | (.k κ, x) :: r, l, h => by
    have h : (unK r).map ((κ, x) :: ·) = some l := h
    cases e : unK r with
    | none => rw [e] at h; cases h
    | some l' =>
      rw [e] at h
      cases h
      rw [unK_some e]
      rfl
  | (.non, _) :: _, l, h => by cases h
  | (.tru, _) :: _, l, h => by cases h
  | (.tup _, _) :: _, l, h => by cases h
theorem unK_odd {kvs : List (KX × Dat)} (h : ∃ kv ∈ kvs, ∀ κ, kv.1 ≠ .k κ) : unK kvs = none := by
  cases e : unK kvs with
  | none => rfl
  | some l =>
    obtain ⟨kv, hm, ho⟩ := h
    rw [unK_some e] at hm
    obtain ⟨p, _, rfl⟩ := List.mem_map.mp hm
    exact absurd rfl (ho p.1)
theorem unK_app {a b : List (KX × Dat)} (h : unK a = none) : unK (a ++ b) = none := by
  cases e : unK (a ++ b) with
  | none => rfl
  | some l =>
    have h1 : a = kX (l.take a.length) := by
      have := unK_some e
      have h2 := congrArg (List.take a.length) this
      rw [List.take_left] at h2
      unfold kX at h2
      rw [← List.map_take] at h2
      exact h2
    rw [h1, unK_kX] at h
    cases h
/-- the slot of a dict with these entries -/
def slX (hx : HX) (kvs : List (KX × Dat)) : Slot := match unK kvs with
  | some l => .k l
  | none => .xk hx kvs
theorem slX_k {hx : HX} {l : List (Key × Dat)} : slX hx (kX l) = .k l := by unfold slX; rw [unK_kX]
theorem slX_x {hx : HX} {kvs : List (KX × Dat)} (h : unK kvs = none) : slX hx kvs = .xk hx kvs := by unfold slX; rw [h]
theorem slX_len {hx : HX} {kvs : List (KX × Dat)} : slLen (slX hx kvs) = kvs.length := by
  unfold slX
  cases e : unK kvs with
  | none => rfl
  | some l =>
    rw [unK_some e]
    show l.length = (kX l).length
    unfold kX
    rw [List.length_map]
theorem slX_put {hx : HX} {kvs : List (KX × Dat)} {k : KX} {x : Dat} (h : k.nk ∉ kvs.map (·.1.nk)) : stX hx (slX hx kvs) k x = some (slX hx (kvs ++ [(k, x)])) := by
  cases e : unK kvs with
  | none =>
    rw [slX_x e, slX_x (unK_app e), stX_x, putX_new h]
  | some l =>
    obtain rfl := unK_some e
    rw [slX_k]
    cases k with
    | k κ =>
      rw [stX_k, putD_new (fun hm => h (by
        obtain ⟨p, hp, rfl⟩ := List.mem_map.mp hm
        exact List.mem_map.mpr ⟨(.k p.1, p.2), List.mem_map.mpr ⟨p, hp, rfl⟩, rfl⟩))]
      rw [show kX l ++ [(KX.k κ, x)] = kX (l ++ [(κ, x)]) by unfold kX; rw [List.map_append]; rfl, slX_k]
    | non => rw [stX_n, putX_new h, slX_x (unK_odd ⟨(.non, x), by simp, fun κ => by simp⟩)]
    | tru => rw [stX_b, putX_new h, slX_x (unK_odd ⟨(.tru, x), by simp, fun κ => by simp⟩)]
    | tup z => rw [stX_t, putX_new h, slX_x (unK_odd ⟨(.tup z, x), by simp, fun κ => by simp⟩)]
end DL
namespace LK
open PySem L2 DL
def d_is_whole_number : DS :=
  (dRet (dAndV (dIsi "int" (dVar 0)) (dNotV (dIsi "bool" (dVar 0)))))
def d_is_whole_within (S_is_whole_number : DSpec) : DS :=
  (dRet (dAndV (dStill (dCallO [none] S_is_whole_number (dCons (dVar 0) dNil))) (dChain fLe fLe (dVar 1) (dVar 0) (dVar 2))))
def d_is_value (S_is_whole_within : DSpec) (S_is_value : DSpec) (hx : HX) : DS :=
  (dSeq (dIf (dTest (dOp fEq (dOp fItem (dVar 0) (dC (.int 0))) (dC (.str "number"))))
  (dRetO (dCallO [none, none, none] S_is_whole_within (dCons (dVar 1) (dCons (dC (.int 0)) (dCons (dOp fSub (dOp fShl (dC (.int 1)) (dOp fMul (dC (.int 8)) (dOp fItem (dVar 0) (dC (.int 1))))) (dC (.int 1))) dNil)))))
  dNext)
  (dSeq (dIf (dTest (dOp fEq (dOp fItem (dVar 0) (dC (.int 0))) (dC (.str "row"))))
  (dSeq (dIf (dOr (dNot (dTest (dIsi "list" (dVar 1)))) (dTest (dOp fNe (dFn fLen (dCons (dVar 1) dNil)) (dOp fItem (dVar 0) (dC (.int 2))))))
  (dRet (dC (.bl false)))
  dNext)
  (dRet (dOp fEqE (dStill (dLc (diAny (dVar 1)) (gtName 2) (dNot (dTest (dStill (dCallO [none, none] S_is_value (dCons (dOp fItem (dVar 0) (dC (.int 1))) (dCons (dVar 2) dNil)))))) (dVar 2) [2])) (dStill (dLst dNil)))))
  dNext)
  (dSeq (dIf (dTest (dOp fEq (dOp fItem (dVar 0) (dC (.int 0))) (dC (.str "record"))))
  (dSeq (dIf (dOr (dNot (dTest (dIsi "dict" (dVar 1)))) (dTest (dOp fNe (dFn fLen (dCons (dVar 1) dNil)) (dFn fLen (dCons (dOp fItem (dVar 0) (dC (.int 1))) dNil)))))
  (dRet (dC (.bl false)))
  dNext)
  (dRet (dOp fEqE (dStill (dLc (diAny (dOp fItem (dVar 0) (dC (.int 1)))) (gtTup 2 (gtCons (gtName 3) (gtCons (gtName 4) gtNil))) (dOr (dTest (dOp (fNotinX hx) (dVar 3) (dVar 1))) (dNot (dTest (dStill (dCallO [none, none] S_is_value (dCons (dVar 4) (dCons (dOp (fItX hx) (dVar 1) (dVar 3)) dNil))))))) (dVar 3) [3, 4])) (dStill (dLst dNil)))))
  dNext)
  (dSeq (dIf (dOr (dNot (dTest (dIsi "tuple" (dVar 1)))) (dOr (dTest (dOp fNe (dFn fLen (dCons (dVar 1) dNil)) (dC (.int 2)))) (dNot (dTest (dStill (dCallO [none, none, none] S_is_whole_within (dCons (dOp (fItX hx) (dVar 1) (dC (.int 0))) (dCons (dC (.int 0)) (dCons (dOp fSub (dFn fLen (dCons (dOp fItem (dVar 0) (dC (.int 1))) dNil)) (dC (.int 1))) dNil)))))))))
  (dRet (dC (.bl false)))
  dNext)
  (dRetO (dCallO [none, none] S_is_value (dCons (dOp fItem (dOp fItem (dVar 0) (dC (.int 1))) (dOp (fItX hx) (dVar 1) (dC (.int 0)))) (dCons (dOp (fItX hx) (dVar 1) (dC (.int 1))) dNil))))))))
def d__law_pool : DS :=
  (dSeq (dSet 2 (dC (.int 0)))
  (dSeq (dIf (dTest (dOp fLt (dVar 1) (dFn fLen (dCons (dVar 0) dNil))))
  (dSet 2 (dOp fItem (dVar 0) (dVar 1)))
  dNext)
  (dSeq (dIf (dTest (dOp fGe (dVar 2) (dOp fPow (dC (.int 10)) (dC (.int 18)))))
  (dRetO (dLst (dCons (dOp fSub (dVar 2) (dOp fPow (dC (.int 10)) (dC (.int 18)))) (dCons (dC (.int 1)) (dCons (dC (.int 0)) dNil)))))
  dNext)
  (dRetO (dLst (dCons (dVar 2) (dCons (dC (.int 0)) (dCons (dOp fMul (dC (.int 31)) (dVar 1)) dNil))))))))
def d__law_take : DS :=
  (dSeq (dIf (dPeekT (dTest (dOp fEq (dOp fItem (dVar 0) (dC (.int 1))) (dC (.int 1)))))
  (dSeq (dSet 4 (dPeek (dOp fMod (dOp fItem (dVar 0) (dC (.int 0))) (dVar 1))))
  (dSeq (dSetItem 0 (dC (.int 0)) (dPeek (dOp fFdiv (dOp fItem (dVar 0) (dC (.int 0))) (dVar 1))))
  (dRet (dVar 4))))
  dNext)
  (dSeq (dSetItem 0 (dC (.int 2)) (dPeek (dOp fAdd (dOp fItem (dVar 0) (dC (.int 2))) (dC (.int 1)))))
  (dSeq (dSet 2 (dPeek (dOp fItem (dVar 0) (dC (.int 2)))))
  (dSeq (dSet 3 (dPeek (dOp fMul (dOp fAdd (dOp fMod (dOp fItem (dVar 0) (dC (.int 0))) (dC (.int 9999999619))) (dC (.int 983))) (dOp fAdd (dOp fMul (dC (.int 23)) (dVar 2)) (dC (.int 53))))))
  (dSeq (dSet 3 (dOp fAdd (dVar 3) (dOp fMul (dOp fMul (dC (.int 3491)) (dVar 2)) (dVar 2))))
  (dSeq (dSet 3 (dOp fMod (dOp fMul (dVar 3) (dVar 3)) (dC (.int 99999999659))))
  (dRet (dOp fMod (dOp fFdiv (dOp fMod (dOp fMul (dVar 3) (dOp fAdd (dVar 3) (dC (.int 37)))) (dC (.int 99999999929))) (dC (.int 83))) (dVar 1)))))))))
def d__law_rounded : DS :=
  (dSeq (dSet 2 (dOp fMod (dVar 0) (dVar 1)))
  (dSeq (dIf (dTest (dOp fEq (dVar 2) (dC (.int 0))))
  (dRet (dVar 0))
  dNext)
  (dRet (dOp fSub (dOp fAdd (dVar 0) (dVar 1)) (dVar 2)))))
def d__law_room (S__law_rounded : DSpec) (S__law_room : DSpec) : DS :=
  (dSeq (dIf (dTest (dOp fEq (dOp fItem (dVar 0) (dC (.int 0))) (dC (.str "number"))))
  (dRetO (dLst (dCons (dOp fItem (dVar 0) (dC (.int 1))) (dCons (dOp fItem (dVar 0) (dC (.int 2))) dNil))))
  dNext)
  (dSeq (dIf (dTest (dOp fEq (dOp fItem (dVar 0) (dC (.int 0))) (dC (.str "row"))))
  (dSeq (dAsg (dStill (dCallO [none] S__law_room (dCons (dOp fItem (dVar 0) (dC (.int 1))) dNil))) (gtTup 2 (gtCons (gtName 5) (gtCons (gtName 1) gtNil))))
  (dRetO (dLst (dCons (dOp fMul (dOp fItem (dVar 0) (dC (.int 2))) (dStill (dCallO [none, none] S__law_rounded (dCons (dVar 5) (dCons (dVar 1) dNil))))) (dCons (dVar 1) dNil)))))
  dNext)
  (dSeq (dIf (dTest (dOp fEq (dOp fItem (dVar 0) (dC (.int 0))) (dC (.str "record"))))
  (dSeq (dSet 2 (dStill (dLc (diAny (dOp fItem (dVar 0) (dC (.int 1)))) (gtTup 2 (gtCons (gtName 8) (gtCons (gtName 7) gtNil))) dYes (dStill (dCallO [none] S__law_room (dCons (dVar 7) dNil))) [7, 8])))
  (dSeq (dSet 3 (dC (.int 0)))
  (dFor (diAny (dVar 2)) (gtTup 2 (gtCons (gtName 5) (gtCons (gtName 6) gtNil)))
  (dSet 3 (dOp fAdd (dStill (dCallO [none, none] S__law_rounded (dCons (dVar 3) (dCons (dVar 6) dNil)))) (dVar 5))))))
  (dSeq (dSet 2 (dStill (dLc (diAny (dOp fItem (dVar 0) (dC (.int 1)))) (gtName 7) dYes (dStill (dCallO [none] S__law_room (dCons (dVar 7) dNil))) [7])))
  (dSeq (dSet 4 (dStill (dCallO [none, none] S__law_rounded (dCons (dC (.int 1)) (dCons (dFn fMaxL (dCons (dStill (dLc (diAny (dVar 2)) (gtTup 2 (gtCons (gtName 5) (gtCons (gtName 6) gtNil))) dYes (dVar 6) [5, 6])) dNil)) dNil)))))
  (dSet 3 (dOp fAdd (dVar 4) (dFn fMaxL (dCons (dStill (dLc (diAny (dVar 2)) (gtTup 2 (gtCons (gtName 5) (gtCons (gtName 6) gtNil))) dYes (dVar 5) [5, 6])) dNil)))))))
  (dSeq (dSet 1 (dFn fMaxL (dCons (dStill (dLc (diAny (dVar 2)) (gtTup 2 (gtCons (gtName 5) (gtCons (gtName 6) gtNil))) dYes (dVar 6) [5, 6])) dNil)))
  (dRetO (dLst (dCons (dStill (dCallO [none, none] S__law_rounded (dCons (dVar 3) (dCons (dVar 1) dNil)))) (dCons (dVar 1) dNil))))))))
def d__law_names_1 (S__law_take : DSpec) : DS :=
  (dSeq (dSet 8 (dC (.int 0)))
  (dSeq (dWhile (dPeekT (dTest (dOp fIn (dVar 6) (dVar 4))))
  (dSeq (dSet 6 (dOp fMul (dOp fItem (dVar 2) (dVar 8)) (dC (.int 8))))
  (dSet 8 (dOp fAdd (dVar 8) (dC (.int 1))))))
  (dAppend 4 (dVar 6))))
def d__law_names_2 (S__law_take : DSpec) : DS :=
  (dSeq (dIf (dPeekT (dAnd (dTest (dOp fEq (dVar 7) (dC (.int 2)))) (dTest (dOp fNeE (dVar 4) (dStill (dLst dNil))))))
  (dSeq (dSet 9 (dStill (dCallO [some 0, none] S__law_take (dLend 0 (dCons (dPeek (dFn fLen (dCons (dOp fItem (dVar 4) (dNeg (dC (.int 1)))) dNil))) dNil)))))
  (dSet 6 (dOp fAdd (dOp fAdd (dPeek (dSlice (dOp fItem (dVar 4) (dNeg (dC (.int 1)))) dNoP (dSomeP (dVar 9)))) (dOp fItem (dVar 2) (dStill (dCallO [some 0, none] S__law_take (dLend 0 (dCons (dC (.int 26)) dNil)))))) (dPeek (dSlice (dOp fItem (dVar 4) (dNeg (dC (.int 1)))) (dSomeP (dOp fAdd (dVar 9) (dC (.int 1)))) dNoP)))))
  dNext)
  (d__law_names_1 S__law_take))
def d__law_names (S__law_take : DSpec) : DS :=
  (dSeq (dSet 2 (dC (.str "abcdefghijklmnopqrstuvwxyz")))
  (dSeq (dSet 3 (dOp fItem (dStill (dLst (dCons (dC (.str "abcdefg")) (dCons (dC (.str "placeof")) (dCons (dC (.str "zyxwvut")) (dCons (dC (.str "kjqrshn")) dNil)))))) (dStill (dCallO [some 0, none] S__law_take (dLend 0 (dCons (dC (.int 4)) dNil))))))
  (dSeq (dSetO 4 (dLst dNil))
  (dSeq (dFor (diRange1 (dCons (dVar 1) dNil)) (gtName 5)
  (dSeq (dSet 6 (dOp fAdd (dSlice (dVar 3) dNoP (dSomeP (dStill (dCallO [some 0, none] S__law_take (dLend 0 (dCons (dC (.int 8)) dNil)))))) (dOp fItem (dVar 2) (dStill (dCallO [some 0, none] S__law_take (dLend 0 (dCons (dC (.int 26)) dNil)))))))
  (dSeq (dSet 7 (dStill (dCallO [some 0, none] S__law_take (dLend 0 (dCons (dC (.int 3)) dNil)))))
  (dSeq (dIf (dTest (dOp fEq (dVar 7) (dC (.int 1))))
  (dSet 6 (dJoin (dC (.str "")) (dStill (dLc (diRange1 (dCons (dOp fAdd (dC (.int 1)) (dStill (dCallO [some 0, none] S__law_take (dLend 0 (dCons (dC (.int 8)) dNil))))) dNil)) (gtName 8) dYes (dOp fItem (dVar 2) (dStill (dCallO [some 0, none] S__law_take (dLend 0 (dCons (dC (.int 26)) dNil))))) [8]))))
  dNext)
  (d__law_names_2 S__law_take)))))
  (dRetO (dTake 4))))))
def d__law_kind_1 (S__law_take : DSpec) (S__law_room : DSpec) (S__law_names : DSpec) (S__law_kind : DSpec) : DS :=
  (dSeq (dIf (dTest (dOp fGt (dOp fItem (dStill (dCallO [none] S__law_room (dCons (dVar 5) dNil))) (dC (.int 0))) (dVar 2)))
  (dRet (dVar 4))
  dNext)
  (dRet (dVar 5)))
def d__law_kind (S__law_take : DSpec) (S__law_room : DSpec) (S__law_names : DSpec) (S__law_kind : DSpec) : DS :=
  (dSeq (dSet 3 (dStill (dCallO [some 0, none] S__law_take (dLend 0 (dCons (dC (.int 7)) dNil)))))
  (dSeq (dSet 4 (dTup (dCons (dC (.str "number")) (dCons (dOp fAdd (dC (.int 1)) (dStill (dCallO [some 0, none] S__law_take (dLend 0 (dCons (dC (.int 8)) dNil))))) (dCons (dOp fItem (dStill (dLst (dCons (dC (.int 1)) (dCons (dC (.int 2)) (dCons (dC (.int 4)) (dCons (dC (.int 8)) dNil)))))) (dStill (dCallO [some 0, none] S__law_take (dLend 0 (dCons (dC (.int 4)) dNil))))) dNil)))))
  (dSeq (dIf (dOr (dTest (dOp fEq (dVar 1) (dC (.int 1)))) (dTest (dOp fLt (dVar 3) (dC (.int 2)))))
  (dRet (dVar 4))
  dNext)
  (dSeq (dSet 5 (dVar 4))
  (dSeq (dIf (dTest (dOp fLt (dVar 3) (dC (.int 4))))
  (dSeq (dSet 6 (dOp fAdd (dC (.int 1)) (dOp fItem (dStill (dLst (dCons (dStill (dCallO [some 0, none] S__law_take (dLend 0 (dCons (dC (.int 3)) dNil)))) (dCons (dStill (dCallO [some 0, none] S__law_take (dLend 0 (dCons (dC (.int 20)) dNil)))) dNil)))) (dStill (dCallO [some 0, none] S__law_take (dLend 0 (dCons (dC (.int 2)) dNil)))))))
  (dSet 5 (dTup (dCons (dC (.str "row")) (dCons (dStill (dCallO [some 0, none, none] S__law_kind (dLend 0 (dCons (dOp fSub (dVar 1) (dC (.int 1))) (dCons (dVar 2) dNil))))) (dCons (dVar 6) dNil))))))
  (dIf (dTest (dOp fLt (dVar 3) (dC (.int 6))))
  (dSeq (dSet 6 (dOp fAdd (dC (.int 1)) (dOp fItem (dStill (dLst (dCons (dStill (dCallO [some 0, none] S__law_take (dLend 0 (dCons (dC (.int 4)) dNil)))) (dCons (dStill (dCallO [some 0, none] S__law_take (dLend 0 (dCons (dC (.int 8)) dNil)))) dNil)))) (dFn fInt (dCons (dOp fEq (dStill (dCallO [some 0, none] S__law_take (dLend 0 (dCons (dC (.int 4)) dNil)))) (dC (.int 0))) dNil)))))
  (dSet 5 (dTup (dCons (dC (.str "record")) (dCons (dStill (dLc (diAny (dStill (dCallO [some 0, none] S__law_names (dLend 0 (dCons (dVar 6) dNil))))) (gtName 7) dYes (dTup (dCons (dVar 7) (dCons (dStill (dCallO [some 0, none, none] S__law_kind (dLend 0 (dCons (dOp fSub (dVar 1) (dC (.int 1))) (dCons (dVar 2) dNil))))) dNil))) [7])) dNil)))))
  (dSeq (dSet 6 (dOp fAdd (dC (.int 1)) (dOp fItem (dStill (dLst (dCons (dStill (dCallO [some 0, none] S__law_take (dLend 0 (dCons (dC (.int 3)) dNil)))) (dCons (dStill (dCallO [some 0, none] S__law_take (dLend 0 (dCons (dC (.int 6)) dNil)))) dNil)))) (dStill (dCallO [some 0, none] S__law_take (dLend 0 (dCons (dC (.int 2)) dNil)))))))
  (dSet 5 (dTup (dCons (dC (.str "choice")) (dCons (dStill (dLc (diRange1 (dCons (dVar 6) dNil)) (gtName 8) dYes (dStill (dCallO [some 0, none, none] S__law_kind (dLend 0 (dCons (dOp fSub (dVar 1) (dC (.int 1))) (dCons (dVar 2) dNil))))) [8])) dNil)))))))
  (d__law_kind_1 S__law_take S__law_room S__law_names S__law_kind))))))
def d__law_copy (S__law_copy : DSpec) (hx : HX) : DS :=
  (dSeq (dIf (dTest (dIsi "list" (dVar 0)))
  (dRetO (dLc (diAny (dVar 0)) (gtName 3) dYes (dStill (dCallO [none] S__law_copy (dCons (dVar 3) dNil))) [3]))
  dNext)
  (dSeq (dIf (dTest (dIsi "tuple" (dVar 0)))
  (dRet (dFn fTupF (dCons (dStill (dLc (diAny (dVar 0)) (gtName 3) dYes (dStill (dCallO [none] S__law_copy (dCons (dVar 3) dNil))) [3])) dNil)))
  dNext)
  (dSeq (dIf (dTest (dIsi "dict" (dVar 0)))
  (dSeq (dSetO 1 dDict0)
  (dSeq (dFor (diAny (dVar 0)) (gtName 2)
  (dSetX hx 1 (dVar 2) (dStill (dCallO [none] S__law_copy (dCons (dOp (fItX hx) (dVar 0) (dVar 2)) dNil)))))
  (dRetO (dTake 1))))
  dNext)
  (dRet (dVar 0)))))
def d__law_same (S__law_same : DSpec) (hx : HX) : DS :=
  (dSeq (dIf (dOr (dTest (dOp fNe (dIsi "bool" (dVar 0)) (dIsi "bool" (dVar 1)))) (dTest (dOp fNe (dIsi "tuple" (dVar 0)) (dIsi "tuple" (dVar 1)))))
  (dRet (dC (.bl false)))
  dNext)
  (dSeq (dIf (dAnd (dTest (dIsi2 "list" "tuple" (dVar 0))) (dTest (dIsi2 "list" "tuple" (dVar 1))))
  (dRet (dAndV (dOp fEq (dFn fLen (dCons (dVar 0) dNil)) (dFn fLen (dCons (dVar 1) dNil))) (dOp fEqE (dStill (dLc (diZipA (dCons (dVar 0) (dCons (dVar 1) dNil))) (gtTup 2 (gtCons (gtName 3) (gtCons (gtName 4) gtNil))) (dNot (dTest (dStill (dCallO [none, none] S__law_same (dCons (dVar 3) (dCons (dVar 4) dNil)))))) (dC (.int 1)) [3, 4])) (dStill (dLst dNil)))))
  dNext)
  (dSeq (dIf (dAnd (dTest (dIsi "dict" (dVar 0))) (dTest (dIsi "dict" (dVar 1))))
  (dSeq (dIf (dOr (dTest (dOp fNe (dFn fLen (dCons (dVar 0) dNil)) (dFn fLen (dCons (dVar 1) dNil)))) (dTest (dOp fNeE (dStill (dLc (diAny (dVar 0)) (gtName 2) (dTest (dOp (fNotinX hx) (dVar 2) (dVar 1))) (dVar 2) [2])) (dStill (dLst dNil)))))
  (dRet (dC (.bl false)))
  dNext)
  (dRet (dOp fEqE (dStill (dLc (diAny (dVar 0)) (gtName 2) (dNot (dTest (dStill (dCallO [none, none] S__law_same (dCons (dOp (fItX hx) (dVar 0) (dVar 2)) (dCons (dOp (fItX hx) (dVar 1) (dVar 2)) dNil)))))) (dVar 2) [2])) (dStill (dLst dNil)))))
  dNext)
  (dRet (dAndV (dOp fEq (dIsi "str" (dVar 0)) (dIsi "str" (dVar 1))) (dOp fEq (dVar 0) (dVar 1)))))))
def d__law_top : DS :=
  (dSeq (dSet 1 (dC (.int 1)))
  (dSeq (dFor (diRange1 (dCons (dVar 0) dNil)) (gtName 2)
  (dSet 1 (dOp fMul (dC (.int 256)) (dVar 1))))
  (dRet (dOp fSub (dVar 1) (dC (.int 1))))))
def d__law_value (S__law_take : DSpec) (S__law_top : DSpec) (S__law_value : DSpec) : DS :=
  (dSeq (dIf (dTest (dOp fEq (dOp fItem (dVar 1) (dC (.int 0))) (dC (.str "number"))))
  (dSeq (dSet 3 (dStill (dCallO [none] S__law_top (dCons (dOp fItem (dVar 1) (dC (.int 1))) dNil))))
  (dRet (dOp fItem (dStill (dLst (dCons (dC (.int 0)) (dCons (dVar 3) (dCons (dStill (dCallO [some 0, none] S__law_take (dLend 0 (dCons (dC (.int 256)) dNil)))) (dCons (dStill (dCallO [some 0, none] S__law_take (dLend 0 (dCons (dOp fAdd (dVar 3) (dC (.int 1))) dNil)))) dNil)))))) (dStill (dCallO [some 0, none] S__law_take (dLend 0 (dCons (dC (.int 4)) dNil)))))))
  dNext)
  (dSeq (dIf (dTest (dOp fEq (dOp fItem (dVar 1) (dC (.int 0))) (dC (.str "row"))))
  (dRetO (dLc (diRange1 (dCons (dOp fItem (dVar 1) (dC (.int 2))) dNil)) (gtName 2) dYes (dStill (dCallO [some 0, none] S__law_value (dLend 0 (dCons (dOp fItem (dVar 1) (dC (.int 1))) dNil)))) [2]))
  dNext)
  (dSeq (dIf (dTest (dOp fEq (dOp fItem (dVar 1) (dC (.int 0))) (dC (.str "record"))))
  (dSeq (dSetO 4 dDict0)
  (dSeq (dFor (diAny (dOp fItem (dVar 1) (dC (.int 1)))) (gtTup 2 (gtCons (gtName 5) (gtCons (gtName 6) gtNil)))
  (dSetItem 4 (dVar 5) (dStill (dCallO [some 0, none] S__law_value (dLend 0 (dCons (dVar 6) dNil))))))
  (dRetO (dTake 4))))
  dNext)
  (dSeq (dSet 2 (dStill (dCallO [some 0, none] S__law_take (dLend 0 (dCons (dFn fLen (dCons (dOp fItem (dVar 1) (dC (.int 1))) dNil)) dNil)))))
  (dRet (dTup (dCons (dVar 2) (dCons (dStill (dCallO [some 0, none] S__law_value (dLend 0 (dCons (dOp fItem (dOp fItem (dVar 1) (dC (.int 1))) (dVar 2)) dNil)))) dNil))))))))
def d__law_is_value (S__law_top : DSpec) (S__law_is_value : DSpec) (hx : HX) : DS :=
  (dSeq (dIf (dTest (dOp fEq (dOp fItem (dVar 0) (dC (.int 0))) (dC (.str "number"))))
  (dRet (dAndV (dIsi "int" (dVar 1)) (dAndV (dNotV (dIsi "bool" (dVar 1))) (dChain fLe fLe (dC (.int 0)) (dVar 1) (dStill (dCallO [none] S__law_top (dCons (dOp fItem (dVar 0) (dC (.int 1))) dNil)))))))
  dNext)
  (dSeq (dIf (dTest (dOp fEq (dOp fItem (dVar 0) (dC (.int 0))) (dC (.str "row"))))
  (dSeq (dIf (dOr (dNot (dTest (dIsi "list" (dVar 1)))) (dTest (dOp fNe (dFn fLen (dCons (dVar 1) dNil)) (dOp fItem (dVar 0) (dC (.int 2))))))
  (dRet (dC (.bl false)))
  dNext)
  (dRet (dOp fEqE (dStill (dLc (diAny (dVar 1)) (gtName 4) (dNot (dTest (dStill (dCallO [none, none] S__law_is_value (dCons (dOp fItem (dVar 0) (dC (.int 1))) (dCons (dVar 4) dNil)))))) (dC (.int 1)) [4])) (dStill (dLst dNil)))))
  dNext)
  (dSeq (dIf (dTest (dOp fEq (dOp fItem (dVar 0) (dC (.int 0))) (dC (.str "record"))))
  (dSeq (dIf (dOr (dNot (dTest (dIsi "dict" (dVar 1)))) (dTest (dOp fNe (dFn fLen (dCons (dVar 1) dNil)) (dFn fLen (dCons (dOp fItem (dVar 0) (dC (.int 1))) dNil)))))
  (dRet (dC (.bl false)))
  dNext)
  (dSeq (dFor (diAny (dOp fItem (dVar 0) (dC (.int 1)))) (gtTup 2 (gtCons (gtName 2) (gtCons (gtName 3) gtNil)))
  (dIf (dOr (dTest (dOp (fNotinX hx) (dVar 2) (dVar 1))) (dNot (dTest (dStill (dCallO [none, none] S__law_is_value (dCons (dVar 3) (dCons (dOp (fItX hx) (dVar 1) (dVar 2)) dNil)))))))
  (dRet (dC (.bl false)))
  dNext))
  (dRet (dC (.bl true)))))
  dNext)
  (dSeq (dIf (dOr (dNot (dTest (dIsi "tuple" (dVar 1)))) (dTest (dOp fNe (dFn fLen (dCons (dVar 1) dNil)) (dC (.int 2)))))
  (dRet (dC (.bl false)))
  dNext)
  (dSeq (dIf (dOr (dNot (dTest (dIsi "int" (dOp (fItX hx) (dVar 1) (dC (.int 0)))))) (dTest (dIsi "bool" (dOp (fItX hx) (dVar 1) (dC (.int 0))))))
  (dRet (dC (.bl false)))
  dNext)
  (dRet (dAndV (dChain fLe fLt (dC (.int 0)) (dOp (fItX hx) (dVar 1) (dC (.int 0))) (dFn fLen (dCons (dOp fItem (dVar 0) (dC (.int 1))) dNil))) (dStill (dCallO [none, none] S__law_is_value (dCons (dOp fItem (dOp fItem (dVar 0) (dC (.int 1))) (dOp (fItX hx) (dVar 1) (dC (.int 0)))) (dCons (dOp (fItX hx) (dVar 1) (dC (.int 1))) dNil)))))))))))
def d__law_bad_record (S__law_take : DSpec) (S__law_bad_value : DSpec) (hx : HX) : DS :=
  (dSeq (dAsg (dOp fItem (dOp fItem (dVar 1) (dC (.int 1))) (dStill (dCallO [some 0, none] S__law_take (dLend 0 (dCons (dFn fLen (dCons (dOp fItem (dVar 1) (dC (.int 1))) dNil)) dNil))))) (gtTup 2 (gtCons (gtName 6) (gtCons (gtName 7) gtNil))))
  (dSeq (dSetO 3 dDict0)
  (dSeq (dFor (diAny (dVar 2)) (gtName 4)
  (dSetX hx 3 (dVar 4) (dOp fItem (dVar 2) (dVar 4))))
  (dSeq (dSet 5 (dStill (dCallO [some 0, none] S__law_take (dLend 0 (dCons (dC (.int 7)) dNil)))))
  (dSeq (dIf (dTest (dOp fLt (dVar 5) (dC (.int 3))))
  (dSetX hx 3 (dVar 6) (dStill (dCallO [some 0, none, none] S__law_bad_value (dLend 0 (dCons (dVar 7) (dCons (dOp fItem (dVar 2) (dVar 6)) dNil))))))
  (dIf (dTest (dOp fEq (dVar 5) (dC (.int 3))))
  (dDrop (dPopK 3 (dVar 6)))
  (dIf (dTest (dOp fEq (dVar 5) (dC (.int 4))))
  (dSeq (dSet 8 (dStill (dLst (dCons (dC (.str "x")) (dCons (dC (.str "")) (dCons (dC (.int 1)) (dCons (dOp fAdd (dVar 6) (dC (.str "a"))) (dCons (dC .non) (dCons (dOp fAdd (dVar 6) (dC (.str " "))) (dCons (dOp fAdd (dC (.str " ")) (dVar 6)) (dCons (dOp fAdd (dC (.str "A")) (dVar 6)) (dCons (dTup (dCons (dVar 6) dNil)) dNil))))))))))))
  (dSetX hx 3 (dOp fItem (dVar 8) (dStill (dCallO [some 0, none] S__law_take (dLend 0 (dCons (dC (.int 9)) dNil))))) (dOp fItem (dVar 2) (dVar 6))))
  (dIf (dTest (dOp fEq (dVar 5) (dC (.int 5))))
  (dSeq (dDrop (dPopK 3 (dVar 6)))
  (dSetX hx 3 (dOp fItem (dStill (dLst (dCons (dOp fAdd (dVar 6) (dC (.str "z"))) (dCons (dC (.int 0)) (dCons (dC (.str "q")) (dCons (dC (.bl true)) dNil)))))) (dStill (dCallO [some 0, none] S__law_take (dLend 0 (dCons (dC (.int 4)) dNil))))) (dOp fItem (dVar 2) (dVar 6))))
  (dRet (dOp fItem (dStill (dLst (dCons (dStill (dFnL fListL (dCons (dVar 2) dNil))) (dCons (dStill (dFnL fSortX (dCons (dVar 2) dNil))) (dCons (dC .non) (dCons (dStill dDict0) (dCons (dStill (dLst (dCons (dVar 2) dNil))) (dCons (dTup (dCons (dVar 2) dNil)) (dCons (dC (.int 0)) dNil))))))))) (dStill (dCallO [some 0, none] S__law_take (dLend 0 (dCons (dC (.int 7)) dNil))))))))))
  (dRetO (dTake 3)))))))
def d__law_bad_row (S__law_take : DSpec) (S__law_bad_value : DSpec) : DS :=
  (dSeq (dSet 3 (dStill (dCallO [some 0, none] S__law_take (dLend 0 (dCons (dFn fLen (dCons (dVar 2) dNil)) dNil)))))
  (dSeq (dSet 4 (dOp fMul (dStill (dLst (dCons (dOp fAdd (dOp fAdd (dSlice (dVar 2) dNoP (dSomeP (dVar 3))) (dStill (dLst (dCons (dStill (dCallO [some 0, none, none] S__law_bad_value (dLend 0 (dCons (dOp fItem (dVar 1) (dC (.int 1))) (dCons (dOp fItem (dVar 2) (dVar 3)) dNil))))) dNil)))) (dSlice (dVar 2) (dSomeP (dOp fAdd (dVar 3) (dC (.int 1)))) dNoP)) dNil))) (dC (.int 3))))
  (dSeq (dSet 4 (dOp fAdd (dVar 4) (dStill (dLst (dCons (dOp fAdd (dVar 2) (dSlice (dVar 2) (dSomeP (dVar 3)) (dSomeP (dOp fAdd (dVar 3) (dC (.int 1)))))) (dCons (dOp fAdd (dSlice (dVar 2) dNoP (dSomeP (dVar 3))) (dSlice (dVar 2) (dSomeP (dOp fAdd (dVar 3) (dC (.int 1)))) dNoP)) (dCons (dFn fTupF (dCons (dVar 2) dNil)) (dCons (dC .non) dNil))))))))
  (dRet (dOp fItem (dOp fAdd (dVar 4) (dStill (dLst (dCons (dStill (dDisp (dPCons (dC (.int 0)) (dOp fItem (dVar 2) (dC (.int 0))) dPNil))) (dCons (dStill (dLst dNil)) dNil))))) (dStill (dCallO [some 0, none] S__law_take (dLend 0 (dCons (dC (.int 9)) dNil)))))))))
def d__law_bad_value (S__law_take : DSpec) (S__law_top : DSpec) (S__law_bad_record : DSpec) (S__law_bad_row : DSpec) (S__law_bad_value : DSpec) : DS :=
  (dSeq (dIf (dTest (dOp fEq (dOp fItem (dVar 1) (dC (.int 0))) (dC (.str "number"))))
  (dSeq (dSet 4 (dStill (dCallO [none] S__law_top (dCons (dOp fItem (dVar 1) (dC (.int 1))) dNil))))
  (dSeq (dSet 5 (dStill (dLst (dCons (dNeg (dC (.int 1))) (dCons (dOp fAdd (dVar 4) (dC (.int 1))) (dCons (dC (.bl true)) (dCons (dC (.bl false)) (dCons (dC .non) (dCons (dFn fStr (dCons (dVar 2) dNil)) (dCons (dStill (dLst (dCons (dVar 2) dNil))) (dCons (dTup (dCons (dVar 2) dNil)) (dCons (dOp fSub (dNeg (dC (.int 1))) (dVar 2)) (dCons (dStill dDict0) (dCons (dC (.str "")) dNil))))))))))))))
  (dRet (dOp fItem (dOp fAdd (dVar 5) (dStill (dLst (dCons (dOp fAdd (dOp fAdd (dVar 4) (dC (.int 1))) (dVar 2)) dNil)))) (dStill (dCallO [some 0, none] S__law_take (dLend 0 (dCons (dC (.int 12)) dNil))))))))
  dNext)
  (dSeq (dIf (dTest (dOp fEq (dOp fItem (dVar 1) (dC (.int 0))) (dC (.str "row"))))
  (dRetO (dCallO [some 0, none, none] S__law_bad_row (dLend 0 (dCons (dVar 1) (dCons (dVar 2) dNil)))))
  dNext)
  (dSeq (dIf (dTest (dOp fEq (dOp fItem (dVar 1) (dC (.int 0))) (dC (.str "record"))))
  (dRetO (dCallO [some 0, none, none] S__law_bad_record (dLend 0 (dCons (dVar 1) (dCons (dVar 2) dNil)))))
  dNext)
  (dSeq (dAsg (dVar 2) (gtTup 2 (gtCons (gtName 6) (gtCons (gtName 7) gtNil))))
  (dSeq (dSet 3 (dOp fMul (dStill (dLst (dCons (dTup (dCons (dVar 6) (dCons (dStill (dCallO [some 0, none, none] S__law_bad_value (dLend 0 (dCons (dOp fItem (dOp fItem (dVar 1) (dC (.int 1))) (dVar 6)) (dCons (dVar 7) dNil))))) dNil))) dNil))) (dC (.int 4))))
  (dSeq (dSet 3 (dOp fAdd (dVar 3) (dStill (dLst (dCons (dTup (dCons (dFn fLen (dCons (dOp fItem (dVar 1) (dC (.int 1))) dNil)) (dCons (dVar 7) dNil))) (dCons (dTup (dCons (dNeg (dC (.int 1))) (dCons (dVar 7) dNil))) (dCons (dTup (dCons (dOp fSub (dVar 6) (dFn fLen (dCons (dOp fItem (dVar 1) (dC (.int 1))) dNil))) (dCons (dVar 7) dNil))) dNil)))))))
  (dSeq (dSet 3 (dOp fAdd (dVar 3) (dStill (dLst (dCons (dTup (dCons (dC (.bl true)) (dCons (dVar 7) dNil))) (dCons (dTup (dCons (dC (.bl false)) (dCons (dVar 7) dNil))) dNil))))))
  (dSeq (dSet 3 (dOp fAdd (dVar 3) (dStill (dLst (dCons (dStill (dLst (dCons (dVar 6) (dCons (dVar 7) dNil)))) (dCons (dTup (dCons (dVar 6) dNil)) (dCons (dTup (dCons (dVar 6) (dCons (dVar 7) (dCons (dC (.int 0)) dNil)))) (dCons (dTup (dCons (dVar 7) (dCons (dVar 6) dNil))) (dCons (dVar 7) (dCons (dC .non) (dCons (dTup (dCons (dFn fStr (dCons (dVar 6) dNil)) (dCons (dVar 7) dNil))) dNil)))))))))))
  (dRet (dOp fItem (dVar 3) (dStill (dCallO [some 0, none] S__law_take (dLend 0 (dCons (dC (.int 16)) dNil))))))))))))))
def d__law_turned (S__law_turned : DSpec) (hx : HX) : DS :=
  (dSeq (dIf (dTest (dIsi "list" (dVar 0)))
  (dRetO (dLc (diAny (dVar 0)) (gtName 3) dYes (dStill (dCallO [none] S__law_turned (dCons (dVar 3) dNil))) [3]))
  dNext)
  (dSeq (dIf (dTest (dIsi "tuple" (dVar 0)))
  (dRet (dFn fTupF (dCons (dStill (dLc (diAny (dVar 0)) (gtName 3) dYes (dStill (dCallO [none] S__law_turned (dCons (dVar 3) dNil))) [3])) dNil)))
  dNext)
  (dSeq (dIf (dNot (dTest (dIsi "dict" (dVar 0))))
  (dRet (dVar 0))
  dNext)
  (dSeq (dSetO 1 dDict0)
  (dSeq (dFor (diAny (dStill (dRevO (dStill (dFnL fListL (dCons (dVar 0) dNil)))))) (gtName 2)
  (dSetX hx 1 (dVar 2) (dStill (dCallO [none] S__law_turned (dCons (dOp (fItX hx) (dVar 0) (dVar 2)) dNil)))))
  (dRetO (dTake 1)))))))
def d__law_right (S_is_value : DSpec) (S__law_copy : DSpec) (S__law_same : DSpec) (S__law_is_value : DSpec) : DS :=
  (dSeq (dSet 2 (dStill (dLst (dCons (dStill (dCallO [none] S__law_copy (dCons (dVar 0) dNil))) (dCons (dStill (dCallO [none] S__law_copy (dCons (dVar 1) dNil))) dNil)))))
  (dSeq (dSet 3 (dStill (dCallO [none, none] S_is_value (dCons (dOp fItem (dVar 2) (dC (.int 0))) (dCons (dOp fItem (dVar 2) (dC (.int 1))) dNil)))))
  (dSeq (dIf (dOr (dNot (dTest (dIsi "bool" (dVar 3)))) (dTest (dOp fNe (dVar 3) (dStill (dCallO [none, none] S__law_is_value (dCons (dVar 0) (dCons (dVar 1) dNil)))))))
  (dRet (dC (.bl false)))
  dNext)
  (dRet (dAndV (dStill (dCallO [none, none] S__law_same (dCons (dOp fItem (dVar 2) (dC (.int 0))) (dCons (dVar 0) dNil)))) (dStill (dCallO [none, none] S__law_same (dCons (dOp fItem (dVar 2) (dC (.int 1))) (dCons (dVar 1) dNil)))))))))
def d_law_1 (S_is_value : DSpec) (S__law_pool : DSpec) (S__law_take : DSpec) (S__law_kind : DSpec) (S__law_value : DSpec) (S__law_bad_value : DSpec) (S__law_turned : DSpec) (S__law_right : DSpec) : DS :=
  (dSeq (dSet 7 (dOp fAdd (dVar 7) (dStill (dLc (diAny (dSlice (dVar 7) dNoP (dSomeP (dC (.int 4))))) (gtName 10) dYes (dStill (dCallO [none] S__law_turned (dCons (dVar 10) dNil))) [10]))))
  (dSeq (dFor (diAny (dOp fAdd (dVar 7) (dStill (dLst (dCons (dC .non) (dCons (dC (.int 0)) (dCons (dC (.bl true)) (dCons (dC (.str "")) (dCons (dStill (dLst dNil)) (dCons (dStill dDict0) (dCons (dTup dNil) (dCons (dTup (dCons (dC (.int 0)) (dCons (dC (.int 0)) dNil))) (dCons (dStill (dLst (dCons (dC (.int 0)) dNil))) dNil))))))))))))) (gtName 8)
  (dIf (dNot (dTest (dStill (dCallO [none, none] S__law_right (dCons (dVar 4) (dCons (dVar 8) dNil))))))
  (dRet (dC (.bl false)))
  dNext))
  (dIf (dTest (dOp fIsnot (dStill (dCallO [none, none] S_is_value (dCons (dVar 4) (dCons (dVar 6) dNil)))) (dC (.bl true))))
  (dRet (dC (.bl false)))
  dNext)))
def d_law (S_is_value : DSpec) (S__law_pool : DSpec) (S__law_take : DSpec) (S__law_kind : DSpec) (S__law_value : DSpec) (S__law_bad_value : DSpec) (S__law_turned : DSpec) (S__law_right : DSpec) : DS :=
  (dSeq (dFor (diRange1 (dCons (dFn fMax2 (dCons (dC (.int 1)) (dCons (dFn fMin2 (dCons (dC (.int 4)) (dCons (dFn fLen (dCons (dVar 0) dNil)) dNil))) dNil))) dNil)) (gtName 1)
  (dSeq (dSetO 2 (dCallO [none, none] S__law_pool (dCons (dVar 0) (dCons (dVar 1) dNil))))
  (dSeq (dSet 3 (dOp fItem (dStill (dLst (dCons (dC (.int 60)) (dCons (dC (.int 200)) (dCons (dC (.int 200)) (dCons (dOp fItem (dStill (dLst (dCons (dC (.int 2000)) (dCons (dC (.int 200)) dNil)))) (dFn fInt (dCons (dOp fGt (dVar 1) (dC (.int 0))) dNil))) dNil)))))) (dStill (dCallO [some 2, none] S__law_take (dLend 2 (dCons (dC (.int 4)) dNil))))))
  (dSeq (dSet 4 (dStill (dCallO [some 2, none, none] S__law_kind (dLend 2 (dCons (dOp fAdd (dC (.int 1)) (dStill (dCallO [some 2, none] S__law_take (dLend 2 (dCons (dC (.int 5)) dNil))))) (dCons (dVar 3) dNil))))))
  (dSeq (dSet 5 (dStill (dCallO [some 2, none, none] S__law_kind (dLend 2 (dCons (dOp fAdd (dC (.int 1)) (dStill (dCallO [some 2, none] S__law_take (dLend 2 (dCons (dC (.int 3)) dNil))))) (dCons (dC (.int 60)) dNil))))))
  (dSeq (dSet 6 (dStill (dCallO [some 2, none] S__law_value (dLend 2 (dCons (dVar 4) dNil)))))
  (dSeq (dSet 7 (dOp fAdd (dStill (dLst (dCons (dVar 6) (dCons (dStill (dCallO [some 2, none] S__law_value (dLend 2 (dCons (dVar 5) dNil)))) dNil)))) (dStill (dLc (diRange1 (dCons (dC (.int 8)) dNil)) (gtName 9) dYes (dStill (dCallO [some 2, none, none] S__law_bad_value (dLend 2 (dCons (dVar 4) (dCons (dVar 6) dNil))))) [9]))))
  (dSeq (dIf (dTest (dOp fGt (dVar 3) (dC (.int 200))))
  (dSet 7 (dSlice (dVar 7) dNoP (dSomeP (dC (.int 5)))))
  dNext)
  (d_law_1 S_is_value S__law_pool S__law_take S__law_kind S__law_value S__law_bad_value S__law_turned S__law_right)))))))))
  (dRet (dC (.bl true))))
theorem law__law_pool (args : List Slot) R X (h : S_pool args R X) : args.length = 2 ∧ d__law_pool (kOf [] R X) (args.map some ++ List.replicate 1 none) := by
  obtain ⟨ns, k, rfl, h0, h1, hR⟩ := h
  refine ⟨rfl, ?_⟩
  simp (config := { decide := true, maxSteps := 4000000 }) only [d__law_pool, ↓Sd, Sn, fillS, tgOf, putS, stillE, kOf, outs, isiD, tyIs, tyD, ixN, BSn, BGn, Int.reduceToNat, Nat.reduceAdd, Int.reduceLT, Int.reduceLE, Int.reduceAdd, Int.reduceSub, Int.reduceMul, Int.reducePow, Nat.reduceLT, Nat.reduceLeDiff, Int.reduceNeg, Int.reduceEq, reduceCtorEq, gt_iff_lt, ge_iff_le, ne_eq]
  have c : CPow 10 18 := cpow (by decide) (by decide) (by decide)
  have m : IntMulOk 31 k := mul64 (by decide) (by decide)
  have h31 : ∀ n : Int, R (.l [.int n, .int 0, .int (31 * k)]) [] := fun n => hR _ ⟨_, _, _, rfl, .inl rfl, by omega, by omega⟩
  split
  · obtain ⟨n, e, _⟩ := at_get h0 ‹_›
    refine ⟨n, e, c, ?_⟩
    split
    · exact ⟨c, hR _ ⟨_, _, _, rfl, .inr rfl, by omega, by omega⟩⟩
    · exact ⟨m, h31 _⟩
  · exact ⟨c, m, h31 _⟩
theorem law__law_take (args : List Slot) R X (h : S_take args R X) : args.length = 2 ∧ d__law_take (kOf [0] R X) (args.map some ++ List.replicate 3 none) := by
  obtain ⟨p, m, n, rfl, ⟨a, f, s, rfl, hf, h0, h1⟩, h2, h3, h4, hR⟩ := h
  refine ⟨rfl, ?_⟩
  simp (config := { decide := true, maxSteps := 4000000 }) only [d__law_take, ↓Sd, Sn, fillS, tgOf, putS, stillE, kOf, outs, isiD, tyIs, tyD, ixN, BSn, BGn, Int.reduceToNat, Nat.reduceAdd, Int.reduceLT, Int.reduceLE, Int.reduceAdd, Int.reduceSub, Int.reduceMul, Int.reducePow, Nat.reduceLT, Nat.reduceLeDiff, Int.reduceNeg, Int.reduceEq, reduceCtorEq, gt_iff_lt, ge_iff_le, ne_eq]
  split
  · exact ⟨h3, divok h3 (nb_le h4 (by omega)), hR _ _ ⟨_, _, _, rfl, hf, h0, by omega⟩ (Int.emod_nonneg _ (by omega)) (Int.emod_lt_of_pos _ h3)⟩
  · have e0 : 0 ≤ a % 9999999619 := Int.emod_nonneg _ (by decide)
    have e1 : a % 9999999619 < 9999999619 := Int.emod_lt_of_pos _ (by decide)
    generalize a % 9999999619 = u at *
    have em : ((u + 983) * (23 * (s + 1) + 53) + 3491 * (s + 1) * (s + 1)).natAbs < 2 ^ 193 := nb_add (nb_le (nb_mul (m := 64) (n := 64) (nb64 (by omega) (by omega)) (nb64 (by omega) (by omega))) (by decide)) (nb_mul (m := 128) (n := 64) (nb_mul (m := 64) (n := 64) (by decide) (nb64 (by omega) (by omega))) (nb64 (by omega) (by omega)))
    generalize (u + 983) * (23 * (s + 1) + 53) + 3491 * (s + 1) * (s + 1) = v at *
    have f0 : 0 ≤ v * v % 99999999659 := Int.emod_nonneg _ (by decide)
    have f1 : v * v % 99999999659 < 99999999659 := Int.emod_lt_of_pos _ (by decide)
    refine ⟨mul64 (by decide) (by decide), mul64 (by omega) (by omega), mul64 (by decide) (by decide), mul64r (by omega) (by omega), mulok (nb_le em (by omega)) (nb_le em (by omega)), ?_⟩
    generalize v * v % 99999999659 = t at *
    exact ⟨mul64 (by omega) (by omega), divok (by decide) (nb_le (nb64 (by decide) (by decide)) (by omega)), h3, hR _ _ ⟨_, _, _, rfl, hf, by omega, by omega⟩ (Int.emod_nonneg _ (by omega)) (Int.emod_lt_of_pos _ h3)⟩
def S__law_rounded : DSpec := fun args R _ => ∃ x m : Int, args = [.d (.int x), .d (.int m)] ∧ 0 < m ∧ R (.d (.int (up x m))) []
theorem w__law_rounded {x m : Int} {R : Slot → List Slot → Prop} {X : Value → List Slot → Prop} (h0 : 0 < m) (h : R (.d (.int (up x m))) []) : S__law_rounded [.d (.int x), .d (.int m)] R X := ⟨x, m, rfl, h0, h⟩
theorem law__law_rounded (args : List Slot) R X (h : S__law_rounded args R X) : args.length = 2 ∧ d__law_rounded (kOf [] R X) (args.map some ++ List.replicate 1 none) := by
  obtain ⟨x, m, rfl, h0, hR⟩ := h
  refine ⟨rfl, ?_⟩
  simp (config := { decide := true, maxSteps := 4000000 }) only [d__law_rounded, ↓Sd, Sn, fillS, tgOf, putS, stillE, kOf, outs, isiD, tyIs, tyD, ixN, BSn, BGn, Int.reduceToNat, Nat.reduceAdd, Int.reduceLT, Int.reduceLE, Int.reduceAdd, Int.reduceSub, Int.reduceMul, Int.reducePow, Nat.reduceLT, Nat.reduceLeDiff, Int.reduceNeg, Int.reduceEq, reduceCtorEq, gt_iff_lt, ge_iff_le, ne_eq]
  rw [up_eq h0] at hR
  refine ⟨h0, ?_⟩
  split
  · rename_i c
    rw [if_pos c] at hR
    exact hR
  · rename_i c
    rw [if_neg c] at hR
    exact hR
def S__law_room (n : Nat) : DSpec := fun args R _ => ∃ d x r m, args = [.d x] ∧ KD d x r m ∧ d ≤ n ∧ R (.l [.int r, .int m]) []
theorem w__law_room {n d : Nat} {x : Dat} {r m : Int} {R : Slot → List Slot → Prop} {X : Value → List Slot → Prop} (hk : KD d x r m) (hd : d ≤ n) (h : R (.l [.int r, .int m]) []) : S__law_room n [.d x] R X := ⟨d, x, r, m, rfl, hk, hd, h⟩
theorem law__law_room (n : Nat) (args : List Slot) R X (h : S__law_room (n + 1) args R X) : args.length = 1 ∧ d__law_room S__law_rounded (S__law_room n) (kOf [] R X) (args.map some ++ List.replicate 8 none) := by
  obtain ⟨d, x, r, m, rfl, hk, hd, hR⟩ := h
  refine ⟨rfl, ?_⟩
  cases hk with
  | num h1 h2 h3 =>
    simp (config := { decide := true, maxSteps := 4000000 }) only [d__law_room, ↓Sd, Sn, fillS, tgOf, putS, stillE, kOf, outs, isiD, tyIs, tyD, ixN, BSn, BGn, Int.reduceToNat, Nat.reduceAdd, Int.reduceLT, Int.reduceLE, Int.reduceAdd, Int.reduceSub, Int.reduceMul, Int.reducePow, Nat.reduceLT, Nat.reduceLeDiff, Int.reduceNeg, Int.reduceEq, reduceCtorEq, gt_iff_lt, ge_iff_le, ne_eq]
    exact hR
  | @row d x r m c hk h1 h2 =>
    have hp := hk.pos
    simp (config := { decide := true, maxSteps := 4000000 }) only [d__law_room, ↓Sd, Sn, fillS, tgOf, putS, stillE, kOf, outs, isiD, tyIs, tyD, ixN, BSn, BGn, Int.reduceToNat, Nat.reduceAdd, Int.reduceLT, Int.reduceLE, Int.reduceAdd, Int.reduceSub, Int.reduceMul, Int.reducePow, Nat.reduceLT, Nat.reduceLeDiff, Int.reduceNeg, Int.reduceEq, reduceCtorEq, gt_iff_lt, ge_iff_le, ne_eq]
    refine w__law_room hk (by omega) ?_
    try simp (config := { decide := true, maxSteps := 4000000 }) only [↓Sd, Sn, fillS, tgOf, putS, stillE, kOf, outs, isiD, tyIs, tyD, ixN, BSn, BGn, Int.reduceToNat, Nat.reduceAdd, Int.reduceLT, Int.reduceLE, Int.reduceAdd, Int.reduceSub, Int.reduceMul, Int.reducePow, Nat.reduceLT, Nat.reduceLeDiff, Int.reduceNeg, Int.reduceEq, reduceCtorEq, gt_iff_lt, ge_iff_le, ne_eq]
    refine ⟨_, .inr rfl, rfl, _, _, rfl, _, _, rfl, rfl, ?_⟩
    try simp (config := { decide := true, maxSteps := 4000000 }) only [↓Sd, Sn, fillS, tgOf, putS, stillE, kOf, outs, isiD, tyIs, tyD, ixN, BSn, BGn, Int.reduceToNat, Nat.reduceAdd, Int.reduceLT, Int.reduceLE, Int.reduceAdd, Int.reduceSub, Int.reduceMul, Int.reducePow, Nat.reduceLT, Nat.reduceLeDiff, Int.reduceNeg, Int.reduceEq, reduceCtorEq, gt_iff_lt, ge_iff_le, ne_eq]
    refine w__law_rounded (by omega) ?_
    try simp (config := { decide := true, maxSteps := 4000000 }) only [↓Sd, Sn, fillS, tgOf, putS, stillE, kOf, outs, isiD, tyIs, tyD, ixN, BSn, BGn, Int.reduceToNat, Nat.reduceAdd, Int.reduceLT, Int.reduceLE, Int.reduceAdd, Int.reduceSub, Int.reduceMul, Int.reducePow, Nat.reduceLT, Nat.reduceLeDiff, Int.reduceNeg, Int.reduceEq, reduceCtorEq, gt_iff_lt, ge_iff_le, ne_eq]
    exact ⟨mul64 (by omega) (by omega), hR⟩
  | @reco d L m hk hn hl hm hx hN hD =>
    have hm0 : 1 ≤ m ∧ m ≤ 8 := by
      obtain ⟨e, he, rfl⟩ := hm
      have := (hk e he).pos
      omega
    simp (config := { decide := true, maxSteps := 4000000 }) only [d__law_room, ↓Sd, Sn, fillS, tgOf, putS, stillE, kOf, outs, isiD, tyIs, tyD, ixN, BSn, BGn, Int.reduceToNat, Nat.reduceAdd, Int.reduceLT, Int.reduceLE, Int.reduceAdd, Int.reduceSub, Int.reduceMul, Int.reducePow, Nat.reduceLT, Nat.reduceLeDiff, Int.reduceNeg, Int.reduceEq, reduceCtorEq, gt_iff_lt, ge_iff_le, ne_eq]
    refine LcP.maps (fun e => .lst [.int e.2.2.1, .int e.2.2.2]) (plain_cons (fun o e => by cases e; trivial) (plain_cons (fun o e => by cases e; trivial) plain_nil)) (Nat.le_trans hl (by decide)) (fun e he T hT => ?_) ?_
    · simp (config := { decide := true, maxSteps := 4000000 }) only [wipeE, fieldD, ↓Sd, Sn, fillS, tgOf, putS, stillE, kOf, outs, isiD, tyIs, tyD, ixN, BSn, BGn, Int.reduceToNat, Nat.reduceAdd, Int.reduceLT, Int.reduceLE, Int.reduceAdd, Int.reduceSub, Int.reduceMul, Int.reducePow, Nat.reduceLT, Nat.reduceLeDiff, Int.reduceNeg, Int.reduceEq, reduceCtorEq, gt_iff_lt, ge_iff_le, ne_eq]
      refine ⟨[.str e.1, e.2.1], .inl rfl, rfl, _, _, rfl, _, _, rfl, rfl, ?_⟩
      try simp (config := { decide := true, maxSteps := 4000000 }) only [↓Sd, Sn, fillS, tgOf, putS, stillE, kOf, outs, isiD, tyIs, tyD, ixN, BSn, BGn, Int.reduceToNat, Nat.reduceAdd, Int.reduceLT, Int.reduceLE, Int.reduceAdd, Int.reduceSub, Int.reduceMul, Int.reducePow, Nat.reduceLT, Nat.reduceLeDiff, Int.reduceNeg, Int.reduceEq, reduceCtorEq, gt_iff_lt, ge_iff_le, ne_eq]
      refine w__law_room (hk e he) (by omega) ?_
      try simp (config := { decide := true, maxSteps := 4000000 }) only [↓Sd, Sn, fillS, tgOf, putS, stillE, kOf, outs, isiD, tyIs, tyD, ixN, BSn, BGn, Int.reduceToNat, Nat.reduceAdd, Int.reduceLT, Int.reduceLE, Int.reduceAdd, Int.reduceSub, Int.reduceMul, Int.reducePow, Nat.reduceLT, Nat.reduceLeDiff, Int.reduceNeg, Int.reduceEq, reduceCtorEq, gt_iff_lt, ge_iff_le, ne_eq]
      exact hT _ rfl
    · try simp (config := { decide := true, maxSteps := 4000000 }) only [↓Sd, Sn, fillS, tgOf, putS, stillE, kOf, outs, isiD, tyIs, tyD, ixN, BSn, BGn, Int.reduceToNat, Nat.reduceAdd, Int.reduceLT, Int.reduceLE, Int.reduceAdd, Int.reduceSub, Int.reduceMul, Int.reducePow, Nat.reduceLT, Nat.reduceLeDiff, Int.reduceNeg, Int.reduceEq, reduceCtorEq, gt_iff_lt, ge_iff_le, ne_eq]
      refine ForP.maps (fun i ρ => ∃ (s5 s6 : Option Slot), ρ = [some (.d (.tup [.str "record", .lst (L.map fieldD)])), none, some (.d (.lst (L.map fun e => .lst [.int e.2.2.1, .int e.2.2.2]))), some (.d (.int (fend 0 ((L.take i).map (·.2))))), none, s5, s6, none, none] ∧ oD s5 ∧ oD s6) ⟨_, _, rfl, trivial, trivial⟩ (fun i e ρ2 hi hI => ?_) fun ρ2 hI => ?_
      · obtain ⟨s5, s6, rfl, h5, h6⟩ := hI
        have he : e ∈ L := List.mem_of_getElem? hi
        have hp := (hk e he).pos
        try simp (config := { decide := true, maxSteps := 4000000 }) only [↓Sd, Sn, fillS, tgOf, putS, stillE, kOf, outs, isiD, tyIs, tyD, ixN, BSn, BGn, Int.reduceToNat, Nat.reduceAdd, Int.reduceLT, Int.reduceLE, Int.reduceAdd, Int.reduceSub, Int.reduceMul, Int.reducePow, Nat.reduceLT, Nat.reduceLeDiff, Int.reduceNeg, Int.reduceEq, reduceCtorEq, gt_iff_lt, ge_iff_le, ne_eq]
        refine ⟨_, .inr rfl, rfl, _, _, rfl, _, _, rfl, rfl, ?_⟩
        try simp (config := { decide := true, maxSteps := 4000000 }) only [↓Sd, Sn, fillS, tgOf, putS, stillE, kOf, outs, isiD, tyIs, tyD, ixN, BSn, BGn, Int.reduceToNat, Nat.reduceAdd, Int.reduceLT, Int.reduceLE, Int.reduceAdd, Int.reduceSub, Int.reduceMul, Int.reducePow, Nat.reduceLT, Nat.reduceLeDiff, Int.reduceNeg, Int.reduceEq, reduceCtorEq, gt_iff_lt, ge_iff_le, ne_eq]
        refine w__law_rounded (by omega) ?_
        try simp (config := { decide := true, maxSteps := 4000000 }) only [↓Sd, Sn, fillS, tgOf, putS, stillE, kOf, outs, isiD, tyIs, tyD, ixN, BSn, BGn, Int.reduceToNat, Nat.reduceAdd, Int.reduceLT, Int.reduceLE, Int.reduceAdd, Int.reduceSub, Int.reduceMul, Int.reducePow, Nat.reduceLT, Nat.reduceLeDiff, Int.reduceNeg, Int.reduceEq, reduceCtorEq, gt_iff_lt, ge_iff_le, ne_eq]
        have ht : (L.take (i + 1)).map (·.2) = (L.take i).map (·.2) ++ [e.2] := take_succ_map hi
        have hf : fend 0 ((L.take (i + 1)).map (·.2)) = up (fend 0 ((L.take i).map (·.2))) e.2.2.2 + e.2.2.1 := by
          rw [ht, fend_app]
          rfl
        exact ⟨_, _, ⟨by rw [hf], rfl, rfl⟩, trivial, trivial⟩
      · obtain ⟨s5, s6, rfl, h5, h6⟩ := hI
        rw [List.take_length]
        try simp (config := { decide := true, maxSteps := 4000000 }) only [↓Sd, Sn, fillS, tgOf, putS, stillE, kOf, outs, isiD, tyIs, tyD, ixN, BSn, BGn, Int.reduceToNat, Nat.reduceAdd, Int.reduceLT, Int.reduceLE, Int.reduceAdd, Int.reduceSub, Int.reduceMul, Int.reducePow, Nat.reduceLT, Nat.reduceLeDiff, Int.reduceNeg, Int.reduceEq, reduceCtorEq, gt_iff_lt, ge_iff_le, ne_eq]
        refine LcP.maps (fun e => .int e.2.2.2) (plain_cons (fun o e => by cases e; assumption) (plain_cons (fun o e => by cases e; assumption) plain_nil)) (Nat.le_trans hl (by decide)) (fun e he T hT => ?_) ?_
        · simp (config := { decide := true, maxSteps := 4000000 }) only [wipeE, ↓Sd, Sn, fillS, tgOf, putS, stillE, kOf, outs, isiD, tyIs, tyD, ixN, BSn, BGn, Int.reduceToNat, Nat.reduceAdd, Int.reduceLT, Int.reduceLE, Int.reduceAdd, Int.reduceSub, Int.reduceMul, Int.reducePow, Nat.reduceLT, Nat.reduceLeDiff, Int.reduceNeg, Int.reduceEq, reduceCtorEq, gt_iff_lt, ge_iff_le, ne_eq]
          refine ⟨_, .inr rfl, rfl, _, _, rfl, _, _, rfl, rfl, ?_⟩
          try simp (config := { decide := true, maxSteps := 4000000 }) only [↓Sd, Sn, fillS, tgOf, putS, stillE, kOf, outs, isiD, tyIs, tyD, ixN, BSn, BGn, Int.reduceToNat, Nat.reduceAdd, Int.reduceLT, Int.reduceLE, Int.reduceAdd, Int.reduceSub, Int.reduceMul, Int.reducePow, Nat.reduceLT, Nat.reduceLeDiff, Int.reduceNeg, Int.reduceEq, reduceCtorEq, gt_iff_lt, ge_iff_le, ne_eq]
          exact hT _ rfl
        · try simp (config := { decide := true, maxSteps := 4000000 }) only [↓Sd, Sn, fillS, tgOf, putS, stillE, kOf, outs, isiD, tyIs, tyD, ixN, BSn, BGn, Int.reduceToNat, Nat.reduceAdd, Int.reduceLT, Int.reduceLE, Int.reduceAdd, Int.reduceSub, Int.reduceMul, Int.reducePow, Nat.reduceLT, Nat.reduceLeDiff, Int.reduceNeg, Int.reduceEq, reduceCtorEq, gt_iff_lt, ge_iff_le, ne_eq]
          refine max_maps hm hx ?_
          try simp (config := { decide := true, maxSteps := 4000000 }) only [↓Sd, Sn, fillS, tgOf, putS, stillE, kOf, outs, isiD, tyIs, tyD, ixN, BSn, BGn, Int.reduceToNat, Nat.reduceAdd, Int.reduceLT, Int.reduceLE, Int.reduceAdd, Int.reduceSub, Int.reduceMul, Int.reducePow, Nat.reduceLT, Nat.reduceLeDiff, Int.reduceNeg, Int.reduceEq, reduceCtorEq, gt_iff_lt, ge_iff_le, ne_eq]
          refine w__law_rounded (by omega) ?_
          try simp (config := { decide := true, maxSteps := 4000000 }) only [↓Sd, Sn, fillS, tgOf, putS, stillE, kOf, outs, isiD, tyIs, tyD, ixN, BSn, BGn, Int.reduceToNat, Nat.reduceAdd, Int.reduceLT, Int.reduceLE, Int.reduceAdd, Int.reduceSub, Int.reduceMul, Int.reducePow, Nat.reduceLT, Nat.reduceLeDiff, Int.reduceNeg, Int.reduceEq, reduceCtorEq, gt_iff_lt, ge_iff_le, ne_eq]
          exact hR
  | @cho d L m g hk hn hl hm hx hg hgx =>
    have hm0 : 1 ≤ m ∧ m ≤ 8 := by
      obtain ⟨e, he, rfl⟩ := hm
      have := (hk e he).pos
      omega
    simp (config := { decide := true, maxSteps := 4000000 }) only [d__law_room, ↓Sd, Sn, fillS, tgOf, putS, stillE, kOf, outs, isiD, tyIs, tyD, ixN, BSn, BGn, Int.reduceToNat, Nat.reduceAdd, Int.reduceLT, Int.reduceLE, Int.reduceAdd, Int.reduceSub, Int.reduceMul, Int.reducePow, Nat.reduceLT, Nat.reduceLeDiff, Int.reduceNeg, Int.reduceEq, reduceCtorEq, gt_iff_lt, ge_iff_le, ne_eq]
    refine LcP.maps (fun e => .lst [.int e.2.1, .int e.2.2]) (plain_cons (fun o e => by cases e; trivial) plain_nil) (Nat.le_trans hl (by decide)) (fun e he T hT => ?_) ?_
    · simp (config := { decide := true, maxSteps := 4000000 }) only [wipeE, ↓Sd, Sn, fillS, tgOf, putS, stillE, kOf, outs, isiD, tyIs, tyD, ixN, BSn, BGn, Int.reduceToNat, Nat.reduceAdd, Int.reduceLT, Int.reduceLE, Int.reduceAdd, Int.reduceSub, Int.reduceMul, Int.reducePow, Nat.reduceLT, Nat.reduceLeDiff, Int.reduceNeg, Int.reduceEq, reduceCtorEq, gt_iff_lt, ge_iff_le, ne_eq]
      refine w__law_room (hk e he) (by omega) ?_
      try simp (config := { decide := true, maxSteps := 4000000 }) only [↓Sd, Sn, fillS, tgOf, putS, stillE, kOf, outs, isiD, tyIs, tyD, ixN, BSn, BGn, Int.reduceToNat, Nat.reduceAdd, Int.reduceLT, Int.reduceLE, Int.reduceAdd, Int.reduceSub, Int.reduceMul, Int.reducePow, Nat.reduceLT, Nat.reduceLeDiff, Int.reduceNeg, Int.reduceEq, reduceCtorEq, gt_iff_lt, ge_iff_le, ne_eq]
      exact hT _ rfl
    · try simp (config := { decide := true, maxSteps := 4000000 }) only [↓Sd, Sn, fillS, tgOf, putS, stillE, kOf, outs, isiD, tyIs, tyD, ixN, BSn, BGn, Int.reduceToNat, Nat.reduceAdd, Int.reduceLT, Int.reduceLE, Int.reduceAdd, Int.reduceSub, Int.reduceMul, Int.reducePow, Nat.reduceLT, Nat.reduceLeDiff, Int.reduceNeg, Int.reduceEq, reduceCtorEq, gt_iff_lt, ge_iff_le, ne_eq]
      refine LcP.maps (fun e => .int e.2.2) (plain_cons (fun o e => by cases e; trivial) (plain_cons (fun o e => by cases e; trivial) plain_nil)) (Nat.le_trans hl (by decide)) (fun e he T hT => ?_) ?_
      · simp (config := { decide := true, maxSteps := 4000000 }) only [wipeE, ↓Sd, Sn, fillS, tgOf, putS, stillE, kOf, outs, isiD, tyIs, tyD, ixN, BSn, BGn, Int.reduceToNat, Nat.reduceAdd, Int.reduceLT, Int.reduceLE, Int.reduceAdd, Int.reduceSub, Int.reduceMul, Int.reducePow, Nat.reduceLT, Nat.reduceLeDiff, Int.reduceNeg, Int.reduceEq, reduceCtorEq, gt_iff_lt, ge_iff_le, ne_eq]
        refine ⟨_, .inr rfl, rfl, _, _, rfl, _, _, rfl, rfl, ?_⟩
        try simp (config := { decide := true, maxSteps := 4000000 }) only [↓Sd, Sn, fillS, tgOf, putS, stillE, kOf, outs, isiD, tyIs, tyD, ixN, BSn, BGn, Int.reduceToNat, Nat.reduceAdd, Int.reduceLT, Int.reduceLE, Int.reduceAdd, Int.reduceSub, Int.reduceMul, Int.reducePow, Nat.reduceLT, Nat.reduceLeDiff, Int.reduceNeg, Int.reduceEq, reduceCtorEq, gt_iff_lt, ge_iff_le, ne_eq]
        exact hT _ rfl
      · try simp (config := { decide := true, maxSteps := 4000000 }) only [↓Sd, Sn, fillS, tgOf, putS, stillE, kOf, outs, isiD, tyIs, tyD, ixN, BSn, BGn, Int.reduceToNat, Nat.reduceAdd, Int.reduceLT, Int.reduceLE, Int.reduceAdd, Int.reduceSub, Int.reduceMul, Int.reducePow, Nat.reduceLT, Nat.reduceLeDiff, Int.reduceNeg, Int.reduceEq, reduceCtorEq, gt_iff_lt, ge_iff_le, ne_eq]
        refine max_maps hm hx ?_
        try simp (config := { decide := true, maxSteps := 4000000 }) only [↓Sd, Sn, fillS, tgOf, putS, stillE, kOf, outs, isiD, tyIs, tyD, ixN, BSn, BGn, Int.reduceToNat, Nat.reduceAdd, Int.reduceLT, Int.reduceLE, Int.reduceAdd, Int.reduceSub, Int.reduceMul, Int.reducePow, Nat.reduceLT, Nat.reduceLeDiff, Int.reduceNeg, Int.reduceEq, reduceCtorEq, gt_iff_lt, ge_iff_le, ne_eq]
        refine w__law_rounded (by omega) ?_
        try simp (config := { decide := true, maxSteps := 4000000 }) only [↓Sd, Sn, fillS, tgOf, putS, stillE, kOf, outs, isiD, tyIs, tyD, ixN, BSn, BGn, Int.reduceToNat, Nat.reduceAdd, Int.reduceLT, Int.reduceLE, Int.reduceAdd, Int.reduceSub, Int.reduceMul, Int.reducePow, Nat.reduceLT, Nat.reduceLeDiff, Int.reduceNeg, Int.reduceEq, reduceCtorEq, gt_iff_lt, ge_iff_le, ne_eq]
        refine LcP.maps (fun e => .int e.2.1) (plain_cons (fun o e => by cases e; trivial) (plain_cons (fun o e => by cases e; trivial) plain_nil)) (Nat.le_trans hl (by decide)) (fun e he T hT => ?_) ?_
        · simp (config := { decide := true, maxSteps := 4000000 }) only [wipeE, ↓Sd, Sn, fillS, tgOf, putS, stillE, kOf, outs, isiD, tyIs, tyD, ixN, BSn, BGn, Int.reduceToNat, Nat.reduceAdd, Int.reduceLT, Int.reduceLE, Int.reduceAdd, Int.reduceSub, Int.reduceMul, Int.reducePow, Nat.reduceLT, Nat.reduceLeDiff, Int.reduceNeg, Int.reduceEq, reduceCtorEq, gt_iff_lt, ge_iff_le, ne_eq]
          refine ⟨_, .inr rfl, rfl, _, _, rfl, _, _, rfl, rfl, ?_⟩
          try simp (config := { decide := true, maxSteps := 4000000 }) only [↓Sd, Sn, fillS, tgOf, putS, stillE, kOf, outs, isiD, tyIs, tyD, ixN, BSn, BGn, Int.reduceToNat, Nat.reduceAdd, Int.reduceLT, Int.reduceLE, Int.reduceAdd, Int.reduceSub, Int.reduceMul, Int.reducePow, Nat.reduceLT, Nat.reduceLeDiff, Int.reduceNeg, Int.reduceEq, reduceCtorEq, gt_iff_lt, ge_iff_le, ne_eq]
          exact hT _ rfl
        · try simp (config := { decide := true, maxSteps := 4000000 }) only [↓Sd, Sn, fillS, tgOf, putS, stillE, kOf, outs, isiD, tyIs, tyD, ixN, BSn, BGn, Int.reduceToNat, Nat.reduceAdd, Int.reduceLT, Int.reduceLE, Int.reduceAdd, Int.reduceSub, Int.reduceMul, Int.reducePow, Nat.reduceLT, Nat.reduceLeDiff, Int.reduceNeg, Int.reduceEq, reduceCtorEq, gt_iff_lt, ge_iff_le, ne_eq]
          refine max_maps hg hgx ?_
          try simp (config := { decide := true, maxSteps := 4000000 }) only [↓Sd, Sn, fillS, tgOf, putS, stillE, kOf, outs, isiD, tyIs, tyD, ixN, BSn, BGn, Int.reduceToNat, Nat.reduceAdd, Int.reduceLT, Int.reduceLE, Int.reduceAdd, Int.reduceSub, Int.reduceMul, Int.reducePow, Nat.reduceLT, Nat.reduceLeDiff, Int.reduceNeg, Int.reduceEq, reduceCtorEq, gt_iff_lt, ge_iff_le, ne_eq]
          refine LcP.maps (fun e => .int e.2.2) (plain_cons (fun o e => by cases e; trivial) (plain_cons (fun o e => by cases e; trivial) plain_nil)) (Nat.le_trans hl (by decide)) (fun e he T hT => ?_) ?_
          · simp (config := { decide := true, maxSteps := 4000000 }) only [wipeE, ↓Sd, Sn, fillS, tgOf, putS, stillE, kOf, outs, isiD, tyIs, tyD, ixN, BSn, BGn, Int.reduceToNat, Nat.reduceAdd, Int.reduceLT, Int.reduceLE, Int.reduceAdd, Int.reduceSub, Int.reduceMul, Int.reducePow, Nat.reduceLT, Nat.reduceLeDiff, Int.reduceNeg, Int.reduceEq, reduceCtorEq, gt_iff_lt, ge_iff_le, ne_eq]
            refine ⟨_, .inr rfl, rfl, _, _, rfl, _, _, rfl, rfl, ?_⟩
            try simp (config := { decide := true, maxSteps := 4000000 }) only [↓Sd, Sn, fillS, tgOf, putS, stillE, kOf, outs, isiD, tyIs, tyD, ixN, BSn, BGn, Int.reduceToNat, Nat.reduceAdd, Int.reduceLT, Int.reduceLE, Int.reduceAdd, Int.reduceSub, Int.reduceMul, Int.reducePow, Nat.reduceLT, Nat.reduceLeDiff, Int.reduceNeg, Int.reduceEq, reduceCtorEq, gt_iff_lt, ge_iff_le, ne_eq]
            exact hT _ rfl
          · try simp (config := { decide := true, maxSteps := 4000000 }) only [↓Sd, Sn, fillS, tgOf, putS, stillE, kOf, outs, isiD, tyIs, tyD, ixN, BSn, BGn, Int.reduceToNat, Nat.reduceAdd, Int.reduceLT, Int.reduceLE, Int.reduceAdd, Int.reduceSub, Int.reduceMul, Int.reducePow, Nat.reduceLT, Nat.reduceLeDiff, Int.reduceNeg, Int.reduceEq, reduceCtorEq, gt_iff_lt, ge_iff_le, ne_eq]
            refine max_maps hm hx ?_
            try simp (config := { decide := true, maxSteps := 4000000 }) only [↓Sd, Sn, fillS, tgOf, putS, stillE, kOf, outs, isiD, tyIs, tyD, ixN, BSn, BGn, Int.reduceToNat, Nat.reduceAdd, Int.reduceLT, Int.reduceLE, Int.reduceAdd, Int.reduceSub, Int.reduceMul, Int.reducePow, Nat.reduceLT, Nat.reduceLeDiff, Int.reduceNeg, Int.reduceEq, reduceCtorEq, gt_iff_lt, ge_iff_le, ne_eq]
            refine w__law_rounded (by omega) ?_
            try simp (config := { decide := true, maxSteps := 4000000 }) only [↓Sd, Sn, fillS, tgOf, putS, stillE, kOf, outs, isiD, tyIs, tyD, ixN, BSn, BGn, Int.reduceToNat, Nat.reduceAdd, Int.reduceLT, Int.reduceLE, Int.reduceAdd, Int.reduceSub, Int.reduceMul, Int.reducePow, Nat.reduceLT, Nat.reduceLeDiff, Int.reduceNeg, Int.reduceEq, reduceCtorEq, gt_iff_lt, ge_iff_le, ne_eq]
            exact hR
def S__law_names : DSpec := fun args R _ => ∃ (p : List Dat) (many : Int) (c : Nat), args = [.l p, .d (.int many)] ∧ PL c p ∧ c + 1000 < 1000000000 ∧ 0 ≤ many ∧ many ≤ 20 ∧
  ∀ p' (ns : List Str), PL (c + 1 + 14 * many.toNat) p' → (ns.length : Int) = many → (∀ n ∈ ns, NameOk n) → ns.Nodup → R (.l (ns.map .str)) [.l p']
theorem names_1 {D : DK} {q : List Dat} {many : Dat} {stem name : Str} {ns : List Str} {s5 s7 s8 s9 : Option Slot} (hl : ns.length ≤ 20) (hn : NameOk name)
    (hnx : ∀ (n' : Str) (t : Int), NameOk n' → n' ∉ ns → D.nx [some (.l q), some (.d many), some (.d (.str LT)), some (.d (.str stem)), some (.l ((ns ++ [n']).map .str)), s5, some (.d (.str n')), s7, some (.d (.int t)), s9]) :
    d__law_names_1 S_take D [some (.l q), some (.d many), some (.d (.str LT)), some (.d (.str stem)), some (.l (ns.map .str)), s5, some (.d (.str name)), s7, s8, s9] := by
  simp (config := { decide := true, maxSteps := 4000000 }) only [d__law_names_1, ↓Sd, Sn, fillS, tgOf, putS, stillE, kOf, outs, isiD, tyIs, tyD, ixN, BSn, BGn, Int.reduceToNat, Nat.reduceAdd, Int.reduceLT, Int.reduceLE, Int.reduceAdd, Int.reduceSub, Int.reduceMul, Int.reducePow, Nat.reduceLT, Nat.reduceLeDiff, Int.reduceNeg, Int.reduceEq, reduceCtorEq, gt_iff_lt, ge_iff_le, ne_eq]
  refine w_dWhile (fun m ρ => ∃ (t : Nat) (n' : Str), m + t = 26 ∧ ρ = [some (.l q), some (.d many), some (.d (.str LT)), some (.d (.str stem)), some (.l (ns.map .str)), s5, some (.d (.str n')), s7, some (.d (.int t)), s9] ∧ NameOk n' ∧ (∀ j : Nat, j + 1 < t → Sx (List.replicate 8 (97 + j)) ∈ ns) ∧ (1 ≤ t → n' = Sx (List.replicate 8 (97 + (t - 1))))) 26 ⟨0, name, rfl, rfl, hn, fun j hj => absurd hj (Nat.not_lt_zero _), fun h => absurd h (by decide)⟩ (fun m ρ1 hI => ?_)
  obtain ⟨t, n', hmt, rfl, hn', hj, ht1⟩ := hI
  have ht : t - 1 ≤ ns.length := by
    have h := nodup_le (xs := (List.range (t - 1)).map fun j => Sx (List.replicate 8 (97 + j))) (ys := ns) (by
      rw [List.nodup_iff_pairwise_ne, List.pairwise_map]
      refine List.nodup_range.imp fun {a b} hab e => ?_
      have e2 := congrArg tlS e
      rw [tl_Sx, tl_Sx] at e2
      have e3 := congrArg List.head? e2
      simp at e3
      omega) (fun x hx => by
      obtain ⟨j, hj', rfl⟩ := List.mem_map.mp hx
      exact hj j (by have : j < t - 1 := by simpa using hj'
                     omega))
    simpa using h
  try simp (config := { decide := true, maxSteps := 4000000 }) only [↓Sd, Sn, fillS, tgOf, putS, stillE, kOf, outs, isiD, tyIs, tyD, ixN, BSn, BGn, Int.reduceToNat, Nat.reduceAdd, Int.reduceLT, Int.reduceLE, Int.reduceAdd, Int.reduceSub, Int.reduceMul, Int.reducePow, Nat.reduceLT, Nat.reduceLeDiff, Int.reduceNeg, Int.reduceEq, reduceCtorEq, gt_iff_lt, ge_iff_le, ne_eq]
  refine q_in ?_
  try simp (config := { decide := true, maxSteps := 4000000 }) only [↓Sd, Sn, fillS, tgOf, putS, stillE, kOf, outs, isiD, tyIs, tyD, ixN, BSn, BGn, Int.reduceToNat, Nat.reduceAdd, Int.reduceLT, Int.reduceLE, Int.reduceAdd, Int.reduceSub, Int.reduceMul, Int.reducePow, Nat.reduceLT, Nat.reduceLeDiff, Int.reduceNeg, Int.reduceEq, reduceCtorEq, gt_iff_lt, ge_iff_le, ne_eq]
  split
  · rename_i hmem
    refine ⟨lt_len, _, lt_at (by omega) (by omega), ?_⟩
    try simp (config := { decide := true, maxSteps := 4000000 }) only [↓Sd, Sn, fillS, tgOf, putS, stillE, kOf, outs, isiD, tyIs, tyD, ixN, BSn, BGn, Int.reduceToNat, Nat.reduceAdd, Int.reduceLT, Int.reduceLE, Int.reduceAdd, Int.reduceSub, Int.reduceMul, Int.reducePow, Nat.reduceLT, Nat.reduceLeDiff, Int.reduceNeg, Int.reduceEq, reduceCtorEq, gt_iff_lt, ge_iff_le, ne_eq]
    have hmem : n' ∈ ns := by simpa using hmem
    refine ⟨mulok8 _, m - 1, by omega, t + 1, by omega, Sx (List.replicate 8 (97 + t)), ⟨by rw [mul8, Int.toNat_natCast], by omega⟩, ⟨by rw [len_tl]; simp, by rw [len_tl]; simp, fun c hc => ?_⟩, fun j hj' => ?_, fun _ => rfl⟩
    · rw [tl_Sx] at hc
      have := (List.mem_replicate.mp hc).2
      omega
    · by_cases c : j + 1 < t
      · exact hj j c
      · have e := ht1 (by omega)
        have e2 : t - 1 = j := by omega
        subst e2
        have e3 : Sx (List.replicate 8 (97 + (t - 1))) ∈ ns := by rw [← e]; exact hmem
        exact e3
  · rename_i hmem
    try simp (config := { decide := true, maxSteps := 4000000 }) only [↓Sd, Sn, fillS, tgOf, putS, stillE, kOf, outs, isiD, tyIs, tyD, ixN, BSn, BGn, Int.reduceToNat, Nat.reduceAdd, Int.reduceLT, Int.reduceLE, Int.reduceAdd, Int.reduceSub, Int.reduceMul, Int.reducePow, Nat.reduceLT, Nat.reduceLeDiff, Int.reduceNeg, Int.reduceEq, reduceCtorEq, gt_iff_lt, ge_iff_le, ne_eq]
    refine ⟨by rw [List.length_map]; exact Nat.lt_of_le_of_lt hl (by decide), ?_⟩
    have := hnx n' t hn' (by simpa using hmem)
    rw [List.map_append] at this
    exact this
theorem names_2 {D : DK} {q : List Dat} {many : Dat} {stem name : Str} {ns : List Str} {s5 s8 s9 : Option Slot} {way : Int} {c : Nat} (hq : PL c q) (hc : c + 20 < 1000000000) (hl : ns.length ≤ 20) (hok : ∀ n ∈ ns, NameOk n) (hn : NameOk name)
    (hnx : ∀ (q' : List Dat) (n' : Str) (t : Int) (s9' : Option Slot), PL (c + 2) q' → NameOk n' → n' ∉ ns → D.nx [some (.l q'), some (.d many), some (.d (.str LT)), some (.d (.str stem)), some (.l ((ns ++ [n']).map .str)), s5, some (.d (.str n')), some (.d (.int way)), some (.d (.int t)), s9']) :
    d__law_names_2 S_take D [some (.l q), some (.d many), some (.d (.str LT)), some (.d (.str stem)), some (.l (ns.map .str)), s5, some (.d (.str name)), some (.d (.int way)), s8, s9] := by
  by_cases hns : ns = []
  · subst hns
    simp (config := { decide := true, maxSteps := 4000000 }) only [d__law_names_2, List.isEmpty_nil, ↓Sd, Sn, fillS, tgOf, putS, stillE, kOf, outs, isiD, tyIs, tyD, ixN, BSn, BGn, Int.reduceToNat, Nat.reduceAdd, Int.reduceLT, Int.reduceLE, Int.reduceAdd, Int.reduceSub, Int.reduceMul, Int.reducePow, Nat.reduceLT, Nat.reduceLeDiff, Int.reduceNeg, Int.reduceEq, reduceCtorEq, gt_iff_lt, ge_iff_le, ne_eq]
    have k := names_1 (stem := stem) (many := many) (q := q) (s5 := s5) (s7 := some (.d (.int way))) (s8 := s8) (s9 := s9) (D := D) (by decide) hn fun n' t h1 h2 => hnx q n' t s9 (hq.mono (by omega)) h1 h2
    split <;> exact k
  · obtain ⟨l, hlast, hmem⟩ := last_of hns
    have hat := at_map_last (f := Dat.str) hlast
    obtain ⟨hl1, hl8, hlow⟩ := hok l hmem
    have hem : (ns.map Dat.str).isEmpty = false := by
      cases ns with
      | nil => exact absurd rfl hns
      | cons => rfl
    simp (config := { decide := true, maxSteps := 4000000 }) only [d__law_names_2, hem, hat, w_dSlice, w_dNoP, w_dSomeP, ↓Sd, Sn, fillS, tgOf, putS, stillE, kOf, outs, isiD, tyIs, tyD, ixN, BSn, BGn, Int.reduceToNat, Nat.reduceAdd, Int.reduceLT, Int.reduceLE, Int.reduceAdd, Int.reduceSub, Int.reduceMul, Int.reducePow, Nat.reduceLT, Nat.reduceLeDiff, Int.reduceNeg, Int.reduceEq, reduceCtorEq, gt_iff_lt, ge_iff_le, ne_eq]
    split
    · refine ⟨Nat.le_trans hl8 (by decide), _, hq, by omega, by omega, by omega, fun q1 r1 hq1 a1 b1 => ⟨Nat.le_trans hl8 (by decide), ?_⟩⟩
      refine ⟨_, hq1, by omega, fun q2 r2 hq2 a2 b2 => ?_⟩
      refine ⟨lt_len, _, lt_at a2 b2, ?_⟩
      have e1 := len_cut_hi (z := l) a1 (by omega)
      have e2 := len_cut_lo (z := l) (k := r1 + 1) (by omega) (by omega)
      have e3 := PySem.strLen_append (cutS l none (some r1)) ⟨#[97 + r2.toNat]⟩
      have e4 := PySem.strLen_append (cutS l none (some r1) ++ ⟨#[97 + r2.toNat]⟩) (cutS l (some (r1 + 1)) none)
      rw [len_sign] at e3
      refine ⟨by rw [len_sign, PySem.sizeLine_eq]; omega, Nat.le_trans hl8 (by decide), by rw [PySem.sizeLine_eq]; omega, ?_⟩
      exact names_1 hl ⟨by omega, by omega, low_app (low_app (low_cut hlow) (low_sign (by omega))) (low_cut hlow)⟩ fun n' t h1 h2 => hnx q2 n' t _ hq2 h1 h2
    · exact names_1 hl hn fun n' t h1 h2 => hnx q n' t s9 (hq.mono (by omega)) h1 h2
theorem law__law_names (args : List Slot) R X (h : S__law_names args R X) : args.length = 2 ∧ d__law_names S_take (kOf [0] R X) (args.map some ++ List.replicate 8 none) := by
  obtain ⟨p, many, c, rfl, hp, hc, hm0, hm1, hR⟩ := h
  refine ⟨rfl, ?_⟩
  simp (config := { decide := true, maxSteps := 4000000 }) only [d__law_names, ↓Sd, Sn, fillS, tgOf, putS, stillE, kOf, outs, isiD, tyIs, tyD, ixN, BSn, BGn, Int.reduceToNat, Nat.reduceAdd, Int.reduceLT, Int.reduceLE, Int.reduceAdd, Int.reduceSub, Int.reduceMul, Int.reducePow, Nat.reduceLT, Nat.reduceLeDiff, Int.reduceNeg, Int.reduceEq, reduceCtorEq, gt_iff_lt, ge_iff_le, ne_eq]
  refine ⟨_, hp, by omega, fun p1 r1 hp1 a1 b1 => ?_⟩
  obtain ⟨x, ex, mx⟩ := at_mem (xs := [Dat.str "abcdefg", Dat.str "placeof", Dat.str "zyxwvut", Dat.str "kjqrshn"]) a1 b1
  refine ⟨x, ex, ?_⟩
  have hx : ∃ s : Str, x = .str s ∧ s.length = 7 ∧ Low s := by
    simp only [List.mem_cons, List.not_mem_nil, or_false] at mx
    rcases mx with rfl | rfl | rfl | rfl <;> refine ⟨_, rfl, by decide +kernel, ?_⟩ <;> unfold Low <;> decide +kernel
  obtain ⟨stem, rfl, hs7, hsl⟩ := hx
  refine ⟨by omega, by omega, ?_⟩
  refine ForP.mk (fun i ρ => ∃ (q : List Dat) (ns : List Str) (s5 s6 s7 s8 s9 : Option Slot), ρ = [some (.l q), some (.d (.int many)), some (.d (.str LT)), some (.d (.str stem)), some (.l (ns.map .str)), s5, s6, s7, s8, s9] ∧ PL (c + 1 + 14 * i) q ∧ ns.length = i ∧ (∀ n ∈ ns, NameOk n) ∧ ns.Nodup ∧ oD s8)
    ⟨_, [], _, _, _, _, _, rfl, hp1.mono (by omega), rfl, by simp, by simp, trivial⟩ (fun i y ρ2 hy hI => ?_) fun ρ2 hI => ?_
  · obtain ⟨hi, rfl⟩ := rng_at hy
    obtain ⟨q, ns, s5, s6, s7, s8, s9, rfl, hq, hl, hok, hnd, h8⟩ := hI
    try simp (config := { decide := true, maxSteps := 4000000 }) only [↓Sd, Sn, fillS, tgOf, putS, stillE, kOf, outs, isiD, tyIs, tyD, ixN, BSn, BGn, Int.reduceToNat, Nat.reduceAdd, Int.reduceLT, Int.reduceLE, Int.reduceAdd, Int.reduceSub, Int.reduceMul, Int.reducePow, Nat.reduceLT, Nat.reduceLeDiff, Int.reduceNeg, Int.reduceEq, reduceCtorEq, gt_iff_lt, ge_iff_le, ne_eq]
    refine ⟨_, hq, by omega, fun q1 r1 hq1 a1 b1 => ⟨by rw [hs7]; decide, _, hq1, by omega, fun q2 r2 hq2 a2 b2 => ⟨lt_len, _, lt_at a2 b2, ?_⟩⟩⟩
    have e1 := len_cut_hi (z := stem) a1 (by omega)
    have e3 := PySem.strLen_append (cutS stem none (some r1)) ⟨#[97 + r2.toNat]⟩
    rw [len_sign] at e3
    have hname : NameOk (cutS stem none (some r1) ++ ⟨#[97 + r2.toNat]⟩) := ⟨by omega, by omega, low_app (low_cut hsl) (low_sign (by omega))⟩
    refine ⟨by rw [len_sign, PySem.sizeLine_eq]; omega, _, hq2, by omega, fun q3 way hq3 a3 b3 => ?_⟩
    have fin : ∀ (q' : List Dat) (n' : Str), NameOk n' → n' ∉ ns → PL (c + 1 + 14 * (i + 1)) q' → ∀ (w5 w6 w7 w9 : Option Slot) (t : Int), ∃ (q : List Dat) (ns2 : List Str) (s5 s6 s7 s8 s9 : Option Slot), [some (.l q'), some (.d (.int many)), some (.d (.str LT)), some (.d (.str stem)), some (.l ((ns ++ [n']).map .str)), w5, w6, w7, some (.d (.int t)), w9] = [some (.l q), some (.d (.int many)), some (.d (.str LT)), some (.d (.str stem)), some (.l (ns2.map .str)), s5, s6, s7, s8, s9] ∧ PL (c + 1 + 14 * (i + 1)) q ∧ ns2.length = i + 1 ∧ (∀ n ∈ ns2, NameOk n) ∧ ns2.Nodup ∧ oD s8 := fun q' n' h1 h2 h3 w5 w6 w7 w9 t =>
      ⟨q', ns ++ [n'], w5, w6, w7, _, w9, rfl, h3, by simp [hl], fun n hn => by
        rcases List.mem_append.mp hn with h | h
        · exact hok n h
        · rw [List.mem_singleton.mp h]; exact h1, by
        rw [List.nodup_append]
        refine ⟨hnd, by simp, fun a ha b hb e => ?_⟩
        rw [List.mem_singleton.mp hb] at e
        exact h2 (e ▸ ha), trivial⟩
    split
    · refine ⟨_, rfl, _, hq3, by omega, fun q4 r4 hq4 a4 b4 => ⟨by omega, by omega, ?_⟩⟩
      refine LcP.mk (fun j acc ρ => ∃ (q : List Dat) (cs : List Nat), ρ = [some (.l q), some (.d (.int many)), some (.d (.str LT)), some (.d (.str stem)), some (.l (ns.map .str)), some (.d (.int (0 + (i : Int)))), some (.d (.str (cutS stem none (some r1) ++ ⟨#[97 + r2.toNat]⟩))), some (.d (.int way)), s8, s9] ∧ acc = cs.map (fun c => Dat.str ⟨#[c]⟩) ∧ cs.length = j ∧ (∀ c ∈ cs, 97 ≤ c ∧ c ≤ 122) ∧ PL (c + 1 + 14 * i + 4 + j) q)
        ⟨_, [], rfl, rfl, rfl, by simp, hq4.mono (by omega)⟩ (fun j y acc ρ2 hy hI => ?_) fun acc ρ2 hI => ?_
      · obtain ⟨hj, rfl⟩ := rng_at hy
        obtain ⟨q', cs, rfl, rfl, hcl, hca, hq'⟩ := hI
        refine ⟨plain_cons (fun o e => by cases e; exact h8) plain_nil, by rw [List.length_map, hcl, PySem.sizeLine_eq]; omega, ?_⟩
        simp (config := { decide := true, maxSteps := 4000000 }) only [wipeE, ↓Sd, Sn, fillS, tgOf, putS, stillE, kOf, outs, isiD, tyIs, tyD, ixN, BSn, BGn, Int.reduceToNat, Nat.reduceAdd, Int.reduceLT, Int.reduceLE, Int.reduceAdd, Int.reduceSub, Int.reduceMul, Int.reducePow, Nat.reduceLT, Nat.reduceLeDiff, Int.reduceNeg, Int.reduceEq, reduceCtorEq, gt_iff_lt, ge_iff_le, ne_eq]
        refine ⟨_, hq', by omega, fun q5 r5 hq5 a5 b5 => ⟨lt_len, _, lt_at a5 b5, ?_⟩⟩
        refine ⟨q5, rfl, cs ++ [97 + r5.toNat], by rw [List.map_append]; rfl, by simp [hcl], fun c hc => ?_, hq5.mono (by omega)⟩
        rcases List.mem_append.mp hc with h | h
        · exact hca c h
        · rw [List.mem_singleton.mp h]
          omega
      · obtain ⟨q', cs, rfl, rfl, hcl, hca, hq'⟩ := hI
        rw [rng_len] at hcl hq'
        have es : strsD (cs.map fun c => Dat.str ⟨#[c]⟩) = some (cs.map fun c => (⟨#[c]⟩ : Str)) := by
          have := strsD_map (cs.map fun c => (⟨#[c]⟩ : Str))
          rw [List.map_map] at this
          exact this
        try simp (config := { decide := true, maxSteps := 4000000 }) only [↓Sd, Sn, fillS, tgOf, putS, stillE, kOf, outs, isiD, tyIs, tyD, ixN, BSn, BGn, Int.reduceToNat, Nat.reduceAdd, Int.reduceLT, Int.reduceLE, Int.reduceAdd, Int.reduceSub, Int.reduceMul, Int.reducePow, Nat.reduceLT, Nat.reduceLeDiff, Int.reduceNeg, Int.reduceEq, reduceCtorEq, gt_iff_lt, ge_iff_le, ne_eq]
        refine ⟨_, .inl rfl, _, es, ?_, ?_⟩
        · rw [List.map_map, List.length_map]
          have h1 : (cs.map ((fun x : Str => x.length) ∘ fun c => (⟨#[c]⟩ : Str))) = List.replicate cs.length 1 := by
            rw [List.eq_replicate_iff]
            refine ⟨by simp, fun b hb => ?_⟩
            obtain ⟨c, _, rfl⟩ := List.mem_map.mp hb
            rfl
          rw [h1, List.sum_replicate_nat]
          have : (("" : Str)).length = 0 := by decide +kernel
          rw [this]
          omega
        · rw [join_signs]
          refine names_2 (c := c + 1 + 14 * i + 4 + (1 + r4).toNat) hq' (by omega) (by omega) hok ⟨by rw [len_tl, tl_Sx]; omega, by rw [len_tl, tl_Sx]; omega, fun d hd => ?_⟩ fun q6 n' t s9' h1 h2 h3 => ?_
          · rw [tl_Sx] at hd
            exact hca d hd
          · exact fin q6 n' h2 h3 (h1.mono (by omega)) _ _ _ _ _
    · exact names_2 (c := c + 1 + 14 * i + 3) hq3 (by omega) (by omega) hok hname fun q6 n' t s9' h1 h2 h3 => fin q6 n' h2 h3 (h1.mono (by omega)) _ _ _ _ _
  · obtain ⟨q, ns, s5, s6, s7, s8, s9, rfl, hq, hl, hok, hnd, h8⟩ := hI
    try simp (config := { decide := true, maxSteps := 4000000 }) only [↓Sd, Sn, fillS, tgOf, putS, stillE, kOf, outs, isiD, tyIs, tyD, ixN, BSn, BGn, Int.reduceToNat, Nat.reduceAdd, Int.reduceLT, Int.reduceLE, Int.reduceAdd, Int.reduceSub, Int.reduceMul, Int.reducePow, Nat.reduceLT, Nat.reduceLeDiff, Int.reduceNeg, Int.reduceEq, reduceCtorEq, gt_iff_lt, ge_iff_le, ne_eq]
    rw [rng_len] at hl hq
    exact hR _ _ hq (by omega) hok hnd
theorem kd_zero {n : Nat} {x : Dat} {r m : Int} {C : Prop} (h : KD n x r m) (hn : n ≤ 0) : C := by
  have : n = 0 := by omega
  subst this
  cases h
theorem max_ex {α : Type} {f : α → Int} : ∀ {L : List α}, L ≠ [] → ∃ m, (∃ e ∈ L, f e = m) ∧ ∀ e ∈ L, f e ≤ m
  | [], h => absurd rfl h
  | [a], _ => ⟨f a, ⟨a, by simp, rfl⟩, fun e he => by rw [List.mem_singleton.mp he]; exact Int.le_refl _⟩
  | a :: b :: L, _ => by
    obtain ⟨m, ⟨e, he, h1⟩, h2⟩ := max_ex (f := f) (L := b :: L) (by simp)
    by_cases c : f a ≤ m
    · refine ⟨m, ⟨e, List.mem_cons_of_mem _ he, h1⟩, fun x hx => ?_⟩
      rcases List.mem_cons.mp hx with rfl | hx
      · exact c
      · exact h2 x hx
    · refine ⟨f a, ⟨a, List.mem_cons_self .., rfl⟩, fun x hx => ?_⟩
      rcases List.mem_cons.mp hx with rfl | hx
      · exact Int.le_refl _
      · have := h2 x hx
        omega
def costK : Nat → Nat
  | 0 => 0
  | n + 1 => 130 + 8 * costK n
def S__law_kind (n : Nat) : DSpec := fun args R _ => ∃ (p : List Dat) (d c : Nat) (most : Int), args = [.l p, .d (.int d), .d (.int most)] ∧ 8 ≤ most ∧ PL c p ∧ 1 ≤ d ∧ d ≤ n ∧ d ≤ 8 ∧ c + costK d + 2000 < 1000000000 ∧ ∀ p' x r m, PL (c + costK d) p' → KD d x r m → r ≤ most → R (.d x) [.l p']
theorem w__law_kind {n : Nat} {p : List Dat} {e most : Int} {R : Slot → List Slot → Prop} {X : Value → List Slot → Prop} (d c : Nat) (he : e = d) (hmo : 8 ≤ most) (hp : PL c p) (h1 : 1 ≤ d) (h2 : d ≤ n) (h3 : d ≤ 8) (h4 : c + costK d + 2000 < 1000000000) (h : ∀ p' x r m, PL (c + costK d) p' → KD d x r m → r ≤ most → R (.d x) [.l p']) : S__law_kind n [.l p, .d (.int e), .d (.int most)] R X := by
  subst he
  exact ⟨p, d, c, most, rfl, hmo, hp, h1, h2, h3, h4, h⟩
theorem w__law_names {p : List Dat} {many : Int} {R : Slot → List Slot → Prop} {X : Value → List Slot → Prop} (c : Nat) (hp : PL c p) (h1 : c + 1000 < 1000000000) (h2 : 0 ≤ many) (h3 : many ≤ 20) (h : ∀ p' (ns : List Str), PL (c + 1 + 14 * many.toNat) p' → (ns.length : Int) = many → (∀ n ∈ ns, NameOk n) → ns.Nodup → R (.l (ns.map .str)) [.l p']) : S__law_names [.l p, .d (.int many)] R X := ⟨p, many, c, rfl, hp, h1, h2, h3, h⟩
theorem kind_1 {n d : Nat} {p : List Dat} {deep way : Dat} {x x0 : Dat} {r m r0 m0 most : Int} {s5 s6 s7 : Option Slot} {D : DK} (hk0 : KD d x0 r0 m0) (h0 : r0 ≤ most) (hk : KD d x r m) (hd : d ≤ 8)
    (hR : ∀ x r m, KD d x r m → r ≤ most → D.rt (.d x) [some (.l p), some (.d deep), some (.d (.int most)), some (.d way), some (.d x0), some (.d x0), s5, s6, s7]) (hR2 : r ≤ most → D.rt (.d x) [some (.l p), some (.d deep), some (.d (.int most)), some (.d way), some (.d x0), some (.d x), s5, s6, s7]) (hR0 : D.rt (.d x0) [some (.l p), some (.d deep), some (.d (.int most)), some (.d way), some (.d x0), some (.d x), s5, s6, s7]) :
    d__law_kind_1 S_take (S__law_room 8) S__law_names (S__law_kind n) D [some (.l p), some (.d deep), some (.d (.int most)), some (.d way), some (.d x0), some (.d x), s5, s6, s7] := by
  simp (config := { decide := true, maxSteps := 4000000 }) only [d__law_kind_1, ↓Sd, Sn, fillS, tgOf, putS, stillE, kOf, outs, isiD, tyIs, tyD, ixN, BSn, BGn, Int.reduceToNat, Nat.reduceAdd, Int.reduceLT, Int.reduceLE, Int.reduceAdd, Int.reduceSub, Int.reduceMul, Int.reducePow, Nat.reduceLT, Nat.reduceLeDiff, Int.reduceNeg, Int.reduceEq, reduceCtorEq, gt_iff_lt, ge_iff_le, ne_eq]
  refine w__law_room hk hd ?_
  try simp (config := { decide := true, maxSteps := 4000000 }) only [↓Sd, Sn, fillS, tgOf, putS, stillE, kOf, outs, isiD, tyIs, tyD, ixN, BSn, BGn, Int.reduceToNat, Nat.reduceAdd, Int.reduceLT, Int.reduceLE, Int.reduceAdd, Int.reduceSub, Int.reduceMul, Int.reducePow, Nat.reduceLT, Nat.reduceLeDiff, Int.reduceNeg, Int.reduceEq, reduceCtorEq, gt_iff_lt, ge_iff_le, ne_eq]
  split
  · exact hR0
  · rename_i h
    exact hR2 (by simpa using h)
theorem law__law_kind (n : Nat) (args : List Slot) R X (h : S__law_kind (n + 1) args R X) : args.length = 3 ∧ d__law_kind S_take (S__law_room 8) S__law_names (S__law_kind n) (kOf [0] R X) (args.map some ++ List.replicate 6 none) := by
  obtain ⟨p, d, c, most, rfl, hmo, hp, h1, h2, h3, h4, hR⟩ := h
  refine ⟨rfl, ?_⟩
  simp (config := { decide := true, maxSteps := 4000000 }) only [d__law_kind, ↓Sd, Sn, fillS, tgOf, putS, stillE, kOf, outs, isiD, tyIs, tyD, ixN, BSn, BGn, Int.reduceToNat, Nat.reduceAdd, Int.reduceLT, Int.reduceLE, Int.reduceAdd, Int.reduceSub, Int.reduceMul, Int.reducePow, Nat.reduceLT, Nat.reduceLeDiff, Int.reduceNeg, Int.reduceEq, reduceCtorEq, gt_iff_lt, ge_iff_le, ne_eq]
  refine ⟨_, hp, by omega, fun p1 way hp1 a1 b1 => ⟨_, hp1, by omega, fun p2 r2 hp2 a2 b2 => ⟨_, hp2, by omega, fun p3 r3 hp3 a3 b3 => ?_⟩⟩⟩
  obtain ⟨x, ex, mx⟩ := at_mem (xs := [Dat.int 1, Dat.int 2, Dat.int 4, Dat.int 8]) a3 b3
  refine ⟨x, ex, ?_⟩
  have hx : ∃ m : Int, x = .int m ∧ (m = 1 ∨ m = 2 ∨ m = 4 ∨ m = 8) := by
    simp only [List.mem_cons, List.not_mem_nil, or_false] at mx
    rcases mx with rfl | rfl | rfl | rfl <;> exact ⟨_, rfl, by decide⟩
  obtain ⟨m0, rfl, hm0⟩ := hx
  obtain ⟨d, rfl⟩ : ∃ e, d = e + 1 := ⟨d - 1, by omega⟩
  have hcost : costK (d + 1) = 130 + 8 * costK d := rfl
  have hk0 : KD (d + 1) (.tup [.str "number", .int (1 + r2), .int m0]) (1 + r2) m0 := .num (by omega) (by omega) hm0
  have fin0 : ∀ q, PL (c + 20) q ∨ PL (c + costK (d + 1)) q → R (Slot.d (.tup [.str "number", .int (1 + r2), .int m0])) [Slot.l q] := fun q hq => hR _ _ _ _ (hq.elim (fun h => h.mono (by omega)) id) hk0 (by omega)
  split
  · exact fin0 _ (.inl (hp3.mono (by omega)))
  · rename_i hd1
    split
    · exact fin0 _ (.inl (hp3.mono (by omega)))
    · have hd : 1 ≤ d := by omega
      have many2 : ∀ (u v w : Int) (B : Int), 0 ≤ u → u < B → 0 ≤ v → v < B → 0 ≤ w → w < 2 → ∃ x : Int, atI [Dat.int u, Dat.int v] w = some (.int x) ∧ 0 ≤ x ∧ x < B := fun u v w B g1 g2 g3 g4 g5 g6 => by
        obtain ⟨x, ex, mx⟩ := at_mem (xs := [Dat.int u, Dat.int v]) g5 g6
        simp only [List.mem_cons, List.not_mem_nil, or_false] at mx
        rcases mx with rfl | rfl
        · exact ⟨_, ex, g1, g2⟩
        · exact ⟨_, ex, g3, g4⟩
      split
      · refine ⟨_, hp3, by omega, fun p4 r4 hp4 a4 b4 => ⟨_, hp4, by omega, fun p5 r5 hp5 a5 b5 => ⟨_, hp5, by omega, fun p6 r6 hp6 a6 b6 => ?_⟩⟩⟩
        obtain ⟨z, ez, g0, g1⟩ := many2 r4 r5 r6 20 a4 (by omega) a5 b5 a6 b6
        refine ⟨_, ez, ?_⟩
        try simp (config := { decide := true, maxSteps := 4000000 }) only [↓Sd, Sn, fillS, tgOf, putS, stillE, kOf, outs, isiD, tyIs, tyD, ixN, BSn, BGn, Int.reduceToNat, Nat.reduceAdd, Int.reduceLT, Int.reduceLE, Int.reduceAdd, Int.reduceSub, Int.reduceMul, Int.reducePow, Nat.reduceLT, Nat.reduceLeDiff, Int.reduceNeg, Int.reduceEq, reduceCtorEq, gt_iff_lt, ge_iff_le, ne_eq]
        refine w__law_kind d (c + 6) (by omega) hmo (hp6.mono (by omega)) hd (by omega) (by omega) (by omega) fun p7 x r m hp7 hkx hr => ?_
        try simp (config := { decide := true, maxSteps := 4000000 }) only [↓Sd, Sn, fillS, tgOf, putS, stillE, kOf, outs, isiD, tyIs, tyD, ixN, BSn, BGn, Int.reduceToNat, Nat.reduceAdd, Int.reduceLT, Int.reduceLE, Int.reduceAdd, Int.reduceSub, Int.reduceMul, Int.reducePow, Nat.reduceLT, Nat.reduceLeDiff, Int.reduceNeg, Int.reduceEq, reduceCtorEq, gt_iff_lt, ge_iff_le, ne_eq]
        have hk : KD (d + 1) (.tup [.str "row", x, .int (1 + z)]) ((1 + z) * up r m) m := .row hkx (by omega) (by omega)
        have hp7' : PL (c + costK (d + 1)) p7 := hp7.mono (by omega)
        exact kind_1 hk0 (by omega) hk h3 (fun _ _ _ h1 h2 => hR _ _ _ _ hp7' h1 h2) (fun h => hR _ _ _ _ hp7' hk h) (fin0 _ (.inr hp7'))
      · split
        · refine ⟨_, hp3, by omega, fun p4 r4 hp4 a4 b4 => ⟨_, hp4, by omega, fun p5 r5 hp5 a5 b5 => ⟨_, hp5, by omega, fun p6 r6 hp6 a6 b6 => ?_⟩⟩⟩
          obtain ⟨z, ez, g0, g1⟩ := many2 r4 r5 (if r6 = 0 then 1 else 0) 8 a4 (by omega) a5 b5 (by split <;> omega) (by split <;> omega)
          refine ⟨_, ez, ?_⟩
          try simp (config := { decide := true, maxSteps := 4000000 }) only [↓Sd, Sn, fillS, tgOf, putS, stillE, kOf, outs, isiD, tyIs, tyD, ixN, BSn, BGn, Int.reduceToNat, Nat.reduceAdd, Int.reduceLT, Int.reduceLE, Int.reduceAdd, Int.reduceSub, Int.reduceMul, Int.reducePow, Nat.reduceLT, Nat.reduceLeDiff, Int.reduceNeg, Int.reduceEq, reduceCtorEq, gt_iff_lt, ge_iff_le, ne_eq]
          refine w__law_names (c + 6) (hp6.mono (by omega)) (by omega) (by omega) (by omega) fun p7 ns hp7 hl hok hnd => ?_
          try simp (config := { decide := true, maxSteps := 4000000 }) only [↓Sd, Sn, fillS, tgOf, putS, stillE, kOf, outs, isiD, tyIs, tyD, ixN, BSn, BGn, Int.reduceToNat, Nat.reduceAdd, Int.reduceLT, Int.reduceLE, Int.reduceAdd, Int.reduceSub, Int.reduceMul, Int.reducePow, Nat.reduceLT, Nat.reduceLeDiff, Int.reduceNeg, Int.reduceEq, reduceCtorEq, gt_iff_lt, ge_iff_le, ne_eq]
          have hns : ∀ (i : Nat) (y : Dat), (ns.map Dat.str)[i]? = some y → ∃ s, y = Dat.str s := fun i y hy => by
            obtain ⟨s, _, rfl⟩ := List.mem_map.mp (List.mem_of_getElem? hy)
            exact ⟨s, rfl⟩
          refine LcP.mk (fun j acc ρ => ∃ (q : List Dat) (L : List (Str × Dat × Int × Int)), ρ = [some (.l q), some (.d (.int ((d + 1 : Nat) : Int))), some (.d (.int most)), some (.d (.int way)), some (.d (.tup [.str "number", .int (1 + r2), .int m0])), some (.d (.tup [.str "number", .int (1 + r2), .int m0])), some (.d (.int (1 + z))), none, none] ∧ acc = L.map fieldD ∧ L.length = j ∧ (∀ e ∈ L, KD d e.2.1 e.2.2.1 e.2.2.2) ∧ L.map (·.1) = ns.take j ∧ PL (c + 6 + (1 + 14 * (1 + z).toNat) + costK d * j) q)
            ⟨_, [], rfl, rfl, rfl, by simp, by simp, hp7.mono (by omega)⟩ (fun j y acc ρ2 hy hI => ?_) fun acc ρ2 hI => ?_
          · obtain ⟨q, L, rfl, rfl, hL, hLk, hLn, hq⟩ := hI
            obtain ⟨s, rfl⟩ := hns j y hy
            have hj := take_lt hy
            rw [List.length_map] at hj
            have hns : ns[j]? = some s := by
              rw [List.getElem?_map] at hy
              cases e : ns[j]? with
              | none => rw [e] at hy; cases hy
              | some t => rw [e] at hy; cases hy; rfl
            have hcj : costK d * (j + 1) ≤ costK d * 8 := Nat.mul_le_mul_left _ (by omega)
            have hcj2 : costK d * (j + 1) = costK d * j + costK d := Nat.mul_succ ..
            refine ⟨plain_cons (fun o e => by cases e; trivial) plain_nil, by rw [List.length_map, hL, PySem.sizeLine_eq]; omega, ?_⟩
            simp (config := { decide := true, maxSteps := 4000000 }) only [wipeE, ↓Sd, Sn, fillS, tgOf, putS, stillE, kOf, outs, isiD, tyIs, tyD, ixN, BSn, BGn, Int.reduceToNat, Nat.reduceAdd, Int.reduceLT, Int.reduceLE, Int.reduceAdd, Int.reduceSub, Int.reduceMul, Int.reducePow, Nat.reduceLT, Nat.reduceLeDiff, Int.reduceNeg, Int.reduceEq, reduceCtorEq, gt_iff_lt, ge_iff_le, ne_eq]
            refine w__law_kind d _ (by omega) hmo hq hd (by omega) (by omega) (by omega) fun p8 x r m hp8 hkx hr => ?_
            try simp (config := { decide := true, maxSteps := 4000000 }) only [↓Sd, Sn, fillS, tgOf, putS, stillE, kOf, outs, isiD, tyIs, tyD, ixN, BSn, BGn, Int.reduceToNat, Nat.reduceAdd, Int.reduceLT, Int.reduceLE, Int.reduceAdd, Int.reduceSub, Int.reduceMul, Int.reducePow, Nat.reduceLT, Nat.reduceLeDiff, Int.reduceNeg, Int.reduceEq, reduceCtorEq, gt_iff_lt, ge_iff_le, ne_eq]
            refine ⟨p8, rfl, L ++ [(s, x, r, m)], by rw [List.map_append]; rfl, by simp [hL], fun e he => ?_, ?_, hp8.mono (by omega)⟩
            · rcases List.mem_append.mp he with h | h
              · exact hLk e h
              · rw [List.mem_singleton.mp h]
                exact hkx
            · rw [List.map_append, hLn, List.take_succ, hns]
              rfl
          · obtain ⟨q, L, rfl, rfl, hL, hLk, hLn, hq⟩ := hI
            rw [List.length_map] at hL hLn hq
            have hLl : L.length ≤ 8 := by omega
            have hL0 : L ≠ [] := fun e => by rw [e] at hL; simp at hL; omega
            obtain ⟨m, hm, hmx⟩ := max_ex (f := fun e : Str × Dat × Int × Int => e.2.2.2) hL0
            have hk : KD (d + 1) (.tup [.str "record", .lst (L.map fieldD)]) (up (fend 0 (L.map (·.2))) m) m := .reco hLk hL0 hLl hm hmx (fun e he => by
              have h : e.1 ∈ L.map (·.1) := List.mem_map_of_mem he
              rw [hLn] at h
              exact hok _ (List.mem_of_mem_take h)) (by rw [hLn]; exact hnd.sublist (List.take_sublist ..))
            have hcj : costK d * ns.length ≤ costK d * 8 := Nat.mul_le_mul_left _ (by omega)
            have hq' : PL (c + costK (d + 1)) q := hq.mono (by omega)
            try simp (config := { decide := true, maxSteps := 4000000 }) only [↓Sd, Sn, fillS, tgOf, putS, stillE, kOf, outs, isiD, tyIs, tyD, ixN, BSn, BGn, Int.reduceToNat, Nat.reduceAdd, Int.reduceLT, Int.reduceLE, Int.reduceAdd, Int.reduceSub, Int.reduceMul, Int.reducePow, Nat.reduceLT, Nat.reduceLeDiff, Int.reduceNeg, Int.reduceEq, reduceCtorEq, gt_iff_lt, ge_iff_le, ne_eq]
            exact kind_1 hk0 (by omega) hk h3 (fun _ _ _ h1 h2 => hR _ _ _ _ hq' h1 h2) (fun h => hR _ _ _ _ hq' hk h) (fin0 _ (.inr hq'))
        · refine ⟨_, hp3, by omega, fun p4 r4 hp4 a4 b4 => ⟨_, hp4, by omega, fun p5 r5 hp5 a5 b5 => ⟨_, hp5, by omega, fun p6 r6 hp6 a6 b6 => ?_⟩⟩⟩
          obtain ⟨z, ez, g0, g1⟩ := many2 r4 r5 r6 6 a4 (by omega) a5 b5 a6 b6
          refine ⟨_, ez, ?_⟩
          try simp (config := { decide := true, maxSteps := 4000000 }) only [↓Sd, Sn, fillS, tgOf, putS, stillE, kOf, outs, isiD, tyIs, tyD, ixN, BSn, BGn, Int.reduceToNat, Nat.reduceAdd, Int.reduceLT, Int.reduceLE, Int.reduceAdd, Int.reduceSub, Int.reduceMul, Int.reducePow, Nat.reduceLT, Nat.reduceLeDiff, Int.reduceNeg, Int.reduceEq, reduceCtorEq, gt_iff_lt, ge_iff_le, ne_eq]
          refine ⟨by omega, by omega, ?_⟩
          refine LcP.mk (fun j acc ρ => ∃ (q : List Dat) (L : List (Dat × Int × Int)), ρ = [some (.l q), some (.d (.int ((d + 1 : Nat) : Int))), some (.d (.int most)), some (.d (.int way)), some (.d (.tup [.str "number", .int (1 + r2), .int m0])), some (.d (.tup [.str "number", .int (1 + r2), .int m0])), some (.d (.int (1 + z))), none, none] ∧ acc = L.map (·.1) ∧ L.length = j ∧ (∀ e ∈ L, KD d e.1 e.2.1 e.2.2) ∧ PL (c + 6 + costK d * j) q)
            ⟨_, [], rfl, rfl, rfl, by simp, hp6.mono (by omega)⟩ (fun j y acc ρ2 hy hI => ?_) fun acc ρ2 hI => ?_
          · obtain ⟨q, L, rfl, rfl, hL, hLk, hq⟩ := hI
            obtain ⟨hj, rfl⟩ := rng_at hy
            have hcj : costK d * (j + 1) ≤ costK d * 8 := Nat.mul_le_mul_left _ (by omega)
            have hcj2 : costK d * (j + 1) = costK d * j + costK d := Nat.mul_succ ..
            refine ⟨plain_cons (fun o e => by cases e; trivial) plain_nil, by rw [List.length_map, hL, PySem.sizeLine_eq]; omega, ?_⟩
            simp (config := { decide := true, maxSteps := 4000000 }) only [wipeE, ↓Sd, Sn, fillS, tgOf, putS, stillE, kOf, outs, isiD, tyIs, tyD, ixN, BSn, BGn, Int.reduceToNat, Nat.reduceAdd, Int.reduceLT, Int.reduceLE, Int.reduceAdd, Int.reduceSub, Int.reduceMul, Int.reducePow, Nat.reduceLT, Nat.reduceLeDiff, Int.reduceNeg, Int.reduceEq, reduceCtorEq, gt_iff_lt, ge_iff_le, ne_eq]
            refine w__law_kind d _ (by omega) hmo hq hd (by omega) (by omega) (by omega) fun p8 x r m hp8 hkx hr => ?_
            try simp (config := { decide := true, maxSteps := 4000000 }) only [↓Sd, Sn, fillS, tgOf, putS, stillE, kOf, outs, isiD, tyIs, tyD, ixN, BSn, BGn, Int.reduceToNat, Nat.reduceAdd, Int.reduceLT, Int.reduceLE, Int.reduceAdd, Int.reduceSub, Int.reduceMul, Int.reducePow, Nat.reduceLT, Nat.reduceLeDiff, Int.reduceNeg, Int.reduceEq, reduceCtorEq, gt_iff_lt, ge_iff_le, ne_eq]
            refine ⟨p8, rfl, L ++ [(x, r, m)], by rw [List.map_append]; rfl, by simp [hL], fun e he => ?_, hp8.mono (by omega)⟩
            rcases List.mem_append.mp he with h | h
            · exact hLk e h
            · rw [List.mem_singleton.mp h]
              exact hkx
          · obtain ⟨q, L, rfl, rfl, hL, hLk, hq⟩ := hI
            rw [rng_len] at hL hq
            have hL0 : L ≠ [] := fun e => by rw [e] at hL; simp at hL; omega
            obtain ⟨m, hm, hmx⟩ := max_ex (f := fun e : Dat × Int × Int => e.2.2) hL0
            obtain ⟨g, hg, hgx⟩ := max_ex (f := fun e : Dat × Int × Int => e.2.1) hL0
            have hk : KD (d + 1) (.tup [.str "choice", .lst (L.map (·.1))]) (up (up 1 m + g) m) m := .cho hLk hL0 (by omega) hm hmx hg hgx
            have hcj : costK d * (1 + z).toNat ≤ costK d * 8 := Nat.mul_le_mul_left _ (by omega)
            have hq' : PL (c + costK (d + 1)) q := hq.mono (by omega)
            try simp (config := { decide := true, maxSteps := 4000000 }) only [↓Sd, Sn, fillS, tgOf, putS, stillE, kOf, outs, isiD, tyIs, tyD, ixN, BSn, BGn, Int.reduceToNat, Nat.reduceAdd, Int.reduceLT, Int.reduceLE, Int.reduceAdd, Int.reduceSub, Int.reduceMul, Int.reducePow, Nat.reduceLT, Nat.reduceLeDiff, Int.reduceNeg, Int.reduceEq, reduceCtorEq, gt_iff_lt, ge_iff_le, ne_eq]
            exact kind_1 hk0 (by omega) hk h3 (fun _ _ _ h1 h2 => hR _ _ _ _ hq' h1 h2) (fun h => hR _ _ _ _ hq' hk h) (fin0 _ (.inr hq'))
def S_is_whole_number : DSpec := fun args R _ => ∃ x, args = [.d x] ∧ ndt x ∧ R (.d (.bl (isInt x))) []
theorem w_whole {x : Dat} {R : Slot → List Slot → Prop} {X : Value → List Slot → Prop} (hn : ndt x) (h : R (.d (.bl (isInt x))) []) : S_is_whole_number [.d x] R X := ⟨x, rfl, hn, h⟩
theorem law_is_whole_number (args : List Slot) R X (h : S_is_whole_number args R X) : args.length = 1 ∧ d_is_whole_number (kOf [] R X) (args.map some ++ List.replicate 0 none) := by
  obtain ⟨x, rfl, hn, hR⟩ := h
  refine ⟨rfl, ?_⟩
  cases x <;> first | exact hn.elim | (simp (config := { dsimp := false, maxSteps := 4000000 }) only [d_is_whole_number, nd_x, ↓FUd, ↓FTd, ↓FRd, ↓FQd, ↓FPd, ↓FId, ↓FJd, ↓FMd, ↓FLd, ↓FKd, ↓FHd, ↓FGd, FGn, ↓FSd, FSn, String.reduceBEq, String.reduceEq, beq_self_eq_true, Nat.reducePow, fillS, tgOf, putS, stillE, outs, isiD, tyIs, tyD, ixN, BSn, BGn, Int.reduceToNat, Nat.reduceAdd, Int.reduceLT, Int.reduceLE, Int.reduceAdd, Int.reduceSub, Int.reduceMul, Int.reducePow, Nat.reduceLT, Nat.reduceLeDiff, Int.reduceNeg, Int.reduceEq, reduceCtorEq, gt_iff_lt, ge_iff_le, ne_eq]; exact hR)
def S_is_whole_within : DSpec := fun args R _ => ∃ x lo hi, args = [.d x, .d (.int lo), .d (.int hi)] ∧ ndt x ∧ R (.d (.bl (isW lo hi x))) []
theorem law_is_whole_within (args : List Slot) R X (h : S_is_whole_within args R X) : args.length = 3 ∧ d_is_whole_within S_is_whole_number (kOf [] R X) (args.map some ++ List.replicate 0 none) := by
  obtain ⟨x, lo, hi, rfl, hn, hR⟩ := h
  refine ⟨rfl, ?_⟩
  simp (config := { dsimp := false, maxSteps := 4000000 }) only [d_is_whole_within, ↓FUd, ↓FTd, ↓FRd, ↓FQd, ↓FPd, ↓FId, ↓FJd, ↓FMd, ↓FLd, ↓FKd, ↓FHd, ↓FGd, FGn, ↓FSd, FSn, String.reduceBEq, String.reduceEq, beq_self_eq_true, Nat.reducePow, fillS, tgOf, putS, stillE, outs, isiD, tyIs, tyD, ixN, BSn, BGn, Int.reduceToNat, Nat.reduceAdd, Int.reduceLT, Int.reduceLE, Int.reduceAdd, Int.reduceSub, Int.reduceMul, Int.reducePow, Nat.reduceLT, Nat.reduceLeDiff, Int.reduceNeg, Int.reduceEq, reduceCtorEq, gt_iff_lt, ge_iff_le, ne_eq]
  refine w_whole hn ?_
  try simp (config := { dsimp := false, maxSteps := 4000000 }) only [↓FUd, ↓FTd, ↓FRd, ↓FQd, ↓FPd, ↓FId, ↓FJd, ↓FMd, ↓FLd, ↓FKd, ↓FHd, ↓FGd, FGn, ↓FSd, FSn, String.reduceBEq, String.reduceEq, beq_self_eq_true, Nat.reducePow, fillS, tgOf, putS, stillE, outs, isiD, tyIs, tyD, ixN, BSn, BGn, Int.reduceToNat, Nat.reduceAdd, Int.reduceLT, Int.reduceLE, Int.reduceAdd, Int.reduceSub, Int.reduceMul, Int.reducePow, Nat.reduceLT, Nat.reduceLeDiff, Int.reduceNeg, Int.reduceEq, reduceCtorEq, gt_iff_lt, ge_iff_le, ne_eq]
  cases x with
  | int i =>
    simp only [isInt, isW] at hR ⊢
    simp (config := { dsimp := false, maxSteps := 4000000 }) only [↓FUd, ↓FTd, ↓FRd, ↓FQd, ↓FPd, ↓FId, ↓FJd, ↓FMd, ↓FLd, ↓FKd, ↓FHd, ↓FGd, FGn, ↓FSd, FSn, String.reduceBEq, String.reduceEq, beq_self_eq_true, Nat.reducePow, fillS, tgOf, putS, stillE, outs, isiD, tyIs, tyD, ixN, BSn, BGn, Int.reduceToNat, Nat.reduceAdd, Int.reduceLT, Int.reduceLE, Int.reduceAdd, Int.reduceSub, Int.reduceMul, Int.reducePow, Nat.reduceLT, Nat.reduceLeDiff, Int.reduceNeg, Int.reduceEq, reduceCtorEq, gt_iff_lt, ge_iff_le, ne_eq]
    split
    · rename_i h
      rw [decide_eq_true h] at hR
      simpa using hR
    · rename_i h
      rw [decide_eq_false h] at hR
      simpa using hR
  | _ => exact hR
/-! k17: the law's values -/
theorem w_withinE {x : Dat} {lo hi : Int} {R : Slot → List Slot → Prop} {X : Value → List Slot → Prop} : S_is_whole_within [.d x, .d (.int lo), .d (.int hi)] R X = (ndt x ∧ R (.d (.bl (isW lo hi x))) []) := propext ⟨fun ⟨a, b, c, e, h⟩ => by cases e; exact h, fun h => ⟨x, lo, hi, rfl, h⟩⟩
theorem top_eq {a : Int} (h1 : 1 ≤ a) (h2 : a ≤ 8) : (1 : Int) * 2 ^ (8 * a).toNat = 256 ^ a.toNat := by
  obtain ⟨n, rfl⟩ := Int.eq_ofNat_of_zero_le (show 0 ≤ a by omega)
  rw [show (8 * (n : Int)).toNat = 8 * n by omega, Int.toNat_natCast, Int.one_mul, Int.pow_mul]
  rfl
theorem top_small {a : Int} (h1 : 1 ≤ a) (h2 : a ≤ 8) : (256 : Int) ^ a.toNat ≤ 2 ^ 64 ∧ 1 ≤ (256 : Int) ^ a.toNat := by
  rcases (by omega : a = 1 ∨ a = 2 ∨ a = 3 ∨ a = 4 ∨ a = 5 ∨ a = 6 ∨ a = 7 ∨ a = 8) with rfl | rfl | rfl | rfl | rfl | rfl | rfl | rfl <;> decide
def S__law_top : DSpec := fun args R _ => ∃ w : Int, args = [.d (.int w)] ∧ 1 ≤ w ∧ w ≤ 8 ∧ R (.d (.int (256 ^ w.toNat - 1))) []
theorem w_topE {w : Int} {R : Slot → List Slot → Prop} {X : Value → List Slot → Prop} : S__law_top [.d (.int w)] R X = (1 ≤ w ∧ w ≤ 8 ∧ R (.d (.int (256 ^ w.toNat - 1))) []) := propext ⟨fun ⟨a, e, h⟩ => by cases e; exact h, fun h => ⟨w, rfl, h⟩⟩
theorem law__law_top (args : List Slot) R X (h : S__law_top args R X) : args.length = 1 ∧ d__law_top (kOf [] R X) (args.map some ++ List.replicate 2 none) := by
  obtain ⟨w, rfl, h1, h2, hR⟩ := h
  refine ⟨rfl, ?_⟩
  simp (config := { dsimp := false, maxSteps := 4000000 }) only [d__law_top, ↓FUd, ↓FTd, ↓FRd, ↓FQd, ↓FPd, ↓FId, ↓FJd, ↓FMd, ↓FLd, ↓FKd, ↓FHd, ↓FGd, FGn, ↓FSd, FSn, String.reduceBEq, String.reduceEq, beq_self_eq_true, Nat.reducePow, fillS, tgOf, putS, stillE, outs, isiD, tyIs, tyD, ixN, BSn, BGn, Int.reduceToNat, Nat.reduceAdd, Int.reduceLT, Int.reduceLE, Int.reduceAdd, Int.reduceSub, Int.reduceMul, Int.reducePow, Nat.reduceLT, Nat.reduceLeDiff, Int.reduceNeg, Int.reduceEq, reduceCtorEq, gt_iff_lt, ge_iff_le, ne_eq]
  refine ⟨by omega, by omega, ?_⟩
  refine ForP.mk (fun i ρ => ∃ s2 : Option Slot, ρ = [some (.d (.int w)), some (.d (.int (256 ^ i))), s2]) ⟨_, rfl⟩ (fun i y ρ2 hy hI => ?_) fun ρ2 hI => ?_
  · obtain ⟨s2, rfl⟩ := hI
    have e : (256 : Int) * 256 ^ i = 256 ^ (i + 1) := by rw [Int.pow_succ, Int.mul_comm]
    simp (config := { dsimp := false, maxSteps := 4000000 }) only [e, ↓FUd, ↓FTd, ↓FRd, ↓FQd, ↓FPd, ↓FId, ↓FJd, ↓FMd, ↓FLd, ↓FKd, ↓FHd, ↓FGd, FGn, ↓FSd, FSn, String.reduceBEq, String.reduceEq, beq_self_eq_true, Nat.reducePow, fillS, tgOf, putS, stillE, outs, isiD, tyIs, tyD, ixN, BSn, BGn, Int.reduceToNat, Nat.reduceAdd, Int.reduceLT, Int.reduceLE, Int.reduceAdd, Int.reduceSub, Int.reduceMul, Int.reducePow, Nat.reduceLT, Nat.reduceLeDiff, Int.reduceNeg, Int.reduceEq, reduceCtorEq, gt_iff_lt, ge_iff_le, ne_eq]
    exact mul64 (by decide) (by decide)
  · obtain ⟨s2, rfl⟩ := hI
    rw [rng_len]
    try simp (config := { dsimp := false, maxSteps := 4000000 }) only [↓FUd, ↓FTd, ↓FRd, ↓FQd, ↓FPd, ↓FId, ↓FJd, ↓FMd, ↓FLd, ↓FKd, ↓FHd, ↓FGd, FGn, ↓FSd, FSn, String.reduceBEq, String.reduceEq, beq_self_eq_true, Nat.reducePow, fillS, tgOf, putS, stillE, outs, isiD, tyIs, tyD, ixN, BSn, BGn, Int.reduceToNat, Nat.reduceAdd, Int.reduceLT, Int.reduceLE, Int.reduceAdd, Int.reduceSub, Int.reduceMul, Int.reducePow, Nat.reduceLT, Nat.reduceLeDiff, Int.reduceNeg, Int.reduceEq, reduceCtorEq, gt_iff_lt, ge_iff_le, ne_eq]
    exact hR
def cV : Nat → Nat
  | 0 => 0
  | n + 1 => 5 + 20 * cV n
def S__law_value (n : Nat) : DSpec := fun args R _ => ∃ (p : List Dat) (x : Dat) (r m : Int) (d c : Nat), args = [.l p, .d x] ∧ PL c p ∧ KD d x r m ∧ d ≤ n ∧ c + cV d < 1000000000 ∧ ∀ p' s v bs, PL (c + cV d) p' → Slot.toD s = some v → BV d x r m v bs → R s [.l p']
theorem w_valE {n : Nat} {p : List Dat} {x : Dat} {R : Slot → List Slot → Prop} {X : Value → List Slot → Prop} : S__law_value n [.l p, .d x] R X = ∃ (r m : Int) (d c : Nat), PL c p ∧ KD d x r m ∧ d ≤ n ∧ c + cV d < 1000000000 ∧ ∀ p' s v bs, PL (c + cV d) p' → Slot.toD s = some v → BV d x r m v bs → R s [.l p'] := propext ⟨fun ⟨p', x', r, m, d, c, e, h⟩ => by cases e; exact ⟨r, m, d, c, h⟩, fun ⟨r, m, d, c, h⟩ => ⟨p, x, r, m, d, c, rfl, h⟩⟩
def VF.kq (e : VF) : Str × Dat × Int × Int := (e.name, e.kind, e.r, e.m)
theorem law__law_value (n : Nat) (args : List Slot) R X (h : S__law_value (n + 1) args R X) : args.length = 2 ∧ d__law_value S_take S__law_top (S__law_value n) (kOf [0] R X) (args.map some ++ List.replicate 5 none) := by
  obtain ⟨p, x, r, m, d, c, rfl, hp, hk, hd, hc, hR⟩ := h
  refine ⟨rfl, ?_⟩
  cases hk with
  | @num n2 a m h1 h2 h3 =>
    have ht := top_small h1 h2
    have hcd : cV (n2 + 1) = 5 + 20 * cV n2 := rfl
    simp (config := { dsimp := false, maxSteps := 4000000 }) only [d__law_value, ↓w_topE, ↓FUd, ↓FTd, ↓FRd, ↓FQd, ↓FPd, ↓FId, ↓FJd, ↓FMd, ↓FLd, ↓FKd, ↓FHd, ↓FGd, FGn, ↓FSd, FSn, String.reduceBEq, String.reduceEq, beq_self_eq_true, Nat.reducePow, fillS, tgOf, putS, stillE, outs, isiD, tyIs, tyD, ixN, BSn, BGn, Int.reduceToNat, Nat.reduceAdd, Int.reduceLT, Int.reduceLE, Int.reduceAdd, Int.reduceSub, Int.reduceMul, Int.reducePow, Nat.reduceLT, Nat.reduceLeDiff, Int.reduceNeg, Int.reduceEq, reduceCtorEq, gt_iff_lt, ge_iff_le, ne_eq]
    refine ⟨h1, h2, _, hp, by omega, by omega, fun p1 r1 hp1 a1 b1 => ⟨_, hp1, by omega, by omega, by omega, fun p2 r2 hp2 a2 b2 => ⟨_, hp2, by omega, by omega, fun p3 r3 hp3 a3 b3 => at_any a3 (by simpa using b3) fun z hz => ?_⟩⟩⟩
    have hz : ∃ v : Int, z = .int v ∧ 0 ≤ v ∧ v < 256 ^ r.toNat := by
      simp only [List.mem_cons, List.not_mem_nil, or_false] at hz
      rcases hz with rfl | rfl | rfl | rfl
      · exact ⟨_, rfl, by omega, by omega⟩
      · exact ⟨_, rfl, by omega, by omega⟩
      · refine ⟨_, rfl, a1, ?_⟩
        have : (256 : Int) ≤ 256 ^ r.toNat := by
          rcases (by omega : r = 1 ∨ r = 2 ∨ r = 3 ∨ r = 4 ∨ r = 5 ∨ r = 6 ∨ r = 7 ∨ r = 8) with rfl | rfl | rfl | rfl | rfl | rfl | rfl | rfl <;> decide
        omega
      · exact ⟨_, rfl, a2, by omega⟩
    obtain ⟨v, rfl, hv0, hv1⟩ := hz
    exact hR _ _ _ _ (hp3.mono (by omega)) rfl (.num h1 h2 h3 hv0 hv1)
  | @row n2 x r m cc hk h1 h2 =>
    have hcd : cV (n2 + 1) = 5 + 20 * cV n2 := rfl
    simp (config := { dsimp := false, maxSteps := 4000000 }) only [d__law_value, ↓FUd, ↓FTd, ↓FRd, ↓FQd, ↓FPd, ↓FId, ↓FJd, ↓FMd, ↓FLd, ↓FKd, ↓FHd, ↓FGd, FGn, ↓FSd, FSn, String.reduceBEq, String.reduceEq, beq_self_eq_true, Nat.reducePow, fillS, tgOf, putS, stillE, outs, isiD, tyIs, tyD, ixN, BSn, BGn, Int.reduceToNat, Nat.reduceAdd, Int.reduceLT, Int.reduceLE, Int.reduceAdd, Int.reduceSub, Int.reduceMul, Int.reducePow, Nat.reduceLT, Nat.reduceLeDiff, Int.reduceNeg, Int.reduceEq, reduceCtorEq, gt_iff_lt, ge_iff_le, ne_eq]
    refine ⟨by omega, by omega, ?_⟩
    refine LcP.mk (fun j acc ρ => ∃ (q : List Dat) (L : List (Dat × List Int)), ρ = [some (.l q), some (.d (.tup [.str "row", x, .int cc])), none, none, none, none, none] ∧ acc = L.map (·.1) ∧ L.length = j ∧ (∀ e ∈ L, BV n2 x r m e.1 e.2) ∧ PL (c + cV n2 * j) q) ⟨_, [], rfl, rfl, rfl, (fun e h => by cases h), hp.mono (by omega)⟩ (fun j y acc ρ2 hy hI => ?_) fun acc ρ2 hI => ?_
    · obtain ⟨q, L, rfl, rfl, hL, hLk, hq⟩ := hI
      obtain ⟨hj, rfl⟩ := rng_at hy
      have hcj : cV n2 * (j + 1) = cV n2 * j + cV n2 := Nat.mul_succ ..
      have hcj2 : cV n2 * (j + 1) ≤ cV n2 * 20 := Nat.mul_le_mul_left _ (by omega)
      refine ⟨plain_cons (fun o e => by cases e; trivial) plain_nil, by rw [List.length_map, hL, PySem.sizeLine_eq]; omega, ?_⟩
      simp (config := { dsimp := false, maxSteps := 4000000 }) only [wipeE, ↓w_valE, ↓FUd, ↓FTd, ↓FRd, ↓FQd, ↓FPd, ↓FId, ↓FJd, ↓FMd, ↓FLd, ↓FKd, ↓FHd, ↓FGd, FGn, ↓FSd, FSn, String.reduceBEq, String.reduceEq, beq_self_eq_true, Nat.reducePow, fillS, tgOf, putS, stillE, outs, isiD, tyIs, tyD, ixN, BSn, BGn, Int.reduceToNat, Nat.reduceAdd, Int.reduceLT, Int.reduceLE, Int.reduceAdd, Int.reduceSub, Int.reduceMul, Int.reducePow, Nat.reduceLT, Nat.reduceLeDiff, Int.reduceNeg, Int.reduceEq, reduceCtorEq, gt_iff_lt, ge_iff_le, ne_eq]
      refine ⟨r, m, n2, _, hq, hk, by omega, by omega, fun p' s v bs hp' hs hb => ?_⟩
      simp (config := { dsimp := false, maxSteps := 4000000 }) only [hs, ↓FUd, ↓FTd, ↓FRd, ↓FQd, ↓FPd, ↓FId, ↓FJd, ↓FMd, ↓FLd, ↓FKd, ↓FHd, ↓FGd, FGn, ↓FSd, FSn, String.reduceBEq, String.reduceEq, beq_self_eq_true, Nat.reducePow, fillS, tgOf, putS, stillE, outs, isiD, tyIs, tyD, ixN, BSn, BGn, Int.reduceToNat, Nat.reduceAdd, Int.reduceLT, Int.reduceLE, Int.reduceAdd, Int.reduceSub, Int.reduceMul, Int.reducePow, Nat.reduceLT, Nat.reduceLeDiff, Int.reduceNeg, Int.reduceEq, reduceCtorEq, gt_iff_lt, ge_iff_le, ne_eq]
      refine ⟨p', rfl, L ++ [(v, bs)], by rw [List.map_append]; rfl, by simp [hL], fun e he => ?_, hp'.mono (by omega)⟩
      rcases List.mem_append.mp he with h | h
      · exact hLk e h
      · rw [List.mem_singleton.mp h]; exact hb
    · obtain ⟨q, L, rfl, rfl, hL, hLk, hq⟩ := hI
      rw [rng_len] at hL hq
      have hcj2 : cV n2 * cc.toNat ≤ cV n2 * 20 := Nat.mul_le_mul_left _ (by omega)
      exact hR q _ _ _ (hq.mono (by omega)) rfl (.row hk hLk (by omega) h1 h2)
  | @reco n2 L m hkL hn hl hm hx hN hD =>
    have hcd : cV (n2 + 1) = 5 + 20 * cV n2 := rfl
    simp (config := { dsimp := false, maxSteps := 4000000 }) only [d__law_value, ↓FUd, ↓FTd, ↓FRd, ↓FQd, ↓FPd, ↓FId, ↓FJd, ↓FMd, ↓FLd, ↓FKd, ↓FHd, ↓FGd, FGn, ↓FSd, FSn, String.reduceBEq, String.reduceEq, beq_self_eq_true, Nat.reducePow, fillS, tgOf, putS, stillE, outs, isiD, tyIs, tyD, ixN, BSn, BGn, Int.reduceToNat, Nat.reduceAdd, Int.reduceLT, Int.reduceLE, Int.reduceAdd, Int.reduceSub, Int.reduceMul, Int.reducePow, Nat.reduceLT, Nat.reduceLeDiff, Int.reduceNeg, Int.reduceEq, reduceCtorEq, gt_iff_lt, ge_iff_le, ne_eq]
    refine ForP.mk (fun j ρ => ∃ (q : List Dat) (V : List VF) (s5 s6 : Option Slot), ρ = [some (.l q), some (.d (.tup [.str "record", .lst (L.map fieldD)])), none, none, some (.k (V.map VF.kv)), s5, s6] ∧ V.map VF.kq = L.take j ∧ (∀ e ∈ V, BV n2 e.kind e.r e.m e.val e.bs) ∧ PL (c + cV n2 * j) q) ⟨_, [], _, _, rfl, rfl, (fun e h => by cases h), hp.mono (by omega)⟩ (fun j y ρ2 hy hI => ?_) fun ρ2 hI => ?_
    · obtain ⟨q, V, s5, s6, rfl, hV, hVk, hq⟩ := hI
      obtain ⟨e, he, rfl⟩ := map_at hy
      have hj := take_lt he
      have hem := List.mem_of_getElem? he
      have hcj : cV n2 * (j + 1) = cV n2 * j + cV n2 := Nat.mul_succ ..
      have hcj2 : cV n2 * (j + 1) ≤ cV n2 * 20 := Nat.mul_le_mul_left _ (by omega)
      have hVl : V.length = j := by
        have := congrArg List.length hV
        rw [List.length_map, List.length_take] at this
        omega
      simp (config := { dsimp := false, maxSteps := 4000000 }) only [w_field, ↓w_valE, ↓FUd, ↓FTd, ↓FRd, ↓FQd, ↓FPd, ↓FId, ↓FJd, ↓FMd, ↓FLd, ↓FKd, ↓FHd, ↓FGd, FGn, ↓FSd, FSn, String.reduceBEq, String.reduceEq, beq_self_eq_true, Nat.reducePow, fillS, tgOf, putS, stillE, outs, isiD, tyIs, tyD, ixN, BSn, BGn, Int.reduceToNat, Nat.reduceAdd, Int.reduceLT, Int.reduceLE, Int.reduceAdd, Int.reduceSub, Int.reduceMul, Int.reducePow, Nat.reduceLT, Nat.reduceLeDiff, Int.reduceNeg, Int.reduceEq, reduceCtorEq, gt_iff_lt, ge_iff_le, ne_eq]
      refine ⟨e.2.2.1, e.2.2.2, n2, _, hq, hkL e hem, by omega, by omega, fun p' s v bs hp' hs hb => ?_⟩
      have hnew : (Sum.inr e.1 : Key) ∉ (V.map VF.kv).map (·.1) := by
        rw [List.map_map]
        intro c
        obtain ⟨f, hf, e2⟩ := List.mem_map.mp c
        have e2 : (Sum.inr f.name : Key) = Sum.inr e.1 := e2
        have e3 : e.1 ∈ (L.take j).map (·.1) := by
          rw [← hV, List.map_map]
          have := Sum.inr.inj e2
          rw [← this]
          exact List.mem_map_of_mem (f := (fun e : Str × Dat × Int × Int => e.1) ∘ VF.kq) hf
        have nd := hD
        have e4 : L = L.take j ++ e :: L.drop (j + 1) := by
          rw [List.getElem?_eq_getElem hj] at he
          cases he
          rw [List.getElem_cons_drop]
          exact (List.take_append_drop j L).symm
        rw [e4, List.map_append, List.nodup_append] at nd
        exact nd.2.2 _ e3 e.1 (by simp) rfl
      have hput : putD (V.map VF.kv) (Sum.inr e.1) v = (V ++ [(⟨e.1, e.2.1, e.2.2.1, e.2.2.2, v, bs⟩ : VF)]).map VF.kv := by
        rw [putD_new hnew, List.map_append]
        rfl
      simp (config := { dsimp := false, maxSteps := 4000000 }) only [hs, hput, List.length_map, hVl, ↓FUd, ↓FTd, ↓FRd, ↓FQd, ↓FPd, ↓FId, ↓FJd, ↓FMd, ↓FLd, ↓FKd, ↓FHd, ↓FGd, FGn, ↓FSd, FSn, String.reduceBEq, String.reduceEq, beq_self_eq_true, Nat.reducePow, fillS, tgOf, putS, stillE, outs, isiD, tyIs, tyD, ixN, BSn, BGn, Int.reduceToNat, Nat.reduceAdd, Int.reduceLT, Int.reduceLE, Int.reduceAdd, Int.reduceSub, Int.reduceMul, Int.reducePow, Nat.reduceLT, Nat.reduceLeDiff, Int.reduceNeg, Int.reduceEq, reduceCtorEq, gt_iff_lt, ge_iff_le, ne_eq]
      refine ⟨by omega, p', V ++ [(⟨e.1, e.2.1, e.2.2.1, e.2.2.2, v, bs⟩ : VF)], _, _, ⟨rfl, rfl, rfl, rfl⟩, ?_, fun f hf => ?_, hp'.mono (by omega)⟩
      · rw [List.map_append, hV, take_snoc he]
        rfl
      · rcases List.mem_append.mp hf with h | h
        · exact hVk f h
        · rw [List.mem_singleton.mp h]; exact hb
    · obtain ⟨q, V, s5, s6, rfl, hV, hVk, hq⟩ := hI
      rw [List.length_map] at hV hq
      rw [List.take_length] at hV
      subst hV
      have hcj2 : cV n2 * (V.map VF.kq).length ≤ cV n2 * 20 := Nat.mul_le_mul_left _ (by omega)
      try simp (config := { dsimp := false, maxSteps := 4000000 }) only [↓FUd, ↓FTd, ↓FRd, ↓FQd, ↓FPd, ↓FId, ↓FJd, ↓FMd, ↓FLd, ↓FKd, ↓FHd, ↓FGd, FGn, ↓FSd, FSn, String.reduceBEq, String.reduceEq, beq_self_eq_true, Nat.reducePow, fillS, tgOf, putS, stillE, outs, isiD, tyIs, tyD, ixN, BSn, BGn, Int.reduceToNat, Nat.reduceAdd, Int.reduceLT, Int.reduceLE, Int.reduceAdd, Int.reduceSub, Int.reduceMul, Int.reducePow, Nat.reduceLT, Nat.reduceLeDiff, Int.reduceNeg, Int.reduceEq, reduceCtorEq, gt_iff_lt, ge_iff_le, ne_eq]
      have hbv := BV.reco (n := n2) (M := m) (L := V) (kvs := V.map VF.kv) hVk (by simpa using hn) (by simpa using hl) (by
        obtain ⟨e, he, h⟩ := hm
        obtain ⟨f, hf, rfl⟩ := List.mem_map.mp he
        exact ⟨f, hf, h⟩) (fun e he => hx _ (List.mem_map_of_mem he)) (fun e he => hN _ (List.mem_map_of_mem he)) (by rw [List.map_map] at hD; exact hD) (List.Perm.refl _)
      refine hR q (.k (V.map VF.kv)) _ (padTo (up (fend 0 (V.map VF.tr)) m) (layP [] (V.map VF.pt))) (hq.mono (by omega)) rfl ?_
      rw [List.map_map, List.map_map]
      exact hbv
  | @cho n2 L m g hkL hn hl hm hx hg hgx =>
    have hcd : cV (n2 + 1) = 5 + 20 * cV n2 := rfl
    have hl0 : 0 < L.length := List.length_pos_iff.mpr hn
    simp (config := { dsimp := false, maxSteps := 4000000 }) only [d__law_value, List.length_map, ↓w_valE, ↓FUd, ↓FTd, ↓FRd, ↓FQd, ↓FPd, ↓FId, ↓FJd, ↓FMd, ↓FLd, ↓FKd, ↓FHd, ↓FGd, FGn, ↓FSd, FSn, String.reduceBEq, String.reduceEq, beq_self_eq_true, Nat.reducePow, fillS, tgOf, putS, stillE, outs, isiD, tyIs, tyD, ixN, BSn, BGn, Int.reduceToNat, Nat.reduceAdd, Int.reduceLT, Int.reduceLE, Int.reduceAdd, Int.reduceSub, Int.reduceMul, Int.reducePow, Nat.reduceLT, Nat.reduceLeDiff, Int.reduceNeg, Int.reduceEq, reduceCtorEq, gt_iff_lt, ge_iff_le, ne_eq]
    refine ⟨_, hp, by omega, by omega, by omega, fun p1 r1 hp1 a1 b1 => ?_⟩
    obtain ⟨⟨y, ry, my⟩, e1, e2⟩ := at_get a1 b1
    refine ⟨_, e1, ry, my, n2, _, hp1, hkL _ (List.mem_of_getElem? e2), by omega, by omega, fun p' s v bs hp' hs hb => ?_⟩
    simp (config := { dsimp := false, maxSteps := 4000000 }) only [hs, ↓FUd, ↓FTd, ↓FRd, ↓FQd, ↓FPd, ↓FId, ↓FJd, ↓FMd, ↓FLd, ↓FKd, ↓FHd, ↓FGd, FGn, ↓FSd, FSn, String.reduceBEq, String.reduceEq, beq_self_eq_true, Nat.reducePow, fillS, tgOf, putS, stillE, outs, isiD, tyIs, tyD, ixN, BSn, BGn, Int.reduceToNat, Nat.reduceAdd, Int.reduceLT, Int.reduceLE, Int.reduceAdd, Int.reduceSub, Int.reduceMul, Int.reducePow, Nat.reduceLT, Nat.reduceLeDiff, Int.reduceNeg, Int.reduceEq, reduceCtorEq, gt_iff_lt, ge_iff_le, ne_eq]
    obtain ⟨k, rfl⟩ := Int.eq_ofNat_of_zero_le a1
    have e2 : L[k]? = some (y, ry, my) := by simpa using e2
    have hbv := BV.cho hkL hn hl hm hx hg hgx e2 hb
    exact hR p' _ _ _ (hp'.mono (by omega)) rfl hbv
theorem f_listXk {kvs : List (Key × Dat)} {T : List Dat → Prop} : fListL [.dk kvs] T = T (kvs.map fun kv => kD kv.1) := by
  show T _ = T _
  congr 1
/-! k17: copies, alike things, over dicts with keys of any kind -/
def S__law_copy (hx : HX) (n : Nat) : DSpec := fun args R _ => ∃ x, args = [.d x] ∧ PgX hx n x ∧ ∀ s : Slot, s.toD = some x → R s []
theorem w__law_copy {hx : HX} {n : Nat} {x : Dat} {R : Slot → List Slot → Prop} {X : Value → List Slot → Prop} (hp : PgX hx n x) (h : ∀ s : Slot, s.toD = some x → R s []) : S__law_copy hx n [.d x] R X := ⟨x, rfl, hp, h⟩
theorem take_newX {kvs : List (KX × Dat)} (nd : (kvs.map (·.1.nk)).Nodup) {i : Nat} {kv : KX × Dat} (h : kvs[i]? = some kv) : kv.1.nk ∉ (kvs.take i).map (·.1.nk) := by
  have hi := take_lt h
  have e : kvs = kvs.take i ++ kv :: kvs.drop (i + 1) := by
    rw [List.getElem?_eq_getElem hi] at h
    cases h
    rw [List.getElem_cons_drop, List.take_append_drop]
  rw [e, List.map_append, List.nodup_append] at nd
  intro hm
  exact nd.2.2 _ hm _ (by simp) rfl
theorem law__law_copy (hx : HX) (n : Nat) (args : List Slot) R X (h : S__law_copy hx (n + 1) args R X) : args.length = 1 ∧ d__law_copy (S__law_copy hx n) hx (kOf [] R X) (args.map some ++ List.replicate 3 none) := by
  obtain ⟨x, rfl, hp, hR⟩ := h
  refine ⟨rfl, ?_⟩
  cases hp with
  | non => simp (config := { dsimp := false, maxSteps := 4000000 }) only [d__law_copy, ↓FUd, ↓FTd, ↓FRd, ↓FQd, ↓FPd, ↓FId, ↓FJd, ↓FMd, ↓FLd, ↓FKd, ↓FHd, ↓FGd, FGn, ↓FSd, FSn, String.reduceBEq, String.reduceEq, beq_self_eq_true, Nat.reducePow, fillS, tgOf, putS, stillE, outs, isiD, tyIs, tyD, ixN, BSn, BGn, Int.reduceToNat, Nat.reduceAdd, Int.reduceLT, Int.reduceLE, Int.reduceAdd, Int.reduceSub, Int.reduceMul, Int.reducePow, Nat.reduceLT, Nat.reduceLeDiff, Int.reduceNeg, Int.reduceEq, reduceCtorEq, gt_iff_lt, ge_iff_le, ne_eq]; exact hR _ rfl
  | bl b => simp (config := { dsimp := false, maxSteps := 4000000 }) only [d__law_copy, ↓FUd, ↓FTd, ↓FRd, ↓FQd, ↓FPd, ↓FId, ↓FJd, ↓FMd, ↓FLd, ↓FKd, ↓FHd, ↓FGd, FGn, ↓FSd, FSn, String.reduceBEq, String.reduceEq, beq_self_eq_true, Nat.reducePow, fillS, tgOf, putS, stillE, outs, isiD, tyIs, tyD, ixN, BSn, BGn, Int.reduceToNat, Nat.reduceAdd, Int.reduceLT, Int.reduceLE, Int.reduceAdd, Int.reduceSub, Int.reduceMul, Int.reducePow, Nat.reduceLT, Nat.reduceLeDiff, Int.reduceNeg, Int.reduceEq, reduceCtorEq, gt_iff_lt, ge_iff_le, ne_eq]; exact hR _ rfl
  | int i => simp (config := { dsimp := false, maxSteps := 4000000 }) only [d__law_copy, ↓FUd, ↓FTd, ↓FRd, ↓FQd, ↓FPd, ↓FId, ↓FJd, ↓FMd, ↓FLd, ↓FKd, ↓FHd, ↓FGd, FGn, ↓FSd, FSn, String.reduceBEq, String.reduceEq, beq_self_eq_true, Nat.reducePow, fillS, tgOf, putS, stillE, outs, isiD, tyIs, tyD, ixN, BSn, BGn, Int.reduceToNat, Nat.reduceAdd, Int.reduceLT, Int.reduceLE, Int.reduceAdd, Int.reduceSub, Int.reduceMul, Int.reducePow, Nat.reduceLT, Nat.reduceLeDiff, Int.reduceNeg, Int.reduceEq, reduceCtorEq, gt_iff_lt, ge_iff_le, ne_eq]; exact hR _ rfl
  | str i => simp (config := { dsimp := false, maxSteps := 4000000 }) only [d__law_copy, ↓FUd, ↓FTd, ↓FRd, ↓FQd, ↓FPd, ↓FId, ↓FJd, ↓FMd, ↓FLd, ↓FKd, ↓FHd, ↓FGd, FGn, ↓FSd, FSn, String.reduceBEq, String.reduceEq, beq_self_eq_true, Nat.reducePow, fillS, tgOf, putS, stillE, outs, isiD, tyIs, tyD, ixN, BSn, BGn, Int.reduceToNat, Nat.reduceAdd, Int.reduceLT, Int.reduceLE, Int.reduceAdd, Int.reduceSub, Int.reduceMul, Int.reducePow, Nat.reduceLT, Nat.reduceLeDiff, Int.reduceNeg, Int.reduceEq, reduceCtorEq, gt_iff_lt, ge_iff_le, ne_eq]; exact hR _ rfl
  | @lst _ xs hx hl =>
    simp (config := { dsimp := false, maxSteps := 4000000 }) only [d__law_copy, ↓FUd, ↓FTd, ↓FRd, ↓FQd, ↓FPd, ↓FId, ↓FJd, ↓FMd, ↓FLd, ↓FKd, ↓FHd, ↓FGd, FGn, ↓FSd, FSn, String.reduceBEq, String.reduceEq, beq_self_eq_true, Nat.reducePow, fillS, tgOf, putS, stillE, outs, isiD, tyIs, tyD, ixN, BSn, BGn, Int.reduceToNat, Nat.reduceAdd, Int.reduceLT, Int.reduceLE, Int.reduceAdd, Int.reduceSub, Int.reduceMul, Int.reducePow, Nat.reduceLT, Nat.reduceLeDiff, Int.reduceNeg, Int.reduceEq, reduceCtorEq, gt_iff_lt, ge_iff_le, ne_eq]
    refine LcP.map (fun y => y) (plain_cons (fun o e => by cases e; trivial) (plain_nil)) (Nat.le_trans hl (by decide)) (fun e he T hT => ?_) ?_
    · simp (config := { dsimp := false, maxSteps := 4000000 }) only [wipeE, ↓FUd, ↓FTd, ↓FRd, ↓FQd, ↓FPd, ↓FId, ↓FJd, ↓FMd, ↓FLd, ↓FKd, ↓FHd, ↓FGd, FGn, ↓FSd, FSn, String.reduceBEq, String.reduceEq, beq_self_eq_true, Nat.reducePow, fillS, tgOf, putS, stillE, outs, isiD, tyIs, tyD, ixN, BSn, BGn, Int.reduceToNat, Nat.reduceAdd, Int.reduceLT, Int.reduceLE, Int.reduceAdd, Int.reduceSub, Int.reduceMul, Int.reducePow, Nat.reduceLT, Nat.reduceLeDiff, Int.reduceNeg, Int.reduceEq, reduceCtorEq, gt_iff_lt, ge_iff_le, ne_eq]
      refine w__law_copy (hx e he) fun s hs => ?_
      simp (config := { dsimp := false, maxSteps := 4000000 }) only [hs, ↓FUd, ↓FTd, ↓FRd, ↓FQd, ↓FPd, ↓FId, ↓FJd, ↓FMd, ↓FLd, ↓FKd, ↓FHd, ↓FGd, FGn, ↓FSd, FSn, String.reduceBEq, String.reduceEq, beq_self_eq_true, Nat.reducePow, fillS, tgOf, putS, stillE, outs, isiD, tyIs, tyD, ixN, BSn, BGn, Int.reduceToNat, Nat.reduceAdd, Int.reduceLT, Int.reduceLE, Int.reduceAdd, Int.reduceSub, Int.reduceMul, Int.reducePow, Nat.reduceLT, Nat.reduceLeDiff, Int.reduceNeg, Int.reduceEq, reduceCtorEq, gt_iff_lt, ge_iff_le, ne_eq]
      exact hT _ rfl
    · rw [List.map_id']
      exact hR _ rfl
  | @tup _ xs hx hl =>
    simp (config := { dsimp := false, maxSteps := 4000000 }) only [d__law_copy, ↓FUd, ↓FTd, ↓FRd, ↓FQd, ↓FPd, ↓FId, ↓FJd, ↓FMd, ↓FLd, ↓FKd, ↓FHd, ↓FGd, FGn, ↓FSd, FSn, String.reduceBEq, String.reduceEq, beq_self_eq_true, Nat.reducePow, fillS, tgOf, putS, stillE, outs, isiD, tyIs, tyD, ixN, BSn, BGn, Int.reduceToNat, Nat.reduceAdd, Int.reduceLT, Int.reduceLE, Int.reduceAdd, Int.reduceSub, Int.reduceMul, Int.reducePow, Nat.reduceLT, Nat.reduceLeDiff, Int.reduceNeg, Int.reduceEq, reduceCtorEq, gt_iff_lt, ge_iff_le, ne_eq]
    refine LcP.map (fun y => y) (plain_cons (fun o e => by cases e; trivial) (plain_nil)) (Nat.le_trans hl (by decide)) (fun e he T hT => ?_) ?_
    · simp (config := { dsimp := false, maxSteps := 4000000 }) only [wipeE, ↓FUd, ↓FTd, ↓FRd, ↓FQd, ↓FPd, ↓FId, ↓FJd, ↓FMd, ↓FLd, ↓FKd, ↓FHd, ↓FGd, FGn, ↓FSd, FSn, String.reduceBEq, String.reduceEq, beq_self_eq_true, Nat.reducePow, fillS, tgOf, putS, stillE, outs, isiD, tyIs, tyD, ixN, BSn, BGn, Int.reduceToNat, Nat.reduceAdd, Int.reduceLT, Int.reduceLE, Int.reduceAdd, Int.reduceSub, Int.reduceMul, Int.reducePow, Nat.reduceLT, Nat.reduceLeDiff, Int.reduceNeg, Int.reduceEq, reduceCtorEq, gt_iff_lt, ge_iff_le, ne_eq]
      refine w__law_copy (hx e he) fun s hs => ?_
      simp (config := { dsimp := false, maxSteps := 4000000 }) only [hs, ↓FUd, ↓FTd, ↓FRd, ↓FQd, ↓FPd, ↓FId, ↓FJd, ↓FMd, ↓FLd, ↓FKd, ↓FHd, ↓FGd, FGn, ↓FSd, FSn, String.reduceBEq, String.reduceEq, beq_self_eq_true, Nat.reducePow, fillS, tgOf, putS, stillE, outs, isiD, tyIs, tyD, ixN, BSn, BGn, Int.reduceToNat, Nat.reduceAdd, Int.reduceLT, Int.reduceLE, Int.reduceAdd, Int.reduceSub, Int.reduceMul, Int.reducePow, Nat.reduceLT, Nat.reduceLeDiff, Int.reduceNeg, Int.reduceEq, reduceCtorEq, gt_iff_lt, ge_iff_le, ne_eq]
      exact hT _ rfl
    · rw [List.map_id']
      try simp (config := { dsimp := false, maxSteps := 4000000 }) only [↓FUd, ↓FTd, ↓FRd, ↓FQd, ↓FPd, ↓FId, ↓FJd, ↓FMd, ↓FLd, ↓FKd, ↓FHd, ↓FGd, FGn, ↓FSd, FSn, String.reduceBEq, String.reduceEq, beq_self_eq_true, Nat.reducePow, fillS, tgOf, putS, stillE, outs, isiD, tyIs, tyD, ixN, BSn, BGn, Int.reduceToNat, Nat.reduceAdd, Int.reduceLT, Int.reduceLE, Int.reduceAdd, Int.reduceSub, Int.reduceMul, Int.reducePow, Nat.reduceLT, Nat.reduceLeDiff, Int.reduceNeg, Int.reduceEq, reduceCtorEq, gt_iff_lt, ge_iff_le, ne_eq]
      exact hR _ rfl
  | @dk _ kvs hx2 hl nd =>
    simp (config := { dsimp := false, maxSteps := 4000000 }) only [d__law_copy, ↓FUd, ↓FTd, ↓FRd, ↓FQd, ↓FPd, ↓FId, ↓FJd, ↓FMd, ↓FLd, ↓FKd, ↓FHd, ↓FGd, FGn, ↓FSd, FSn, String.reduceBEq, String.reduceEq, beq_self_eq_true, Nat.reducePow, fillS, tgOf, putS, stillE, outs, isiD, tyIs, tyD, ixN, BSn, BGn, Int.reduceToNat, Nat.reduceAdd, Int.reduceLT, Int.reduceLE, Int.reduceAdd, Int.reduceSub, Int.reduceMul, Int.reducePow, Nat.reduceLT, Nat.reduceLeDiff, Int.reduceNeg, Int.reduceEq, reduceCtorEq, gt_iff_lt, ge_iff_le, ne_eq]
    refine ForP.maps (L := kvs) (a := fun kv => kD kv.1) (fun i ρ => ∃ s2 : Option Slot, ρ = [some (.d (.dk kvs)), some (.k (kvs.take i)), s2, none]) ⟨_, rfl⟩ (fun i kv ρ2 hi hI => ?_) fun ρ2 hI => ?_
    · obtain ⟨s2, rfl⟩ := hI
      have hm := List.mem_of_getElem? hi
      have hv := valD_at nd hm
      simp (config := { dsimp := false, maxSteps := 4000000 }) only [↓f_inX, ↓f_itXd, ↓f_itXx, ↓f_itXl, ↓f_itXt, f_lenXx, f_listXx, ↓f_dSetX, itrD_x, td_x, nd_x, kvX_k, kvX_x, keyX_i, keyX_s, keyX_kD, valX_k, hv, ↓FUd, ↓FTd, ↓FRd, ↓FQd, ↓FPd, ↓FId, ↓FJd, ↓FMd, ↓FLd, ↓FKd, ↓FHd, ↓FGd, FGn, ↓FSd, FSn, String.reduceBEq, String.reduceEq, beq_self_eq_true, Nat.reducePow, fillS, tgOf, putS, stillE, outs, isiD, tyIs, tyD, ixN, BSn, BGn, Int.reduceToNat, Nat.reduceAdd, Int.reduceLT, Int.reduceLE, Int.reduceAdd, Int.reduceSub, Int.reduceMul, Int.reducePow, Nat.reduceLT, Nat.reduceLeDiff, Int.reduceNeg, Int.reduceEq, reduceCtorEq, gt_iff_lt, ge_iff_le, ne_eq]
      refine w__law_copy (hx2 kv hm) fun s hs => ?_
      have hput : putD (kvs.take i) kv.1 kv.2 = kvs.take (i + 1) := by rw [putD_new (take_new nd hi), take_snoc hi]
      simp (config := { dsimp := false, maxSteps := 4000000 }) only [hs, ↓f_inX, ↓f_itXd, ↓f_itXx, ↓f_itXl, ↓f_itXt, f_lenXx, f_listXx, ↓f_dSetX, itrD_x, td_x, nd_x, kvX_k, kvX_x, keyX_i, keyX_s, keyX_kD, stX_k, hput, slLen, ↓FUd, ↓FTd, ↓FRd, ↓FQd, ↓FPd, ↓FId, ↓FJd, ↓FMd, ↓FLd, ↓FKd, ↓FHd, ↓FGd, FGn, ↓FSd, FSn, String.reduceBEq, String.reduceEq, beq_self_eq_true, Nat.reducePow, fillS, tgOf, putS, stillE, outs, isiD, tyIs, tyD, ixN, BSn, BGn, Int.reduceToNat, Nat.reduceAdd, Int.reduceLT, Int.reduceLE, Int.reduceAdd, Int.reduceSub, Int.reduceMul, Int.reducePow, Nat.reduceLT, Nat.reduceLeDiff, Int.reduceNeg, Int.reduceEq, reduceCtorEq, gt_iff_lt, ge_iff_le, ne_eq]
      rw [List.length_take]
      omega
    · obtain ⟨s2, rfl⟩ := hI
      rw [List.take_length]
      try simp (config := { dsimp := false, maxSteps := 4000000 }) only [↓FUd, ↓FTd, ↓FRd, ↓FQd, ↓FPd, ↓FId, ↓FJd, ↓FMd, ↓FLd, ↓FKd, ↓FHd, ↓FGd, FGn, ↓FSd, FSn, String.reduceBEq, String.reduceEq, beq_self_eq_true, Nat.reducePow, fillS, tgOf, putS, stillE, outs, isiD, tyIs, tyD, ixN, BSn, BGn, Int.reduceToNat, Nat.reduceAdd, Int.reduceLT, Int.reduceLE, Int.reduceAdd, Int.reduceSub, Int.reduceMul, Int.reducePow, Nat.reduceLT, Nat.reduceLeDiff, Int.reduceNeg, Int.reduceEq, reduceCtorEq, gt_iff_lt, ge_iff_le, ne_eq]
      exact hR _ rfl
  | @dx _ kvs hx2 hl nd ho =>
    simp (config := { dsimp := false, maxSteps := 4000000 }) only [d__law_copy, ↓f_inX, ↓f_itXd, ↓f_itXx, ↓f_itXl, ↓f_itXt, f_lenXx, f_listXx, ↓f_dSetX, itrD_x, td_x, nd_x, kvX_k, kvX_x, keyX_i, keyX_s, ↓FUd, ↓FTd, ↓FRd, ↓FQd, ↓FPd, ↓FId, ↓FJd, ↓FMd, ↓FLd, ↓FKd, ↓FHd, ↓FGd, FGn, ↓FSd, FSn, String.reduceBEq, String.reduceEq, beq_self_eq_true, Nat.reducePow, fillS, tgOf, putS, stillE, outs, isiD, tyIs, tyD, ixN, BSn, BGn, Int.reduceToNat, Nat.reduceAdd, Int.reduceLT, Int.reduceLE, Int.reduceAdd, Int.reduceSub, Int.reduceMul, Int.reducePow, Nat.reduceLT, Nat.reduceLeDiff, Int.reduceNeg, Int.reduceEq, reduceCtorEq, gt_iff_lt, ge_iff_le, ne_eq]
    refine ForP.maps (L := kvs) (a := fun kv => kxD kv.1) (fun i ρ => ∃ s2 : Option Slot, ρ = [some (.d (.dx hx kvs)), some (slX hx (kvs.take i)), s2, none]) ⟨_, rfl⟩ (fun i kv ρ2 hi hI => ?_) fun ρ2 hI => ?_
    · obtain ⟨s2, rfl⟩ := hI
      have hm := List.mem_of_getElem? hi
      have hv := valX_at nd hm
      simp (config := { dsimp := false, maxSteps := 4000000 }) only [↓f_inX, ↓f_itXd, ↓f_itXx, ↓f_itXl, ↓f_itXt, f_lenXx, f_listXx, ↓f_dSetX, itrD_x, td_x, nd_x, kvX_k, kvX_x, keyX_i, keyX_s, keyX_D, hv, ↓FUd, ↓FTd, ↓FRd, ↓FQd, ↓FPd, ↓FId, ↓FJd, ↓FMd, ↓FLd, ↓FKd, ↓FHd, ↓FGd, FGn, ↓FSd, FSn, String.reduceBEq, String.reduceEq, beq_self_eq_true, Nat.reducePow, fillS, tgOf, putS, stillE, outs, isiD, tyIs, tyD, ixN, BSn, BGn, Int.reduceToNat, Nat.reduceAdd, Int.reduceLT, Int.reduceLE, Int.reduceAdd, Int.reduceSub, Int.reduceMul, Int.reducePow, Nat.reduceLT, Nat.reduceLeDiff, Int.reduceNeg, Int.reduceEq, reduceCtorEq, gt_iff_lt, ge_iff_le, ne_eq]
      refine w__law_copy (hx2 kv hm) fun s hs => ?_
      have hput : stX hx (slX hx (kvs.take i)) kv.1 kv.2 = some (slX hx (kvs.take (i + 1))) := by rw [slX_put (take_newX nd hi), take_snoc hi]
      simp (config := { dsimp := false, maxSteps := 4000000 }) only [hs, ↓f_inX, ↓f_itXd, ↓f_itXx, ↓f_itXl, ↓f_itXt, f_lenXx, f_listXx, ↓f_dSetX, itrD_x, td_x, nd_x, kvX_k, kvX_x, keyX_i, keyX_s, keyX_D, hput, slX_len, ↓FUd, ↓FTd, ↓FRd, ↓FQd, ↓FPd, ↓FId, ↓FJd, ↓FMd, ↓FLd, ↓FKd, ↓FHd, ↓FGd, FGn, ↓FSd, FSn, String.reduceBEq, String.reduceEq, beq_self_eq_true, Nat.reducePow, fillS, tgOf, putS, stillE, outs, isiD, tyIs, tyD, ixN, BSn, BGn, Int.reduceToNat, Nat.reduceAdd, Int.reduceLT, Int.reduceLE, Int.reduceAdd, Int.reduceSub, Int.reduceMul, Int.reducePow, Nat.reduceLT, Nat.reduceLeDiff, Int.reduceNeg, Int.reduceEq, reduceCtorEq, gt_iff_lt, ge_iff_le, ne_eq]
      rw [List.length_take]
      omega
    · obtain ⟨s2, rfl⟩ := hI
      rw [List.take_length]
      have hs := slX_x (hx := hx) (unK_odd ho)
      simp (config := { dsimp := false, maxSteps := 4000000 }) only [hs, ↓FUd, ↓FTd, ↓FRd, ↓FQd, ↓FPd, ↓FId, ↓FJd, ↓FMd, ↓FLd, ↓FKd, ↓FHd, ↓FGd, FGn, ↓FSd, FSn, String.reduceBEq, String.reduceEq, beq_self_eq_true, Nat.reducePow, fillS, tgOf, putS, stillE, outs, isiD, tyIs, tyD, ixN, BSn, BGn, Int.reduceToNat, Nat.reduceAdd, Int.reduceLT, Int.reduceLE, Int.reduceAdd, Int.reduceSub, Int.reduceMul, Int.reducePow, Nat.reduceLT, Nat.reduceLeDiff, Int.reduceNeg, Int.reduceEq, reduceCtorEq, gt_iff_lt, ge_iff_le, ne_eq]
      exact hR _ rfl
def S__law_same (hx : HX) (n : Nat) : DSpec := fun args R _ => ∃ x, args = [.d x, .d x] ∧ PgX hx n x ∧ R (.d (.bl true)) []
theorem w__law_same {hx : HX} {n : Nat} {x : Dat} {R : Slot → List Slot → Prop} {X : Value → List Slot → Prop} (hp : PgX hx n x) (h : R (.d (.bl true)) []) : S__law_same hx n [.d x, .d x] R X := ⟨x, rfl, hp, h⟩
theorem law__law_same (hx : HX) (n : Nat) (args : List Slot) R X (h : S__law_same hx (n + 1) args R X) : args.length = 2 ∧ d__law_same (S__law_same hx n) hx (kOf [] R X) (args.map some ++ List.replicate 3 none) := by
  obtain ⟨x, rfl, hp, hR⟩ := h
  refine ⟨rfl, ?_⟩
  cases hp with
  | non => simp (config := { dsimp := false, maxSteps := 4000000 }) only [d__law_same, ↓FUd, ↓FTd, ↓FRd, ↓FQd, ↓FPd, ↓FId, ↓FJd, ↓FMd, ↓FLd, ↓FKd, ↓FHd, ↓FGd, FGn, ↓FSd, FSn, String.reduceBEq, String.reduceEq, beq_self_eq_true, Nat.reducePow, fillS, tgOf, putS, stillE, outs, isiD, tyIs, tyD, ixN, BSn, BGn, Int.reduceToNat, Nat.reduceAdd, Int.reduceLT, Int.reduceLE, Int.reduceAdd, Int.reduceSub, Int.reduceMul, Int.reducePow, Nat.reduceLT, Nat.reduceLeDiff, Int.reduceNeg, Int.reduceEq, reduceCtorEq, gt_iff_lt, ge_iff_le, ne_eq]; exact hR
  | bl b => simp (config := { dsimp := false, maxSteps := 4000000 }) only [d__law_same, ↓FUd, ↓FTd, ↓FRd, ↓FQd, ↓FPd, ↓FId, ↓FJd, ↓FMd, ↓FLd, ↓FKd, ↓FHd, ↓FGd, FGn, ↓FSd, FSn, String.reduceBEq, String.reduceEq, beq_self_eq_true, Nat.reducePow, fillS, tgOf, putS, stillE, outs, isiD, tyIs, tyD, ixN, BSn, BGn, Int.reduceToNat, Nat.reduceAdd, Int.reduceLT, Int.reduceLE, Int.reduceAdd, Int.reduceSub, Int.reduceMul, Int.reducePow, Nat.reduceLT, Nat.reduceLeDiff, Int.reduceNeg, Int.reduceEq, reduceCtorEq, gt_iff_lt, ge_iff_le, ne_eq]; exact hR
  | int i => simp (config := { dsimp := false, maxSteps := 4000000 }) only [d__law_same, ↓FUd, ↓FTd, ↓FRd, ↓FQd, ↓FPd, ↓FId, ↓FJd, ↓FMd, ↓FLd, ↓FKd, ↓FHd, ↓FGd, FGn, ↓FSd, FSn, String.reduceBEq, String.reduceEq, beq_self_eq_true, Nat.reducePow, fillS, tgOf, putS, stillE, outs, isiD, tyIs, tyD, ixN, BSn, BGn, Int.reduceToNat, Nat.reduceAdd, Int.reduceLT, Int.reduceLE, Int.reduceAdd, Int.reduceSub, Int.reduceMul, Int.reducePow, Nat.reduceLT, Nat.reduceLeDiff, Int.reduceNeg, Int.reduceEq, reduceCtorEq, gt_iff_lt, ge_iff_le, ne_eq]; exact hR
  | str i => simp (config := { dsimp := false, maxSteps := 4000000 }) only [d__law_same, ↓FUd, ↓FTd, ↓FRd, ↓FQd, ↓FPd, ↓FId, ↓FJd, ↓FMd, ↓FLd, ↓FKd, ↓FHd, ↓FGd, FGn, ↓FSd, FSn, String.reduceBEq, String.reduceEq, beq_self_eq_true, Nat.reducePow, fillS, tgOf, putS, stillE, outs, isiD, tyIs, tyD, ixN, BSn, BGn, Int.reduceToNat, Nat.reduceAdd, Int.reduceLT, Int.reduceLE, Int.reduceAdd, Int.reduceSub, Int.reduceMul, Int.reducePow, Nat.reduceLT, Nat.reduceLeDiff, Int.reduceNeg, Int.reduceEq, reduceCtorEq, gt_iff_lt, ge_iff_le, ne_eq]; exact hR
  | @lst _ xs hx2 hl =>
    simp (config := { dsimp := false, maxSteps := 4000000 }) only [d__law_same, ↓FUd, ↓FTd, ↓FRd, ↓FQd, ↓FPd, ↓FId, ↓FJd, ↓FMd, ↓FLd, ↓FKd, ↓FHd, ↓FGd, FGn, ↓FSd, FSn, String.reduceBEq, String.reduceEq, beq_self_eq_true, Nat.reducePow, fillS, tgOf, putS, stillE, outs, isiD, tyIs, tyD, ixN, BSn, BGn, Int.reduceToNat, Nat.reduceAdd, Int.reduceLT, Int.reduceLE, Int.reduceAdd, Int.reduceSub, Int.reduceMul, Int.reducePow, Nat.reduceLT, Nat.reduceLeDiff, Int.reduceNeg, Int.reduceEq, reduceCtorEq, gt_iff_lt, ge_iff_le, ne_eq]
    refine LcP.none (plain_cons (fun o e => by cases e; trivial) (plain_cons (fun o e => by cases e; trivial) plain_nil)) (fun y hy T hT => ?_) ?_
    · obtain ⟨x, hm, rfl⟩ := zip_self hy
      simp (config := { dsimp := false, maxSteps := 4000000 }) only [wipeE, ↓w_gt2t, ↓FUd, ↓FTd, ↓FRd, ↓FQd, ↓FPd, ↓FId, ↓FJd, ↓FMd, ↓FLd, ↓FKd, ↓FHd, ↓FGd, FGn, ↓FSd, FSn, String.reduceBEq, String.reduceEq, beq_self_eq_true, Nat.reducePow, fillS, tgOf, putS, stillE, outs, isiD, tyIs, tyD, ixN, BSn, BGn, Int.reduceToNat, Nat.reduceAdd, Int.reduceLT, Int.reduceLE, Int.reduceAdd, Int.reduceSub, Int.reduceMul, Int.reducePow, Nat.reduceLT, Nat.reduceLeDiff, Int.reduceNeg, Int.reduceEq, reduceCtorEq, gt_iff_lt, ge_iff_le, ne_eq]
      refine w__law_same (hx2 x hm) ?_
      try simp (config := { dsimp := false, maxSteps := 4000000 }) only [↓FUd, ↓FTd, ↓FRd, ↓FQd, ↓FPd, ↓FId, ↓FJd, ↓FMd, ↓FLd, ↓FKd, ↓FHd, ↓FGd, FGn, ↓FSd, FSn, String.reduceBEq, String.reduceEq, beq_self_eq_true, Nat.reducePow, fillS, tgOf, putS, stillE, outs, isiD, tyIs, tyD, ixN, BSn, BGn, Int.reduceToNat, Nat.reduceAdd, Int.reduceLT, Int.reduceLE, Int.reduceAdd, Int.reduceSub, Int.reduceMul, Int.reducePow, Nat.reduceLT, Nat.reduceLeDiff, Int.reduceNeg, Int.reduceEq, reduceCtorEq, gt_iff_lt, ge_iff_le, ne_eq]
      exact hT _ rfl
    · simp (config := { dsimp := false, maxSteps := 4000000 }) only [List.isEmpty_nil, ↓FUd, ↓FTd, ↓FRd, ↓FQd, ↓FPd, ↓FId, ↓FJd, ↓FMd, ↓FLd, ↓FKd, ↓FHd, ↓FGd, FGn, ↓FSd, FSn, String.reduceBEq, String.reduceEq, beq_self_eq_true, Nat.reducePow, fillS, tgOf, putS, stillE, outs, isiD, tyIs, tyD, ixN, BSn, BGn, Int.reduceToNat, Nat.reduceAdd, Int.reduceLT, Int.reduceLE, Int.reduceAdd, Int.reduceSub, Int.reduceMul, Int.reducePow, Nat.reduceLT, Nat.reduceLeDiff, Int.reduceNeg, Int.reduceEq, reduceCtorEq, gt_iff_lt, ge_iff_le, ne_eq]
      exact hR
  | @tup _ xs hx2 hl =>
    simp (config := { dsimp := false, maxSteps := 4000000 }) only [d__law_same, ↓FUd, ↓FTd, ↓FRd, ↓FQd, ↓FPd, ↓FId, ↓FJd, ↓FMd, ↓FLd, ↓FKd, ↓FHd, ↓FGd, FGn, ↓FSd, FSn, String.reduceBEq, String.reduceEq, beq_self_eq_true, Nat.reducePow, fillS, tgOf, putS, stillE, outs, isiD, tyIs, tyD, ixN, BSn, BGn, Int.reduceToNat, Nat.reduceAdd, Int.reduceLT, Int.reduceLE, Int.reduceAdd, Int.reduceSub, Int.reduceMul, Int.reducePow, Nat.reduceLT, Nat.reduceLeDiff, Int.reduceNeg, Int.reduceEq, reduceCtorEq, gt_iff_lt, ge_iff_le, ne_eq]
    refine LcP.none (plain_cons (fun o e => by cases e; trivial) (plain_cons (fun o e => by cases e; trivial) plain_nil)) (fun y hy T hT => ?_) ?_
    · obtain ⟨x, hm, rfl⟩ := zip_self hy
      simp (config := { dsimp := false, maxSteps := 4000000 }) only [wipeE, ↓w_gt2t, ↓FUd, ↓FTd, ↓FRd, ↓FQd, ↓FPd, ↓FId, ↓FJd, ↓FMd, ↓FLd, ↓FKd, ↓FHd, ↓FGd, FGn, ↓FSd, FSn, String.reduceBEq, String.reduceEq, beq_self_eq_true, Nat.reducePow, fillS, tgOf, putS, stillE, outs, isiD, tyIs, tyD, ixN, BSn, BGn, Int.reduceToNat, Nat.reduceAdd, Int.reduceLT, Int.reduceLE, Int.reduceAdd, Int.reduceSub, Int.reduceMul, Int.reducePow, Nat.reduceLT, Nat.reduceLeDiff, Int.reduceNeg, Int.reduceEq, reduceCtorEq, gt_iff_lt, ge_iff_le, ne_eq]
      refine w__law_same (hx2 x hm) ?_
      try simp (config := { dsimp := false, maxSteps := 4000000 }) only [↓FUd, ↓FTd, ↓FRd, ↓FQd, ↓FPd, ↓FId, ↓FJd, ↓FMd, ↓FLd, ↓FKd, ↓FHd, ↓FGd, FGn, ↓FSd, FSn, String.reduceBEq, String.reduceEq, beq_self_eq_true, Nat.reducePow, fillS, tgOf, putS, stillE, outs, isiD, tyIs, tyD, ixN, BSn, BGn, Int.reduceToNat, Nat.reduceAdd, Int.reduceLT, Int.reduceLE, Int.reduceAdd, Int.reduceSub, Int.reduceMul, Int.reducePow, Nat.reduceLT, Nat.reduceLeDiff, Int.reduceNeg, Int.reduceEq, reduceCtorEq, gt_iff_lt, ge_iff_le, ne_eq]
      exact hT _ rfl
    · simp (config := { dsimp := false, maxSteps := 4000000 }) only [List.isEmpty_nil, ↓FUd, ↓FTd, ↓FRd, ↓FQd, ↓FPd, ↓FId, ↓FJd, ↓FMd, ↓FLd, ↓FKd, ↓FHd, ↓FGd, FGn, ↓FSd, FSn, String.reduceBEq, String.reduceEq, beq_self_eq_true, Nat.reducePow, fillS, tgOf, putS, stillE, outs, isiD, tyIs, tyD, ixN, BSn, BGn, Int.reduceToNat, Nat.reduceAdd, Int.reduceLT, Int.reduceLE, Int.reduceAdd, Int.reduceSub, Int.reduceMul, Int.reducePow, Nat.reduceLT, Nat.reduceLeDiff, Int.reduceNeg, Int.reduceEq, reduceCtorEq, gt_iff_lt, ge_iff_le, ne_eq]
      exact hR
  | @dk _ kvs hx2 hl nd =>
    simp (config := { dsimp := false, maxSteps := 4000000 }) only [d__law_same, ↓FUd, ↓FTd, ↓FRd, ↓FQd, ↓FPd, ↓FId, ↓FJd, ↓FMd, ↓FLd, ↓FKd, ↓FHd, ↓FGd, FGn, ↓FSd, FSn, String.reduceBEq, String.reduceEq, beq_self_eq_true, Nat.reducePow, fillS, tgOf, putS, stillE, outs, isiD, tyIs, tyD, ixN, BSn, BGn, Int.reduceToNat, Nat.reduceAdd, Int.reduceLT, Int.reduceLE, Int.reduceAdd, Int.reduceSub, Int.reduceMul, Int.reducePow, Nat.reduceLT, Nat.reduceLeDiff, Int.reduceNeg, Int.reduceEq, reduceCtorEq, gt_iff_lt, ge_iff_le, ne_eq]
    refine LcP.none (plain_cons (fun o e => by cases e; trivial) plain_nil) (fun y hy T hT => ?_) ?_
    · obtain ⟨kv, hm, rfl⟩ := List.mem_map.mp hy
      have hv := valD_at nd hm
      simp (config := { dsimp := false, maxSteps := 4000000 }) only [wipeE, ↓f_inX, ↓f_itXd, ↓f_itXx, ↓f_itXl, ↓f_itXt, f_lenXx, f_listXx, ↓f_dSetX, itrD_x, td_x, nd_x, kvX_k, kvX_x, keyX_i, keyX_s, keyX_kD, valX_k, hv, Option.isSome_some, ↓FUd, ↓FTd, ↓FRd, ↓FQd, ↓FPd, ↓FId, ↓FJd, ↓FMd, ↓FLd, ↓FKd, ↓FHd, ↓FGd, FGn, ↓FSd, FSn, String.reduceBEq, String.reduceEq, beq_self_eq_true, Nat.reducePow, fillS, tgOf, putS, stillE, outs, isiD, tyIs, tyD, ixN, BSn, BGn, Int.reduceToNat, Nat.reduceAdd, Int.reduceLT, Int.reduceLE, Int.reduceAdd, Int.reduceSub, Int.reduceMul, Int.reducePow, Nat.reduceLT, Nat.reduceLeDiff, Int.reduceNeg, Int.reduceEq, reduceCtorEq, gt_iff_lt, ge_iff_le, ne_eq]
      exact hT _ rfl
    · simp (config := { dsimp := false, maxSteps := 4000000 }) only [List.isEmpty_nil, ↓FUd, ↓FTd, ↓FRd, ↓FQd, ↓FPd, ↓FId, ↓FJd, ↓FMd, ↓FLd, ↓FKd, ↓FHd, ↓FGd, FGn, ↓FSd, FSn, String.reduceBEq, String.reduceEq, beq_self_eq_true, Nat.reducePow, fillS, tgOf, putS, stillE, outs, isiD, tyIs, tyD, ixN, BSn, BGn, Int.reduceToNat, Nat.reduceAdd, Int.reduceLT, Int.reduceLE, Int.reduceAdd, Int.reduceSub, Int.reduceMul, Int.reducePow, Nat.reduceLT, Nat.reduceLeDiff, Int.reduceNeg, Int.reduceEq, reduceCtorEq, gt_iff_lt, ge_iff_le, ne_eq]
      refine LcP.none (plain_cons (fun o e => by cases e; trivial) plain_nil) (fun y hy T hT => ?_) ?_
      · obtain ⟨kv, hm, rfl⟩ := List.mem_map.mp hy
        have hv := valD_at nd hm
        simp (config := { dsimp := false, maxSteps := 4000000 }) only [wipeE, ↓f_inX, ↓f_itXd, ↓f_itXx, ↓f_itXl, ↓f_itXt, f_lenXx, f_listXx, ↓f_dSetX, itrD_x, td_x, nd_x, kvX_k, kvX_x, keyX_i, keyX_s, keyX_kD, valX_k, hv, ↓FUd, ↓FTd, ↓FRd, ↓FQd, ↓FPd, ↓FId, ↓FJd, ↓FMd, ↓FLd, ↓FKd, ↓FHd, ↓FGd, FGn, ↓FSd, FSn, String.reduceBEq, String.reduceEq, beq_self_eq_true, Nat.reducePow, fillS, tgOf, putS, stillE, outs, isiD, tyIs, tyD, ixN, BSn, BGn, Int.reduceToNat, Nat.reduceAdd, Int.reduceLT, Int.reduceLE, Int.reduceAdd, Int.reduceSub, Int.reduceMul, Int.reducePow, Nat.reduceLT, Nat.reduceLeDiff, Int.reduceNeg, Int.reduceEq, reduceCtorEq, gt_iff_lt, ge_iff_le, ne_eq]
        refine w__law_same (hx2 kv hm) ?_
        try simp (config := { dsimp := false, maxSteps := 4000000 }) only [↓FUd, ↓FTd, ↓FRd, ↓FQd, ↓FPd, ↓FId, ↓FJd, ↓FMd, ↓FLd, ↓FKd, ↓FHd, ↓FGd, FGn, ↓FSd, FSn, String.reduceBEq, String.reduceEq, beq_self_eq_true, Nat.reducePow, fillS, tgOf, putS, stillE, outs, isiD, tyIs, tyD, ixN, BSn, BGn, Int.reduceToNat, Nat.reduceAdd, Int.reduceLT, Int.reduceLE, Int.reduceAdd, Int.reduceSub, Int.reduceMul, Int.reducePow, Nat.reduceLT, Nat.reduceLeDiff, Int.reduceNeg, Int.reduceEq, reduceCtorEq, gt_iff_lt, ge_iff_le, ne_eq]
        exact hT _ rfl
      · simp (config := { dsimp := false, maxSteps := 4000000 }) only [List.isEmpty_nil, ↓FUd, ↓FTd, ↓FRd, ↓FQd, ↓FPd, ↓FId, ↓FJd, ↓FMd, ↓FLd, ↓FKd, ↓FHd, ↓FGd, FGn, ↓FSd, FSn, String.reduceBEq, String.reduceEq, beq_self_eq_true, Nat.reducePow, fillS, tgOf, putS, stillE, outs, isiD, tyIs, tyD, ixN, BSn, BGn, Int.reduceToNat, Nat.reduceAdd, Int.reduceLT, Int.reduceLE, Int.reduceAdd, Int.reduceSub, Int.reduceMul, Int.reducePow, Nat.reduceLT, Nat.reduceLeDiff, Int.reduceNeg, Int.reduceEq, reduceCtorEq, gt_iff_lt, ge_iff_le, ne_eq]
        exact hR
  | @dx _ kvs hx2 hl nd ho =>
    simp (config := { dsimp := false, maxSteps := 4000000 }) only [d__law_same, ↓f_inX, ↓f_itXd, ↓f_itXx, ↓f_itXl, ↓f_itXt, f_lenXx, f_listXx, ↓f_dSetX, itrD_x, td_x, nd_x, kvX_k, kvX_x, keyX_i, keyX_s, ↓FUd, ↓FTd, ↓FRd, ↓FQd, ↓FPd, ↓FId, ↓FJd, ↓FMd, ↓FLd, ↓FKd, ↓FHd, ↓FGd, FGn, ↓FSd, FSn, String.reduceBEq, String.reduceEq, beq_self_eq_true, Nat.reducePow, fillS, tgOf, putS, stillE, outs, isiD, tyIs, tyD, ixN, BSn, BGn, Int.reduceToNat, Nat.reduceAdd, Int.reduceLT, Int.reduceLE, Int.reduceAdd, Int.reduceSub, Int.reduceMul, Int.reducePow, Nat.reduceLT, Nat.reduceLeDiff, Int.reduceNeg, Int.reduceEq, reduceCtorEq, gt_iff_lt, ge_iff_le, ne_eq]
    refine LcP.none (plain_cons (fun o e => by cases e; trivial) plain_nil) (fun y hy T hT => ?_) ?_
    · obtain ⟨kv, hm, rfl⟩ := List.mem_map.mp hy
      have hv := valX_at nd hm
      simp (config := { dsimp := false, maxSteps := 4000000 }) only [wipeE, ↓f_inX, ↓f_itXd, ↓f_itXx, ↓f_itXl, ↓f_itXt, f_lenXx, f_listXx, ↓f_dSetX, itrD_x, td_x, nd_x, kvX_k, kvX_x, keyX_i, keyX_s, keyX_D, hv, Option.isSome_some, ↓FUd, ↓FTd, ↓FRd, ↓FQd, ↓FPd, ↓FId, ↓FJd, ↓FMd, ↓FLd, ↓FKd, ↓FHd, ↓FGd, FGn, ↓FSd, FSn, String.reduceBEq, String.reduceEq, beq_self_eq_true, Nat.reducePow, fillS, tgOf, putS, stillE, outs, isiD, tyIs, tyD, ixN, BSn, BGn, Int.reduceToNat, Nat.reduceAdd, Int.reduceLT, Int.reduceLE, Int.reduceAdd, Int.reduceSub, Int.reduceMul, Int.reducePow, Nat.reduceLT, Nat.reduceLeDiff, Int.reduceNeg, Int.reduceEq, reduceCtorEq, gt_iff_lt, ge_iff_le, ne_eq]
      exact hT _ rfl
    · simp (config := { dsimp := false, maxSteps := 4000000 }) only [List.isEmpty_nil, ↓f_inX, ↓f_itXd, ↓f_itXx, ↓f_itXl, ↓f_itXt, f_lenXx, f_listXx, ↓f_dSetX, itrD_x, td_x, nd_x, kvX_k, kvX_x, keyX_i, keyX_s, ↓FUd, ↓FTd, ↓FRd, ↓FQd, ↓FPd, ↓FId, ↓FJd, ↓FMd, ↓FLd, ↓FKd, ↓FHd, ↓FGd, FGn, ↓FSd, FSn, String.reduceBEq, String.reduceEq, beq_self_eq_true, Nat.reducePow, fillS, tgOf, putS, stillE, outs, isiD, tyIs, tyD, ixN, BSn, BGn, Int.reduceToNat, Nat.reduceAdd, Int.reduceLT, Int.reduceLE, Int.reduceAdd, Int.reduceSub, Int.reduceMul, Int.reducePow, Nat.reduceLT, Nat.reduceLeDiff, Int.reduceNeg, Int.reduceEq, reduceCtorEq, gt_iff_lt, ge_iff_le, ne_eq]
      refine LcP.none (plain_cons (fun o e => by cases e; trivial) plain_nil) (fun y hy T hT => ?_) ?_
      · obtain ⟨kv, hm, rfl⟩ := List.mem_map.mp hy
        have hv := valX_at nd hm
        simp (config := { dsimp := false, maxSteps := 4000000 }) only [wipeE, ↓f_inX, ↓f_itXd, ↓f_itXx, ↓f_itXl, ↓f_itXt, f_lenXx, f_listXx, ↓f_dSetX, itrD_x, td_x, nd_x, kvX_k, kvX_x, keyX_i, keyX_s, keyX_D, hv, ↓FUd, ↓FTd, ↓FRd, ↓FQd, ↓FPd, ↓FId, ↓FJd, ↓FMd, ↓FLd, ↓FKd, ↓FHd, ↓FGd, FGn, ↓FSd, FSn, String.reduceBEq, String.reduceEq, beq_self_eq_true, Nat.reducePow, fillS, tgOf, putS, stillE, outs, isiD, tyIs, tyD, ixN, BSn, BGn, Int.reduceToNat, Nat.reduceAdd, Int.reduceLT, Int.reduceLE, Int.reduceAdd, Int.reduceSub, Int.reduceMul, Int.reducePow, Nat.reduceLT, Nat.reduceLeDiff, Int.reduceNeg, Int.reduceEq, reduceCtorEq, gt_iff_lt, ge_iff_le, ne_eq]
        refine w__law_same (hx2 kv hm) ?_
        try simp (config := { dsimp := false, maxSteps := 4000000 }) only [↓FUd, ↓FTd, ↓FRd, ↓FQd, ↓FPd, ↓FId, ↓FJd, ↓FMd, ↓FLd, ↓FKd, ↓FHd, ↓FGd, FGn, ↓FSd, FSn, String.reduceBEq, String.reduceEq, beq_self_eq_true, Nat.reducePow, fillS, tgOf, putS, stillE, outs, isiD, tyIs, tyD, ixN, BSn, BGn, Int.reduceToNat, Nat.reduceAdd, Int.reduceLT, Int.reduceLE, Int.reduceAdd, Int.reduceSub, Int.reduceMul, Int.reducePow, Nat.reduceLT, Nat.reduceLeDiff, Int.reduceNeg, Int.reduceEq, reduceCtorEq, gt_iff_lt, ge_iff_le, ne_eq]
        exact hT _ rfl
      · simp (config := { dsimp := false, maxSteps := 4000000 }) only [List.isEmpty_nil, ↓FUd, ↓FTd, ↓FRd, ↓FQd, ↓FPd, ↓FId, ↓FJd, ↓FMd, ↓FLd, ↓FKd, ↓FHd, ↓FGd, FGn, ↓FSd, FSn, String.reduceBEq, String.reduceEq, beq_self_eq_true, Nat.reducePow, fillS, tgOf, putS, stillE, outs, isiD, tyIs, tyD, ixN, BSn, BGn, Int.reduceToNat, Nat.reduceAdd, Int.reduceLT, Int.reduceLE, Int.reduceAdd, Int.reduceSub, Int.reduceMul, Int.reducePow, Nat.reduceLT, Nat.reduceLeDiff, Int.reduceNeg, Int.reduceEq, reduceCtorEq, gt_iff_lt, ge_iff_le, ne_eq]
        exact hR
/-! k17: what is a value, by the program and by the law -/
theorem pgx_ndt {hx : HX} {n : Nat} {x : Dat} (h : PgX hx n x) : ndt x := by cases h <;> trivial
def S_is_value (hx : HX) (n : Nat) : DSpec := fun args R _ => ∃ (d : Nat) (x : Dat) (r m : Int) (k : Nat) (v : Dat), args = [.d x, .d v] ∧ KD d x r m ∧ d ≤ n ∧ PgX hx k v ∧ R (.d (.bl (isV d x v))) []
theorem w_isvx {hx : HX} {n d k : Nat} {x v : Dat} {r m : Int} {R : Slot → List Slot → Prop} {X : Value → List Slot → Prop} (hk : KD d x r m) (hd : d ≤ n) (hp : PgX hx k v) (h : R (.d (.bl (isV d x v))) []) : S_is_value hx n [.d x, .d v] R X := ⟨d, x, r, m, _, v, rfl, hk, hd, hp, h⟩
theorem all_fold {α β : Type} (f : α → β) (p : β → Bool) (q : α → Bool) (g : α → Dat) (h : ∀ e, p (f e) = !q e) (L : List α) : ((L.filter q).map g).isEmpty = (L.map f).all p := by
  rw [List.isEmpty_map, Bool.eq_iff_iff, List.isEmpty_iff, List.filter_eq_nil_iff, List.all_map, List.all_eq_true]
  constructor
  · intro h1 x hx
    show p (f x) = true
    rw [h x]
    cases hq : q x with
    | false => rfl
    | true => exact absurd hq (h1 x hx)
  · intro h1 x hx c
    have := h1 x hx
    simp only [Function.comp, h x, c] at this
    cases this
theorem valD_pgx {hx : HX} {k : Nat} {kvs : List (Key × Dat)} {κ : Key} {w : Dat} (hy : ∀ kv ∈ kvs, PgX hx k kv.2) (hv : valD kvs κ = some w) : PgX hx k w := by
  unfold valD at hv
  cases e2 : kvs.find? (fun p => decide (p.1 = κ)) with
  | none => rw [e2] at hv; cases hv
  | some p =>
    rw [e2] at hv
    cases hv
    exact hy p (List.mem_of_find?_eq_some e2)
theorem valX_pgx {hx : HX} {k : Nat} {kvs : List (KX × Dat)} {n : NestedKey} {w : Dat} (hy : ∀ kv ∈ kvs, PgX hx k kv.2) (hv : valX kvs n = some w) : PgX hx k w := by
  obtain ⟨kv, hm, rfl, _⟩ := valX_mem hv
  exact hy kv hm
theorem nk_s {s : Str} : (KX.k (.inr s)).nk = .text s := rfl
theorem law_is_value (hx : HX) (n : Nat) (args : List Slot) R X (h : S_is_value hx (n + 1) args R X) : args.length = 2 ∧ d_is_value S_is_whole_within (S_is_value hx n) hx (kOf [] R X) (args.map some ++ List.replicate 3 none) := by
  obtain ⟨d, x, r, m, k, v, rfl, hk, hd, hp, hR⟩ := h
  refine ⟨rfl, ?_⟩
  have hnd := pgx_ndt hp
  cases hk with
  | @num n2 a m h1 h2 h3 =>
    rw [isV_num] at hR
    have ht := top_eq h1 h2
    simp (config := { dsimp := false, maxSteps := 4000000 }) only [d_is_value, ↓w_withinE, ↓FUd, ↓FTd, ↓FRd, ↓FQd, ↓FPd, ↓FId, ↓FJd, ↓FMd, ↓FLd, ↓FKd, ↓FHd, ↓FGd, FGn, ↓FSd, FSn, String.reduceBEq, String.reduceEq, beq_self_eq_true, Nat.reducePow, fillS, tgOf, putS, stillE, outs, isiD, tyIs, tyD, ixN, BSn, BGn, Int.reduceToNat, Nat.reduceAdd, Int.reduceLT, Int.reduceLE, Int.reduceAdd, Int.reduceSub, Int.reduceMul, Int.reducePow, Nat.reduceLT, Nat.reduceLeDiff, Int.reduceNeg, Int.reduceEq, reduceCtorEq, gt_iff_lt, ge_iff_le, ne_eq]
    refine ⟨mul64 (by decide) (by decide), cpow (by omega) (by omega) (by decide), ?_⟩
    rw [ht]
    exact ⟨hnd, hR⟩
  | @row n2 x r m c hk h1 h2 =>
    rw [isV_row hk] at hR
    cases hp with
    | @lst k ys hy hl =>
      have hR : R (.d (.bl (decide ((ys.length : Int) = c) && ys.all (isV n2 x)))) [] := hR
      by_cases hc : (ys.length : Int) = c
      · rw [decide_eq_true hc, Bool.true_and] at hR
        simp (config := { dsimp := false, maxSteps := 4000000 }) only [d_is_value, hc, ↓FUd, ↓FTd, ↓FRd, ↓FQd, ↓FPd, ↓FId, ↓FJd, ↓FMd, ↓FLd, ↓FKd, ↓FHd, ↓FGd, FGn, ↓FSd, FSn, String.reduceBEq, String.reduceEq, beq_self_eq_true, Nat.reducePow, fillS, tgOf, putS, stillE, outs, isiD, tyIs, tyD, ixN, BSn, BGn, Int.reduceToNat, Nat.reduceAdd, Int.reduceLT, Int.reduceLE, Int.reduceAdd, Int.reduceSub, Int.reduceMul, Int.reducePow, Nat.reduceLT, Nat.reduceLeDiff, Int.reduceNeg, Int.reduceEq, reduceCtorEq, gt_iff_lt, ge_iff_le, ne_eq]
        refine LcP.filt (fun y => !isV n2 x y) (fun y => y) (plain_cons (fun o e => by cases e; trivial) plain_nil) (sl_le hl) (fun y hyy T U hT hU => ?_) ?_
        · simp (config := { dsimp := false, maxSteps := 4000000 }) only [wipeE, ↓FUd, ↓FTd, ↓FRd, ↓FQd, ↓FPd, ↓FId, ↓FJd, ↓FMd, ↓FLd, ↓FKd, ↓FHd, ↓FGd, FGn, ↓FSd, FSn, String.reduceBEq, String.reduceEq, beq_self_eq_true, Nat.reducePow, fillS, tgOf, putS, stillE, outs, isiD, tyIs, tyD, ixN, BSn, BGn, Int.reduceToNat, Nat.reduceAdd, Int.reduceLT, Int.reduceLE, Int.reduceAdd, Int.reduceSub, Int.reduceMul, Int.reducePow, Nat.reduceLT, Nat.reduceLeDiff, Int.reduceNeg, Int.reduceEq, reduceCtorEq, gt_iff_lt, ge_iff_le, ne_eq]
          refine w_isvx hk (by omega) (hy y hyy) ?_
          cases hb : isV n2 x y with
          | true =>
            try simp (config := { dsimp := false, maxSteps := 4000000 }) only [↓FUd, ↓FTd, ↓FRd, ↓FQd, ↓FPd, ↓FId, ↓FJd, ↓FMd, ↓FLd, ↓FKd, ↓FHd, ↓FGd, FGn, ↓FSd, FSn, String.reduceBEq, String.reduceEq, beq_self_eq_true, Nat.reducePow, fillS, tgOf, putS, stillE, outs, isiD, tyIs, tyD, ixN, BSn, BGn, Int.reduceToNat, Nat.reduceAdd, Int.reduceLT, Int.reduceLE, Int.reduceAdd, Int.reduceSub, Int.reduceMul, Int.reducePow, Nat.reduceLT, Nat.reduceLeDiff, Int.reduceNeg, Int.reduceEq, reduceCtorEq, gt_iff_lt, ge_iff_le, ne_eq]
            exact hU _ rfl (by rw [hb]; rfl)
          | false =>
            try simp (config := { dsimp := false, maxSteps := 4000000 }) only [↓FUd, ↓FTd, ↓FRd, ↓FQd, ↓FPd, ↓FId, ↓FJd, ↓FMd, ↓FLd, ↓FKd, ↓FHd, ↓FGd, FGn, ↓FSd, FSn, String.reduceBEq, String.reduceEq, beq_self_eq_true, Nat.reducePow, fillS, tgOf, putS, stillE, outs, isiD, tyIs, tyD, ixN, BSn, BGn, Int.reduceToNat, Nat.reduceAdd, Int.reduceLT, Int.reduceLE, Int.reduceAdd, Int.reduceSub, Int.reduceMul, Int.reducePow, Nat.reduceLT, Nat.reduceLeDiff, Int.reduceNeg, Int.reduceEq, reduceCtorEq, gt_iff_lt, ge_iff_le, ne_eq]
            exact hT _ rfl (by rw [hb]; rfl)
        · simp (config := { dsimp := false, maxSteps := 4000000 }) only [filt_empty, ↓FUd, ↓FTd, ↓FRd, ↓FQd, ↓FPd, ↓FId, ↓FJd, ↓FMd, ↓FLd, ↓FKd, ↓FHd, ↓FGd, FGn, ↓FSd, FSn, String.reduceBEq, String.reduceEq, beq_self_eq_true, Nat.reducePow, fillS, tgOf, putS, stillE, outs, isiD, tyIs, tyD, ixN, BSn, BGn, Int.reduceToNat, Nat.reduceAdd, Int.reduceLT, Int.reduceLE, Int.reduceAdd, Int.reduceSub, Int.reduceMul, Int.reducePow, Nat.reduceLT, Nat.reduceLeDiff, Int.reduceNeg, Int.reduceEq, reduceCtorEq, gt_iff_lt, ge_iff_le, ne_eq]
          exact hR
      · rw [decide_eq_false hc, Bool.false_and] at hR
        have hc' : ((ys.length : Int) = c) = False := eq_false hc
        simp (config := { dsimp := false, maxSteps := 4000000 }) only [d_is_value, hc', ↓FUd, ↓FTd, ↓FRd, ↓FQd, ↓FPd, ↓FId, ↓FJd, ↓FMd, ↓FLd, ↓FKd, ↓FHd, ↓FGd, FGn, ↓FSd, FSn, String.reduceBEq, String.reduceEq, beq_self_eq_true, Nat.reducePow, fillS, tgOf, putS, stillE, outs, isiD, tyIs, tyD, ixN, BSn, BGn, Int.reduceToNat, Nat.reduceAdd, Int.reduceLT, Int.reduceLE, Int.reduceAdd, Int.reduceSub, Int.reduceMul, Int.reducePow, Nat.reduceLT, Nat.reduceLeDiff, Int.reduceNeg, Int.reduceEq, reduceCtorEq, gt_iff_lt, ge_iff_le, ne_eq]
        exact hR
    | _ => simp (config := { dsimp := false, maxSteps := 4000000 }) only [d_is_value, nd_x, ↓FUd, ↓FTd, ↓FRd, ↓FQd, ↓FPd, ↓FId, ↓FJd, ↓FMd, ↓FLd, ↓FKd, ↓FHd, ↓FGd, FGn, ↓FSd, FSn, String.reduceBEq, String.reduceEq, beq_self_eq_true, Nat.reducePow, fillS, tgOf, putS, stillE, outs, isiD, tyIs, tyD, ixN, BSn, BGn, Int.reduceToNat, Nat.reduceAdd, Int.reduceLT, Int.reduceLE, Int.reduceAdd, Int.reduceSub, Int.reduceMul, Int.reducePow, Nat.reduceLT, Nat.reduceLeDiff, Int.reduceNeg, Int.reduceEq, reduceCtorEq, gt_iff_lt, ge_iff_le, ne_eq]; exact hR
  | @reco n2 L m hk hn hl hm hmx hN hD =>
    rw [isV_rec] at hR
    cases hp with
    | @dk k kvs hy hl2 nd =>
      have hR : R (.d (.bl (decide (kvs.length = (L.map fieldD).length) && (L.map fieldD).all (fldV (isV n2) kvs)))) [] := hR
      rw [List.length_map] at hR
      by_cases hc : (kvs.length : Int) = L.length
      · rw [decide_eq_true (show kvs.length = L.length by omega), Bool.true_and] at hR
        simp (config := { dsimp := false, maxSteps := 4000000 }) only [d_is_value, List.length_map, hc, ↓FUd, ↓FTd, ↓FRd, ↓FQd, ↓FPd, ↓FId, ↓FJd, ↓FMd, ↓FLd, ↓FKd, ↓FHd, ↓FGd, FGn, ↓FSd, FSn, String.reduceBEq, String.reduceEq, beq_self_eq_true, Nat.reducePow, fillS, tgOf, putS, stillE, outs, isiD, tyIs, tyD, ixN, BSn, BGn, Int.reduceToNat, Nat.reduceAdd, Int.reduceLT, Int.reduceLE, Int.reduceAdd, Int.reduceSub, Int.reduceMul, Int.reducePow, Nat.reduceLT, Nat.reduceLeDiff, Int.reduceNeg, Int.reduceEq, reduceCtorEq, gt_iff_lt, ge_iff_le, ne_eq]
        refine LcP.filts (L := L) (a := fieldD) (fun e => !fldV (isV n2) kvs (fieldD e)) (fun e => .str e.1) (plain_cons (fun o e => by cases e; trivial) (plain_cons (fun o e => by cases e; trivial) plain_nil)) (sl_le (by omega)) (fun e he T U hT hU => ?_) ?_
        · have hb : fldV (isV n2) kvs (fieldD e) = optB (valD kvs (.inr e.1)) (isV n2 e.2.1) := rfl
          cases hv : valD kvs (.inr e.1) with
          | none =>
            rw [hv] at hb
            simp (config := { dsimp := false, maxSteps := 4000000 }) only [wipeE, w_field, ↓f_inX, ↓f_itXd, ↓f_itXx, ↓f_itXl, ↓f_itXt, f_lenXx, f_listXx, ↓f_dSetX, itrD_x, td_x, nd_x, kvX_k, kvX_x, keyX_i, keyX_s, valX_k, hv, Option.isSome_none, ↓FUd, ↓FTd, ↓FRd, ↓FQd, ↓FPd, ↓FId, ↓FJd, ↓FMd, ↓FLd, ↓FKd, ↓FHd, ↓FGd, FGn, ↓FSd, FSn, String.reduceBEq, String.reduceEq, beq_self_eq_true, Nat.reducePow, fillS, tgOf, putS, stillE, outs, isiD, tyIs, tyD, ixN, BSn, BGn, Int.reduceToNat, Nat.reduceAdd, Int.reduceLT, Int.reduceLE, Int.reduceAdd, Int.reduceSub, Int.reduceMul, Int.reducePow, Nat.reduceLT, Nat.reduceLeDiff, Int.reduceNeg, Int.reduceEq, reduceCtorEq, gt_iff_lt, ge_iff_le, ne_eq]
            exact hT _ rfl (by rw [hb]; rfl)
          | some w =>
            rw [hv] at hb
            simp (config := { dsimp := false, maxSteps := 4000000 }) only [wipeE, w_field, ↓f_inX, ↓f_itXd, ↓f_itXx, ↓f_itXl, ↓f_itXt, f_lenXx, f_listXx, ↓f_dSetX, itrD_x, td_x, nd_x, kvX_k, kvX_x, keyX_i, keyX_s, valX_k, hv, Option.isSome_some, ↓FUd, ↓FTd, ↓FRd, ↓FQd, ↓FPd, ↓FId, ↓FJd, ↓FMd, ↓FLd, ↓FKd, ↓FHd, ↓FGd, FGn, ↓FSd, FSn, String.reduceBEq, String.reduceEq, beq_self_eq_true, Nat.reducePow, fillS, tgOf, putS, stillE, outs, isiD, tyIs, tyD, ixN, BSn, BGn, Int.reduceToNat, Nat.reduceAdd, Int.reduceLT, Int.reduceLE, Int.reduceAdd, Int.reduceSub, Int.reduceMul, Int.reducePow, Nat.reduceLT, Nat.reduceLeDiff, Int.reduceNeg, Int.reduceEq, reduceCtorEq, gt_iff_lt, ge_iff_le, ne_eq]
            refine w_isvx (hk e he) (by omega) (valD_pgx hy hv) ?_
            cases hb2 : isV n2 e.2.1 w with
            | true =>
              try simp (config := { dsimp := false, maxSteps := 4000000 }) only [↓FUd, ↓FTd, ↓FRd, ↓FQd, ↓FPd, ↓FId, ↓FJd, ↓FMd, ↓FLd, ↓FKd, ↓FHd, ↓FGd, FGn, ↓FSd, FSn, String.reduceBEq, String.reduceEq, beq_self_eq_true, Nat.reducePow, fillS, tgOf, putS, stillE, outs, isiD, tyIs, tyD, ixN, BSn, BGn, Int.reduceToNat, Nat.reduceAdd, Int.reduceLT, Int.reduceLE, Int.reduceAdd, Int.reduceSub, Int.reduceMul, Int.reducePow, Nat.reduceLT, Nat.reduceLeDiff, Int.reduceNeg, Int.reduceEq, reduceCtorEq, gt_iff_lt, ge_iff_le, ne_eq]
              exact hU _ rfl (by rw [hb]; show (!(isV n2 e.2.1 w)) = false; rw [hb2]; rfl)
            | false =>
              try simp (config := { dsimp := false, maxSteps := 4000000 }) only [↓FUd, ↓FTd, ↓FRd, ↓FQd, ↓FPd, ↓FId, ↓FJd, ↓FMd, ↓FLd, ↓FKd, ↓FHd, ↓FGd, FGn, ↓FSd, FSn, String.reduceBEq, String.reduceEq, beq_self_eq_true, Nat.reducePow, fillS, tgOf, putS, stillE, outs, isiD, tyIs, tyD, ixN, BSn, BGn, Int.reduceToNat, Nat.reduceAdd, Int.reduceLT, Int.reduceLE, Int.reduceAdd, Int.reduceSub, Int.reduceMul, Int.reducePow, Nat.reduceLT, Nat.reduceLeDiff, Int.reduceNeg, Int.reduceEq, reduceCtorEq, gt_iff_lt, ge_iff_le, ne_eq]
              exact hT _ rfl (by rw [hb]; show (!(isV n2 e.2.1 w)) = true; rw [hb2]; rfl)
        · have e2 := all_fold fieldD (fldV (isV n2) kvs) (fun e => !fldV (isV n2) kvs (fieldD e)) (fun e => Dat.str e.1) (fun e => by rw [Bool.not_not]) L
          simp (config := { dsimp := false, maxSteps := 4000000 }) only [e2, ↓FUd, ↓FTd, ↓FRd, ↓FQd, ↓FPd, ↓FId, ↓FJd, ↓FMd, ↓FLd, ↓FKd, ↓FHd, ↓FGd, FGn, ↓FSd, FSn, String.reduceBEq, String.reduceEq, beq_self_eq_true, Nat.reducePow, fillS, tgOf, putS, stillE, outs, isiD, tyIs, tyD, ixN, BSn, BGn, Int.reduceToNat, Nat.reduceAdd, Int.reduceLT, Int.reduceLE, Int.reduceAdd, Int.reduceSub, Int.reduceMul, Int.reducePow, Nat.reduceLT, Nat.reduceLeDiff, Int.reduceNeg, Int.reduceEq, reduceCtorEq, gt_iff_lt, ge_iff_le, ne_eq]
          exact hR
      · rw [decide_eq_false (show ¬ kvs.length = L.length by omega), Bool.false_and] at hR
        have hc' : ((kvs.length : Int) = L.length) = False := eq_false hc
        simp (config := { dsimp := false, maxSteps := 4000000 }) only [d_is_value, List.length_map, hc', ↓FUd, ↓FTd, ↓FRd, ↓FQd, ↓FPd, ↓FId, ↓FJd, ↓FMd, ↓FLd, ↓FKd, ↓FHd, ↓FGd, FGn, ↓FSd, FSn, String.reduceBEq, String.reduceEq, beq_self_eq_true, Nat.reducePow, fillS, tgOf, putS, stillE, outs, isiD, tyIs, tyD, ixN, BSn, BGn, Int.reduceToNat, Nat.reduceAdd, Int.reduceLT, Int.reduceLE, Int.reduceAdd, Int.reduceSub, Int.reduceMul, Int.reducePow, Nat.reduceLT, Nat.reduceLeDiff, Int.reduceNeg, Int.reduceEq, reduceCtorEq, gt_iff_lt, ge_iff_le, ne_eq]
        exact hR
    | @dx k kvs hy hl2 nd ho =>
      have hR : R (.d (.bl (decide (kvs.length = (L.map fieldD).length) && (L.map fieldD).all (fldX (isV n2) kvs)))) [] := hR
      rw [List.length_map] at hR
      by_cases hc : (kvs.length : Int) = L.length
      · rw [decide_eq_true (show kvs.length = L.length by omega), Bool.true_and] at hR
        simp (config := { dsimp := false, maxSteps := 4000000 }) only [d_is_value, List.length_map, hc, ↓f_inX, ↓f_itXd, ↓f_itXx, ↓f_itXl, ↓f_itXt, f_lenXx, f_listXx, ↓f_dSetX, itrD_x, td_x, nd_x, kvX_k, kvX_x, keyX_i, keyX_s, ↓FUd, ↓FTd, ↓FRd, ↓FQd, ↓FPd, ↓FId, ↓FJd, ↓FMd, ↓FLd, ↓FKd, ↓FHd, ↓FGd, FGn, ↓FSd, FSn, String.reduceBEq, String.reduceEq, beq_self_eq_true, Nat.reducePow, fillS, tgOf, putS, stillE, outs, isiD, tyIs, tyD, ixN, BSn, BGn, Int.reduceToNat, Nat.reduceAdd, Int.reduceLT, Int.reduceLE, Int.reduceAdd, Int.reduceSub, Int.reduceMul, Int.reducePow, Nat.reduceLT, Nat.reduceLeDiff, Int.reduceNeg, Int.reduceEq, reduceCtorEq, gt_iff_lt, ge_iff_le, ne_eq]
        refine LcP.filts (L := L) (a := fieldD) (fun e => !fldX (isV n2) kvs (fieldD e)) (fun e => .str e.1) (plain_cons (fun o e => by cases e; trivial) (plain_cons (fun o e => by cases e; trivial) plain_nil)) (sl_le (by omega)) (fun e he T U hT hU => ?_) ?_
        · have hb : fldX (isV n2) kvs (fieldD e) = optB (valX kvs (.text e.1)) (isV n2 e.2.1) := rfl
          cases hv : valX kvs (.text e.1) with
          | none =>
            rw [hv] at hb
            simp (config := { dsimp := false, maxSteps := 4000000 }) only [wipeE, w_field, ↓f_inX, ↓f_itXd, ↓f_itXx, ↓f_itXl, ↓f_itXt, f_lenXx, f_listXx, ↓f_dSetX, itrD_x, td_x, nd_x, kvX_k, kvX_x, keyX_i, keyX_s, nk_s, hv, Option.isSome_none, ↓FUd, ↓FTd, ↓FRd, ↓FQd, ↓FPd, ↓FId, ↓FJd, ↓FMd, ↓FLd, ↓FKd, ↓FHd, ↓FGd, FGn, ↓FSd, FSn, String.reduceBEq, String.reduceEq, beq_self_eq_true, Nat.reducePow, fillS, tgOf, putS, stillE, outs, isiD, tyIs, tyD, ixN, BSn, BGn, Int.reduceToNat, Nat.reduceAdd, Int.reduceLT, Int.reduceLE, Int.reduceAdd, Int.reduceSub, Int.reduceMul, Int.reducePow, Nat.reduceLT, Nat.reduceLeDiff, Int.reduceNeg, Int.reduceEq, reduceCtorEq, gt_iff_lt, ge_iff_le, ne_eq]
            exact hT _ rfl (by rw [hb]; rfl)
          | some w =>
            rw [hv] at hb
            simp (config := { dsimp := false, maxSteps := 4000000 }) only [wipeE, w_field, ↓f_inX, ↓f_itXd, ↓f_itXx, ↓f_itXl, ↓f_itXt, f_lenXx, f_listXx, ↓f_dSetX, itrD_x, td_x, nd_x, kvX_k, kvX_x, keyX_i, keyX_s, nk_s, hv, Option.isSome_some, ↓FUd, ↓FTd, ↓FRd, ↓FQd, ↓FPd, ↓FId, ↓FJd, ↓FMd, ↓FLd, ↓FKd, ↓FHd, ↓FGd, FGn, ↓FSd, FSn, String.reduceBEq, String.reduceEq, beq_self_eq_true, Nat.reducePow, fillS, tgOf, putS, stillE, outs, isiD, tyIs, tyD, ixN, BSn, BGn, Int.reduceToNat, Nat.reduceAdd, Int.reduceLT, Int.reduceLE, Int.reduceAdd, Int.reduceSub, Int.reduceMul, Int.reducePow, Nat.reduceLT, Nat.reduceLeDiff, Int.reduceNeg, Int.reduceEq, reduceCtorEq, gt_iff_lt, ge_iff_le, ne_eq]
            refine w_isvx (hk e he) (by omega) (valX_pgx hy hv) ?_
            cases hb2 : isV n2 e.2.1 w with
            | true =>
              try simp (config := { dsimp := false, maxSteps := 4000000 }) only [↓FUd, ↓FTd, ↓FRd, ↓FQd, ↓FPd, ↓FId, ↓FJd, ↓FMd, ↓FLd, ↓FKd, ↓FHd, ↓FGd, FGn, ↓FSd, FSn, String.reduceBEq, String.reduceEq, beq_self_eq_true, Nat.reducePow, fillS, tgOf, putS, stillE, outs, isiD, tyIs, tyD, ixN, BSn, BGn, Int.reduceToNat, Nat.reduceAdd, Int.reduceLT, Int.reduceLE, Int.reduceAdd, Int.reduceSub, Int.reduceMul, Int.reducePow, Nat.reduceLT, Nat.reduceLeDiff, Int.reduceNeg, Int.reduceEq, reduceCtorEq, gt_iff_lt, ge_iff_le, ne_eq]
              exact hU _ rfl (by rw [hb]; show (!(isV n2 e.2.1 w)) = false; rw [hb2]; rfl)
            | false =>
              try simp (config := { dsimp := false, maxSteps := 4000000 }) only [↓FUd, ↓FTd, ↓FRd, ↓FQd, ↓FPd, ↓FId, ↓FJd, ↓FMd, ↓FLd, ↓FKd, ↓FHd, ↓FGd, FGn, ↓FSd, FSn, String.reduceBEq, String.reduceEq, beq_self_eq_true, Nat.reducePow, fillS, tgOf, putS, stillE, outs, isiD, tyIs, tyD, ixN, BSn, BGn, Int.reduceToNat, Nat.reduceAdd, Int.reduceLT, Int.reduceLE, Int.reduceAdd, Int.reduceSub, Int.reduceMul, Int.reducePow, Nat.reduceLT, Nat.reduceLeDiff, Int.reduceNeg, Int.reduceEq, reduceCtorEq, gt_iff_lt, ge_iff_le, ne_eq]
              exact hT _ rfl (by rw [hb]; show (!(isV n2 e.2.1 w)) = true; rw [hb2]; rfl)
        · have e2 := all_fold fieldD (fldX (isV n2) kvs) (fun e => !fldX (isV n2) kvs (fieldD e)) (fun e => Dat.str e.1) (fun e => by rw [Bool.not_not]) L
          simp (config := { dsimp := false, maxSteps := 4000000 }) only [e2, ↓FUd, ↓FTd, ↓FRd, ↓FQd, ↓FPd, ↓FId, ↓FJd, ↓FMd, ↓FLd, ↓FKd, ↓FHd, ↓FGd, FGn, ↓FSd, FSn, String.reduceBEq, String.reduceEq, beq_self_eq_true, Nat.reducePow, fillS, tgOf, putS, stillE, outs, isiD, tyIs, tyD, ixN, BSn, BGn, Int.reduceToNat, Nat.reduceAdd, Int.reduceLT, Int.reduceLE, Int.reduceAdd, Int.reduceSub, Int.reduceMul, Int.reducePow, Nat.reduceLT, Nat.reduceLeDiff, Int.reduceNeg, Int.reduceEq, reduceCtorEq, gt_iff_lt, ge_iff_le, ne_eq]
          exact hR
      · rw [decide_eq_false (show ¬ kvs.length = L.length by omega), Bool.false_and] at hR
        have hc' : ((kvs.length : Int) = L.length) = False := eq_false hc
        simp (config := { dsimp := false, maxSteps := 4000000 }) only [d_is_value, List.length_map, hc', ↓f_inX, ↓f_itXd, ↓f_itXx, ↓f_itXl, ↓f_itXt, f_lenXx, f_listXx, ↓f_dSetX, itrD_x, td_x, nd_x, kvX_k, kvX_x, keyX_i, keyX_s, ↓FUd, ↓FTd, ↓FRd, ↓FQd, ↓FPd, ↓FId, ↓FJd, ↓FMd, ↓FLd, ↓FKd, ↓FHd, ↓FGd, FGn, ↓FSd, FSn, String.reduceBEq, String.reduceEq, beq_self_eq_true, Nat.reducePow, fillS, tgOf, putS, stillE, outs, isiD, tyIs, tyD, ixN, BSn, BGn, Int.reduceToNat, Nat.reduceAdd, Int.reduceLT, Int.reduceLE, Int.reduceAdd, Int.reduceSub, Int.reduceMul, Int.reducePow, Nat.reduceLT, Nat.reduceLeDiff, Int.reduceNeg, Int.reduceEq, reduceCtorEq, gt_iff_lt, ge_iff_le, ne_eq]
        exact hR
    | _ => simp (config := { dsimp := false, maxSteps := 4000000 }) only [d_is_value, nd_x, ↓FUd, ↓FTd, ↓FRd, ↓FQd, ↓FPd, ↓FId, ↓FJd, ↓FMd, ↓FLd, ↓FKd, ↓FHd, ↓FGd, FGn, ↓FSd, FSn, String.reduceBEq, String.reduceEq, beq_self_eq_true, Nat.reducePow, fillS, tgOf, putS, stillE, outs, isiD, tyIs, tyD, ixN, BSn, BGn, Int.reduceToNat, Nat.reduceAdd, Int.reduceLT, Int.reduceLE, Int.reduceAdd, Int.reduceSub, Int.reduceMul, Int.reducePow, Nat.reduceLT, Nat.reduceLeDiff, Int.reduceNeg, Int.reduceEq, reduceCtorEq, gt_iff_lt, ge_iff_le, ne_eq]; exact hR
  | @cho n2 L m g hk hn hl hm hmx hg hgx =>
    rw [isV_cho] at hR
    cases hp with
    | @tup k ts hy hl2 =>
      match ts, hy, hl2, hR with
      | [], hy, hl2, hR => simp (config := { dsimp := false, maxSteps := 4000000 }) only [d_is_value, ↓FUd, ↓FTd, ↓FRd, ↓FQd, ↓FPd, ↓FId, ↓FJd, ↓FMd, ↓FLd, ↓FKd, ↓FHd, ↓FGd, FGn, ↓FSd, FSn, String.reduceBEq, String.reduceEq, beq_self_eq_true, Nat.reducePow, fillS, tgOf, putS, stillE, outs, isiD, tyIs, tyD, ixN, BSn, BGn, Int.reduceToNat, Nat.reduceAdd, Int.reduceLT, Int.reduceLE, Int.reduceAdd, Int.reduceSub, Int.reduceMul, Int.reducePow, Nat.reduceLT, Nat.reduceLeDiff, Int.reduceNeg, Int.reduceEq, reduceCtorEq, gt_iff_lt, ge_iff_le, ne_eq]; exact hR
      | [t0], hy, hl2, hR => simp (config := { dsimp := false, maxSteps := 4000000 }) only [d_is_value, ↓FUd, ↓FTd, ↓FRd, ↓FQd, ↓FPd, ↓FId, ↓FJd, ↓FMd, ↓FLd, ↓FKd, ↓FHd, ↓FGd, FGn, ↓FSd, FSn, String.reduceBEq, String.reduceEq, beq_self_eq_true, Nat.reducePow, fillS, tgOf, putS, stillE, outs, isiD, tyIs, tyD, ixN, BSn, BGn, Int.reduceToNat, Nat.reduceAdd, Int.reduceLT, Int.reduceLE, Int.reduceAdd, Int.reduceSub, Int.reduceMul, Int.reducePow, Nat.reduceLT, Nat.reduceLeDiff, Int.reduceNeg, Int.reduceEq, reduceCtorEq, gt_iff_lt, ge_iff_le, ne_eq]; exact hR
      | t0 :: t1 :: t2 :: ts, hy, hl2, hR =>
        have hc' : (((ts.length + 1 + 1 + 1 : Nat) : Int) = 2) = False := eq_false (by omega)
        simp (config := { dsimp := false, maxSteps := 4000000 }) only [d_is_value, hc', ↓FUd, ↓FTd, ↓FRd, ↓FQd, ↓FPd, ↓FId, ↓FJd, ↓FMd, ↓FLd, ↓FKd, ↓FHd, ↓FGd, FGn, ↓FSd, FSn, String.reduceBEq, String.reduceEq, beq_self_eq_true, Nat.reducePow, fillS, tgOf, putS, stillE, outs, isiD, tyIs, tyD, ixN, BSn, BGn, Int.reduceToNat, Nat.reduceAdd, Int.reduceLT, Int.reduceLE, Int.reduceAdd, Int.reduceSub, Int.reduceMul, Int.reducePow, Nat.reduceLT, Nat.reduceLeDiff, Int.reduceNeg, Int.reduceEq, reduceCtorEq, gt_iff_lt, ge_iff_le, ne_eq]
        exact hR
      | [t0, t1], hy, hl2, hR =>
        have hR : R (.d (.bl (choV (isV n2) (L.map (·.1)) t1 t0))) [] := hR
        have n0 := pgx_ndt (hy t0 (by simp))
        cases t0 with
        | int i =>
          have hR : R (.d (.bl (decide (0 ≤ i) && (decide (i ≤ ((L.map (·.1)).length : Int) - 1) && optB (L.map (·.1))[i.toNat]? fun y => isV n2 y t1)))) [] := hR
          by_cases hi : 0 ≤ i ∧ i ≤ (L.length : Int) - 1
          · have e : isW 0 ((L.length : Int) - 1) (.int i) = true := by
              show (decide (0 ≤ i) && decide (i ≤ (L.length : Int) - 1)) = true
              rw [decide_eq_true hi.1, decide_eq_true hi.2]; rfl
            obtain ⟨e1, q1, q2⟩ := at_get (xs := L) hi.1 (by omega)
            rw [List.length_map, decide_eq_true hi.1, decide_eq_true hi.2, List.getElem?_map, q2] at hR
            have hR : R (.d (.bl (isV n2 e1.1 t1))) [] := hR
            simp (config := { dsimp := false, maxSteps := 4000000 }) only [d_is_value, ↓w_withinE, ↓f_inX, ↓f_itXd, ↓f_itXx, ↓f_itXl, ↓f_itXt, f_lenXx, f_listXx, ↓f_dSetX, itrD_x, td_x, nd_x, kvX_k, kvX_x, keyX_i, keyX_s, List.length_map, e, q1, ↓FUd, ↓FTd, ↓FRd, ↓FQd, ↓FPd, ↓FId, ↓FJd, ↓FMd, ↓FLd, ↓FKd, ↓FHd, ↓FGd, FGn, ↓FSd, FSn, String.reduceBEq, String.reduceEq, beq_self_eq_true, Nat.reducePow, fillS, tgOf, putS, stillE, outs, isiD, tyIs, tyD, ixN, BSn, BGn, Int.reduceToNat, Nat.reduceAdd, Int.reduceLT, Int.reduceLE, Int.reduceAdd, Int.reduceSub, Int.reduceMul, Int.reducePow, Nat.reduceLT, Nat.reduceLeDiff, Int.reduceNeg, Int.reduceEq, reduceCtorEq, gt_iff_lt, ge_iff_le, ne_eq]
            refine w_isvx (hk e1 (List.mem_of_getElem? q2)) (by omega) (hy t1 (by simp)) ?_
            try simp (config := { dsimp := false, maxSteps := 4000000 }) only [↓FUd, ↓FTd, ↓FRd, ↓FQd, ↓FPd, ↓FId, ↓FJd, ↓FMd, ↓FLd, ↓FKd, ↓FHd, ↓FGd, FGn, ↓FSd, FSn, String.reduceBEq, String.reduceEq, beq_self_eq_true, Nat.reducePow, fillS, tgOf, putS, stillE, outs, isiD, tyIs, tyD, ixN, BSn, BGn, Int.reduceToNat, Nat.reduceAdd, Int.reduceLT, Int.reduceLE, Int.reduceAdd, Int.reduceSub, Int.reduceMul, Int.reducePow, Nat.reduceLT, Nat.reduceLeDiff, Int.reduceNeg, Int.reduceEq, reduceCtorEq, gt_iff_lt, ge_iff_le, ne_eq]
            exact hR
          · have e : isW 0 ((L.length : Int) - 1) (.int i) = false := by
              show (decide (0 ≤ i) && decide (i ≤ (L.length : Int) - 1)) = false
              rw [Bool.and_eq_false_iff, decide_eq_false_iff_not, decide_eq_false_iff_not]
              omega
            have hR : R (.d (.bl false)) [] := by
              rw [List.length_map] at hR
              by_cases h0 : 0 ≤ i
              · rw [decide_eq_true h0, decide_eq_false (by omega)] at hR; exact hR
              · rw [decide_eq_false h0] at hR; exact hR
            simp (config := { dsimp := false, maxSteps := 4000000 }) only [d_is_value, ↓w_withinE, ↓f_inX, ↓f_itXd, ↓f_itXx, ↓f_itXl, ↓f_itXt, f_lenXx, f_listXx, ↓f_dSetX, itrD_x, td_x, nd_x, kvX_k, kvX_x, keyX_i, keyX_s, List.length_map, e, ↓FUd, ↓FTd, ↓FRd, ↓FQd, ↓FPd, ↓FId, ↓FJd, ↓FMd, ↓FLd, ↓FKd, ↓FHd, ↓FGd, FGn, ↓FSd, FSn, String.reduceBEq, String.reduceEq, beq_self_eq_true, Nat.reducePow, fillS, tgOf, putS, stillE, outs, isiD, tyIs, tyD, ixN, BSn, BGn, Int.reduceToNat, Nat.reduceAdd, Int.reduceLT, Int.reduceLE, Int.reduceAdd, Int.reduceSub, Int.reduceMul, Int.reducePow, Nat.reduceLT, Nat.reduceLeDiff, Int.reduceNeg, Int.reduceEq, reduceCtorEq, gt_iff_lt, ge_iff_le, ne_eq]
            exact hR
        | dt _ => exact n0.elim
        | ptr _ => exact n0.elim
        | _ =>
          simp (config := { dsimp := false, maxSteps := 4000000 }) only [d_is_value, ↓w_withinE, isW, nd_x, ↓f_inX, ↓f_itXd, ↓f_itXx, ↓f_itXl, ↓f_itXt, f_lenXx, f_listXx, ↓f_dSetX, itrD_x, td_x, nd_x, kvX_k, kvX_x, keyX_i, keyX_s, ↓FUd, ↓FTd, ↓FRd, ↓FQd, ↓FPd, ↓FId, ↓FJd, ↓FMd, ↓FLd, ↓FKd, ↓FHd, ↓FGd, FGn, ↓FSd, FSn, String.reduceBEq, String.reduceEq, beq_self_eq_true, Nat.reducePow, fillS, tgOf, putS, stillE, outs, isiD, tyIs, tyD, ixN, BSn, BGn, Int.reduceToNat, Nat.reduceAdd, Int.reduceLT, Int.reduceLE, Int.reduceAdd, Int.reduceSub, Int.reduceMul, Int.reducePow, Nat.reduceLT, Nat.reduceLeDiff, Int.reduceNeg, Int.reduceEq, reduceCtorEq, gt_iff_lt, ge_iff_le, ne_eq]
          exact hR
    | _ => simp (config := { dsimp := false, maxSteps := 4000000 }) only [d_is_value, nd_x, ↓FUd, ↓FTd, ↓FRd, ↓FQd, ↓FPd, ↓FId, ↓FJd, ↓FMd, ↓FLd, ↓FKd, ↓FHd, ↓FGd, FGn, ↓FSd, FSn, String.reduceBEq, String.reduceEq, beq_self_eq_true, Nat.reducePow, fillS, tgOf, putS, stillE, outs, isiD, tyIs, tyD, ixN, BSn, BGn, Int.reduceToNat, Nat.reduceAdd, Int.reduceLT, Int.reduceLE, Int.reduceAdd, Int.reduceSub, Int.reduceMul, Int.reducePow, Nat.reduceLT, Nat.reduceLeDiff, Int.reduceNeg, Int.reduceEq, reduceCtorEq, gt_iff_lt, ge_iff_le, ne_eq]; exact hR
def S__law_is_value (hx : HX) (n : Nat) : DSpec := fun args R _ => ∃ (d : Nat) (x : Dat) (r m : Int) (k : Nat) (v : Dat), args = [.d x, .d v] ∧ KD d x r m ∧ d ≤ n ∧ PgX hx k v ∧ R (.d (.bl (isV d x v))) []
theorem w_lisvx {hx : HX} {n d k : Nat} {x v : Dat} {r m : Int} {R : Slot → List Slot → Prop} {X : Value → List Slot → Prop} (hk : KD d x r m) (hd : d ≤ n) (hp : PgX hx k v) (h : R (.d (.bl (isV d x v))) []) : S__law_is_value hx n [.d x, .d v] R X := ⟨d, x, r, m, _, v, rfl, hk, hd, hp, h⟩
theorem law__law_is_value (hx : HX) (n : Nat) (args : List Slot) R X (h : S__law_is_value hx (n + 1) args R X) : args.length = 2 ∧ d__law_is_value S__law_top (S__law_is_value hx n) hx (kOf [] R X) (args.map some ++ List.replicate 3 none) := by
  obtain ⟨d, x, r, m, k, v, rfl, hk, hd, hp, hR⟩ := h
  refine ⟨rfl, ?_⟩
  have hnd := pgx_ndt hp
  cases hk with
  | @num n2 a m h1 h2 h3 =>
    rw [isV_num] at hR
    have ht := top_small h1 h2
    cases v with
    | dt _ => exact hnd.elim
    | ptr _ => exact hnd.elim
    | int i =>
      have hR : R (.d (.bl (decide (0 ≤ i) && decide (i ≤ 256 ^ r.toNat - 1)))) [] := hR
      simp (config := { dsimp := false, maxSteps := 4000000 }) only [d__law_is_value, ↓w_topE, ↓FUd, ↓FTd, ↓FRd, ↓FQd, ↓FPd, ↓FId, ↓FJd, ↓FMd, ↓FLd, ↓FKd, ↓FHd, ↓FGd, FGn, ↓FSd, FSn, String.reduceBEq, String.reduceEq, beq_self_eq_true, Nat.reducePow, fillS, tgOf, putS, stillE, outs, isiD, tyIs, tyD, ixN, BSn, BGn, Int.reduceToNat, Nat.reduceAdd, Int.reduceLT, Int.reduceLE, Int.reduceAdd, Int.reduceSub, Int.reduceMul, Int.reducePow, Nat.reduceLT, Nat.reduceLeDiff, Int.reduceNeg, Int.reduceEq, reduceCtorEq, gt_iff_lt, ge_iff_le, ne_eq]
      by_cases h0 : 0 ≤ i
      · rw [decide_eq_true h0, Bool.true_and] at hR
        simp (config := { dsimp := false, maxSteps := 4000000 }) only [h0, ↓FUd, ↓FTd, ↓FRd, ↓FQd, ↓FPd, ↓FId, ↓FJd, ↓FMd, ↓FLd, ↓FKd, ↓FHd, ↓FGd, FGn, ↓FSd, FSn, String.reduceBEq, String.reduceEq, beq_self_eq_true, Nat.reducePow, fillS, tgOf, putS, stillE, outs, isiD, tyIs, tyD, ixN, BSn, BGn, Int.reduceToNat, Nat.reduceAdd, Int.reduceLT, Int.reduceLE, Int.reduceAdd, Int.reduceSub, Int.reduceMul, Int.reducePow, Nat.reduceLT, Nat.reduceLeDiff, Int.reduceNeg, Int.reduceEq, reduceCtorEq, gt_iff_lt, ge_iff_le, ne_eq]
        exact ⟨h1, h2, hR⟩
      · rw [decide_eq_false h0, Bool.false_and] at hR
        simp (config := { dsimp := false, maxSteps := 4000000 }) only [h0, ↓FUd, ↓FTd, ↓FRd, ↓FQd, ↓FPd, ↓FId, ↓FJd, ↓FMd, ↓FLd, ↓FKd, ↓FHd, ↓FGd, FGn, ↓FSd, FSn, String.reduceBEq, String.reduceEq, beq_self_eq_true, Nat.reducePow, fillS, tgOf, putS, stillE, outs, isiD, tyIs, tyD, ixN, BSn, BGn, Int.reduceToNat, Nat.reduceAdd, Int.reduceLT, Int.reduceLE, Int.reduceAdd, Int.reduceSub, Int.reduceMul, Int.reducePow, Nat.reduceLT, Nat.reduceLeDiff, Int.reduceNeg, Int.reduceEq, reduceCtorEq, gt_iff_lt, ge_iff_le, ne_eq]
        exact hR
    | _ =>
      simp (config := { dsimp := false, maxSteps := 4000000 }) only [d__law_is_value, ↓w_topE, nd_x, ↓FUd, ↓FTd, ↓FRd, ↓FQd, ↓FPd, ↓FId, ↓FJd, ↓FMd, ↓FLd, ↓FKd, ↓FHd, ↓FGd, FGn, ↓FSd, FSn, String.reduceBEq, String.reduceEq, beq_self_eq_true, Nat.reducePow, fillS, tgOf, putS, stillE, outs, isiD, tyIs, tyD, ixN, BSn, BGn, Int.reduceToNat, Nat.reduceAdd, Int.reduceLT, Int.reduceLE, Int.reduceAdd, Int.reduceSub, Int.reduceMul, Int.reducePow, Nat.reduceLT, Nat.reduceLeDiff, Int.reduceNeg, Int.reduceEq, reduceCtorEq, gt_iff_lt, ge_iff_le, ne_eq]
      exact hR
  | @row n2 x r m c hk h1 h2 =>
    rw [isV_row hk] at hR
    cases hp with
    | @lst k ys hy hl =>
      have hR : R (.d (.bl (decide ((ys.length : Int) = c) && ys.all (isV n2 x)))) [] := hR
      by_cases hc : (ys.length : Int) = c
      · rw [decide_eq_true hc, Bool.true_and] at hR
        simp (config := { dsimp := false, maxSteps := 4000000 }) only [d__law_is_value, hc, ↓FUd, ↓FTd, ↓FRd, ↓FQd, ↓FPd, ↓FId, ↓FJd, ↓FMd, ↓FLd, ↓FKd, ↓FHd, ↓FGd, FGn, ↓FSd, FSn, String.reduceBEq, String.reduceEq, beq_self_eq_true, Nat.reducePow, fillS, tgOf, putS, stillE, outs, isiD, tyIs, tyD, ixN, BSn, BGn, Int.reduceToNat, Nat.reduceAdd, Int.reduceLT, Int.reduceLE, Int.reduceAdd, Int.reduceSub, Int.reduceMul, Int.reducePow, Nat.reduceLT, Nat.reduceLeDiff, Int.reduceNeg, Int.reduceEq, reduceCtorEq, gt_iff_lt, ge_iff_le, ne_eq]
        refine LcP.filt (fun y => !isV n2 x y) (fun y => .int 1) (plain_cons (fun o e => by cases e; trivial) plain_nil) (sl_le hl) (fun y hyy T U hT hU => ?_) ?_
        · simp (config := { dsimp := false, maxSteps := 4000000 }) only [wipeE, ↓FUd, ↓FTd, ↓FRd, ↓FQd, ↓FPd, ↓FId, ↓FJd, ↓FMd, ↓FLd, ↓FKd, ↓FHd, ↓FGd, FGn, ↓FSd, FSn, String.reduceBEq, String.reduceEq, beq_self_eq_true, Nat.reducePow, fillS, tgOf, putS, stillE, outs, isiD, tyIs, tyD, ixN, BSn, BGn, Int.reduceToNat, Nat.reduceAdd, Int.reduceLT, Int.reduceLE, Int.reduceAdd, Int.reduceSub, Int.reduceMul, Int.reducePow, Nat.reduceLT, Nat.reduceLeDiff, Int.reduceNeg, Int.reduceEq, reduceCtorEq, gt_iff_lt, ge_iff_le, ne_eq]
          refine w_lisvx hk (by omega) (hy y hyy) ?_
          cases hb : isV n2 x y with
          | true =>
            try simp (config := { dsimp := false, maxSteps := 4000000 }) only [↓FUd, ↓FTd, ↓FRd, ↓FQd, ↓FPd, ↓FId, ↓FJd, ↓FMd, ↓FLd, ↓FKd, ↓FHd, ↓FGd, FGn, ↓FSd, FSn, String.reduceBEq, String.reduceEq, beq_self_eq_true, Nat.reducePow, fillS, tgOf, putS, stillE, outs, isiD, tyIs, tyD, ixN, BSn, BGn, Int.reduceToNat, Nat.reduceAdd, Int.reduceLT, Int.reduceLE, Int.reduceAdd, Int.reduceSub, Int.reduceMul, Int.reducePow, Nat.reduceLT, Nat.reduceLeDiff, Int.reduceNeg, Int.reduceEq, reduceCtorEq, gt_iff_lt, ge_iff_le, ne_eq]
            exact hU _ rfl (by rw [hb]; rfl)
          | false =>
            try simp (config := { dsimp := false, maxSteps := 4000000 }) only [↓FUd, ↓FTd, ↓FRd, ↓FQd, ↓FPd, ↓FId, ↓FJd, ↓FMd, ↓FLd, ↓FKd, ↓FHd, ↓FGd, FGn, ↓FSd, FSn, String.reduceBEq, String.reduceEq, beq_self_eq_true, Nat.reducePow, fillS, tgOf, putS, stillE, outs, isiD, tyIs, tyD, ixN, BSn, BGn, Int.reduceToNat, Nat.reduceAdd, Int.reduceLT, Int.reduceLE, Int.reduceAdd, Int.reduceSub, Int.reduceMul, Int.reducePow, Nat.reduceLT, Nat.reduceLeDiff, Int.reduceNeg, Int.reduceEq, reduceCtorEq, gt_iff_lt, ge_iff_le, ne_eq]
            exact hT _ rfl (by rw [hb]; rfl)
        · have e2 := all_fold (fun y : Dat => y) (isV n2 x) (fun y => !isV n2 x y) (fun _ => Dat.int 1) (fun e => by rw [Bool.not_not]) ys
          rw [List.map_id'] at e2
          simp (config := { dsimp := false, maxSteps := 4000000 }) only [e2, ↓FUd, ↓FTd, ↓FRd, ↓FQd, ↓FPd, ↓FId, ↓FJd, ↓FMd, ↓FLd, ↓FKd, ↓FHd, ↓FGd, FGn, ↓FSd, FSn, String.reduceBEq, String.reduceEq, beq_self_eq_true, Nat.reducePow, fillS, tgOf, putS, stillE, outs, isiD, tyIs, tyD, ixN, BSn, BGn, Int.reduceToNat, Nat.reduceAdd, Int.reduceLT, Int.reduceLE, Int.reduceAdd, Int.reduceSub, Int.reduceMul, Int.reducePow, Nat.reduceLT, Nat.reduceLeDiff, Int.reduceNeg, Int.reduceEq, reduceCtorEq, gt_iff_lt, ge_iff_le, ne_eq]
          exact hR
      · rw [decide_eq_false hc, Bool.false_and] at hR
        have hc' : ((ys.length : Int) = c) = False := eq_false hc
        simp (config := { dsimp := false, maxSteps := 4000000 }) only [d__law_is_value, hc', ↓FUd, ↓FTd, ↓FRd, ↓FQd, ↓FPd, ↓FId, ↓FJd, ↓FMd, ↓FLd, ↓FKd, ↓FHd, ↓FGd, FGn, ↓FSd, FSn, String.reduceBEq, String.reduceEq, beq_self_eq_true, Nat.reducePow, fillS, tgOf, putS, stillE, outs, isiD, tyIs, tyD, ixN, BSn, BGn, Int.reduceToNat, Nat.reduceAdd, Int.reduceLT, Int.reduceLE, Int.reduceAdd, Int.reduceSub, Int.reduceMul, Int.reducePow, Nat.reduceLT, Nat.reduceLeDiff, Int.reduceNeg, Int.reduceEq, reduceCtorEq, gt_iff_lt, ge_iff_le, ne_eq]
        exact hR
    | _ => simp (config := { dsimp := false, maxSteps := 4000000 }) only [d__law_is_value, nd_x, ↓FUd, ↓FTd, ↓FRd, ↓FQd, ↓FPd, ↓FId, ↓FJd, ↓FMd, ↓FLd, ↓FKd, ↓FHd, ↓FGd, FGn, ↓FSd, FSn, String.reduceBEq, String.reduceEq, beq_self_eq_true, Nat.reducePow, fillS, tgOf, putS, stillE, outs, isiD, tyIs, tyD, ixN, BSn, BGn, Int.reduceToNat, Nat.reduceAdd, Int.reduceLT, Int.reduceLE, Int.reduceAdd, Int.reduceSub, Int.reduceMul, Int.reducePow, Nat.reduceLT, Nat.reduceLeDiff, Int.reduceNeg, Int.reduceEq, reduceCtorEq, gt_iff_lt, ge_iff_le, ne_eq]; exact hR
  | @reco n2 L m hk hn hl hm hmx hN hD =>
    rw [isV_rec] at hR
    cases hp with
    | @dk k kvs hy hl2 nd =>
      have hR : R (.d (.bl (decide (kvs.length = (L.map fieldD).length) && (L.map fieldD).all (fldV (isV n2) kvs)))) [] := hR
      rw [List.length_map] at hR
      by_cases hc : (kvs.length : Int) = L.length
      · rw [decide_eq_true (show kvs.length = L.length by omega), Bool.true_and] at hR
        simp (config := { dsimp := false, maxSteps := 4000000 }) only [d__law_is_value, List.length_map, hc, ↓FUd, ↓FTd, ↓FRd, ↓FQd, ↓FPd, ↓FId, ↓FJd, ↓FMd, ↓FLd, ↓FKd, ↓FHd, ↓FGd, FGn, ↓FSd, FSn, String.reduceBEq, String.reduceEq, beq_self_eq_true, Nat.reducePow, fillS, tgOf, putS, stillE, outs, isiD, tyIs, tyD, ixN, BSn, BGn, Int.reduceToNat, Nat.reduceAdd, Int.reduceLT, Int.reduceLE, Int.reduceAdd, Int.reduceSub, Int.reduceMul, Int.reducePow, Nat.reduceLT, Nat.reduceLeDiff, Int.reduceNeg, Int.reduceEq, reduceCtorEq, gt_iff_lt, ge_iff_le, ne_eq]
        refine ForP.maps (L := L) (a := fieldD) (fun i ρ => ∃ s2 s3 : Option Slot, ρ = [some (.d (.tup [.str "record", .lst (L.map fieldD)])), some (.d (.dk kvs)), s2, s3, none] ∧ ∀ e ∈ L.take i, fldV (isV n2) kvs (fieldD e) = true) ⟨_, _, rfl, fun e h => by cases h⟩ (fun i e ρ2 hi hI => ?_) fun ρ2 hI => ?_
        · obtain ⟨s2, s3, rfl, hall⟩ := hI
          have he := List.mem_of_getElem? hi
          have hb : fldV (isV n2) kvs (fieldD e) = optB (valD kvs (.inr e.1)) (isV n2 e.2.1) := rfl
          have bad : fldV (isV n2) kvs (fieldD e) = false → R (.d (.bl false)) [] := fun hf => by
            have : (L.map fieldD).all (fldV (isV n2) kvs) = false := List.all_eq_false.mpr ⟨fieldD e, List.mem_map_of_mem he, by rw [hf]; decide⟩
            rw [this] at hR
            exact hR
          have good : fldV (isV n2) kvs (fieldD e) = true → ∀ z ∈ L.take (i + 1), fldV (isV n2) kvs (fieldD z) = true := fun hf z hz => by
            rw [take_snoc hi] at hz
            rcases List.mem_append.mp hz with hz | hz
            · exact hall z hz
            · rw [List.mem_singleton.mp hz]; exact hf
          cases hv : valD kvs (.inr e.1) with
          | none =>
            rw [hv] at hb
            simp (config := { dsimp := false, maxSteps := 4000000 }) only [w_field, ↓f_inX, ↓f_itXd, ↓f_itXx, ↓f_itXl, ↓f_itXt, f_lenXx, f_listXx, ↓f_dSetX, itrD_x, td_x, nd_x, kvX_k, kvX_x, keyX_i, keyX_s, valX_k, hv, Option.isSome_none, ↓FUd, ↓FTd, ↓FRd, ↓FQd, ↓FPd, ↓FId, ↓FJd, ↓FMd, ↓FLd, ↓FKd, ↓FHd, ↓FGd, FGn, ↓FSd, FSn, String.reduceBEq, String.reduceEq, beq_self_eq_true, Nat.reducePow, fillS, tgOf, putS, stillE, outs, isiD, tyIs, tyD, ixN, BSn, BGn, Int.reduceToNat, Nat.reduceAdd, Int.reduceLT, Int.reduceLE, Int.reduceAdd, Int.reduceSub, Int.reduceMul, Int.reducePow, Nat.reduceLT, Nat.reduceLeDiff, Int.reduceNeg, Int.reduceEq, reduceCtorEq, gt_iff_lt, ge_iff_le, ne_eq]
            exact bad hb
          | some w =>
            rw [hv] at hb
            simp (config := { dsimp := false, maxSteps := 4000000 }) only [w_field, ↓f_inX, ↓f_itXd, ↓f_itXx, ↓f_itXl, ↓f_itXt, f_lenXx, f_listXx, ↓f_dSetX, itrD_x, td_x, nd_x, kvX_k, kvX_x, keyX_i, keyX_s, valX_k, hv, Option.isSome_some, ↓FUd, ↓FTd, ↓FRd, ↓FQd, ↓FPd, ↓FId, ↓FJd, ↓FMd, ↓FLd, ↓FKd, ↓FHd, ↓FGd, FGn, ↓FSd, FSn, String.reduceBEq, String.reduceEq, beq_self_eq_true, Nat.reducePow, fillS, tgOf, putS, stillE, outs, isiD, tyIs, tyD, ixN, BSn, BGn, Int.reduceToNat, Nat.reduceAdd, Int.reduceLT, Int.reduceLE, Int.reduceAdd, Int.reduceSub, Int.reduceMul, Int.reducePow, Nat.reduceLT, Nat.reduceLeDiff, Int.reduceNeg, Int.reduceEq, reduceCtorEq, gt_iff_lt, ge_iff_le, ne_eq]
            refine w_lisvx (hk e he) (by omega) (valD_pgx hy hv) ?_
            cases hb2 : isV n2 e.2.1 w with
            | true =>
              try simp (config := { dsimp := false, maxSteps := 4000000 }) only [↓FUd, ↓FTd, ↓FRd, ↓FQd, ↓FPd, ↓FId, ↓FJd, ↓FMd, ↓FLd, ↓FKd, ↓FHd, ↓FGd, FGn, ↓FSd, FSn, String.reduceBEq, String.reduceEq, beq_self_eq_true, Nat.reducePow, fillS, tgOf, putS, stillE, outs, isiD, tyIs, tyD, ixN, BSn, BGn, Int.reduceToNat, Nat.reduceAdd, Int.reduceLT, Int.reduceLE, Int.reduceAdd, Int.reduceSub, Int.reduceMul, Int.reducePow, Nat.reduceLT, Nat.reduceLeDiff, Int.reduceNeg, Int.reduceEq, reduceCtorEq, gt_iff_lt, ge_iff_le, ne_eq]
              exact ⟨_, _, ⟨rfl, rfl⟩, good (hb.trans hb2)⟩
            | false =>
              try simp (config := { dsimp := false, maxSteps := 4000000 }) only [↓FUd, ↓FTd, ↓FRd, ↓FQd, ↓FPd, ↓FId, ↓FJd, ↓FMd, ↓FLd, ↓FKd, ↓FHd, ↓FGd, FGn, ↓FSd, FSn, String.reduceBEq, String.reduceEq, beq_self_eq_true, Nat.reducePow, fillS, tgOf, putS, stillE, outs, isiD, tyIs, tyD, ixN, BSn, BGn, Int.reduceToNat, Nat.reduceAdd, Int.reduceLT, Int.reduceLE, Int.reduceAdd, Int.reduceSub, Int.reduceMul, Int.reducePow, Nat.reduceLT, Nat.reduceLeDiff, Int.reduceNeg, Int.reduceEq, reduceCtorEq, gt_iff_lt, ge_iff_le, ne_eq]
              exact bad (hb.trans hb2)
        · obtain ⟨s2, s3, rfl, hall⟩ := hI
          rw [List.take_length] at hall
          have : (L.map fieldD).all (fldV (isV n2) kvs) = true := List.all_eq_true.mpr fun z hz => by
            obtain ⟨e, he, rfl⟩ := List.mem_map.mp hz
            exact hall e he
          rw [this] at hR
          try simp (config := { dsimp := false, maxSteps := 4000000 }) only [↓FUd, ↓FTd, ↓FRd, ↓FQd, ↓FPd, ↓FId, ↓FJd, ↓FMd, ↓FLd, ↓FKd, ↓FHd, ↓FGd, FGn, ↓FSd, FSn, String.reduceBEq, String.reduceEq, beq_self_eq_true, Nat.reducePow, fillS, tgOf, putS, stillE, outs, isiD, tyIs, tyD, ixN, BSn, BGn, Int.reduceToNat, Nat.reduceAdd, Int.reduceLT, Int.reduceLE, Int.reduceAdd, Int.reduceSub, Int.reduceMul, Int.reducePow, Nat.reduceLT, Nat.reduceLeDiff, Int.reduceNeg, Int.reduceEq, reduceCtorEq, gt_iff_lt, ge_iff_le, ne_eq]
          exact hR
      · rw [decide_eq_false (show ¬ kvs.length = L.length by omega), Bool.false_and] at hR
        have hc' : ((kvs.length : Int) = L.length) = False := eq_false hc
        simp (config := { dsimp := false, maxSteps := 4000000 }) only [d__law_is_value, List.length_map, hc', ↓FUd, ↓FTd, ↓FRd, ↓FQd, ↓FPd, ↓FId, ↓FJd, ↓FMd, ↓FLd, ↓FKd, ↓FHd, ↓FGd, FGn, ↓FSd, FSn, String.reduceBEq, String.reduceEq, beq_self_eq_true, Nat.reducePow, fillS, tgOf, putS, stillE, outs, isiD, tyIs, tyD, ixN, BSn, BGn, Int.reduceToNat, Nat.reduceAdd, Int.reduceLT, Int.reduceLE, Int.reduceAdd, Int.reduceSub, Int.reduceMul, Int.reducePow, Nat.reduceLT, Nat.reduceLeDiff, Int.reduceNeg, Int.reduceEq, reduceCtorEq, gt_iff_lt, ge_iff_le, ne_eq]
        exact hR
    | @dx k kvs hy hl2 nd ho =>
      have hR : R (.d (.bl (decide (kvs.length = (L.map fieldD).length) && (L.map fieldD).all (fldX (isV n2) kvs)))) [] := hR
      rw [List.length_map] at hR
      by_cases hc : (kvs.length : Int) = L.length
      · rw [decide_eq_true (show kvs.length = L.length by omega), Bool.true_and] at hR
        simp (config := { dsimp := false, maxSteps := 4000000 }) only [d__law_is_value, List.length_map, hc, ↓f_inX, ↓f_itXd, ↓f_itXx, ↓f_itXl, ↓f_itXt, f_lenXx, f_listXx, ↓f_dSetX, itrD_x, td_x, nd_x, kvX_k, kvX_x, keyX_i, keyX_s, ↓FUd, ↓FTd, ↓FRd, ↓FQd, ↓FPd, ↓FId, ↓FJd, ↓FMd, ↓FLd, ↓FKd, ↓FHd, ↓FGd, FGn, ↓FSd, FSn, String.reduceBEq, String.reduceEq, beq_self_eq_true, Nat.reducePow, fillS, tgOf, putS, stillE, outs, isiD, tyIs, tyD, ixN, BSn, BGn, Int.reduceToNat, Nat.reduceAdd, Int.reduceLT, Int.reduceLE, Int.reduceAdd, Int.reduceSub, Int.reduceMul, Int.reducePow, Nat.reduceLT, Nat.reduceLeDiff, Int.reduceNeg, Int.reduceEq, reduceCtorEq, gt_iff_lt, ge_iff_le, ne_eq]
        refine ForP.maps (L := L) (a := fieldD) (fun i ρ => ∃ s2 s3 : Option Slot, ρ = [some (.d (.tup [.str "record", .lst (L.map fieldD)])), some (.d (.dx hx kvs)), s2, s3, none] ∧ ∀ e ∈ L.take i, fldX (isV n2) kvs (fieldD e) = true) ⟨_, _, rfl, fun e h => by cases h⟩ (fun i e ρ2 hi hI => ?_) fun ρ2 hI => ?_
        · obtain ⟨s2, s3, rfl, hall⟩ := hI
          have he := List.mem_of_getElem? hi
          have hb : fldX (isV n2) kvs (fieldD e) = optB (valX kvs (.text e.1)) (isV n2 e.2.1) := rfl
          have bad : fldX (isV n2) kvs (fieldD e) = false → R (.d (.bl false)) [] := fun hf => by
            have : (L.map fieldD).all (fldX (isV n2) kvs) = false := List.all_eq_false.mpr ⟨fieldD e, List.mem_map_of_mem he, by rw [hf]; decide⟩
            rw [this] at hR
            exact hR
          have good : fldX (isV n2) kvs (fieldD e) = true → ∀ z ∈ L.take (i + 1), fldX (isV n2) kvs (fieldD z) = true := fun hf z hz => by
            rw [take_snoc hi] at hz
            rcases List.mem_append.mp hz with hz | hz
            · exact hall z hz
            · rw [List.mem_singleton.mp hz]; exact hf
          cases hv : valX kvs (.text e.1) with
          | none =>
            rw [hv] at hb
            simp (config := { dsimp := false, maxSteps := 4000000 }) only [w_field, ↓f_inX, ↓f_itXd, ↓f_itXx, ↓f_itXl, ↓f_itXt, f_lenXx, f_listXx, ↓f_dSetX, itrD_x, td_x, nd_x, kvX_k, kvX_x, keyX_i, keyX_s, nk_s, hv, Option.isSome_none, ↓FUd, ↓FTd, ↓FRd, ↓FQd, ↓FPd, ↓FId, ↓FJd, ↓FMd, ↓FLd, ↓FKd, ↓FHd, ↓FGd, FGn, ↓FSd, FSn, String.reduceBEq, String.reduceEq, beq_self_eq_true, Nat.reducePow, fillS, tgOf, putS, stillE, outs, isiD, tyIs, tyD, ixN, BSn, BGn, Int.reduceToNat, Nat.reduceAdd, Int.reduceLT, Int.reduceLE, Int.reduceAdd, Int.reduceSub, Int.reduceMul, Int.reducePow, Nat.reduceLT, Nat.reduceLeDiff, Int.reduceNeg, Int.reduceEq, reduceCtorEq, gt_iff_lt, ge_iff_le, ne_eq]
            exact bad hb
          | some w =>
            rw [hv] at hb
            simp (config := { dsimp := false, maxSteps := 4000000 }) only [w_field, ↓f_inX, ↓f_itXd, ↓f_itXx, ↓f_itXl, ↓f_itXt, f_lenXx, f_listXx, ↓f_dSetX, itrD_x, td_x, nd_x, kvX_k, kvX_x, keyX_i, keyX_s, nk_s, hv, Option.isSome_some, ↓FUd, ↓FTd, ↓FRd, ↓FQd, ↓FPd, ↓FId, ↓FJd, ↓FMd, ↓FLd, ↓FKd, ↓FHd, ↓FGd, FGn, ↓FSd, FSn, String.reduceBEq, String.reduceEq, beq_self_eq_true, Nat.reducePow, fillS, tgOf, putS, stillE, outs, isiD, tyIs, tyD, ixN, BSn, BGn, Int.reduceToNat, Nat.reduceAdd, Int.reduceLT, Int.reduceLE, Int.reduceAdd, Int.reduceSub, Int.reduceMul, Int.reducePow, Nat.reduceLT, Nat.reduceLeDiff, Int.reduceNeg, Int.reduceEq, reduceCtorEq, gt_iff_lt, ge_iff_le, ne_eq]
            refine w_lisvx (hk e he) (by omega) (valX_pgx hy hv) ?_
            cases hb2 : isV n2 e.2.1 w with
            | true =>
              try simp (config := { dsimp := false, maxSteps := 4000000 }) only [↓FUd, ↓FTd, ↓FRd, ↓FQd, ↓FPd, ↓FId, ↓FJd, ↓FMd, ↓FLd, ↓FKd, ↓FHd, ↓FGd, FGn, ↓FSd, FSn, String.reduceBEq, String.reduceEq, beq_self_eq_true, Nat.reducePow, fillS, tgOf, putS, stillE, outs, isiD, tyIs, tyD, ixN, BSn, BGn, Int.reduceToNat, Nat.reduceAdd, Int.reduceLT, Int.reduceLE, Int.reduceAdd, Int.reduceSub, Int.reduceMul, Int.reducePow, Nat.reduceLT, Nat.reduceLeDiff, Int.reduceNeg, Int.reduceEq, reduceCtorEq, gt_iff_lt, ge_iff_le, ne_eq]
              exact ⟨_, _, ⟨rfl, rfl⟩, good (hb.trans hb2)⟩
            | false =>
              try simp (config := { dsimp := false, maxSteps := 4000000 }) only [↓FUd, ↓FTd, ↓FRd, ↓FQd, ↓FPd, ↓FId, ↓FJd, ↓FMd, ↓FLd, ↓FKd, ↓FHd, ↓FGd, FGn, ↓FSd, FSn, String.reduceBEq, String.reduceEq, beq_self_eq_true, Nat.reducePow, fillS, tgOf, putS, stillE, outs, isiD, tyIs, tyD, ixN, BSn, BGn, Int.reduceToNat, Nat.reduceAdd, Int.reduceLT, Int.reduceLE, Int.reduceAdd, Int.reduceSub, Int.reduceMul, Int.reducePow, Nat.reduceLT, Nat.reduceLeDiff, Int.reduceNeg, Int.reduceEq, reduceCtorEq, gt_iff_lt, ge_iff_le, ne_eq]
              exact bad (hb.trans hb2)
        · obtain ⟨s2, s3, rfl, hall⟩ := hI
          rw [List.take_length] at hall
          have : (L.map fieldD).all (fldX (isV n2) kvs) = true := List.all_eq_true.mpr fun z hz => by
            obtain ⟨e, he, rfl⟩ := List.mem_map.mp hz
            exact hall e he
          rw [this] at hR
          try simp (config := { dsimp := false, maxSteps := 4000000 }) only [↓FUd, ↓FTd, ↓FRd, ↓FQd, ↓FPd, ↓FId, ↓FJd, ↓FMd, ↓FLd, ↓FKd, ↓FHd, ↓FGd, FGn, ↓FSd, FSn, String.reduceBEq, String.reduceEq, beq_self_eq_true, Nat.reducePow, fillS, tgOf, putS, stillE, outs, isiD, tyIs, tyD, ixN, BSn, BGn, Int.reduceToNat, Nat.reduceAdd, Int.reduceLT, Int.reduceLE, Int.reduceAdd, Int.reduceSub, Int.reduceMul, Int.reducePow, Nat.reduceLT, Nat.reduceLeDiff, Int.reduceNeg, Int.reduceEq, reduceCtorEq, gt_iff_lt, ge_iff_le, ne_eq]
          exact hR
      · rw [decide_eq_false (show ¬ kvs.length = L.length by omega), Bool.false_and] at hR
        have hc' : ((kvs.length : Int) = L.length) = False := eq_false hc
        simp (config := { dsimp := false, maxSteps := 4000000 }) only [d__law_is_value, List.length_map, hc', ↓f_inX, ↓f_itXd, ↓f_itXx, ↓f_itXl, ↓f_itXt, f_lenXx, f_listXx, ↓f_dSetX, itrD_x, td_x, nd_x, kvX_k, kvX_x, keyX_i, keyX_s, ↓FUd, ↓FTd, ↓FRd, ↓FQd, ↓FPd, ↓FId, ↓FJd, ↓FMd, ↓FLd, ↓FKd, ↓FHd, ↓FGd, FGn, ↓FSd, FSn, String.reduceBEq, String.reduceEq, beq_self_eq_true, Nat.reducePow, fillS, tgOf, putS, stillE, outs, isiD, tyIs, tyD, ixN, BSn, BGn, Int.reduceToNat, Nat.reduceAdd, Int.reduceLT, Int.reduceLE, Int.reduceAdd, Int.reduceSub, Int.reduceMul, Int.reducePow, Nat.reduceLT, Nat.reduceLeDiff, Int.reduceNeg, Int.reduceEq, reduceCtorEq, gt_iff_lt, ge_iff_le, ne_eq]
        exact hR
    | _ => simp (config := { dsimp := false, maxSteps := 4000000 }) only [d__law_is_value, nd_x, ↓FUd, ↓FTd, ↓FRd, ↓FQd, ↓FPd, ↓FId, ↓FJd, ↓FMd, ↓FLd, ↓FKd, ↓FHd, ↓FGd, FGn, ↓FSd, FSn, String.reduceBEq, String.reduceEq, beq_self_eq_true, Nat.reducePow, fillS, tgOf, putS, stillE, outs, isiD, tyIs, tyD, ixN, BSn, BGn, Int.reduceToNat, Nat.reduceAdd, Int.reduceLT, Int.reduceLE, Int.reduceAdd, Int.reduceSub, Int.reduceMul, Int.reducePow, Nat.reduceLT, Nat.reduceLeDiff, Int.reduceNeg, Int.reduceEq, reduceCtorEq, gt_iff_lt, ge_iff_le, ne_eq]; exact hR
  | @cho n2 L m g hk hn hl hm hmx hg hgx =>
    rw [isV_cho] at hR
    cases hp with
    | @tup k ts hy hl2 =>
      match ts, hy, hl2, hR with
      | [], hy, hl2, hR => simp (config := { dsimp := false, maxSteps := 4000000 }) only [d__law_is_value, ↓FUd, ↓FTd, ↓FRd, ↓FQd, ↓FPd, ↓FId, ↓FJd, ↓FMd, ↓FLd, ↓FKd, ↓FHd, ↓FGd, FGn, ↓FSd, FSn, String.reduceBEq, String.reduceEq, beq_self_eq_true, Nat.reducePow, fillS, tgOf, putS, stillE, outs, isiD, tyIs, tyD, ixN, BSn, BGn, Int.reduceToNat, Nat.reduceAdd, Int.reduceLT, Int.reduceLE, Int.reduceAdd, Int.reduceSub, Int.reduceMul, Int.reducePow, Nat.reduceLT, Nat.reduceLeDiff, Int.reduceNeg, Int.reduceEq, reduceCtorEq, gt_iff_lt, ge_iff_le, ne_eq]; exact hR
      | [t0], hy, hl2, hR => simp (config := { dsimp := false, maxSteps := 4000000 }) only [d__law_is_value, ↓FUd, ↓FTd, ↓FRd, ↓FQd, ↓FPd, ↓FId, ↓FJd, ↓FMd, ↓FLd, ↓FKd, ↓FHd, ↓FGd, FGn, ↓FSd, FSn, String.reduceBEq, String.reduceEq, beq_self_eq_true, Nat.reducePow, fillS, tgOf, putS, stillE, outs, isiD, tyIs, tyD, ixN, BSn, BGn, Int.reduceToNat, Nat.reduceAdd, Int.reduceLT, Int.reduceLE, Int.reduceAdd, Int.reduceSub, Int.reduceMul, Int.reducePow, Nat.reduceLT, Nat.reduceLeDiff, Int.reduceNeg, Int.reduceEq, reduceCtorEq, gt_iff_lt, ge_iff_le, ne_eq]; exact hR
      | t0 :: t1 :: t2 :: ts, hy, hl2, hR =>
        have hc' : (((ts.length + 1 + 1 + 1 : Nat) : Int) = 2) = False := eq_false (by omega)
        simp (config := { dsimp := false, maxSteps := 4000000 }) only [d__law_is_value, hc', ↓FUd, ↓FTd, ↓FRd, ↓FQd, ↓FPd, ↓FId, ↓FJd, ↓FMd, ↓FLd, ↓FKd, ↓FHd, ↓FGd, FGn, ↓FSd, FSn, String.reduceBEq, String.reduceEq, beq_self_eq_true, Nat.reducePow, fillS, tgOf, putS, stillE, outs, isiD, tyIs, tyD, ixN, BSn, BGn, Int.reduceToNat, Nat.reduceAdd, Int.reduceLT, Int.reduceLE, Int.reduceAdd, Int.reduceSub, Int.reduceMul, Int.reducePow, Nat.reduceLT, Nat.reduceLeDiff, Int.reduceNeg, Int.reduceEq, reduceCtorEq, gt_iff_lt, ge_iff_le, ne_eq]
        exact hR
      | [t0, t1], hy, hl2, hR =>
        have hR : R (.d (.bl (choV (isV n2) (L.map (·.1)) t1 t0))) [] := hR
        have n0 := pgx_ndt (hy t0 (by simp))
        cases t0 with
        | int i =>
          have hR : R (.d (.bl (decide (0 ≤ i) && (decide (i ≤ ((L.map (·.1)).length : Int) - 1) && optB (L.map (·.1))[i.toNat]? fun y => isV n2 y t1)))) [] := hR
          by_cases h0 : 0 ≤ i
          · by_cases hi : i < (L.length : Int)
            · obtain ⟨e1, q1, q2⟩ := at_get (xs := L) h0 (by omega)
              rw [List.length_map, decide_eq_true h0, decide_eq_true (show i ≤ (L.length : Int) - 1 by omega), List.getElem?_map, q2] at hR
              have hR : R (.d (.bl (isV n2 e1.1 t1))) [] := hR
              simp (config := { dsimp := false, maxSteps := 4000000 }) only [d__law_is_value, ↓f_inX, ↓f_itXd, ↓f_itXx, ↓f_itXl, ↓f_itXt, f_lenXx, f_listXx, ↓f_dSetX, itrD_x, td_x, nd_x, kvX_k, kvX_x, keyX_i, keyX_s, List.length_map, h0, hi, q1, ↓FUd, ↓FTd, ↓FRd, ↓FQd, ↓FPd, ↓FId, ↓FJd, ↓FMd, ↓FLd, ↓FKd, ↓FHd, ↓FGd, FGn, ↓FSd, FSn, String.reduceBEq, String.reduceEq, beq_self_eq_true, Nat.reducePow, fillS, tgOf, putS, stillE, outs, isiD, tyIs, tyD, ixN, BSn, BGn, Int.reduceToNat, Nat.reduceAdd, Int.reduceLT, Int.reduceLE, Int.reduceAdd, Int.reduceSub, Int.reduceMul, Int.reducePow, Nat.reduceLT, Nat.reduceLeDiff, Int.reduceNeg, Int.reduceEq, reduceCtorEq, gt_iff_lt, ge_iff_le, ne_eq]
              refine w_lisvx (hk e1 (List.mem_of_getElem? q2)) (by omega) (hy t1 (by simp)) ?_
              try simp (config := { dsimp := false, maxSteps := 4000000 }) only [↓FUd, ↓FTd, ↓FRd, ↓FQd, ↓FPd, ↓FId, ↓FJd, ↓FMd, ↓FLd, ↓FKd, ↓FHd, ↓FGd, FGn, ↓FSd, FSn, String.reduceBEq, String.reduceEq, beq_self_eq_true, Nat.reducePow, fillS, tgOf, putS, stillE, outs, isiD, tyIs, tyD, ixN, BSn, BGn, Int.reduceToNat, Nat.reduceAdd, Int.reduceLT, Int.reduceLE, Int.reduceAdd, Int.reduceSub, Int.reduceMul, Int.reducePow, Nat.reduceLT, Nat.reduceLeDiff, Int.reduceNeg, Int.reduceEq, reduceCtorEq, gt_iff_lt, ge_iff_le, ne_eq]
              exact hR
            · have hR : R (.d (.bl false)) [] := by
                rw [List.length_map, decide_eq_true h0, decide_eq_false (show ¬ i ≤ (L.length : Int) - 1 by omega)] at hR; exact hR
              simp (config := { dsimp := false, maxSteps := 4000000 }) only [d__law_is_value, ↓f_inX, ↓f_itXd, ↓f_itXx, ↓f_itXl, ↓f_itXt, f_lenXx, f_listXx, ↓f_dSetX, itrD_x, td_x, nd_x, kvX_k, kvX_x, keyX_i, keyX_s, List.length_map, h0, hi, ↓FUd, ↓FTd, ↓FRd, ↓FQd, ↓FPd, ↓FId, ↓FJd, ↓FMd, ↓FLd, ↓FKd, ↓FHd, ↓FGd, FGn, ↓FSd, FSn, String.reduceBEq, String.reduceEq, beq_self_eq_true, Nat.reducePow, fillS, tgOf, putS, stillE, outs, isiD, tyIs, tyD, ixN, BSn, BGn, Int.reduceToNat, Nat.reduceAdd, Int.reduceLT, Int.reduceLE, Int.reduceAdd, Int.reduceSub, Int.reduceMul, Int.reducePow, Nat.reduceLT, Nat.reduceLeDiff, Int.reduceNeg, Int.reduceEq, reduceCtorEq, gt_iff_lt, ge_iff_le, ne_eq]
              exact hR
          · have hR : R (.d (.bl false)) [] := by
              rw [decide_eq_false h0] at hR; exact hR
            simp (config := { dsimp := false, maxSteps := 4000000 }) only [d__law_is_value, ↓f_inX, ↓f_itXd, ↓f_itXx, ↓f_itXl, ↓f_itXt, f_lenXx, f_listXx, ↓f_dSetX, itrD_x, td_x, nd_x, kvX_k, kvX_x, keyX_i, keyX_s, List.length_map, h0, ↓FUd, ↓FTd, ↓FRd, ↓FQd, ↓FPd, ↓FId, ↓FJd, ↓FMd, ↓FLd, ↓FKd, ↓FHd, ↓FGd, FGn, ↓FSd, FSn, String.reduceBEq, String.reduceEq, beq_self_eq_true, Nat.reducePow, fillS, tgOf, putS, stillE, outs, isiD, tyIs, tyD, ixN, BSn, BGn, Int.reduceToNat, Nat.reduceAdd, Int.reduceLT, Int.reduceLE, Int.reduceAdd, Int.reduceSub, Int.reduceMul, Int.reducePow, Nat.reduceLT, Nat.reduceLeDiff, Int.reduceNeg, Int.reduceEq, reduceCtorEq, gt_iff_lt, ge_iff_le, ne_eq]
            exact hR
        | dt _ => exact n0.elim
        | ptr _ => exact n0.elim
        | _ =>
          simp (config := { dsimp := false, maxSteps := 4000000 }) only [d__law_is_value, nd_x, ↓f_inX, ↓f_itXd, ↓f_itXx, ↓f_itXl, ↓f_itXt, f_lenXx, f_listXx, ↓f_dSetX, itrD_x, td_x, nd_x, kvX_k, kvX_x, keyX_i, keyX_s, ↓FUd, ↓FTd, ↓FRd, ↓FQd, ↓FPd, ↓FId, ↓FJd, ↓FMd, ↓FLd, ↓FKd, ↓FHd, ↓FGd, FGn, ↓FSd, FSn, String.reduceBEq, String.reduceEq, beq_self_eq_true, Nat.reducePow, fillS, tgOf, putS, stillE, outs, isiD, tyIs, tyD, ixN, BSn, BGn, Int.reduceToNat, Nat.reduceAdd, Int.reduceLT, Int.reduceLE, Int.reduceAdd, Int.reduceSub, Int.reduceMul, Int.reducePow, Nat.reduceLT, Nat.reduceLeDiff, Int.reduceNeg, Int.reduceEq, reduceCtorEq, gt_iff_lt, ge_iff_le, ne_eq]
          exact hR
    | _ => simp (config := { dsimp := false, maxSteps := 4000000 }) only [d__law_is_value, nd_x, ↓FUd, ↓FTd, ↓FRd, ↓FQd, ↓FPd, ↓FId, ↓FJd, ↓FMd, ↓FLd, ↓FKd, ↓FHd, ↓FGd, FGn, ↓FSd, FSn, String.reduceBEq, String.reduceEq, beq_self_eq_true, Nat.reducePow, fillS, tgOf, putS, stillE, outs, isiD, tyIs, tyD, ixN, BSn, BGn, Int.reduceToNat, Nat.reduceAdd, Int.reduceLT, Int.reduceLE, Int.reduceAdd, Int.reduceSub, Int.reduceMul, Int.reducePow, Nat.reduceLT, Nat.reduceLeDiff, Int.reduceNeg, Int.reduceEq, reduceCtorEq, gt_iff_lt, ge_iff_le, ne_eq]; exact hR
/-! k17: values with one thing otherwise -/
theorem keysK_in {kvs : List (Key × Dat)} {k : Key} {v : Dat} (h : k ∈ kvs.map (·.1)) : (putD kvs k v).map (·.1) = kvs.map (·.1) := by
  unfold putD
  rw [if_pos (List.any_eq_true.mpr (let ⟨p, hp, e⟩ := List.mem_map.mp h; ⟨p, hp, decide_eq_true e⟩)), List.map_map]
  refine List.map_congr_left fun p _ => ?_
  show (if p.1 = k then (p.1, v) else p).1 = p.1
  split <;> rfl
theorem putD_all {P : Dat → Prop} {kvs : List (Key × Dat)} {k : Key} {v : Dat} (h : ∀ kv ∈ kvs, P kv.2) (hv : P v) : ∀ kv ∈ putD kvs k v, P kv.2 := by
  intro kv hm
  unfold putD at hm
  split at hm
  · obtain ⟨p, hp, rfl⟩ := List.mem_map.mp hm
    show P (if p.1 = k then (p.1, v) else p).2
    split
    · exact hv
    · exact h p hp
  · rcases List.mem_append.mp hm with hm | hm
    · exact h kv hm
    · rw [List.mem_singleton.mp hm]; exact hv
theorem putD_nd {kvs : List (Key × Dat)} {k : Key} {v : Dat} (h : (kvs.map (·.1)).Nodup) : ((putD kvs k v).map (·.1)).Nodup := by
  by_cases hk : k ∈ kvs.map (·.1)
  · rw [keysK_in hk]; exact h
  · rw [putD_new hk, List.map_append, List.nodup_append]
    refine ⟨h, by simp, ?_⟩
    intro a ha b hb e
    simp only [List.map_cons, List.map_nil, List.mem_singleton] at hb
    subst hb
    exact hk (e ▸ ha)
theorem putD_le {kvs : List (Key × Dat)} {k : Key} {v : Dat} : (putD kvs k v).length ≤ kvs.length + 1 := by
  unfold putD
  split
  · rw [List.length_map]; omega
  · simp
theorem kX_keys {kvs : List (Key × Dat)} : (kX kvs).map (·.1.nk) = (kvs.map (·.1)).map fun κ => (KX.k κ).nk := by
  unfold kX
  rw [List.map_map, List.map_map]
  rfl
theorem kX_nd {kvs : List (Key × Dat)} (h : (kvs.map (·.1)).Nodup) : ((kX kvs).map (·.1.nk)).Nodup := by
  rw [kX_keys]
  exact List.Pairwise.map _ (fun a b h e => h (nk_k e)) h
/-- the keys are texts -/
def KT (kvs : List (Key × Dat)) : Prop := ∀ p ∈ kvs, ∃ s, p.1 = .inr s
theorem stX_pg {hx : HX} {n : Nat} {kvs : List (Key × Dat)} (hk : KT kvs) (hv : ∀ p ∈ kvs, PgX hx n p.2) (hl : kvs.length ≤ 100) (nd : (kvs.map (·.1)).Nodup) (ky : KX) {y : Dat} (hy : PgX hx n y) :
    ∃ s' w, stX hx (.k kvs) ky y = some s' ∧ s'.toD = some w ∧ PgX hx (n + 1) w := by
  have odd : (∀ κ, ky ≠ .k κ) → ky.nk ∉ (kX kvs).map (·.1.nk) → ∃ s' w, (some (.xk hx (putX (kX kvs) ky y)) : Option Slot) = some s' ∧ s'.toD = some w ∧ PgX hx (n + 1) w := fun h1 h2 => by
    refine ⟨_, _, rfl, rfl, ?_⟩
    rw [putX_new h2]
    refine .dx (fun kv hm => ?_) (by simp [kX]; omega) ?_ ⟨(ky, y), by simp, h1⟩
    · rcases List.mem_append.mp hm with hm | hm
      · obtain ⟨p, hp, rfl⟩ := List.mem_map.mp hm
        exact hv p hp
      · rw [List.mem_singleton.mp hm]; exact hy
    · rw [List.map_append, List.nodup_append]
      refine ⟨kX_nd nd, by simp, ?_⟩
      intro a ha b hb e
      simp only [List.map_cons, List.map_nil, List.mem_singleton] at hb
      subst hb
      exact h2 (e ▸ ha)
  have fresh : (∀ s : Str, ky.nk ≠ .text s) → ky.nk ∉ (kX kvs).map (·.1.nk) := fun h hm => by
    rw [kX_keys] at hm
    obtain ⟨κ, hκ, e⟩ := List.mem_map.mp hm
    obtain ⟨p, hp, rfl⟩ := List.mem_map.mp hκ
    obtain ⟨s, hs⟩ := hk p hp
    rw [hs] at e
    exact h s e.symm
  cases ky with
  | k κ => exact ⟨_, _, rfl, rfl, .dk (putD_all hv hy) (Nat.le_trans putD_le (by omega)) (putD_nd nd)⟩
  | non => exact odd (fun κ => by simp) (fresh fun s => by simp [KX.nk])
  | tru => exact odd (fun κ => by simp) (fresh fun s => by simp [KX.nk])
  | tup z => exact odd (fun κ => by simp) (fresh fun s => by simp [KX.nk])
def S__law_bad_value (hx : HX) (n : Nat) : DSpec := fun args R _ => ∃ (p : List Dat) (x v : Dat) (r m : Int) (bs : List Int) (d c : Nat), args = [.l p, .d x, .d v] ∧ PL c p ∧ BV d x r m v bs ∧ 2 * d + 1 ≤ n ∧ c + 5 * d < 1000000000 ∧ ∀ p' s y, PL (c + 5 * d) p' → Slot.toD s = some y → PgX hx (3 * d + 3) y → R s [.l p']
theorem w_bad {hx : HX} {n : Nat} {p : List Dat} {x v : Dat} {r m : Int} {bs : List Int} {d c : Nat} {R : Slot → List Slot → Prop} {X : Value → List Slot → Prop} (h1 : PL c p) (h2 : BV d x r m v bs) (h3 : 2 * d + 1 ≤ n) (h4 : c + 5 * d < 1000000000) (h : ∀ p' s y, PL (c + 5 * d) p' → Slot.toD s = some y → PgX hx (3 * d + 3) y → R s [.l p']) : S__law_bad_value hx n [.l p, .d x, .d v] R X := ⟨p, x, v, r, m, bs, d, c, rfl, h1, h2, h3, h4, h⟩
/-- a kind whose first word is so -/
def hd1 (s : Str) : Dat → Prop
  | .tup (.str t :: _) => t = s
  | _ => False
def S__law_bad_row (hx : HX) (n : Nat) : DSpec := fun args R _ => ∃ (p : List Dat) (x v : Dat) (r m : Int) (bs : List Int) (d c : Nat), args = [.l p, .d x, .d v] ∧ PL c p ∧ BV d x r m v bs ∧ hd1 "row" x ∧ 2 * d ≤ n ∧ c + 5 * d < 1000000000 ∧ ∀ p' s y, PL (c + 5 * d) p' → Slot.toD s = some y → PgX hx (3 * d + 3) y → R s [.l p']
def S__law_bad_record (hx : HX) (n : Nat) : DSpec := fun args R _ => ∃ (p : List Dat) (x v : Dat) (r m : Int) (bs : List Int) (d c : Nat), args = [.l p, .d x, .d v] ∧ PL c p ∧ BV d x r m v bs ∧ hd1 "record" x ∧ 2 * d ≤ n ∧ c + 5 * d < 1000000000 ∧ ∀ p' s y, PL (c + 5 * d) p' → Slot.toD s = some y → PgX hx (3 * d + 3) y → R s [.l p']
theorem law__law_bad_row (hx : HX) (n : Nat) (args : List Slot) R X (h : S__law_bad_row hx (n + 1) args R X) : args.length = 3 ∧ d__law_bad_row S_take (S__law_bad_value hx n) (kOf [0] R X) (args.map some ++ List.replicate 2 none) := by
  obtain ⟨p, x, v, r, m, bs, d, c, rfl, hp, hb, hh, hd, hc, hR⟩ := h
  refine ⟨rfl, ?_⟩
  have hpv : PgX hx (3 * d) v := hb.pgv.x
  cases hb with
  | num => exact absurd (show ("number" : Str) = "row" from hh) (by decide)
  | reco => exact absurd (show ("record" : Str) = "row" from hh) (by decide)
  | cho => exact absurd (show ("choice" : Str) = "row" from hh) (by decide)
  | @row n2 x r m cc L hk hL hl h1 h2 =>
    have hlm : (L.map (·.1)).length = L.length := List.length_map _
    have hvs : PgsX hx (3 * n2 + 2) (L.map (·.1)) := by cases hpv with | lst a b => exact a
    simp (config := { dsimp := false, maxSteps := 4000000 }) only [d__law_bad_row, hlm, ↓FUd, ↓FTd, ↓FRd, ↓FQd, ↓FPd, ↓FId, ↓FJd, ↓FMd, ↓FLd, ↓FKd, ↓FHd, ↓FGd, FGn, ↓FSd, FSn, String.reduceBEq, String.reduceEq, beq_self_eq_true, Nat.reducePow, fillS, tgOf, putS, stillE, outs, isiD, tyIs, tyD, ixN, BSn, BGn, Int.reduceToNat, Nat.reduceAdd, Int.reduceLT, Int.reduceLE, Int.reduceAdd, Int.reduceSub, Int.reduceMul, Int.reducePow, Nat.reduceLT, Nat.reduceLeDiff, Int.reduceNeg, Int.reduceEq, reduceCtorEq, gt_iff_lt, ge_iff_le, ne_eq]
    refine ⟨c, hp, by omega, by omega, by omega, fun p1 r1 hp1 a1 b1 => ?_⟩
    obtain ⟨e, he, q2⟩ := at_get (xs := L) a1 b1
    have heL := List.mem_of_getElem? q2
    refine ⟨e, he, w_bad hp1 (hL e heL) (by omega) (by omega) fun p2 s y hp2 hs hy => ?_⟩
    obtain ⟨e0, he0, he0'⟩ := at_get (xs := L) (i := 0) (by omega) (by omega)
    simp (config := { dsimp := false, maxSteps := 4000000 }) only [hs, he0, ↓FUd, ↓FTd, ↓FRd, ↓FQd, ↓FPd, ↓FId, ↓FJd, ↓FMd, ↓FLd, ↓FKd, ↓FHd, ↓FGd, FGn, ↓FSd, FSn, String.reduceBEq, String.reduceEq, beq_self_eq_true, Nat.reducePow, fillS, tgOf, putS, stillE, outs, isiD, tyIs, tyD, ixN, BSn, BGn, Int.reduceToNat, Nat.reduceAdd, Int.reduceLT, Int.reduceLE, Int.reduceAdd, Int.reduceSub, Int.reduceMul, Int.reducePow, Nat.reduceLT, Nat.reduceLeDiff, Int.reduceNeg, Int.reduceEq, reduceCtorEq, gt_iff_lt, ge_iff_le, ne_eq]
    have hy0 : PgX hx (3 * n2 + 2) e0.1 := hvs _ (List.mem_map_of_mem (List.mem_of_getElem? he0'))
    generalize hV : L.map (·.1) = V at hvs hlm ⊢
    have c1 := cut_le V none (some r1)
    have c2 := cut_le V (some (r1 + 1)) none
    have c3 := cut_le V (some r1) (some (r1 + 1))
    have hvs5 : PgsX hx (3 * n2 + 4) V := pgsx_up hvs (by omega)
    have hy5 : PgX hx (3 * n2 + 4) y := pgx_up hy (by omega)
    have g1 := pgsx_cut hvs5 none (some r1)
    have g2 := pgsx_cut hvs5 (some (r1 + 1)) none
    have g3 := pgsx_cut hvs5 (some r1) (some (r1 + 1))
    have row : ∀ xs : List Dat, PgsX hx (3 * n2 + 4) xs → xs.length ≤ 1000000 → PgX hx (3 * n2 + 5) (.lst xs) := fun xs h hl => .lst h hl
    have one : ∀ z, PgX hx (3 * n2 + 4) z → PgsX hx (3 * n2 + 4) [z] := fun z h => pgsx_cons h pgsx_nil
    simp only [List.length_append, rep_len, List.length_cons, List.length_nil] at c1 c2 c3 ⊢
    repeat (refine And.intro (by omega) ?_)
    refine ⟨_, hp2, by omega, by decide, fun p3 r3 hp3 a3 b3 => at_pgx (hx := hx) (n := 3 * n2 + 5) ?_ a3 (by simp only [List.length_append, rep_len, List.length_cons, List.length_nil]; omega) fun z hz => hR _ _ _ (hp3.mono (by omega)) rfl (pgx_up hz (by omega))⟩
    have q1 := row (cutD V none (some r1) ++ [y] ++ cutD V (some (r1 + 1)) none) (pgsx_app (pgsx_app g1 (one _ hy5)) g2) (by simp only [List.length_append, List.length_cons, List.length_nil]; omega)
    have q2 := row (V ++ cutD V (some r1) (some (r1 + 1))) (pgsx_app hvs5 g3) (by simp only [List.length_append]; omega)
    have q3 := row (cutD V none (some r1) ++ cutD V (some (r1 + 1)) none) (pgsx_app g1 g2) (by simp only [List.length_append]; omega)
    have q4 : PgX hx (3 * n2 + 5) (.tup V) := .tup hvs5 (by omega)
    have q5 : PgX hx (3 * n2 + 5) (.dk (mergeD [(Sum.inl 0, e0.1)])) := pgx_k1 hy0 (by omega)
    exact pgsx_app (pgsx_app (pgsx_rep (pgsx_cons q1 pgsx_nil) 3) (pgsx_cons q2 (pgsx_cons q3 (pgsx_cons q4 (pgsx_cons .non pgsx_nil))))) (pgsx_cons q5 (pgsx_cons (.lst (fun x h => by cases h) (by simp)) pgsx_nil))
theorem l1a : (Str.ofString "a").length = 1 ∧ (Str.ofString " ").length = 1 ∧ (Str.ofString "A").length = 1 ∧ (Str.ofString "z").length = 1 := by decide +kernel
theorem law__law_bad_record (hx : HX) (n : Nat) (args : List Slot) R X (h : S__law_bad_record hx (n + 1) args R X) : args.length = 3 ∧ d__law_bad_record S_take (S__law_bad_value hx n) hx (kOf [0] R X) (args.map some ++ List.replicate 6 none) := by
  obtain ⟨p, x, v, r, m, bs, d, c, rfl, hp, hb, hh, hd, hc, hR⟩ := h
  refine ⟨rfl, ?_⟩
  have hpv : PgX hx (3 * d) v := hb.pgv.x
  cases hb with
  | num => exact absurd (show ("number" : Str) = "record" from hh) (by decide)
  | row => exact absurd (show ("row" : Str) = "record" from hh) (by decide)
  | cho => exact absurd (show ("choice" : Str) = "record" from hh) (by decide)
  | @reco n2 M L kvs hL hne hl8 hm hmx hN hD hperm =>
    have hlen : kvs.length = L.length := by rw [hperm.length_eq, List.length_map]
    have hvs : ∀ kv ∈ kvs, PgX hx (3 * n2 + 2) kv.2 := by cases hpv with | dk a b c => exact a
    have nd : (kvs.map (·.1)).Nodup := by cases hpv with | dk a b c => exact c
    have hkt : KT kvs := fun q hq => by
      obtain ⟨f, _, rfl⟩ := List.mem_map.mp (hperm.mem_iff.mp hq)
      exact ⟨_, rfl⟩
    have hpos : 0 < L.length := List.length_pos_iff.mpr hne
    simp (config := { dsimp := false, maxSteps := 4000000 }) only [d__law_bad_record, List.length_map, ↓FUd, ↓FTd, ↓FRd, ↓FQd, ↓FPd, ↓FId, ↓FJd, ↓FMd, ↓FLd, ↓FKd, ↓FHd, ↓FGd, FGn, ↓FSd, FSn, String.reduceBEq, String.reduceEq, beq_self_eq_true, Nat.reducePow, fillS, tgOf, putS, stillE, outs, isiD, tyIs, tyD, ixN, BSn, BGn, Int.reduceToNat, Nat.reduceAdd, Int.reduceLT, Int.reduceLE, Int.reduceAdd, Int.reduceSub, Int.reduceMul, Int.reducePow, Nat.reduceLT, Nat.reduceLeDiff, Int.reduceNeg, Int.reduceEq, reduceCtorEq, gt_iff_lt, ge_iff_le, ne_eq]
    refine ⟨c, hp, by omega, by omega, by omega, fun p1 r1 hp1 a1 b1 => ?_⟩
    obtain ⟨e, he, q2⟩ := at_get (xs := L) a1 b1
    have heL := List.mem_of_getElem? q2
    have hval : valD kvs (.inr e.name) = some e.val := valD_at (kv := VF.kv e) nd (hperm.mem_iff.mpr (List.mem_map_of_mem heL))
    refine ⟨e, he, ?_⟩
    simp (config := { dsimp := false, maxSteps := 4000000 }) only [VF.fd, ↓w_gt2t, ↓FUd, ↓FTd, ↓FRd, ↓FQd, ↓FPd, ↓FId, ↓FJd, ↓FMd, ↓FLd, ↓FKd, ↓FHd, ↓FGd, FGn, ↓FSd, FSn, String.reduceBEq, String.reduceEq, beq_self_eq_true, Nat.reducePow, fillS, tgOf, putS, stillE, outs, isiD, tyIs, tyD, ixN, BSn, BGn, Int.reduceToNat, Nat.reduceAdd, Int.reduceLT, Int.reduceLE, Int.reduceAdd, Int.reduceSub, Int.reduceMul, Int.reducePow, Nat.reduceLT, Nat.reduceLeDiff, Int.reduceNeg, Int.reduceEq, reduceCtorEq, gt_iff_lt, ge_iff_le, ne_eq]
    refine ForP.maps (L := kvs) (a := fun kv => kD kv.1) (fun i ρ => ∃ s4 : Option Slot, ρ = [some (.l p1), some (.d (.tup [.str "record", .lst (L.map VF.fd)])), some (.d (.dk kvs)), some (.k (kvs.take i)), s4, none, some (.d (.str e.name)), some (.d e.kind), none]) ⟨_, rfl⟩ (fun i kv ρ2 hi hI => ?_) fun ρ2 hI => ?_
    · obtain ⟨s4, rfl⟩ := hI
      have hm := List.mem_of_getElem? hi
      have hv := valD_at nd hm
      have hput : putD (kvs.take i) kv.1 kv.2 = kvs.take (i + 1) := by rw [putD_new (take_new nd hi), take_snoc hi]
      simp (config := { dsimp := false, maxSteps := 4000000 }) only [↓f_inX, ↓f_itXd, ↓f_itXx, ↓f_itXl, ↓f_itXt, f_lenXx, f_listXx, ↓f_dSetX, itrD_x, td_x, nd_x, kvX_k, kvX_x, keyX_i, keyX_s, q_dkItem, hv, keyX_kD, stX_k, hput, slLen, ↓FUd, ↓FTd, ↓FRd, ↓FQd, ↓FPd, ↓FId, ↓FJd, ↓FMd, ↓FLd, ↓FKd, ↓FHd, ↓FGd, FGn, ↓FSd, FSn, String.reduceBEq, String.reduceEq, beq_self_eq_true, Nat.reducePow, fillS, tgOf, putS, stillE, outs, isiD, tyIs, tyD, ixN, BSn, BGn, Int.reduceToNat, Nat.reduceAdd, Int.reduceLT, Int.reduceLE, Int.reduceAdd, Int.reduceSub, Int.reduceMul, Int.reducePow, Nat.reduceLT, Nat.reduceLeDiff, Int.reduceNeg, Int.reduceEq, reduceCtorEq, gt_iff_lt, ge_iff_le, ne_eq]
      rw [List.length_take]
      omega
    · obtain ⟨s4, rfl⟩ := hI
      rw [List.take_length]
      try simp (config := { dsimp := false, maxSteps := 4000000 }) only [↓FUd, ↓FTd, ↓FRd, ↓FQd, ↓FPd, ↓FId, ↓FJd, ↓FMd, ↓FLd, ↓FKd, ↓FHd, ↓FGd, FGn, ↓FSd, FSn, String.reduceBEq, String.reduceEq, beq_self_eq_true, Nat.reducePow, fillS, tgOf, putS, stillE, outs, isiD, tyIs, tyD, ixN, BSn, BGn, Int.reduceToNat, Nat.reduceAdd, Int.reduceLT, Int.reduceLE, Int.reduceAdd, Int.reduceSub, Int.reduceMul, Int.reducePow, Nat.reduceLT, Nat.reduceLeDiff, Int.reduceNeg, Int.reduceEq, reduceCtorEq, gt_iff_lt, ge_iff_le, ne_eq]
      refine ⟨c + 1, hp1, by omega, by decide, fun p2 r2 hp2 a2 b2 => ?_⟩
      have fin : ∀ (q : List Dat) (s' : Slot) (w : Dat) (s4 s5 s6 s7 s8 : Option Slot), PL (c + 5 * (n2 + 1)) q → s'.toD = some w → PgX hx (3 * n2 + 6) w → R s' [.l q] := fun q s' w _ _ _ _ _ hq hs hw => hR _ _ _ (hq.mono (by omega)) hs (pgx_up hw (by omega))
      by_cases h3 : r2 < 3
      · simp (config := { dsimp := false, maxSteps := 4000000 }) only [h3, ↓f_inX, ↓f_itXd, ↓f_itXx, ↓f_itXl, ↓f_itXt, f_lenXx, f_listXx, ↓f_dSetX, itrD_x, td_x, nd_x, kvX_k, kvX_x, keyX_i, keyX_s, f_iks, hval, ↓FUd, ↓FTd, ↓FRd, ↓FQd, ↓FPd, ↓FId, ↓FJd, ↓FMd, ↓FLd, ↓FKd, ↓FHd, ↓FGd, FGn, ↓FSd, FSn, String.reduceBEq, String.reduceEq, beq_self_eq_true, Nat.reducePow, fillS, tgOf, putS, stillE, outs, isiD, tyIs, tyD, ixN, BSn, BGn, Int.reduceToNat, Nat.reduceAdd, Int.reduceLT, Int.reduceLE, Int.reduceAdd, Int.reduceSub, Int.reduceMul, Int.reducePow, Nat.reduceLT, Nat.reduceLeDiff, Int.reduceNeg, Int.reduceEq, reduceCtorEq, gt_iff_lt, ge_iff_le, ne_eq]
        refine w_bad hp2 (hL e heL) (by omega) (by omega) fun p3 s y hp3 hs hy => ?_
        obtain ⟨s', w, e1, e2, e3⟩ := stX_pg (hx := hx) (n := 3 * n2 + 3) hkt (fun q hq => pgx_up (hvs q hq) (by omega)) (by omega) nd (.k (.inr e.name)) hy
        simp (config := { dsimp := false, maxSteps := 4000000 }) only [hs, ↓f_inX, ↓f_itXd, ↓f_itXx, ↓f_itXl, ↓f_itXt, f_lenXx, f_listXx, ↓f_dSetX, itrD_x, td_x, nd_x, kvX_k, kvX_x, keyX_i, keyX_s, e1, slLen, ↓FUd, ↓FTd, ↓FRd, ↓FQd, ↓FPd, ↓FId, ↓FJd, ↓FMd, ↓FLd, ↓FKd, ↓FHd, ↓FGd, FGn, ↓FSd, FSn, String.reduceBEq, String.reduceEq, beq_self_eq_true, Nat.reducePow, fillS, tgOf, putS, stillE, outs, isiD, tyIs, tyD, ixN, BSn, BGn, Int.reduceToNat, Nat.reduceAdd, Int.reduceLT, Int.reduceLE, Int.reduceAdd, Int.reduceSub, Int.reduceMul, Int.reducePow, Nat.reduceLT, Nat.reduceLeDiff, Int.reduceNeg, Int.reduceEq, reduceCtorEq, gt_iff_lt, ge_iff_le, ne_eq]
        exact ⟨by omega, fin _ _ _ none none none none none (hp3.mono (by omega)) e2 (pgx_up e3 (by omega))⟩
      have hkv2 : ∀ q ∈ dropD kvs (.inr e.name), PgX hx (3 * n2 + 2) q.2 := fun q hq => hvs q (List.mem_filter.mp hq).1
      have hkt2 : KT (dropD kvs (.inr e.name)) := fun q hq => hkt q (List.mem_filter.mp hq).1
      have nd2 : ((dropD kvs (.inr e.name)).map (·.1)).Nodup := List.Nodup.sublist (List.Sublist.map _ List.filter_sublist) nd
      have l2 : (dropD kvs (.inr e.name)).length ≤ kvs.length := List.length_filter_le _ _
      have hev : PgX hx (3 * n2 + 2) e.val := hvs _ (hperm.mem_iff.mpr (List.mem_map_of_mem (f := VF.kv) heL))
      by_cases h4 : r2 = 3
      · subst h4
        simp (config := { dsimp := false, maxSteps := 4000000 }) only [↓f_inX, ↓f_itXd, ↓f_itXx, ↓f_itXl, ↓f_itXt, f_lenXx, f_listXx, ↓f_dSetX, itrD_x, td_x, nd_x, kvX_k, kvX_x, keyX_i, keyX_s, f_iks, hval, ↓f_dPopK2, ↓FUd, ↓FTd, ↓FRd, ↓FQd, ↓FPd, ↓FId, ↓FJd, ↓FMd, ↓FLd, ↓FKd, ↓FHd, ↓FGd, FGn, ↓FSd, FSn, String.reduceBEq, String.reduceEq, beq_self_eq_true, Nat.reducePow, fillS, tgOf, putS, stillE, outs, isiD, tyIs, tyD, ixN, BSn, BGn, Int.reduceToNat, Nat.reduceAdd, Int.reduceLT, Int.reduceLE, Int.reduceAdd, Int.reduceSub, Int.reduceMul, Int.reducePow, Nat.reduceLT, Nat.reduceLeDiff, Int.reduceNeg, Int.reduceEq, reduceCtorEq, gt_iff_lt, ge_iff_le, ne_eq]
        exact fin _ _ (.dk (dropD kvs (.inr e.name))) none none none none none (hp2.mono (by omega)) rfl (pgx_up (.dk hkv2 (by omega) nd2) (by omega))
      by_cases h5 : r2 = 4
      · subst h5
        simp (config := { dsimp := false, maxSteps := 4000000 }) only [↓f_inX, ↓f_itXd, ↓f_itXx, ↓f_itXl, ↓f_itXt, f_lenXx, f_listXx, ↓f_dSetX, itrD_x, td_x, nd_x, kvX_k, kvX_x, keyX_i, keyX_s, f_iks, hval, ↓f_dPopK2, ↓FUd, ↓FTd, ↓FRd, ↓FQd, ↓FPd, ↓FId, ↓FJd, ↓FMd, ↓FLd, ↓FKd, ↓FHd, ↓FGd, FGn, ↓FSd, FSn, String.reduceBEq, String.reduceEq, beq_self_eq_true, Nat.reducePow, fillS, tgOf, putS, stillE, outs, isiD, tyIs, tyD, ixN, BSn, BGn, Int.reduceToNat, Nat.reduceAdd, Int.reduceLT, Int.reduceLE, Int.reduceAdd, Int.reduceSub, Int.reduceMul, Int.reducePow, Nat.reduceLT, Nat.reduceLeDiff, Int.reduceNeg, Int.reduceEq, reduceCtorEq, gt_iff_lt, ge_iff_le, ne_eq]
        have hl := (hN e heL).2.1
        obtain ⟨la, lb, lA, lz⟩ := l1a
        rw [la, lb, lA]
        repeat (refine And.intro (by omega) ?_)
        refine ⟨_, hp2, by omega, by decide, fun p3 r3 hp3 a3 b3 => at_any a3 (by simpa using b3) fun z hz => ?_⟩
        have hz : ∃ ky, keyX z = some ky := by
          simp only [List.mem_cons, List.not_mem_nil, or_false] at hz
          rcases hz with rfl | rfl | rfl | rfl | rfl | rfl | rfl | rfl | rfl <;> exact ⟨_, rfl⟩
        obtain ⟨ky, hky⟩ := hz
        obtain ⟨s', w, e1, e2, e3⟩ := stX_pg (hx := hx) (n := 3 * n2 + 2) hkt hvs (by omega) nd ky hev
        simp (config := { dsimp := false, maxSteps := 4000000 }) only [hky, e1, slLen, ↓FUd, ↓FTd, ↓FRd, ↓FQd, ↓FPd, ↓FId, ↓FJd, ↓FMd, ↓FLd, ↓FKd, ↓FHd, ↓FGd, FGn, ↓FSd, FSn, String.reduceBEq, String.reduceEq, beq_self_eq_true, Nat.reducePow, fillS, tgOf, putS, stillE, outs, isiD, tyIs, tyD, ixN, BSn, BGn, Int.reduceToNat, Nat.reduceAdd, Int.reduceLT, Int.reduceLE, Int.reduceAdd, Int.reduceSub, Int.reduceMul, Int.reducePow, Nat.reduceLT, Nat.reduceLeDiff, Int.reduceNeg, Int.reduceEq, reduceCtorEq, gt_iff_lt, ge_iff_le, ne_eq]
        exact ⟨by omega, fin _ _ _ none none none none none (hp3.mono (by omega)) e2 (pgx_up e3 (by omega))⟩
      by_cases h6 : r2 = 5
      · subst h6
        simp (config := { dsimp := false, maxSteps := 4000000 }) only [↓f_inX, ↓f_itXd, ↓f_itXx, ↓f_itXl, ↓f_itXt, f_lenXx, f_listXx, ↓f_dSetX, itrD_x, td_x, nd_x, kvX_k, kvX_x, keyX_i, keyX_s, f_iks, hval, ↓f_dPopK2, ↓FUd, ↓FTd, ↓FRd, ↓FQd, ↓FPd, ↓FId, ↓FJd, ↓FMd, ↓FLd, ↓FKd, ↓FHd, ↓FGd, FGn, ↓FSd, FSn, String.reduceBEq, String.reduceEq, beq_self_eq_true, Nat.reducePow, fillS, tgOf, putS, stillE, outs, isiD, tyIs, tyD, ixN, BSn, BGn, Int.reduceToNat, Nat.reduceAdd, Int.reduceLT, Int.reduceLE, Int.reduceAdd, Int.reduceSub, Int.reduceMul, Int.reducePow, Nat.reduceLT, Nat.reduceLeDiff, Int.reduceNeg, Int.reduceEq, reduceCtorEq, gt_iff_lt, ge_iff_le, ne_eq]
        have hl := (hN e heL).2.1
        obtain ⟨la, lb, lA, lz⟩ := l1a
        rw [lz]
        repeat (refine And.intro (by omega) ?_)
        refine ⟨_, hp2, by omega, by decide, fun p3 r3 hp3 a3 b3 => at_any a3 (by simpa using b3) fun z hz => ?_⟩
        have hz : ∃ ky, keyX z = some ky := by
          simp only [List.mem_cons, List.not_mem_nil, or_false] at hz
          rcases hz with rfl | rfl | rfl | rfl <;> exact ⟨_, rfl⟩
        obtain ⟨ky, hky⟩ := hz
        obtain ⟨s', w, e1, e2, e3⟩ := stX_pg (hx := hx) (n := 3 * n2 + 2) hkt2 hkv2 (by omega) nd2 ky hev
        simp (config := { dsimp := false, maxSteps := 4000000 }) only [hky, e1, slLen, ↓FUd, ↓FTd, ↓FRd, ↓FQd, ↓FPd, ↓FId, ↓FJd, ↓FMd, ↓FLd, ↓FKd, ↓FHd, ↓FGd, FGn, ↓FSd, FSn, String.reduceBEq, String.reduceEq, beq_self_eq_true, Nat.reducePow, fillS, tgOf, putS, stillE, outs, isiD, tyIs, tyD, ixN, BSn, BGn, Int.reduceToNat, Nat.reduceAdd, Int.reduceLT, Int.reduceLE, Int.reduceAdd, Int.reduceSub, Int.reduceMul, Int.reducePow, Nat.reduceLT, Nat.reduceLeDiff, Int.reduceNeg, Int.reduceEq, reduceCtorEq, gt_iff_lt, ge_iff_le, ne_eq]
        exact ⟨by omega, fin _ _ _ none none none none none (hp3.mono (by omega)) e2 (pgx_up e3 (by omega))⟩
      simp (config := { dsimp := false, maxSteps := 4000000 }) only [h3, h4, h5, h6, ↓f_inX, ↓f_itXd, ↓f_itXx, ↓f_itXl, ↓f_itXt, f_lenXx, f_listXx, ↓f_dSetX, itrD_x, td_x, nd_x, kvX_k, kvX_x, keyX_i, keyX_s, f_iks, f_listXk, hval, ↓f_dPopK2, ↓FUd, ↓FTd, ↓FRd, ↓FQd, ↓FPd, ↓FId, ↓FJd, ↓FMd, ↓FLd, ↓FKd, ↓FHd, ↓FGd, FGn, ↓FSd, FSn, String.reduceBEq, String.reduceEq, beq_self_eq_true, Nat.reducePow, fillS, tgOf, putS, stillE, outs, isiD, tyIs, tyD, ixN, BSn, BGn, Int.reduceToNat, Nat.reduceAdd, Int.reduceLT, Int.reduceLE, Int.reduceAdd, Int.reduceSub, Int.reduceMul, Int.reducePow, Nat.reduceLT, Nat.reduceLeDiff, Int.reduceNeg, Int.reduceEq, reduceCtorEq, gt_iff_lt, ge_iff_le, ne_eq]
      have hnm : ∀ q ∈ kvs, ∃ s : Str, q.1 = .inr s ∧ s.length ≤ 8 := fun q hq => by
        obtain ⟨f, hf, rfl⟩ := List.mem_map.mp (hperm.mem_iff.mp hq)
        exact ⟨_, rfl, (hN f hf).2.1⟩
      have hks : kvs.map (·.1) = (kvs.map fun q => match q.1 with | .inr s => s | .inl _ => ("" : Str)).map Sum.inr := by
        rw [List.map_map]
        refine List.map_congr_left fun q hq => ?_
        obtain ⟨s, hs, _⟩ := hnm q hq
        show q.1 = Sum.inr (match q.1 with | .inr s => s | .inl _ => _)
        rw [hs]
      refine ⟨_, hks, by rw [List.length_map]; omega, fun ns hperm2 _ => ⟨_, hp2, by omega, by decide, fun p3 r3 hp3 a3 b3 => at_pgx (hx := hx) (n := 3 * n2 + 4) ?_ a3 (by simpa using b3) fun z hz => hR _ _ _ (hp3.mono (by omega)) rfl (pgx_up hz (by omega))⟩⟩
      have hns : ∀ s ∈ ns, s.length ≤ 8 := fun s hs => by
        obtain ⟨q, hq, rfl⟩ := List.mem_map.mp (hperm2.mem_iff.mp hs)
        obtain ⟨s, e, h8⟩ := hnm q hq
        rw [e]
        exact h8
      have hnl : ns.length ≤ 8 := by rw [hperm2.length_eq, List.length_map]; omega
      have hkv3 : PgX hx (3 * n2 + 3) (.dk kvs) := pgx_up hpv (by omega)
      refine pgsx_cons (.lst (fun z hz => ?_) (by rw [List.length_map]; omega)) (pgsx_cons (.lst (fun z hz => ?_) (by rw [List.length_map]; omega)) (pgsx_cons .non (pgsx_cons (.dk (fun q hq => by cases hq) (by simp) (by simp)) (pgsx_cons (.lst (fun z hz => by rw [List.mem_singleton.mp hz]; exact hkv3) (by simp)) (pgsx_cons (.tup (fun z hz => by rw [List.mem_singleton.mp hz]; exact hkv3) (by simp)) (pgsx_cons (.int 0) pgsx_nil))))))
      · obtain ⟨q, hq, rfl⟩ := List.mem_map.mp hz
        obtain ⟨s, e, h8⟩ := hnm q hq
        show PgX hx (3 * n2 + 3) (kD q.1)
        rw [e]
        exact .str (by omega)
      · obtain ⟨s, hs, rfl⟩ := List.mem_map.mp hz
        have := hns s hs
        exact .str (by omega)
theorem w_badrow {hx : HX} {n : Nat} {p : List Dat} {x v : Dat} {r m : Int} {bs : List Int} {d c : Nat} {R : Slot → List Slot → Prop} {X : Value → List Slot → Prop} (h1 : PL c p) (h2 : BV d x r m v bs) (h0 : hd1 "row" x) (h3 : 2 * d ≤ n) (h4 : c + 5 * d < 1000000000) (h : ∀ p' s y, PL (c + 5 * d) p' → Slot.toD s = some y → PgX hx (3 * d + 3) y → R s [.l p']) : S__law_bad_row hx n [.l p, .d x, .d v] R X := ⟨p, x, v, r, m, bs, d, c, rfl, h1, h2, h0, h3, h4, h⟩
theorem w_badrec {hx : HX} {n : Nat} {p : List Dat} {x v : Dat} {r m : Int} {bs : List Int} {d c : Nat} {R : Slot → List Slot → Prop} {X : Value → List Slot → Prop} (h1 : PL c p) (h2 : BV d x r m v bs) (h0 : hd1 "record" x) (h3 : 2 * d ≤ n) (h4 : c + 5 * d < 1000000000) (h : ∀ p' s y, PL (c + 5 * d) p' → Slot.toD s = some y → PgX hx (3 * d + 3) y → R s [.l p']) : S__law_bad_record hx n [.l p, .d x, .d v] R X := ⟨p, x, v, r, m, bs, d, c, rfl, h1, h2, h0, h3, h4, h⟩
theorem f_strI {i : Int} {T : Dat → Prop} : fStr [.int i] T = (i.natAbs.log2 < 1920 ∧ T (.str (toString i))) := rfl
theorem strI_len {v : Int} (h0 : 0 ≤ v) (h1 : v < 2 ^ 64) : v.natAbs.log2 < 1920 ∧ (Str.ofString (toString v)).length ≤ 1000000 := by
  have h2 : v.natAbs < 2 ^ 64 := by omega
  have h3 : v.natAbs.log2 < 64 := by
    by_cases h : v.natAbs = 0
    · rw [h]; decide
    · exact (Nat.log2_lt h).mpr h2
  refine ⟨by omega, ?_⟩
  have := int_text_length_le (a := v) (k := 64) (by decide) h3
  rw [ofString_length]
  omega
theorem law__law_bad_value (hx : HX) (n : Nat) (args : List Slot) R X (h : S__law_bad_value hx (n + 1) args R X) : args.length = 3 ∧ d__law_bad_value S_take S__law_top (S__law_bad_record hx n) (S__law_bad_row hx n) (S__law_bad_value hx n) (kOf [0] R X) (args.map some ++ List.replicate 5 none) := by
  obtain ⟨p, x, v, r, m, bs, d, c, rfl, hp, hb, hd, hc, hR⟩ := h
  refine ⟨rfl, ?_⟩
  have hpv : PgX hx (3 * d) v := hb.pgv.x
  cases hb with
  | @num n2 a m v h1 h2 h3 h4 h5 =>
    have ht := top_small h1 h2
    have hv := strI_len h4 (by omega)
    have h0 : PgX hx 1 (.int v) := .int v
    simp (config := { dsimp := false, maxSteps := 4000000 }) only [d__law_bad_value, ↓w_topE, f_strI, ↓FUd, ↓FTd, ↓FRd, ↓FQd, ↓FPd, ↓FId, ↓FJd, ↓FMd, ↓FLd, ↓FKd, ↓FHd, ↓FGd, FGn, ↓FSd, FSn, String.reduceBEq, String.reduceEq, beq_self_eq_true, Nat.reducePow, fillS, tgOf, putS, stillE, outs, isiD, tyIs, tyD, ixN, BSn, BGn, Int.reduceToNat, Nat.reduceAdd, Int.reduceLT, Int.reduceLE, Int.reduceAdd, Int.reduceSub, Int.reduceMul, Int.reducePow, Nat.reduceLT, Nat.reduceLeDiff, Int.reduceNeg, Int.reduceEq, reduceCtorEq, gt_iff_lt, ge_iff_le, ne_eq]
    refine ⟨h1, h2, hv.1, ?_⟩
    refine ⟨_, hp, by omega, by decide, fun p3 r3 hp3 a3 b3 => at_pgx (hx := hx) (n := 3 * n2 + 3) ?_ a3 (by simpa using b3) fun z hz => hR _ _ _ (hp3.mono (by omega)) rfl (pgx_up hz (by omega))⟩
    have l1 : ∀ z, PgX hx 1 z → PgX hx (3 * n2 + 3) (.lst [z]) := fun z h => pgx_up (.lst (fun y hy => by rw [List.mem_singleton.mp hy]; exact h) (by simp)) (by omega : 2 ≤ 3 * n2 + 3)
    have t1 : ∀ z, PgX hx 1 z → PgX hx (3 * n2 + 3) (.tup [z]) := fun z h => pgx_up (.tup (fun y hy => by rw [List.mem_singleton.mp hy]; exact h) (by simp)) (by omega : 2 ≤ 3 * n2 + 3)
    exact pgsx_cons (.int _) (pgsx_cons (.int _) (pgsx_cons (.bl _) (pgsx_cons (.bl _) (pgsx_cons .non (pgsx_cons (.str hv.2) (pgsx_cons (l1 _ h0) (pgsx_cons (t1 _ h0) (pgsx_cons (.int _) (pgsx_cons (.dk (fun q hq => by cases hq) (by simp) (by simp)) (pgsx_cons (.str (by decide +kernel)) (pgsx_cons (.int _) pgsx_nil)))))))))))
  | @row n2 x r m cc L hk hL hl h1 h2 =>
    simp (config := { dsimp := false, maxSteps := 4000000 }) only [d__law_bad_value, ↓FUd, ↓FTd, ↓FRd, ↓FQd, ↓FPd, ↓FId, ↓FJd, ↓FMd, ↓FLd, ↓FKd, ↓FHd, ↓FGd, FGn, ↓FSd, FSn, String.reduceBEq, String.reduceEq, beq_self_eq_true, Nat.reducePow, fillS, tgOf, putS, stillE, outs, isiD, tyIs, tyD, ixN, BSn, BGn, Int.reduceToNat, Nat.reduceAdd, Int.reduceLT, Int.reduceLE, Int.reduceAdd, Int.reduceSub, Int.reduceMul, Int.reducePow, Nat.reduceLT, Nat.reduceLeDiff, Int.reduceNeg, Int.reduceEq, reduceCtorEq, gt_iff_lt, ge_iff_le, ne_eq]
    refine w_badrow hp (.row hk hL hl h1 h2) rfl (by omega) hc fun p' s y h1 h2 h3 => ?_
    try simp (config := { dsimp := false, maxSteps := 4000000 }) only [↓FUd, ↓FTd, ↓FRd, ↓FQd, ↓FPd, ↓FId, ↓FJd, ↓FMd, ↓FLd, ↓FKd, ↓FHd, ↓FGd, FGn, ↓FSd, FSn, String.reduceBEq, String.reduceEq, beq_self_eq_true, Nat.reducePow, fillS, tgOf, putS, stillE, outs, isiD, tyIs, tyD, ixN, BSn, BGn, Int.reduceToNat, Nat.reduceAdd, Int.reduceLT, Int.reduceLE, Int.reduceAdd, Int.reduceSub, Int.reduceMul, Int.reducePow, Nat.reduceLT, Nat.reduceLeDiff, Int.reduceNeg, Int.reduceEq, reduceCtorEq, gt_iff_lt, ge_iff_le, ne_eq]
    exact hR _ _ _ h1 h2 h3
  | @reco n2 M L kvs hL hne hl8 hm hmx hN hD hperm =>
    simp (config := { dsimp := false, maxSteps := 4000000 }) only [d__law_bad_value, ↓FUd, ↓FTd, ↓FRd, ↓FQd, ↓FPd, ↓FId, ↓FJd, ↓FMd, ↓FLd, ↓FKd, ↓FHd, ↓FGd, FGn, ↓FSd, FSn, String.reduceBEq, String.reduceEq, beq_self_eq_true, Nat.reducePow, fillS, tgOf, putS, stillE, outs, isiD, tyIs, tyD, ixN, BSn, BGn, Int.reduceToNat, Nat.reduceAdd, Int.reduceLT, Int.reduceLE, Int.reduceAdd, Int.reduceSub, Int.reduceMul, Int.reducePow, Nat.reduceLT, Nat.reduceLeDiff, Int.reduceNeg, Int.reduceEq, reduceCtorEq, gt_iff_lt, ge_iff_le, ne_eq]
    refine w_badrec hp (.reco hL hne hl8 hm hmx hN hD hperm) rfl (by omega) hc fun p' s y h1 h2 h3 => ?_
    try simp (config := { dsimp := false, maxSteps := 4000000 }) only [↓FUd, ↓FTd, ↓FRd, ↓FQd, ↓FPd, ↓FId, ↓FJd, ↓FMd, ↓FLd, ↓FKd, ↓FHd, ↓FGd, FGn, ↓FSd, FSn, String.reduceBEq, String.reduceEq, beq_self_eq_true, Nat.reducePow, fillS, tgOf, putS, stillE, outs, isiD, tyIs, tyD, ixN, BSn, BGn, Int.reduceToNat, Nat.reduceAdd, Int.reduceLT, Int.reduceLE, Int.reduceAdd, Int.reduceSub, Int.reduceMul, Int.reducePow, Nat.reduceLT, Nat.reduceLeDiff, Int.reduceNeg, Int.reduceEq, reduceCtorEq, gt_iff_lt, ge_iff_le, ne_eq]
    exact hR _ _ _ h1 h2 h3
  | @cho n2 L M g k y v ry my bs hkL hne hl hm hmx hg hgx hk hb =>
    have hkl : k < L.length := (List.getElem?_eq_some_iff.mp hk).1
    have e0 : atI L (k : Int) = some (y, ry, my) := by
      obtain ⟨e, h1, h2⟩ := at_get (xs := L) (i := (k : Int)) (by omega) (by omega)
      rw [show ((k : Int)).toNat = k from rfl, hk] at h2
      cases h2
      exact h1
    simp (config := { dsimp := false, maxSteps := 4000000 }) only [d__law_bad_value, e0, List.length_map, ↓FUd, ↓FTd, ↓FRd, ↓FQd, ↓FPd, ↓FId, ↓FJd, ↓FMd, ↓FLd, ↓FKd, ↓FHd, ↓FGd, FGn, ↓FSd, FSn, String.reduceBEq, String.reduceEq, beq_self_eq_true, Nat.reducePow, fillS, tgOf, putS, stillE, outs, isiD, tyIs, tyD, ixN, BSn, BGn, Int.reduceToNat, Nat.reduceAdd, Int.reduceLT, Int.reduceLE, Int.reduceAdd, Int.reduceSub, Int.reduceMul, Int.reducePow, Nat.reduceLT, Nat.reduceLeDiff, Int.reduceNeg, Int.reduceEq, reduceCtorEq, gt_iff_lt, ge_iff_le, ne_eq]
    refine w_bad hp hb (by omega) (by omega) fun p2 s z hp2 hs hz => ?_
    have hv := strI_len (v := (k : Int)) (by omega) (by omega)
    simp (config := { dsimp := false, maxSteps := 4000000 }) only [hs, f_strI, List.length_map, ↓FUd, ↓FTd, ↓FRd, ↓FQd, ↓FPd, ↓FId, ↓FJd, ↓FMd, ↓FLd, ↓FKd, ↓FHd, ↓FGd, FGn, ↓FSd, FSn, String.reduceBEq, String.reduceEq, beq_self_eq_true, Nat.reducePow, fillS, tgOf, putS, stillE, outs, isiD, tyIs, tyD, ixN, BSn, BGn, Int.reduceToNat, Nat.reduceAdd, Int.reduceLT, Int.reduceLE, Int.reduceAdd, Int.reduceSub, Int.reduceMul, Int.reducePow, Nat.reduceLT, Nat.reduceLeDiff, Int.reduceNeg, Int.reduceEq, reduceCtorEq, gt_iff_lt, ge_iff_le, ne_eq]
    have hk2 : k.log2 < 1920 := hv.1
    have hvv : PgX hx (3 * n2 + 4) v := pgx_up (Pg.x hb.pgv) (by omega)
    have hzz : PgX hx (3 * n2 + 4) z := pgx_up hz (by omega)
    have hi : ∀ i : Int, PgX hx (3 * n2 + 4) (.int i) := fun i => .int i
    have T : ∀ ys : List Dat, PgsX hx (3 * n2 + 4) ys → ys.length ≤ 3 → PgX hx (3 * n2 + 5) (.tup ys) := fun ys h hl => .tup h (by omega)
    simp only [List.length_append, rep_len, List.length_cons, List.length_nil]
    repeat (refine And.intro (by omega) ?_)
    refine ⟨_, hp2, by omega, by decide, fun p3 r3 hp3 a3 b3 => at_pgx (hx := hx) (n := 3 * n2 + 5) ?_ a3 (by simp only [List.length_append, rep_len, List.length_cons, List.length_nil]; omega) fun z hz => hR _ _ _ (hp3.mono (by omega)) rfl (pgx_up hz (by omega))⟩
    have two : ∀ a b, PgX hx (3 * n2 + 4) a → PgX hx (3 * n2 + 4) b → PgX hx (3 * n2 + 5) (.tup [a, b]) := fun a b h1 h2 => T _ (pgsx_cons h1 (pgsx_cons h2 pgsx_nil)) (by simp)
    refine pgsx_app (pgsx_app (pgsx_app (pgsx_rep (pgsx_cons (two _ _ (hi _) hzz) pgsx_nil) 4) (pgsx_cons (two _ _ (hi _) hvv) (pgsx_cons (two _ _ (hi _) hvv) (pgsx_cons (two _ _ (hi _) hvv) pgsx_nil)))) (pgsx_cons (two _ _ (.bl _) hvv) (pgsx_cons (two _ _ (.bl _) hvv) pgsx_nil))) ?_
    exact pgsx_cons (.lst (pgsx_cons (hi _) (pgsx_cons hvv pgsx_nil)) (by simp)) (pgsx_cons (T _ (pgsx_cons (hi _) pgsx_nil) (by simp)) (pgsx_cons (T _ (pgsx_cons (hi _) (pgsx_cons hvv (pgsx_cons (hi _) pgsx_nil))) (by simp)) (pgsx_cons (two _ _ hvv (hi _)) (pgsx_cons hvv.mono (pgsx_cons .non (pgsx_cons (two _ _ (.str hv.2) hvv) pgsx_nil))))))
def S__law_turned (hx : HX) (n : Nat) : DSpec := fun args R _ => ∃ x, args = [.d x] ∧ PgX hx n x ∧ ∀ (s : Slot) (y : Dat), s.toD = some y → PgX hx n y → R s []
theorem w__law_turned {hx : HX} {n : Nat} {x : Dat} {R : Slot → List Slot → Prop} {X : Value → List Slot → Prop} (hp : PgX hx n x) (h : ∀ (s : Slot) (y : Dat), s.toD = some y → PgX hx n y → R s []) : S__law_turned hx n [.d x] R X := ⟨x, rfl, hp, h⟩
theorem law__law_turned (hx : HX) (n : Nat) (args : List Slot) R X (h : S__law_turned hx (n + 1) args R X) : args.length = 1 ∧ d__law_turned (S__law_turned hx n) hx (kOf [] R X) (args.map some ++ List.replicate 3 none) := by
  obtain ⟨x, rfl, hp, hR⟩ := h
  refine ⟨rfl, ?_⟩
  cases hp with
  | non => simp (config := { dsimp := false, maxSteps := 4000000 }) only [d__law_turned, ↓FUd, ↓FTd, ↓FRd, ↓FQd, ↓FPd, ↓FId, ↓FJd, ↓FMd, ↓FLd, ↓FKd, ↓FHd, ↓FGd, FGn, ↓FSd, FSn, String.reduceBEq, String.reduceEq, beq_self_eq_true, Nat.reducePow, fillS, tgOf, putS, stillE, outs, isiD, tyIs, tyD, ixN, BSn, BGn, Int.reduceToNat, Nat.reduceAdd, Int.reduceLT, Int.reduceLE, Int.reduceAdd, Int.reduceSub, Int.reduceMul, Int.reducePow, Nat.reduceLT, Nat.reduceLeDiff, Int.reduceNeg, Int.reduceEq, reduceCtorEq, gt_iff_lt, ge_iff_le, ne_eq]; exact hR _ _ rfl .non
  | bl b => simp (config := { dsimp := false, maxSteps := 4000000 }) only [d__law_turned, ↓FUd, ↓FTd, ↓FRd, ↓FQd, ↓FPd, ↓FId, ↓FJd, ↓FMd, ↓FLd, ↓FKd, ↓FHd, ↓FGd, FGn, ↓FSd, FSn, String.reduceBEq, String.reduceEq, beq_self_eq_true, Nat.reducePow, fillS, tgOf, putS, stillE, outs, isiD, tyIs, tyD, ixN, BSn, BGn, Int.reduceToNat, Nat.reduceAdd, Int.reduceLT, Int.reduceLE, Int.reduceAdd, Int.reduceSub, Int.reduceMul, Int.reducePow, Nat.reduceLT, Nat.reduceLeDiff, Int.reduceNeg, Int.reduceEq, reduceCtorEq, gt_iff_lt, ge_iff_le, ne_eq]; exact hR _ _ rfl (.bl b)
  | int i => simp (config := { dsimp := false, maxSteps := 4000000 }) only [d__law_turned, ↓FUd, ↓FTd, ↓FRd, ↓FQd, ↓FPd, ↓FId, ↓FJd, ↓FMd, ↓FLd, ↓FKd, ↓FHd, ↓FGd, FGn, ↓FSd, FSn, String.reduceBEq, String.reduceEq, beq_self_eq_true, Nat.reducePow, fillS, tgOf, putS, stillE, outs, isiD, tyIs, tyD, ixN, BSn, BGn, Int.reduceToNat, Nat.reduceAdd, Int.reduceLT, Int.reduceLE, Int.reduceAdd, Int.reduceSub, Int.reduceMul, Int.reducePow, Nat.reduceLT, Nat.reduceLeDiff, Int.reduceNeg, Int.reduceEq, reduceCtorEq, gt_iff_lt, ge_iff_le, ne_eq]; exact hR _ _ rfl (.int i)
  | str i => simp (config := { dsimp := false, maxSteps := 4000000 }) only [d__law_turned, ↓FUd, ↓FTd, ↓FRd, ↓FQd, ↓FPd, ↓FId, ↓FJd, ↓FMd, ↓FLd, ↓FKd, ↓FHd, ↓FGd, FGn, ↓FSd, FSn, String.reduceBEq, String.reduceEq, beq_self_eq_true, Nat.reducePow, fillS, tgOf, putS, stillE, outs, isiD, tyIs, tyD, ixN, BSn, BGn, Int.reduceToNat, Nat.reduceAdd, Int.reduceLT, Int.reduceLE, Int.reduceAdd, Int.reduceSub, Int.reduceMul, Int.reducePow, Nat.reduceLT, Nat.reduceLeDiff, Int.reduceNeg, Int.reduceEq, reduceCtorEq, gt_iff_lt, ge_iff_le, ne_eq]; exact hR _ _ rfl (.str i)
  | @lst _ xs hx2 hl =>
    simp (config := { dsimp := false, maxSteps := 4000000 }) only [d__law_turned, ↓FUd, ↓FTd, ↓FRd, ↓FQd, ↓FPd, ↓FId, ↓FJd, ↓FMd, ↓FLd, ↓FKd, ↓FHd, ↓FGd, FGn, ↓FSd, FSn, String.reduceBEq, String.reduceEq, beq_self_eq_true, Nat.reducePow, fillS, tgOf, putS, stillE, outs, isiD, tyIs, tyD, ixN, BSn, BGn, Int.reduceToNat, Nat.reduceAdd, Int.reduceLT, Int.reduceLE, Int.reduceAdd, Int.reduceSub, Int.reduceMul, Int.reducePow, Nat.reduceLT, Nat.reduceLeDiff, Int.reduceNeg, Int.reduceEq, reduceCtorEq, gt_iff_lt, ge_iff_le, ne_eq]
    refine LcP.mk (fun j acc ρ => ρ = [some (.d (.lst xs)), none, none, none] ∧ acc.length = j ∧ PgsX hx n acc) ⟨rfl, rfl, pgsx_nil⟩ (fun j y acc ρ2 hy hI => ?_) fun acc ρ2 hI => ?_
    · obtain ⟨rfl, hj, ha⟩ := hI
      have hjl := (List.getElem?_eq_some_iff.mp hy).1
      refine ⟨plain_cons (fun o e => by cases e; trivial) plain_nil, by rw [PySem.sizeLine_eq]; omega, ?_⟩
      simp (config := { dsimp := false, maxSteps := 4000000 }) only [wipeE, ↓FUd, ↓FTd, ↓FRd, ↓FQd, ↓FPd, ↓FId, ↓FJd, ↓FMd, ↓FLd, ↓FKd, ↓FHd, ↓FGd, FGn, ↓FSd, FSn, String.reduceBEq, String.reduceEq, beq_self_eq_true, Nat.reducePow, fillS, tgOf, putS, stillE, outs, isiD, tyIs, tyD, ixN, BSn, BGn, Int.reduceToNat, Nat.reduceAdd, Int.reduceLT, Int.reduceLE, Int.reduceAdd, Int.reduceSub, Int.reduceMul, Int.reducePow, Nat.reduceLT, Nat.reduceLeDiff, Int.reduceNeg, Int.reduceEq, reduceCtorEq, gt_iff_lt, ge_iff_le, ne_eq]
      refine w__law_turned (hx2 y (List.mem_of_getElem? hy)) fun s z hs hz => ?_
      simp (config := { dsimp := false, maxSteps := 4000000 }) only [hs, ↓FUd, ↓FTd, ↓FRd, ↓FQd, ↓FPd, ↓FId, ↓FJd, ↓FMd, ↓FLd, ↓FKd, ↓FHd, ↓FGd, FGn, ↓FSd, FSn, String.reduceBEq, String.reduceEq, beq_self_eq_true, Nat.reducePow, fillS, tgOf, putS, stillE, outs, isiD, tyIs, tyD, ixN, BSn, BGn, Int.reduceToNat, Nat.reduceAdd, Int.reduceLT, Int.reduceLE, Int.reduceAdd, Int.reduceSub, Int.reduceMul, Int.reducePow, Nat.reduceLT, Nat.reduceLeDiff, Int.reduceNeg, Int.reduceEq, reduceCtorEq, gt_iff_lt, ge_iff_le, ne_eq]
      refine ⟨rfl, by simp [hj], pgsx_app ha (pgsx_cons hz pgsx_nil)⟩
    · obtain ⟨rfl, hj, ha⟩ := hI
      exact hR _ _ rfl (.lst ha (by omega))
  | @tup _ xs hx2 hl =>
    simp (config := { dsimp := false, maxSteps := 4000000 }) only [d__law_turned, ↓FUd, ↓FTd, ↓FRd, ↓FQd, ↓FPd, ↓FId, ↓FJd, ↓FMd, ↓FLd, ↓FKd, ↓FHd, ↓FGd, FGn, ↓FSd, FSn, String.reduceBEq, String.reduceEq, beq_self_eq_true, Nat.reducePow, fillS, tgOf, putS, stillE, outs, isiD, tyIs, tyD, ixN, BSn, BGn, Int.reduceToNat, Nat.reduceAdd, Int.reduceLT, Int.reduceLE, Int.reduceAdd, Int.reduceSub, Int.reduceMul, Int.reducePow, Nat.reduceLT, Nat.reduceLeDiff, Int.reduceNeg, Int.reduceEq, reduceCtorEq, gt_iff_lt, ge_iff_le, ne_eq]
    refine LcP.mk (fun j acc ρ => ρ = [some (.d (.tup xs)), none, none, none] ∧ acc.length = j ∧ PgsX hx n acc) ⟨rfl, rfl, pgsx_nil⟩ (fun j y acc ρ2 hy hI => ?_) fun acc ρ2 hI => ?_
    · obtain ⟨rfl, hj, ha⟩ := hI
      have hjl := (List.getElem?_eq_some_iff.mp hy).1
      refine ⟨plain_cons (fun o e => by cases e; trivial) plain_nil, by rw [PySem.sizeLine_eq]; omega, ?_⟩
      simp (config := { dsimp := false, maxSteps := 4000000 }) only [wipeE, ↓FUd, ↓FTd, ↓FRd, ↓FQd, ↓FPd, ↓FId, ↓FJd, ↓FMd, ↓FLd, ↓FKd, ↓FHd, ↓FGd, FGn, ↓FSd, FSn, String.reduceBEq, String.reduceEq, beq_self_eq_true, Nat.reducePow, fillS, tgOf, putS, stillE, outs, isiD, tyIs, tyD, ixN, BSn, BGn, Int.reduceToNat, Nat.reduceAdd, Int.reduceLT, Int.reduceLE, Int.reduceAdd, Int.reduceSub, Int.reduceMul, Int.reducePow, Nat.reduceLT, Nat.reduceLeDiff, Int.reduceNeg, Int.reduceEq, reduceCtorEq, gt_iff_lt, ge_iff_le, ne_eq]
      refine w__law_turned (hx2 y (List.mem_of_getElem? hy)) fun s z hs hz => ?_
      simp (config := { dsimp := false, maxSteps := 4000000 }) only [hs, ↓FUd, ↓FTd, ↓FRd, ↓FQd, ↓FPd, ↓FId, ↓FJd, ↓FMd, ↓FLd, ↓FKd, ↓FHd, ↓FGd, FGn, ↓FSd, FSn, String.reduceBEq, String.reduceEq, beq_self_eq_true, Nat.reducePow, fillS, tgOf, putS, stillE, outs, isiD, tyIs, tyD, ixN, BSn, BGn, Int.reduceToNat, Nat.reduceAdd, Int.reduceLT, Int.reduceLE, Int.reduceAdd, Int.reduceSub, Int.reduceMul, Int.reducePow, Nat.reduceLT, Nat.reduceLeDiff, Int.reduceNeg, Int.reduceEq, reduceCtorEq, gt_iff_lt, ge_iff_le, ne_eq]
      refine ⟨rfl, by simp [hj], pgsx_app ha (pgsx_cons hz pgsx_nil)⟩
    · obtain ⟨rfl, hj, ha⟩ := hI
      try simp (config := { dsimp := false, maxSteps := 4000000 }) only [↓FUd, ↓FTd, ↓FRd, ↓FQd, ↓FPd, ↓FId, ↓FJd, ↓FMd, ↓FLd, ↓FKd, ↓FHd, ↓FGd, FGn, ↓FSd, FSn, String.reduceBEq, String.reduceEq, beq_self_eq_true, Nat.reducePow, fillS, tgOf, putS, stillE, outs, isiD, tyIs, tyD, ixN, BSn, BGn, Int.reduceToNat, Nat.reduceAdd, Int.reduceLT, Int.reduceLE, Int.reduceAdd, Int.reduceSub, Int.reduceMul, Int.reducePow, Nat.reduceLT, Nat.reduceLeDiff, Int.reduceNeg, Int.reduceEq, reduceCtorEq, gt_iff_lt, ge_iff_le, ne_eq]
      exact hR _ _ rfl (.tup ha (by omega))
  | @dk _ kvs hx2 hl nd =>
    simp (config := { dsimp := false, maxSteps := 4000000 }) only [d__law_turned, f_listXk, ↓FUd, ↓FTd, ↓FRd, ↓FQd, ↓FPd, ↓FId, ↓FJd, ↓FMd, ↓FLd, ↓FKd, ↓FHd, ↓FGd, FGn, ↓FSd, FSn, String.reduceBEq, String.reduceEq, beq_self_eq_true, Nat.reducePow, fillS, tgOf, putS, stillE, outs, isiD, tyIs, tyD, ixN, BSn, BGn, Int.reduceToNat, Nat.reduceAdd, Int.reduceLT, Int.reduceLE, Int.reduceAdd, Int.reduceSub, Int.reduceMul, Int.reducePow, Nat.reduceLT, Nat.reduceLeDiff, Int.reduceNeg, Int.reduceEq, reduceCtorEq, gt_iff_lt, ge_iff_le, ne_eq]
    rw [← List.map_reverse]
    have ndM : (kvs.reverse.map (·.1)).Nodup := by rw [List.map_reverse]; exact List.pairwise_reverse.mpr (nd.imp fun h e => h e.symm)
    refine ForP.maps (L := kvs.reverse) (a := fun kv => kD kv.1) (fun i ρ => ∃ (s2 : Option Slot) (W : List (Key × Dat)), ρ = [some (.d (.dk kvs)), some (.k W), s2, none] ∧ W.map (·.1) = (kvs.reverse.take i).map (·.1) ∧ ∀ kv ∈ W, PgX hx n kv.2) ⟨_, [], rfl, rfl, fun kv h => by cases h⟩ (fun i kv ρ2 hi hI => ?_) fun ρ2 hI => ?_
    · obtain ⟨s2, W, rfl, hW, hv⟩ := hI
      have hm := List.mem_reverse.mp (List.mem_of_getElem? hi)
      have hval := valD_at nd hm
      have hl2 : W.length ≤ kvs.length := by
        have := congrArg List.length hW
        rw [List.length_map, List.length_map, List.length_take, List.length_reverse] at this
        omega
      simp (config := { dsimp := false, maxSteps := 4000000 }) only [↓f_inX, ↓f_itXd, ↓f_itXx, ↓f_itXl, ↓f_itXt, f_lenXx, f_listXx, ↓f_dSetX, itrD_x, td_x, nd_x, kvX_k, kvX_x, keyX_i, keyX_s, keyX_kD, valX_k, hval, ↓FUd, ↓FTd, ↓FRd, ↓FQd, ↓FPd, ↓FId, ↓FJd, ↓FMd, ↓FLd, ↓FKd, ↓FHd, ↓FGd, FGn, ↓FSd, FSn, String.reduceBEq, String.reduceEq, beq_self_eq_true, Nat.reducePow, fillS, tgOf, putS, stillE, outs, isiD, tyIs, tyD, ixN, BSn, BGn, Int.reduceToNat, Nat.reduceAdd, Int.reduceLT, Int.reduceLE, Int.reduceAdd, Int.reduceSub, Int.reduceMul, Int.reducePow, Nat.reduceLT, Nat.reduceLeDiff, Int.reduceNeg, Int.reduceEq, reduceCtorEq, gt_iff_lt, ge_iff_le, ne_eq]
      refine w__law_turned (hx2 kv hm) fun s z hs hz => ?_
      have hput : putD W kv.1 z = W ++ [(kv.1, z)] := putD_new (by rw [hW]; exact take_new ndM hi)
      simp (config := { dsimp := false, maxSteps := 4000000 }) only [hs, ↓f_inX, ↓f_itXd, ↓f_itXx, ↓f_itXl, ↓f_itXt, f_lenXx, f_listXx, ↓f_dSetX, itrD_x, td_x, nd_x, kvX_k, kvX_x, keyX_i, keyX_s, keyX_kD, stX_k, hput, slLen, ↓FUd, ↓FTd, ↓FRd, ↓FQd, ↓FPd, ↓FId, ↓FJd, ↓FMd, ↓FLd, ↓FKd, ↓FHd, ↓FGd, FGn, ↓FSd, FSn, String.reduceBEq, String.reduceEq, beq_self_eq_true, Nat.reducePow, fillS, tgOf, putS, stillE, outs, isiD, tyIs, tyD, ixN, BSn, BGn, Int.reduceToNat, Nat.reduceAdd, Int.reduceLT, Int.reduceLE, Int.reduceAdd, Int.reduceSub, Int.reduceMul, Int.reducePow, Nat.reduceLT, Nat.reduceLeDiff, Int.reduceNeg, Int.reduceEq, reduceCtorEq, gt_iff_lt, ge_iff_le, ne_eq]
      refine ⟨by omega, _, _, ⟨rfl, rfl⟩, by rw [List.map_append, hW, take_snoc hi, List.map_append]; rfl, fun q hq => ?_⟩
      rcases List.mem_append.mp hq with hq | hq
      · exact hv q hq
      · rw [List.mem_singleton.mp hq]; exact hz
    · obtain ⟨s2, W, rfl, hW, hv⟩ := hI
      rw [List.take_length] at hW
      try simp (config := { dsimp := false, maxSteps := 4000000 }) only [↓FUd, ↓FTd, ↓FRd, ↓FQd, ↓FPd, ↓FId, ↓FJd, ↓FMd, ↓FLd, ↓FKd, ↓FHd, ↓FGd, FGn, ↓FSd, FSn, String.reduceBEq, String.reduceEq, beq_self_eq_true, Nat.reducePow, fillS, tgOf, putS, stillE, outs, isiD, tyIs, tyD, ixN, BSn, BGn, Int.reduceToNat, Nat.reduceAdd, Int.reduceLT, Int.reduceLE, Int.reduceAdd, Int.reduceSub, Int.reduceMul, Int.reducePow, Nat.reduceLT, Nat.reduceLeDiff, Int.reduceNeg, Int.reduceEq, reduceCtorEq, gt_iff_lt, ge_iff_le, ne_eq]
      refine hR _ _ rfl (.dk hv ?_ (by rw [hW]; exact ndM))
      have := congrArg List.length hW
      rw [List.length_map, List.length_map, List.length_reverse] at this
      omega
  | @dx _ kvs hx2 hl nd ho =>
    simp (config := { dsimp := false, maxSteps := 4000000 }) only [d__law_turned, ↓f_inX, ↓f_itXd, ↓f_itXx, ↓f_itXl, ↓f_itXt, f_lenXx, f_listXx, ↓f_dSetX, itrD_x, td_x, nd_x, kvX_k, kvX_x, keyX_i, keyX_s, ↓FUd, ↓FTd, ↓FRd, ↓FQd, ↓FPd, ↓FId, ↓FJd, ↓FMd, ↓FLd, ↓FKd, ↓FHd, ↓FGd, FGn, ↓FSd, FSn, String.reduceBEq, String.reduceEq, beq_self_eq_true, Nat.reducePow, fillS, tgOf, putS, stillE, outs, isiD, tyIs, tyD, ixN, BSn, BGn, Int.reduceToNat, Nat.reduceAdd, Int.reduceLT, Int.reduceLE, Int.reduceAdd, Int.reduceSub, Int.reduceMul, Int.reducePow, Nat.reduceLT, Nat.reduceLeDiff, Int.reduceNeg, Int.reduceEq, reduceCtorEq, gt_iff_lt, ge_iff_le, ne_eq]
    rw [← List.map_reverse]
    have ndM : (kvs.reverse.map (·.1.nk)).Nodup := by rw [List.map_reverse]; exact List.pairwise_reverse.mpr (nd.imp fun h e => h e.symm)
    refine ForP.maps (L := kvs.reverse) (a := fun kv => kxD kv.1) (fun i ρ => ∃ (s2 : Option Slot) (W : List (KX × Dat)), ρ = [some (.d (.dx hx kvs)), some (slX hx W), s2, none] ∧ W.map (·.1) = (kvs.reverse.take i).map (·.1) ∧ ∀ kv ∈ W, PgX hx n kv.2) ⟨_, [], rfl, rfl, fun kv h => by cases h⟩ (fun i kv ρ2 hi hI => ?_) fun ρ2 hI => ?_
    · obtain ⟨s2, W, rfl, hW, hv⟩ := hI
      have hm := List.mem_reverse.mp (List.mem_of_getElem? hi)
      have hval := valX_at nd hm
      have hl2 : W.length ≤ kvs.length := by
        have := congrArg List.length hW
        rw [List.length_map, List.length_map, List.length_take, List.length_reverse] at this
        omega
      have hWn : W.map (·.1.nk) = (kvs.reverse.take i).map (·.1.nk) := by
        have := congrArg (List.map KX.nk) hW
        rw [List.map_map, List.map_map] at this
        exact this
      simp (config := { dsimp := false, maxSteps := 4000000 }) only [↓f_inX, ↓f_itXd, ↓f_itXx, ↓f_itXl, ↓f_itXt, f_lenXx, f_listXx, ↓f_dSetX, itrD_x, td_x, nd_x, kvX_k, kvX_x, keyX_i, keyX_s, keyX_D, hval, ↓FUd, ↓FTd, ↓FRd, ↓FQd, ↓FPd, ↓FId, ↓FJd, ↓FMd, ↓FLd, ↓FKd, ↓FHd, ↓FGd, FGn, ↓FSd, FSn, String.reduceBEq, String.reduceEq, beq_self_eq_true, Nat.reducePow, fillS, tgOf, putS, stillE, outs, isiD, tyIs, tyD, ixN, BSn, BGn, Int.reduceToNat, Nat.reduceAdd, Int.reduceLT, Int.reduceLE, Int.reduceAdd, Int.reduceSub, Int.reduceMul, Int.reducePow, Nat.reduceLT, Nat.reduceLeDiff, Int.reduceNeg, Int.reduceEq, reduceCtorEq, gt_iff_lt, ge_iff_le, ne_eq]
      refine w__law_turned (hx2 kv hm) fun s z hs hz => ?_
      have hput : stX hx (slX hx W) kv.1 z = some (slX hx (W ++ [(kv.1, z)])) := slX_put (by rw [hWn]; exact take_newX ndM hi)
      simp (config := { dsimp := false, maxSteps := 4000000 }) only [hs, ↓f_inX, ↓f_itXd, ↓f_itXx, ↓f_itXl, ↓f_itXt, f_lenXx, f_listXx, ↓f_dSetX, itrD_x, td_x, nd_x, kvX_k, kvX_x, keyX_i, keyX_s, keyX_D, hput, slX_len, ↓FUd, ↓FTd, ↓FRd, ↓FQd, ↓FPd, ↓FId, ↓FJd, ↓FMd, ↓FLd, ↓FKd, ↓FHd, ↓FGd, FGn, ↓FSd, FSn, String.reduceBEq, String.reduceEq, beq_self_eq_true, Nat.reducePow, fillS, tgOf, putS, stillE, outs, isiD, tyIs, tyD, ixN, BSn, BGn, Int.reduceToNat, Nat.reduceAdd, Int.reduceLT, Int.reduceLE, Int.reduceAdd, Int.reduceSub, Int.reduceMul, Int.reducePow, Nat.reduceLT, Nat.reduceLeDiff, Int.reduceNeg, Int.reduceEq, reduceCtorEq, gt_iff_lt, ge_iff_le, ne_eq]
      refine ⟨by omega, _, _, ⟨rfl, rfl⟩, by rw [List.map_append, hW, take_snoc hi, List.map_append]; rfl, fun q hq => ?_⟩
      rcases List.mem_append.mp hq with hq | hq
      · exact hv q hq
      · rw [List.mem_singleton.mp hq]; exact hz
    · obtain ⟨s2, W, rfl, hW, hv⟩ := hI
      rw [List.take_length] at hW
      have hodd : ∃ kv ∈ W, ∀ κ, kv.1 ≠ .k κ := by
        obtain ⟨kv, hm, h⟩ := ho
        have : kv.1 ∈ W.map (·.1) := by rw [hW]; exact List.mem_map_of_mem (List.mem_reverse.mpr hm)
        obtain ⟨q, hq, e⟩ := List.mem_map.mp this
        exact ⟨q, hq, by rw [e]; exact h⟩
      have hs := slX_x (hx := hx) (unK_odd hodd)
      have hWn : W.map (·.1.nk) = kvs.reverse.map (·.1.nk) := by
        have := congrArg (List.map KX.nk) hW
        rw [List.map_map, List.map_map] at this
        exact this
      simp (config := { dsimp := false, maxSteps := 4000000 }) only [hs, ↓FUd, ↓FTd, ↓FRd, ↓FQd, ↓FPd, ↓FId, ↓FJd, ↓FMd, ↓FLd, ↓FKd, ↓FHd, ↓FGd, FGn, ↓FSd, FSn, String.reduceBEq, String.reduceEq, beq_self_eq_true, Nat.reducePow, fillS, tgOf, putS, stillE, outs, isiD, tyIs, tyD, ixN, BSn, BGn, Int.reduceToNat, Nat.reduceAdd, Int.reduceLT, Int.reduceLE, Int.reduceAdd, Int.reduceSub, Int.reduceMul, Int.reducePow, Nat.reduceLT, Nat.reduceLeDiff, Int.reduceNeg, Int.reduceEq, reduceCtorEq, gt_iff_lt, ge_iff_le, ne_eq]
      refine hR _ _ rfl (.dx hv ?_ (by rw [hWn]; exact ndM) hodd)
      have := congrArg List.length hW
      rw [List.length_map, List.length_map, List.length_reverse] at this
      omega
def S__law_right (hx : HX) : DSpec := fun args R _ => ∃ (x v : Dat) (r m : Int) (d : Nat), args = [.d x, .d v] ∧ KD d x r m ∧ d ≤ 8 ∧ PgX hx 40 v ∧ R (.d (.bl true)) []
theorem w_lright {hx : HX} {x v : Dat} {r m : Int} {d : Nat} {R : Slot → List Slot → Prop} {X : Value → List Slot → Prop} (h1 : KD d x r m) (h2 : d ≤ 8) (h3 : PgX hx 40 v) (h : R (.d (.bl true)) []) : S__law_right hx [.d x, .d v] R X := ⟨x, v, r, m, d, rfl, h1, h2, h3, h⟩
theorem law__law_right (hx : HX) (args : List Slot) R X (h : S__law_right hx args R X) : args.length = 2 ∧ d__law_right (S_is_value hx 10) (S__law_copy hx 40) (S__law_same hx 40) (S__law_is_value hx 10) (kOf [] R X) (args.map some ++ List.replicate 2 none) := by
  obtain ⟨x, v, r, m, d, rfl, hk, hd, hv, hR⟩ := h
  refine ⟨rfl, ?_⟩
  have hxp : PgX hx 40 x := pgx_up (Pg.x hk.pg) (by omega)
  have hvp : PgX hx 40 v := hv
  simp (config := { dsimp := false, maxSteps := 4000000 }) only [d__law_right, ↓FUd, ↓FTd, ↓FRd, ↓FQd, ↓FPd, ↓FId, ↓FJd, ↓FMd, ↓FLd, ↓FKd, ↓FHd, ↓FGd, FGn, ↓FSd, FSn, String.reduceBEq, String.reduceEq, beq_self_eq_true, Nat.reducePow, fillS, tgOf, putS, stillE, outs, isiD, tyIs, tyD, ixN, BSn, BGn, Int.reduceToNat, Nat.reduceAdd, Int.reduceLT, Int.reduceLE, Int.reduceAdd, Int.reduceSub, Int.reduceMul, Int.reducePow, Nat.reduceLT, Nat.reduceLeDiff, Int.reduceNeg, Int.reduceEq, reduceCtorEq, gt_iff_lt, ge_iff_le, ne_eq]
  refine w__law_copy hxp fun s hs => ?_
  simp (config := { dsimp := false, maxSteps := 4000000 }) only [hs, ↓FUd, ↓FTd, ↓FRd, ↓FQd, ↓FPd, ↓FId, ↓FJd, ↓FMd, ↓FLd, ↓FKd, ↓FHd, ↓FGd, FGn, ↓FSd, FSn, String.reduceBEq, String.reduceEq, beq_self_eq_true, Nat.reducePow, fillS, tgOf, putS, stillE, outs, isiD, tyIs, tyD, ixN, BSn, BGn, Int.reduceToNat, Nat.reduceAdd, Int.reduceLT, Int.reduceLE, Int.reduceAdd, Int.reduceSub, Int.reduceMul, Int.reducePow, Nat.reduceLT, Nat.reduceLeDiff, Int.reduceNeg, Int.reduceEq, reduceCtorEq, gt_iff_lt, ge_iff_le, ne_eq]
  refine w__law_copy hvp fun s2 hs2 => ?_
  simp (config := { dsimp := false, maxSteps := 4000000 }) only [hs2, ↓FUd, ↓FTd, ↓FRd, ↓FQd, ↓FPd, ↓FId, ↓FJd, ↓FMd, ↓FLd, ↓FKd, ↓FHd, ↓FGd, FGn, ↓FSd, FSn, String.reduceBEq, String.reduceEq, beq_self_eq_true, Nat.reducePow, fillS, tgOf, putS, stillE, outs, isiD, tyIs, tyD, ixN, BSn, BGn, Int.reduceToNat, Nat.reduceAdd, Int.reduceLT, Int.reduceLE, Int.reduceAdd, Int.reduceSub, Int.reduceMul, Int.reducePow, Nat.reduceLT, Nat.reduceLeDiff, Int.reduceNeg, Int.reduceEq, reduceCtorEq, gt_iff_lt, ge_iff_le, ne_eq]
  refine w_isvx hk (by omega) hv ?_
  try simp (config := { dsimp := false, maxSteps := 4000000 }) only [↓FUd, ↓FTd, ↓FRd, ↓FQd, ↓FPd, ↓FId, ↓FJd, ↓FMd, ↓FLd, ↓FKd, ↓FHd, ↓FGd, FGn, ↓FSd, FSn, String.reduceBEq, String.reduceEq, beq_self_eq_true, Nat.reducePow, fillS, tgOf, putS, stillE, outs, isiD, tyIs, tyD, ixN, BSn, BGn, Int.reduceToNat, Nat.reduceAdd, Int.reduceLT, Int.reduceLE, Int.reduceAdd, Int.reduceSub, Int.reduceMul, Int.reducePow, Nat.reduceLT, Nat.reduceLeDiff, Int.reduceNeg, Int.reduceEq, reduceCtorEq, gt_iff_lt, ge_iff_le, ne_eq]
  refine w_lisvx hk (by omega) hv ?_
  try simp (config := { dsimp := false, maxSteps := 4000000 }) only [↓FUd, ↓FTd, ↓FRd, ↓FQd, ↓FPd, ↓FId, ↓FJd, ↓FMd, ↓FLd, ↓FKd, ↓FHd, ↓FGd, FGn, ↓FSd, FSn, String.reduceBEq, String.reduceEq, beq_self_eq_true, Nat.reducePow, fillS, tgOf, putS, stillE, outs, isiD, tyIs, tyD, ixN, BSn, BGn, Int.reduceToNat, Nat.reduceAdd, Int.reduceLT, Int.reduceLE, Int.reduceAdd, Int.reduceSub, Int.reduceMul, Int.reducePow, Nat.reduceLT, Nat.reduceLeDiff, Int.reduceNeg, Int.reduceEq, reduceCtorEq, gt_iff_lt, ge_iff_le, ne_eq]
  refine w__law_same hxp ?_
  try simp (config := { dsimp := false, maxSteps := 4000000 }) only [↓FUd, ↓FTd, ↓FRd, ↓FQd, ↓FPd, ↓FId, ↓FJd, ↓FMd, ↓FLd, ↓FKd, ↓FHd, ↓FGd, FGn, ↓FSd, FSn, String.reduceBEq, String.reduceEq, beq_self_eq_true, Nat.reducePow, fillS, tgOf, putS, stillE, outs, isiD, tyIs, tyD, ixN, BSn, BGn, Int.reduceToNat, Nat.reduceAdd, Int.reduceLT, Int.reduceLE, Int.reduceAdd, Int.reduceSub, Int.reduceMul, Int.reducePow, Nat.reduceLT, Nat.reduceLeDiff, Int.reduceNeg, Int.reduceEq, reduceCtorEq, gt_iff_lt, ge_iff_le, ne_eq]
  refine w__law_same hvp ?_
  try simp (config := { dsimp := false, maxSteps := 4000000 }) only [↓FUd, ↓FTd, ↓FRd, ↓FQd, ↓FPd, ↓FId, ↓FJd, ↓FMd, ↓FLd, ↓FKd, ↓FHd, ↓FGd, FGn, ↓FSd, FSn, String.reduceBEq, String.reduceEq, beq_self_eq_true, Nat.reducePow, fillS, tgOf, putS, stillE, outs, isiD, tyIs, tyD, ixN, BSn, BGn, Int.reduceToNat, Nat.reduceAdd, Int.reduceLT, Int.reduceLE, Int.reduceAdd, Int.reduceSub, Int.reduceMul, Int.reducePow, Nat.reduceLT, Nat.reduceLeDiff, Int.reduceNeg, Int.reduceEq, reduceCtorEq, gt_iff_lt, ge_iff_le, ne_eq]
  exact hR
/-! k17: the law -/
def Lw (ns : List Int) (s1 s2 : Option Slot) (w : Int) (x : Dat) (s5 : Option Slot) (v : Dat) (s7 s8 s9 s10 : Option Slot) : DL.Env := [some (.d (.scr ns)), s1, s2, some (.d (.int w)), some (.d x), s5, some (.d v), s7, s8, s9, s10]
theorem law1_ok {hx : HX} {ns : List Int} {x v : Dat} {d : Nat} {r m w : Int} {bs : List Int} {xs : List Dat} {s1 s2 s5 s8 : Option Slot} {D : DK} (hk : KD d x r m) (hd : d ≤ 8) (hv : BV d x r m v bs) (hxs : PgsX hx 29 xs) (hl : xs.length ≤ 100)
    (hD : ∀ s7 s8, D.nx (Lw ns s1 s2 w x s5 v s7 s8 none none)) :
    d_law_1 (S_is_value hx 10) S_pool S_take (S__law_kind 8) (S__law_value 8) (S__law_bad_value hx 20) (S__law_turned hx 40) (S__law_right hx) D (Lw ns s1 s2 w x s5 v (some (.d (.lst xs))) s8 none none) := by
  have c4 := cut_le xs none (some 4)
  have g4 := pgsx_cut hxs none (some 4)
  simp (config := { dsimp := false, maxSteps := 4000000 }) only [d_law_1, Lw, ↓FUd, ↓FTd, ↓FRd, ↓FQd, ↓FPd, ↓FId, ↓FJd, ↓FMd, ↓FLd, ↓FKd, ↓FHd, ↓FGd, FGn, ↓FSd, FSn, String.reduceBEq, String.reduceEq, beq_self_eq_true, Nat.reducePow, fillS, tgOf, putS, stillE, outs, isiD, tyIs, tyD, ixN, BSn, BGn, Int.reduceToNat, Nat.reduceAdd, Int.reduceLT, Int.reduceLE, Int.reduceAdd, Int.reduceSub, Int.reduceMul, Int.reducePow, Nat.reduceLT, Nat.reduceLeDiff, Int.reduceNeg, Int.reduceEq, reduceCtorEq, gt_iff_lt, ge_iff_le, ne_eq]
  refine LcP.mk (fun j acc ρ => ρ = Lw ns s1 s2 w x s5 v (some (.d (.lst xs))) s8 none none ∧ acc.length = j ∧ PgsX hx 40 acc) ⟨rfl, rfl, pgsx_nil⟩ (fun j y acc ρ2 hy hI => ?_) fun acc ρ2 hI => ?_
  · obtain ⟨rfl, hj, ha⟩ := hI
    have hjl := (List.getElem?_eq_some_iff.mp hy).1
    refine ⟨plain_cons (fun o e => by cases e; trivial) plain_nil, by rw [PySem.sizeLine_eq]; omega, ?_⟩
    simp (config := { dsimp := false, maxSteps := 4000000 }) only [wipeE, Lw, ↓FUd, ↓FTd, ↓FRd, ↓FQd, ↓FPd, ↓FId, ↓FJd, ↓FMd, ↓FLd, ↓FKd, ↓FHd, ↓FGd, FGn, ↓FSd, FSn, String.reduceBEq, String.reduceEq, beq_self_eq_true, Nat.reducePow, fillS, tgOf, putS, stillE, outs, isiD, tyIs, tyD, ixN, BSn, BGn, Int.reduceToNat, Nat.reduceAdd, Int.reduceLT, Int.reduceLE, Int.reduceAdd, Int.reduceSub, Int.reduceMul, Int.reducePow, Nat.reduceLT, Nat.reduceLeDiff, Int.reduceNeg, Int.reduceEq, reduceCtorEq, gt_iff_lt, ge_iff_le, ne_eq]
    refine w__law_turned (pgx_up (g4 y (List.mem_of_getElem? hy)) (by omega)) fun s z hs hz => ?_
    simp (config := { dsimp := false, maxSteps := 4000000 }) only [hs, Lw, ↓FUd, ↓FTd, ↓FRd, ↓FQd, ↓FPd, ↓FId, ↓FJd, ↓FMd, ↓FLd, ↓FKd, ↓FHd, ↓FGd, FGn, ↓FSd, FSn, String.reduceBEq, String.reduceEq, beq_self_eq_true, Nat.reducePow, fillS, tgOf, putS, stillE, outs, isiD, tyIs, tyD, ixN, BSn, BGn, Int.reduceToNat, Nat.reduceAdd, Int.reduceLT, Int.reduceLE, Int.reduceAdd, Int.reduceSub, Int.reduceMul, Int.reducePow, Nat.reduceLT, Nat.reduceLeDiff, Int.reduceNeg, Int.reduceEq, reduceCtorEq, gt_iff_lt, ge_iff_le, ne_eq]
    exact ⟨rfl, by simp [hj], pgsx_app ha (pgsx_cons hz pgsx_nil)⟩
  · obtain ⟨rfl, hj, ha⟩ := hI
    have hall : PgsX hx 40 (xs ++ acc ++ [Dat.non, .int 0, .bl true, .str "", .lst [], .dk [], .tup [], .tup [.int 0, .int 0], .lst [.int 0]]) := by
      refine pgsx_app (pgsx_app (pgsx_up hxs (by omega)) ha) ?_
      refine pgsx_cons .non (pgsx_cons (.int 0) (pgsx_cons (.bl true) (pgsx_cons (.str (by decide +kernel)) (pgsx_cons (.lst pgsx_nil (by simp)) (pgsx_cons (.dk (fun q hq => by cases hq) (by simp) (by simp)) (pgsx_cons (.tup pgsx_nil (by simp)) (pgsx_cons (.tup (pgsx_cons (.int 0) (pgsx_cons (.int 0) pgsx_nil)) (by simp)) (pgsx_cons (.lst (pgsx_cons (.int 0) pgsx_nil) (by simp)) pgsx_nil))))))))
    have hal : acc.length ≤ 100 := by omega
    simp (config := { dsimp := false, maxSteps := 4000000 }) only [Lw, List.length_append, List.length_cons, List.length_nil, ↓FUd, ↓FTd, ↓FRd, ↓FQd, ↓FPd, ↓FId, ↓FJd, ↓FMd, ↓FLd, ↓FKd, ↓FHd, ↓FGd, FGn, ↓FSd, FSn, String.reduceBEq, String.reduceEq, beq_self_eq_true, Nat.reducePow, fillS, tgOf, putS, stillE, outs, isiD, tyIs, tyD, ixN, BSn, BGn, Int.reduceToNat, Nat.reduceAdd, Int.reduceLT, Int.reduceLE, Int.reduceAdd, Int.reduceSub, Int.reduceMul, Int.reducePow, Nat.reduceLT, Nat.reduceLeDiff, Int.reduceNeg, Int.reduceEq, reduceCtorEq, gt_iff_lt, ge_iff_le, ne_eq]
    refine ⟨by omega, by omega, ?_⟩
    refine ForP.mk (fun j ρ => ∃ s8 : Option Slot, ρ = Lw ns s1 s2 w x s5 v (some (.d (.lst (xs ++ acc)))) s8 none none) ⟨_, rfl⟩ (fun j y ρ2 hy hI => ?_) fun ρ2 hI => ?_
    · obtain ⟨s8, rfl⟩ := hI
      simp (config := { dsimp := false, maxSteps := 4000000 }) only [Lw, ↓FUd, ↓FTd, ↓FRd, ↓FQd, ↓FPd, ↓FId, ↓FJd, ↓FMd, ↓FLd, ↓FKd, ↓FHd, ↓FGd, FGn, ↓FSd, FSn, String.reduceBEq, String.reduceEq, beq_self_eq_true, Nat.reducePow, fillS, tgOf, putS, stillE, outs, isiD, tyIs, tyD, ixN, BSn, BGn, Int.reduceToNat, Nat.reduceAdd, Int.reduceLT, Int.reduceLE, Int.reduceAdd, Int.reduceSub, Int.reduceMul, Int.reducePow, Nat.reduceLT, Nat.reduceLeDiff, Int.reduceNeg, Int.reduceEq, reduceCtorEq, gt_iff_lt, ge_iff_le, ne_eq]
      refine w_lright hk hd (hall y (List.mem_of_getElem? hy)) ?_
      simp (config := { dsimp := false, maxSteps := 4000000 }) only [Lw, ↓FUd, ↓FTd, ↓FRd, ↓FQd, ↓FPd, ↓FId, ↓FJd, ↓FMd, ↓FLd, ↓FKd, ↓FHd, ↓FGd, FGn, ↓FSd, FSn, String.reduceBEq, String.reduceEq, beq_self_eq_true, Nat.reducePow, fillS, tgOf, putS, stillE, outs, isiD, tyIs, tyD, ixN, BSn, BGn, Int.reduceToNat, Nat.reduceAdd, Int.reduceLT, Int.reduceLE, Int.reduceAdd, Int.reduceSub, Int.reduceMul, Int.reducePow, Nat.reduceLT, Nat.reduceLeDiff, Int.reduceNeg, Int.reduceEq, reduceCtorEq, gt_iff_lt, ge_iff_le, ne_eq]
    · obtain ⟨s8, rfl⟩ := hI
      simp (config := { dsimp := false, maxSteps := 4000000 }) only [Lw, ↓FUd, ↓FTd, ↓FRd, ↓FQd, ↓FPd, ↓FId, ↓FJd, ↓FMd, ↓FLd, ↓FKd, ↓FHd, ↓FGd, FGn, ↓FSd, FSn, String.reduceBEq, String.reduceEq, beq_self_eq_true, Nat.reducePow, fillS, tgOf, putS, stillE, outs, isiD, tyIs, tyD, ixN, BSn, BGn, Int.reduceToNat, Nat.reduceAdd, Int.reduceLT, Int.reduceLE, Int.reduceAdd, Int.reduceSub, Int.reduceMul, Int.reducePow, Nat.reduceLT, Nat.reduceLeDiff, Int.reduceNeg, Int.reduceEq, reduceCtorEq, gt_iff_lt, ge_iff_le, ne_eq]
      refine w_isvx hk (by omega) (Pg.x hv.pgv) ?_
      rw [hv.isv]
      simp (config := { dsimp := false, maxSteps := 4000000 }) only [Lw, ↓FUd, ↓FTd, ↓FRd, ↓FQd, ↓FPd, ↓FId, ↓FJd, ↓FMd, ↓FLd, ↓FKd, ↓FHd, ↓FGd, FGn, ↓FSd, FSn, String.reduceBEq, String.reduceEq, beq_self_eq_true, Nat.reducePow, fillS, tgOf, putS, stillE, outs, isiD, tyIs, tyD, ixN, BSn, BGn, Int.reduceToNat, Nat.reduceAdd, Int.reduceLT, Int.reduceLE, Int.reduceAdd, Int.reduceSub, Int.reduceMul, Int.reducePow, Nat.reduceLT, Nat.reduceLeDiff, Int.reduceNeg, Int.reduceEq, reduceCtorEq, gt_iff_lt, ge_iff_le, ne_eq]
      exact hD _ _
theorem law_law {hx : HX} (args : List Slot) R X (h : S_law args R X) : args.length = 1 ∧ d_law (S_is_value hx 10) S_pool S_take (S__law_kind 8) (S__law_value 8) (S__law_bad_value hx 20) (S__law_turned hx 40) (S__law_right hx) (kOf [] R X) (args.map some ++ List.replicate 10 none) := by
  obtain ⟨ns, rfl, h0, h1, hR⟩ := h
  refine ⟨rfl, ?_⟩
  simp (config := { dsimp := false, maxSteps := 4000000 }) only [d_law, ↓FUd, ↓FTd, ↓FRd, ↓FQd, ↓FPd, ↓FId, ↓FJd, ↓FMd, ↓FLd, ↓FKd, ↓FHd, ↓FGd, FGn, ↓FSd, FSn, String.reduceBEq, String.reduceEq, beq_self_eq_true, Nat.reducePow, fillS, tgOf, putS, stillE, outs, isiD, tyIs, tyD, ixN, BSn, BGn, Int.reduceToNat, Nat.reduceAdd, Int.reduceLT, Int.reduceLE, Int.reduceAdd, Int.reduceSub, Int.reduceMul, Int.reducePow, Nat.reduceLT, Nat.reduceLeDiff, Int.reduceNeg, Int.reduceEq, reduceCtorEq, gt_iff_lt, ge_iff_le, ne_eq]
  generalize hj : (if (1:Int) < (if (ns.length : Int) < 4 then (ns.length : Int) else 4) then (if (ns.length : Int) < 4 then (ns.length : Int) else 4) else 1) = j
  have hj0 : 1 ≤ j := by rw [← hj]; split <;> (try split) <;> omega
  have hj1 : j ≤ 4 := by rw [← hj]; split <;> (try split) <;> omega
  refine ⟨by omega, by omega, ?_⟩
  refine ForP.mk (fun i ρ => ∃ s1 s2 s3 s4 s5 s6 s7 s8 : Option Slot, ρ = [some (.d (.scr ns)), s1, s2, s3, s4, s5, s6, s7, s8, none, none]) ⟨_, _, _, _, _, _, _, _, rfl⟩ (fun i y ρ2 hy hI => ?_) fun ρ2 hI => ?_
  · obtain ⟨hi, rfl⟩ := rng_at hy
    obtain ⟨s1, s2, s3, s4, s5, s6, s7, s8, rfl⟩ := hI
    have hc : ∀ d, d ≤ 5 → costK d ≤ costK 5 := by decide
    have hc5 : costK 5 < 1000000 := by decide
    have hv5 : cV 5 < 1000000 := by decide
    have hmost : ∀ (u : Int), 0 ≤ u → u < 2 → ∃ w : Int, atI [Dat.int 2000, Dat.int 200] u = some (.int w) ∧ 8 ≤ w ∧ w ≤ 2000 := fun u g0 g1 => by
      obtain ⟨x, ex, mx⟩ := at_mem (xs := [Dat.int 2000, Dat.int 200]) g0 g1
      simp only [List.mem_cons, List.not_mem_nil, or_false] at mx
      rcases mx with rfl | rfl <;> exact ⟨_, ex, by decide, by decide⟩
    obtain ⟨w, hw, hw8, hw2⟩ := hmost (if 0 < (0 : Int) + i then 1 else 0) (by split <;> omega) (by split <;> omega)
    have hmost2 : ∀ (u : Int), 0 ≤ u → u < 4 → ∃ z : Int, atI [Dat.int 60, Dat.int 200, Dat.int 200, Dat.int w] u = some (.int z) ∧ 8 ≤ z ∧ z ≤ 2000 := fun u g0 g1 => by
      obtain ⟨x, ex, mx⟩ := at_mem (xs := [Dat.int 60, Dat.int 200, Dat.int 200, Dat.int w]) g0 g1
      simp only [List.mem_cons, List.not_mem_nil, or_false] at mx
      rcases mx with rfl | rfl | rfl | rfl
      · exact ⟨_, ex, by decide, by decide⟩
      · exact ⟨_, ex, by decide, by decide⟩
      · exact ⟨_, ex, by decide, by decide⟩
      · exact ⟨_, ex, hw8, hw2⟩
    simp (config := { dsimp := false, maxSteps := 4000000 }) only [w_poolE, decide_eq_true_eq, hw, ↓FUd, ↓FTd, ↓FRd, ↓FQd, ↓FPd, ↓FId, ↓FJd, ↓FMd, ↓FLd, ↓FKd, ↓FHd, ↓FGd, FGn, ↓FSd, FSn, String.reduceBEq, String.reduceEq, beq_self_eq_true, Nat.reducePow, fillS, tgOf, putS, stillE, outs, isiD, tyIs, tyD, ixN, BSn, BGn, Int.reduceToNat, Nat.reduceAdd, Int.reduceLT, Int.reduceLE, Int.reduceAdd, Int.reduceSub, Int.reduceMul, Int.reducePow, Nat.reduceLT, Nat.reduceLeDiff, Int.reduceNeg, Int.reduceEq, reduceCtorEq, gt_iff_lt, ge_iff_le, ne_eq]
    refine ⟨by omega, by omega, fun p hp => ⟨_, hp, by omega, by omega, fun p1 r1 hp1 a1 b1 => ?_⟩⟩
    obtain ⟨z, hz, hz8, hz2⟩ := hmost2 r1 a1 b1
    refine ⟨_, hz, _, hp1, by omega, by omega, fun p2 r2 hp2 a2 b2 => ?_⟩
    have hci := hc (1 + r2).toNat (by omega)
    refine w__law_kind (1 + r2).toNat _ (by omega) hz8 hp2 (by omega) (by omega) (by omega) (by omega) fun p8 x r m hp8 hkx hr => ?_
    have hk5 : KD 5 x r m := hkx.mono (by omega)
    have hp8 : PL 1100000 p8 := hp8.mono (by omega)
    try simp (config := { dsimp := false, maxSteps := 4000000 }) only [↓FUd, ↓FTd, ↓FRd, ↓FQd, ↓FPd, ↓FId, ↓FJd, ↓FMd, ↓FLd, ↓FKd, ↓FHd, ↓FGd, FGn, ↓FSd, FSn, String.reduceBEq, String.reduceEq, beq_self_eq_true, Nat.reducePow, fillS, tgOf, putS, stillE, outs, isiD, tyIs, tyD, ixN, BSn, BGn, Int.reduceToNat, Nat.reduceAdd, Int.reduceLT, Int.reduceLE, Int.reduceAdd, Int.reduceSub, Int.reduceMul, Int.reducePow, Nat.reduceLT, Nat.reduceLeDiff, Int.reduceNeg, Int.reduceEq, reduceCtorEq, gt_iff_lt, ge_iff_le, ne_eq]
    refine ⟨_, hp8, by omega, by omega, fun p3 r3 hp3 a3 b3 => ?_⟩
    have hci2 := hc (1 + r3).toNat (by omega)
    refine w__law_kind (1 + r3).toNat _ (by omega) (by omega) hp3 (by omega) (by omega) (by omega) (by omega) fun p9 x2 r2' m2 hp9 hkx2 hr2 => ?_
    have hk52 : KD 5 x2 r2' m2 := hkx2.mono (by omega)
    have hp9 : PL 2200000 p9 := hp9.mono (by omega)
    simp (config := { dsimp := false, maxSteps := 4000000 }) only [↓w_valE, ↓FUd, ↓FTd, ↓FRd, ↓FQd, ↓FPd, ↓FId, ↓FJd, ↓FMd, ↓FLd, ↓FKd, ↓FHd, ↓FGd, FGn, ↓FSd, FSn, String.reduceBEq, String.reduceEq, beq_self_eq_true, Nat.reducePow, fillS, tgOf, putS, stillE, outs, isiD, tyIs, tyD, ixN, BSn, BGn, Int.reduceToNat, Nat.reduceAdd, Int.reduceLT, Int.reduceLE, Int.reduceAdd, Int.reduceSub, Int.reduceMul, Int.reducePow, Nat.reduceLT, Nat.reduceLeDiff, Int.reduceNeg, Int.reduceEq, reduceCtorEq, gt_iff_lt, ge_iff_le, ne_eq]
    refine ⟨r, m, 5, _, hp9, hk5, by omega, by omega, fun q1 sv v bs hq1 hsv hbv => ?_⟩
    simp (config := { dsimp := false, maxSteps := 4000000 }) only [hsv, ↓w_valE, ↓FUd, ↓FTd, ↓FRd, ↓FQd, ↓FPd, ↓FId, ↓FJd, ↓FMd, ↓FLd, ↓FKd, ↓FHd, ↓FGd, FGn, ↓FSd, FSn, String.reduceBEq, String.reduceEq, beq_self_eq_true, Nat.reducePow, fillS, tgOf, putS, stillE, outs, isiD, tyIs, tyD, ixN, BSn, BGn, Int.reduceToNat, Nat.reduceAdd, Int.reduceLT, Int.reduceLE, Int.reduceAdd, Int.reduceSub, Int.reduceMul, Int.reducePow, Nat.reduceLT, Nat.reduceLeDiff, Int.reduceNeg, Int.reduceEq, reduceCtorEq, gt_iff_lt, ge_iff_le, ne_eq]
    refine ⟨r2', m2, 5, _, hq1, hk52, by omega, by omega, fun q2 sv2 v2 cs hq2 hsv2 hbv2 => ?_⟩
    simp (config := { dsimp := false, maxSteps := 4000000 }) only [hsv2, ↓FUd, ↓FTd, ↓FRd, ↓FQd, ↓FPd, ↓FId, ↓FJd, ↓FMd, ↓FLd, ↓FKd, ↓FHd, ↓FGd, FGn, ↓FSd, FSn, String.reduceBEq, String.reduceEq, beq_self_eq_true, Nat.reducePow, fillS, tgOf, putS, stillE, outs, isiD, tyIs, tyD, ixN, BSn, BGn, Int.reduceToNat, Nat.reduceAdd, Int.reduceLT, Int.reduceLE, Int.reduceAdd, Int.reduceSub, Int.reduceMul, Int.reducePow, Nat.reduceLT, Nat.reduceLeDiff, Int.reduceNeg, Int.reduceEq, reduceCtorEq, gt_iff_lt, ge_iff_le, ne_eq]
    have hq2 : PL 5000000 q2 := hq2.mono (by omega)
    refine LcP.mk (fun j acc ρ => ∃ q : List Dat, ρ = [some (.d (.scr ns)), some (.d (.int (0 + (i : Int)))), some (.l q), some (.d (.int z)), some (.d x), some (.d x2), some (.d v), s7, s8, none, none] ∧ acc.length = j ∧ PgsX hx 18 acc ∧ PL (5000000 + 25 * j) q) ⟨q2, rfl, rfl, pgsx_nil, hq2⟩ (fun j y acc ρ2 hy hI => ?_) fun acc ρ2 hI => ?_
    · obtain ⟨q, rfl, ha, hg, hq⟩ := hI
      obtain ⟨hj, rfl⟩ := rng_at hy
      have hj : j < 8 := hj
      refine ⟨plain_cons (fun o e => by cases e; trivial) plain_nil, by rw [PySem.sizeLine_eq]; omega, ?_⟩
      simp (config := { dsimp := false, maxSteps := 4000000 }) only [wipeE, ↓FUd, ↓FTd, ↓FRd, ↓FQd, ↓FPd, ↓FId, ↓FJd, ↓FMd, ↓FLd, ↓FKd, ↓FHd, ↓FGd, FGn, ↓FSd, FSn, String.reduceBEq, String.reduceEq, beq_self_eq_true, Nat.reducePow, fillS, tgOf, putS, stillE, outs, isiD, tyIs, tyD, ixN, BSn, BGn, Int.reduceToNat, Nat.reduceAdd, Int.reduceLT, Int.reduceLE, Int.reduceAdd, Int.reduceSub, Int.reduceMul, Int.reducePow, Nat.reduceLT, Nat.reduceLeDiff, Int.reduceNeg, Int.reduceEq, reduceCtorEq, gt_iff_lt, ge_iff_le, ne_eq]
      refine w_bad hq hbv (by omega) (by omega) fun p' s y hp' hs hy => ?_
      simp (config := { dsimp := false, maxSteps := 4000000 }) only [hs, ↓FUd, ↓FTd, ↓FRd, ↓FQd, ↓FPd, ↓FId, ↓FJd, ↓FMd, ↓FLd, ↓FKd, ↓FHd, ↓FGd, FGn, ↓FSd, FSn, String.reduceBEq, String.reduceEq, beq_self_eq_true, Nat.reducePow, fillS, tgOf, putS, stillE, outs, isiD, tyIs, tyD, ixN, BSn, BGn, Int.reduceToNat, Nat.reduceAdd, Int.reduceLT, Int.reduceLE, Int.reduceAdd, Int.reduceSub, Int.reduceMul, Int.reducePow, Nat.reduceLT, Nat.reduceLeDiff, Int.reduceNeg, Int.reduceEq, reduceCtorEq, gt_iff_lt, ge_iff_le, ne_eq]
      exact ⟨p', rfl, by rw [List.length_append, ha]; rfl, pgsx_app hg (pgsx_cons hy pgsx_nil), hp'.mono (by omega)⟩
    · obtain ⟨q, rfl, ha, hg, hq⟩ := hI
      rw [rng_len] at ha
      have ha : acc.length = 8 := ha
      have hrow : PgsX hx 29 ([v, v2] ++ acc) := pgsx_app (pgsx_cons (pgx_up (Pg.x hbv.pgv) (by omega)) (pgsx_cons (pgx_up (Pg.x hbv2.pgv) (by omega)) pgsx_nil)) (pgsx_up hg (by omega))
      have hrl : ([v, v2] ++ acc).length ≤ 100 := by simp [ha]
      have fin : ∀ (xs : List Dat), PgsX hx 29 xs → xs.length ≤ 100 → ∀ D : DK, (D.nx = fun ρ => ∃ s1 s2 s3 s4 s5 s6 s7 s8 : Option Slot, ρ = [some (.d (.scr ns)), s1, s2, s3, s4, s5, s6, s7, s8, none, none]) → d_law_1 (S_is_value hx 10) S_pool S_take (S__law_kind 8) (S__law_value 8) (S__law_bad_value hx 20) (S__law_turned hx 40) (S__law_right hx) D [some (.d (.scr ns)), some (.d (.int (0 + (i : Int)))), some (.l q), some (.d (.int z)), some (.d x), some (.d x2), some (.d v), some (.d (.lst xs)), s8, none, none] := fun xs h1 h2 D hD =>
        law1_ok hk5 (by omega) hbv h1 h2 fun s7 s8 => by rw [hD]; exact ⟨_, _, _, _, _, _, _, _, rfl⟩
      generalize hxs : [v, v2] ++ acc = xs at hrow hrl ⊢
      have c5 := cut_le xs none (some 5)
      by_cases h200 : 200 < z
      · simp (config := { dsimp := false, maxSteps := 4000000 }) only [h200, hxs, ha, ↓FUd, ↓FTd, ↓FRd, ↓FQd, ↓FPd, ↓FId, ↓FJd, ↓FMd, ↓FLd, ↓FKd, ↓FHd, ↓FGd, FGn, ↓FSd, FSn, String.reduceBEq, String.reduceEq, beq_self_eq_true, Nat.reducePow, fillS, tgOf, putS, stillE, outs, isiD, tyIs, tyD, ixN, BSn, BGn, Int.reduceToNat, Nat.reduceAdd, Int.reduceLT, Int.reduceLE, Int.reduceAdd, Int.reduceSub, Int.reduceMul, Int.reducePow, Nat.reduceLT, Nat.reduceLeDiff, Int.reduceNeg, Int.reduceEq, reduceCtorEq, gt_iff_lt, ge_iff_le, ne_eq]
        exact fin _ (pgsx_cut hrow none (some 5)) (by omega) _ rfl
      · simp (config := { dsimp := false, maxSteps := 4000000 }) only [h200, hxs, ha, ↓FUd, ↓FTd, ↓FRd, ↓FQd, ↓FPd, ↓FId, ↓FJd, ↓FMd, ↓FLd, ↓FKd, ↓FHd, ↓FGd, FGn, ↓FSd, FSn, String.reduceBEq, String.reduceEq, beq_self_eq_true, Nat.reducePow, fillS, tgOf, putS, stillE, outs, isiD, tyIs, tyD, ixN, BSn, BGn, Int.reduceToNat, Nat.reduceAdd, Int.reduceLT, Int.reduceLE, Int.reduceAdd, Int.reduceSub, Int.reduceMul, Int.reducePow, Nat.reduceLT, Nat.reduceLeDiff, Int.reduceNeg, Int.reduceEq, reduceCtorEq, gt_iff_lt, ge_iff_le, ne_eq]
        exact fin _ hrow hrl _ rfl
  · obtain ⟨s1, s2, s3, s4, s5, s6, s7, s8, rfl⟩ := hI
    try simp (config := { dsimp := false, maxSteps := 4000000 }) only [↓FUd, ↓FTd, ↓FRd, ↓FQd, ↓FPd, ↓FId, ↓FJd, ↓FMd, ↓FLd, ↓FKd, ↓FHd, ↓FGd, FGn, ↓FSd, FSn, String.reduceBEq, String.reduceEq, beq_self_eq_true, Nat.reducePow, fillS, tgOf, putS, stillE, outs, isiD, tyIs, tyD, ixN, BSn, BGn, Int.reduceToNat, Nat.reduceAdd, Int.reduceLT, Int.reduceLE, Int.reduceAdd, Int.reduceSub, Int.reduceMul, Int.reducePow, Nat.reduceLT, Nat.reduceLeDiff, Int.reduceNeg, Int.reduceEq, reduceCtorEq, gt_iff_lt, ge_iff_le, ne_eq]
    exact hR
structure Bl (mg : Str → Option Value) : Prop where
  b_bool : mg "bool" = none
  b_dict : mg "dict" = none
  b_int : mg "int" = none
  b_isinstance : mg "isinstance" = none
  b_len : mg "len" = none
  b_list : mg "list" = none
  b_max : mg "max" = none
  b_min : mg "min" = none
  b_range : mg "range" = none
  b_sorted : mg "sorted" = none
  b_str : mg "str" = none
  b_tuple : mg "tuple" = none
  b_zip : mg "zip" = none
theorem sc_is_whole_number : FnScope ["thing"] ["thing"] (defScope s_is_whole_number) := ⟨rfl, rfl, rfl, by decide +kernel, rfl, by decide +kernel, by decide +kernel⟩
theorem b_is_whole_number {P : Program} {w : World} {K : Frag} {mg : Str → Option Value} {base : Heap} {k : Nat} {f : Addr} (B : Bl mg) (cdv : Value) (A : Around) (outer : List PySem.Env) (s : Shared) (H : Hp) (E : XK)
    (hr : Room k (A.deeper (PyProof.Rows.envOfC "is_whole_number" (defScope s_is_whole_number) s.heap.objs.size f cdv))) :
    JSs (cxOf (L2.CX P w) P w K mg base ["thing"] "is_whole_number" (defScope s_is_whole_number) f cdv A outer s H E) (fun cls dd _ H' => E cls dd H') ([], []) (defBody s_is_whole_number) (d_is_whole_number) := by
  have tk : Takes (cxOf (L2.CX P w) P w K mg base ["thing"] "is_whole_number" (defScope s_is_whole_number) f cdv A outer s H E) (fun cls dd _ H' => E cls dd H') := takes_of rfl rfl rfl rfl
  exact (jss_one (js_ret (je_and (je_isi (T := "int") (by decide) (by decide +kernel) B.b_isinstance B.b_int (je_var 0)) (je_one (je_not (je_isi (T := "bool") (by decide) (by decide +kernel) B.b_isinstance B.b_bool (je_var 0)))))))
theorem sc_is_whole_within : FnScope ["thing", "low", "high"] ["thing", "low", "high"] (defScope s_is_whole_within) := ⟨rfl, rfl, rfl, by decide +kernel, rfl, by decide +kernel, by decide +kernel⟩
theorem b_is_whole_within {P : Program} {w : World} {K : Frag} {mg : Str → Option Value} {base : Heap} {k : Nat} {f : Addr} (B : Bl mg) {S_is_whole_number : DSpec} (h_is_whole_number : Has P w K mg base k "is_whole_number" ["thing"] [] S_is_whole_number) (cdv : Value) (A : Around) (outer : List PySem.Env) (s : Shared) (H : Hp) (E : XK)
    (hr : Room k (A.deeper (PyProof.Rows.envOfC "is_whole_within" (defScope s_is_whole_within) s.heap.objs.size f cdv))) :
    JSs (cxOf (L2.CX P w) P w K mg base ["thing", "low", "high"] "is_whole_within" (defScope s_is_whole_within) f cdv A outer s H E) (fun cls dd _ H' => E cls dd H') ([], []) (defBody s_is_whole_within) (d_is_whole_within S_is_whole_number) := by
  have tk : Takes (cxOf (L2.CX P w) P w K mg base ["thing", "low", "high"] "is_whole_within" (defScope s_is_whole_within) f cdv A outer s H E) (fun cls dd _ H' => E cls dd H') := takes_of rfl rfl rfl rfl
  exact (jss_one (js_ret (je_and (je_still (jo_call h_is_whole_number hr tk (jb_cons (je_var 0) jb_nil))) (je_one (je_chain op_le ol_B op_le ol_B (je_var 1) (je_var 0) (je_var 2))))))
theorem sc_is_value : FnScope ["kind", "thing", "one", "name", "inner"] ["kind", "thing"] (defScope s_is_value) := ⟨rfl, rfl, rfl, by decide +kernel, rfl, by decide +kernel, by decide +kernel⟩
theorem b_is_value {P : Program} {w : World} {K : Frag} {mg : Str → Option Value} {base : Heap} {k : Nat} {f : Addr} (B : Bl mg) {S_is_whole_within : DSpec} (h_is_whole_within : Has P w K mg base k "is_whole_within" ["thing", "low", "high"] [] S_is_whole_within) {S_is_value : DSpec} (h_is_value : Has P w K mg base k "is_value" ["kind", "thing"] [] S_is_value) (cdv : Value) (A : Around) (outer : List PySem.Env) (s : Shared) (H : Hp) (E : XK)
    (hr : Room k (A.deeper (PyProof.Rows.envOfC "is_value" (defScope s_is_value) s.heap.objs.size f cdv))) :
    JSs (cxOf (L2.CX P w) P w K mg base ["kind", "thing", "one", "name", "inner"] "is_value" (defScope s_is_value) f cdv A outer s H E) (fun cls dd _ H' => E cls dd H') ([], []) (defBody s_is_value) (d_is_value S_is_whole_within S_is_value (hxW w)) := by
  have tk : Takes (cxOf (L2.CX P w) P w K mg base ["kind", "thing", "one", "name", "inner"] "is_value" (defScope s_is_value) f cdv A outer s H E) (fun cls dd _ H' => E cls dd H') := takes_of rfl rfl rfl rfl
  exact (jss_cons (js_if (jt_eq (hu64 hr) (je_item (hu1 hr) (je_var 0) je_int) je_str)
  (jss_one (js_retO (jo_call h_is_whole_within hr tk (jb_cons (je_var 1) (jb_cons je_int (jb_cons (je_sub (je_shl je_int (je_mul je_int (je_item (hu1 hr) (je_var 0) je_int))) je_int) jb_nil))))))
  jss_nil)
  (jss_cons (js_if (jt_eq (hu64 hr) (je_item (hu1 hr) (je_var 0) je_int) je_str)
  (jss_cons (js_if (jw_pt (jw_or (jt_not (jt_val (je_isi (T := "list") (by decide) (by decide +kernel) B.b_isinstance B.b_list (je_var 1)))) (jw_or1 (jt_ne (hu64 hr) (je_fn call_lenA cl_len B.b_len (ja_cons (je_var 1) ja_nil)) (je_item (hu1 hr) (je_var 0) je_int)))))
  (jss_one (js_ret je_bl))
  jss_nil)
  (jss_one (js_ret (je_eqE (hu64 hr) (je_still (jo_lc (n := 5) (own := [("one", 2)]) rfl sc_is_value.nd (ji_any (je_var 1)) (blkOk_by (sc := defScope s_is_value) (own := [("one", 2)]) (N := ["kind", "thing", "one", "name", "inner"]) (by decide +kernel)) (fun _ _ _ _ _ => (jg_name 2 sc_is_value.nd)) (fun _ _ _ _ _ => (jts_one (jt_not (jt_val (je_still (jo_call h_is_value hr takes0 (jb_cons (je_item (hu1 hr) (je_var 0) je_int) (jb_cons (je_var 2) jb_nil)))))))) (fun _ _ _ _ _ => (je_var 2)))) (je_lst ja_nil)))))
  jss_nil)
  (jss_cons (js_if (jt_eq (hu64 hr) (je_item (hu1 hr) (je_var 0) je_int) je_str)
  (jss_cons (js_if (jw_pt (jw_or (jt_not (jt_val (je_isi (T := "dict") (by decide) (by decide +kernel) B.b_isinstance B.b_dict (je_var 1)))) (jw_or1 (jt_ne (hu64 hr) (je_fn call_lenA cl_len B.b_len (ja_cons (je_var 1) ja_nil)) (je_fn call_lenA cl_len B.b_len (ja_cons (je_item (hu1 hr) (je_var 0) je_int) ja_nil))))))
  (jss_one (js_ret je_bl))
  jss_nil)
  (jss_one (js_ret (je_eqE (hu64 hr) (je_still (jo_lc (n := 5) (own := [("name", 3), ("inner", 4)]) rfl sc_is_value.nd (ji_any (je_item (hu1 hr) (je_var 0) je_int)) (blkOk_by (sc := defScope s_is_value) (own := [("name", 3), ("inner", 4)]) (N := ["kind", "thing", "one", "name", "inner"]) (by decide +kernel)) (fun _ _ _ _ _ => (jg_tup rfl (jgs_cons (jg_name 3 sc_is_value.nd) (jgs_cons (jg_name 4 sc_is_value.nd) jgs_nil)))) (fun _ _ _ _ _ => (jts_one (jw_pt (jw_or (jt_notinX (hu65 hr) (je_var 3) (je_var 1)) (jw_or1 (jt_not (jt_val (je_still (jo_call h_is_value hr takes0 (jb_cons (je_var 4) (jb_cons (je_itX (hu65 hr) (je_var 1) (je_var 3)) jb_nil))))))))))) (fun _ _ _ _ _ => (je_var 3)))) (je_lst ja_nil)))))
  jss_nil)
  (jss_cons (js_if (jw_pt (jw_or (jt_not (jt_val (je_isi (T := "tuple") (by decide) (by decide +kernel) B.b_isinstance B.b_tuple (je_var 1)))) (jw_or (jt_ne (hu64 hr) (je_fn call_lenA cl_len B.b_len (ja_cons (je_var 1) ja_nil)) je_int) (jw_or1 (jt_not (jt_val (je_still (jo_call h_is_whole_within hr tk (jb_cons (je_itX (hu65 hr) (je_var 1) je_int) (jb_cons je_int (jb_cons (je_sub (je_fn call_lenA cl_len B.b_len (ja_cons (je_item (hu1 hr) (je_var 0) je_int) ja_nil)) je_int) jb_nil)))))))))))
  (jss_one (js_ret je_bl))
  jss_nil)
  (jss_one (js_retO (jo_call h_is_value hr tk (jb_cons (je_item (hu1 hr) (je_item (hu1 hr) (je_var 0) je_int) (je_itX (hu65 hr) (je_var 1) je_int)) (jb_cons (je_itX (hu65 hr) (je_var 1) je_int) jb_nil)))))))))
theorem sc__law_pool : FnScope ["script", "k", "cell"] ["script", "k"] (defScope s__law_pool) := ⟨rfl, rfl, rfl, by decide +kernel, rfl, by decide +kernel, by decide +kernel⟩
theorem b__law_pool {P : Program} {w : World} {K : Frag} {mg : Str → Option Value} {base : Heap} {k : Nat} {f : Addr} (B : Bl mg) (cdv : Value) (A : Around) (outer : List PySem.Env) (s : Shared) (H : Hp) (E : XK)
    (hr : Room k (A.deeper (PyProof.Rows.envOfC "_law_pool" (defScope s__law_pool) s.heap.objs.size f cdv))) :
    JSs (cxOf (L2.CX P w) P w K mg base ["script", "k", "cell"] "_law_pool" (defScope s__law_pool) f cdv A outer s H E) (fun cls dd _ H' => E cls dd H') ([], []) (defBody s__law_pool) (d__law_pool) := by
  have tk : Takes (cxOf (L2.CX P w) P w K mg base ["script", "k", "cell"] "_law_pool" (defScope s__law_pool) f cdv A outer s H E) (fun cls dd _ H' => E cls dd H') := takes_of rfl rfl rfl rfl
  exact (jss_cons (js_set 2 sc__law_pool.nd je_int)
  (jss_cons (js_if (jt_lt (je_var 1) (je_fn call_lenA cl_len B.b_len (ja_cons (je_var 0) ja_nil)))
  (jss_one (js_set 2 sc__law_pool.nd (je_item (hu1 hr) (je_var 0) (je_var 1))))
  jss_nil)
  (jss_cons (js_if (jt_ge (je_var 2) (je_pow je_int je_int))
  (jss_one (js_retO (jo_lst (ja_cons (je_sub (je_var 2) (je_pow je_int je_int)) (ja_cons je_int (ja_cons je_int ja_nil))))))
  jss_nil)
  (jss_one (js_retO (jo_lst (ja_cons (je_var 2) (ja_cons je_int (ja_cons (je_mul je_int (je_var 1)) ja_nil)))))))))
theorem sc__law_take : FnScope ["pool", "many", "step", "mark", "found"] ["pool", "many"] (defScope s__law_take) := ⟨rfl, rfl, rfl, by decide +kernel, rfl, by decide +kernel, by decide +kernel⟩
theorem b__law_take {P : Program} {w : World} {K : Frag} {mg : Str → Option Value} {base : Heap} {k : Nat} {f : Addr} (B : Bl mg) (cdv : Value) (A : Around) (outer : List PySem.Env) (s : Shared) (H : Hp) (E : XK)
    (hr : Room k (A.deeper (PyProof.Rows.envOfC "_law_take" (defScope s__law_take) s.heap.objs.size f cdv))) :
    JSs (cxOf (L2.CX P w) P w K mg base ["pool", "many", "step", "mark", "found"] "_law_take" (defScope s__law_take) f cdv A outer s H E) (fun cls dd _ H' => E cls dd H') ([0], [0]) (defBody s__law_take) (d__law_take) := by
  have tk : Takes (cxOf (L2.CX P w) P w K mg base ["pool", "many", "step", "mark", "found"] "_law_take" (defScope s__law_take) f cdv A outer s H E) (fun cls dd _ H' => E cls dd H') := takes_of rfl rfl rfl rfl
  exact (jss_cons (js_if (jt_peek (jt_eq (hu64 hr) (je_item (hu1 hr) (je_var 0) je_int) je_int))
  (jss_cons (js_set 4 sc__law_take.nd (je_peek (je_mod (je_item (hu1 hr) (je_var 0) je_int) (je_var 1))))
  (jss_cons (js_setitem 0 (hu1 hr) (je_peek (je_fdiv (je_item (hu1 hr) (je_var 0) je_int) (je_var 1))) je_int)
  (jss_one (js_ret (je_var 4)))))
  jss_nil)
  (jss_cons (js_setitem 0 (hu1 hr) (je_peek (je_add (je_item (hu1 hr) (je_var 0) je_int) je_int)) je_int)
  (jss_cons (js_set 2 sc__law_take.nd (je_peek (je_item (hu1 hr) (je_var 0) je_int)))
  (jss_cons (js_set 3 sc__law_take.nd (je_peek (je_mul (je_add (je_mod (je_item (hu1 hr) (je_var 0) je_int) je_int) je_int) (je_add (je_mul je_int (je_var 2)) je_int))))
  (jss_cons (js_set 3 sc__law_take.nd (je_add (je_var 3) (je_mul (je_mul je_int (je_var 2)) (je_var 2))))
  (jss_cons (js_set 3 sc__law_take.nd (je_mod (je_mul (je_var 3) (je_var 3)) je_int))
  (jss_one (js_ret (je_mod (je_fdiv (je_mod (je_mul (je_var 3) (je_add (je_var 3) je_int)) je_int) je_int) (je_var 1))))))))))
theorem sc__law_rounded : FnScope ["number", "m", "left"] ["number", "m"] (defScope s__law_rounded) := ⟨rfl, rfl, rfl, by decide +kernel, rfl, by decide +kernel, by decide +kernel⟩
theorem b__law_rounded {P : Program} {w : World} {K : Frag} {mg : Str → Option Value} {base : Heap} {k : Nat} {f : Addr} (B : Bl mg) (cdv : Value) (A : Around) (outer : List PySem.Env) (s : Shared) (H : Hp) (E : XK)
    (hr : Room k (A.deeper (PyProof.Rows.envOfC "_law_rounded" (defScope s__law_rounded) s.heap.objs.size f cdv))) :
    JSs (cxOf (L2.CX P w) P w K mg base ["number", "m", "left"] "_law_rounded" (defScope s__law_rounded) f cdv A outer s H E) (fun cls dd _ H' => E cls dd H') ([], []) (defBody s__law_rounded) (d__law_rounded) := by
  have tk : Takes (cxOf (L2.CX P w) P w K mg base ["number", "m", "left"] "_law_rounded" (defScope s__law_rounded) f cdv A outer s H E) (fun cls dd _ H' => E cls dd H') := takes_of rfl rfl rfl rfl
  exact (jss_cons (js_set 2 sc__law_rounded.nd (je_mod (je_var 0) (je_var 1)))
  (jss_cons (js_if (jt_eq (hu64 hr) (je_var 2) je_int)
  (jss_one (js_ret (je_var 0)))
  jss_nil)
  (jss_one (js_ret (je_sub (je_add (je_var 0) (je_var 1)) (je_var 2))))))
theorem sc__law_room : FnScope ["kind", "most", "parts", "end", "begin", "room", "multiple", "inner", "name"] ["kind"] (defScope s__law_room) := ⟨rfl, rfl, rfl, by decide +kernel, rfl, by decide +kernel, by decide +kernel⟩
theorem b__law_room {P : Program} {w : World} {K : Frag} {mg : Str → Option Value} {base : Heap} {k : Nat} {f : Addr} (B : Bl mg) {S__law_rounded : DSpec} (h__law_rounded : Has P w K mg base k "_law_rounded" ["number", "m"] [] S__law_rounded) {S__law_room : DSpec} (h__law_room : Has P w K mg base k "_law_room" ["kind"] [] S__law_room) (cdv : Value) (A : Around) (outer : List PySem.Env) (s : Shared) (H : Hp) (E : XK)
    (hr : Room k (A.deeper (PyProof.Rows.envOfC "_law_room" (defScope s__law_room) s.heap.objs.size f cdv))) :
    JSs (cxOf (L2.CX P w) P w K mg base ["kind", "most", "parts", "end", "begin", "room", "multiple", "inner", "name"] "_law_room" (defScope s__law_room) f cdv A outer s H E) (fun cls dd _ H' => E cls dd H') ([], []) (defBody s__law_room) (d__law_room S__law_rounded S__law_room) := by
  have tk : Takes (cxOf (L2.CX P w) P w K mg base ["kind", "most", "parts", "end", "begin", "room", "multiple", "inner", "name"] "_law_room" (defScope s__law_room) f cdv A outer s H E) (fun cls dd _ H' => E cls dd H') := takes_of rfl rfl rfl rfl
  exact (jss_cons (js_if (jt_eq (hu64 hr) (je_item (hu1 hr) (je_var 0) je_int) je_str)
  (jss_one (js_retO (jo_lst (ja_cons (je_item (hu1 hr) (je_var 0) je_int) (ja_cons (je_item (hu1 hr) (je_var 0) je_int) ja_nil)))))
  jss_nil)
  (jss_cons (js_if (jt_eq (hu64 hr) (je_item (hu1 hr) (je_var 0) je_int) je_str)
  (jss_cons (js_asg (je_still (jo_call h__law_room hr tk (jb_cons (je_item (hu1 hr) (je_var 0) je_int) jb_nil))) (jg_tup rfl (jgs_cons (jg_name 5 sc__law_room.nd) (jgs_cons (jg_name 1 sc__law_room.nd) jgs_nil))))
  (jss_one (js_retO (jo_lst (ja_cons (je_mul (je_item (hu1 hr) (je_var 0) je_int) (je_still (jo_call h__law_rounded hr tk (jb_cons (je_var 5) (jb_cons (je_var 1) jb_nil))))) (ja_cons (je_var 1) ja_nil))))))
  jss_nil)
  (jss_cons (js_if (jt_eq (hu64 hr) (je_item (hu1 hr) (je_var 0) je_int) je_str)
  (jss_cons (js_setLcD (n := 9) (own := [("inner", 7), ("name", 8)]) 2 rfl sc__law_room.nd (ji_any (je_item (hu1 hr) (je_var 0) je_int)) (blkOk_by (sc := defScope s__law_room) (own := [("inner", 7), ("name", 8)]) (N := ["kind", "most", "parts", "end", "begin", "room", "multiple", "inner", "name"]) (by decide +kernel)) (fun _ _ _ _ _ => (jg_tup rfl (jgs_cons (jg_name 8 sc__law_room.nd) (jgs_cons (jg_name 7 sc__law_room.nd) jgs_nil)))) (fun _ _ _ _ _ => jts_nil) (fun _ _ _ _ _ => (je_still (jo_call h__law_room hr takes0 (jb_cons (je_var 7) jb_nil)))))
  (jss_cons (js_set 3 sc__law_room.nd je_int)
  (jss_one (js_for (passes_of rfl) rfl (ji_any (je_var 2)) (jg_tup rfl (jgs_cons (jg_name 5 sc__law_room.nd) (jgs_cons (jg_name 6 sc__law_room.nd) jgs_nil)))
  (jss_one (js_set 3 sc__law_room.nd (je_add (je_still (jo_call h__law_rounded hr tk (jb_cons (je_var 3) (jb_cons (je_var 6) jb_nil)))) (je_var 5))))))))
  (jss_cons (js_setLcD (n := 9) (own := [("inner", 7)]) 2 rfl sc__law_room.nd (ji_any (je_item (hu1 hr) (je_var 0) je_int)) (blkOk_by (sc := defScope s__law_room) (own := [("inner", 7)]) (N := ["kind", "most", "parts", "end", "begin", "room", "multiple", "inner", "name"]) (by decide +kernel)) (fun _ _ _ _ _ => (jg_name 7 sc__law_room.nd)) (fun _ _ _ _ _ => jts_nil) (fun _ _ _ _ _ => (je_still (jo_call h__law_room hr takes0 (jb_cons (je_var 7) jb_nil)))))
  (jss_cons (js_set 4 sc__law_room.nd (je_still (jo_call h__law_rounded hr tk (jb_cons je_int (jb_cons (je_fn (cr_max rfl) cl_max B.b_max (ja_cons (je_still (jo_lc (n := 9) (own := [("room", 5), ("multiple", 6)]) rfl sc__law_room.nd (ji_any (je_var 2)) (blkOk_by (sc := defScope s__law_room) (own := [("room", 5), ("multiple", 6)]) (N := ["kind", "most", "parts", "end", "begin", "room", "multiple", "inner", "name"]) (by decide +kernel)) (fun _ _ _ _ _ => (jg_tup rfl (jgs_cons (jg_name 5 sc__law_room.nd) (jgs_cons (jg_name 6 sc__law_room.nd) jgs_nil)))) (fun _ _ _ _ _ => jts_nil) (fun _ _ _ _ _ => (je_var 6)))) ja_nil)) jb_nil)))))
  (jss_one (js_set 3 sc__law_room.nd (je_add (je_var 4) (je_fn (cr_max rfl) cl_max B.b_max (ja_cons (je_still (jo_lc (n := 9) (own := [("room", 5), ("multiple", 6)]) rfl sc__law_room.nd (ji_any (je_var 2)) (blkOk_by (sc := defScope s__law_room) (own := [("room", 5), ("multiple", 6)]) (N := ["kind", "most", "parts", "end", "begin", "room", "multiple", "inner", "name"]) (by decide +kernel)) (fun _ _ _ _ _ => (jg_tup rfl (jgs_cons (jg_name 5 sc__law_room.nd) (jgs_cons (jg_name 6 sc__law_room.nd) jgs_nil)))) (fun _ _ _ _ _ => jts_nil) (fun _ _ _ _ _ => (je_var 5)))) ja_nil))))))))
  (jss_cons (js_set 1 sc__law_room.nd (je_fn (cr_max rfl) cl_max B.b_max (ja_cons (je_still (jo_lc (n := 9) (own := [("room", 5), ("multiple", 6)]) rfl sc__law_room.nd (ji_any (je_var 2)) (blkOk_by (sc := defScope s__law_room) (own := [("room", 5), ("multiple", 6)]) (N := ["kind", "most", "parts", "end", "begin", "room", "multiple", "inner", "name"]) (by decide +kernel)) (fun _ _ _ _ _ => (jg_tup rfl (jgs_cons (jg_name 5 sc__law_room.nd) (jgs_cons (jg_name 6 sc__law_room.nd) jgs_nil)))) (fun _ _ _ _ _ => jts_nil) (fun _ _ _ _ _ => (je_var 6)))) ja_nil)))
  (jss_one (js_retO (jo_lst (ja_cons (je_still (jo_call h__law_rounded hr tk (jb_cons (je_var 3) (jb_cons (je_var 1) jb_nil)))) (ja_cons (je_var 1) ja_nil)))))))))
theorem sc__law_names : FnScope ["pool", "many", "letters", "stem", "found", "k", "name", "way", "turn", "at"] ["pool", "many"] (defScope s__law_names) := ⟨rfl, rfl, rfl, by decide +kernel, rfl, by decide +kernel, by decide +kernel⟩
theorem b__law_names {P : Program} {w : World} {K : Frag} {mg : Str → Option Value} {base : Heap} {k : Nat} {f : Addr} (B : Bl mg) {S__law_take : DSpec} (h__law_take : Has P w K mg base k "_law_take" ["pool", "many"] [0] S__law_take) (cdv : Value) (A : Around) (outer : List PySem.Env) (s : Shared) (H : Hp) (E : XK)
    (hr : Room k (A.deeper (PyProof.Rows.envOfC "_law_names" (defScope s__law_names) s.heap.objs.size f cdv))) :
    JSs (cxOf (L2.CX P w) P w K mg base ["pool", "many", "letters", "stem", "found", "k", "name", "way", "turn", "at"] "_law_names" (defScope s__law_names) f cdv A outer s H E) (fun cls dd _ H' => E cls dd H') ([0], [0]) (defBody s__law_names) (d__law_names S__law_take) := by
  have tk : Takes (cxOf (L2.CX P w) P w K mg base ["pool", "many", "letters", "stem", "found", "k", "name", "way", "turn", "at"] "_law_names" (defScope s__law_names) f cdv A outer s H E) (fun cls dd _ H' => E cls dd H') := takes_of rfl rfl rfl rfl
  exact (jss_cons (js_set 2 sc__law_names.nd je_str)
  (jss_cons (js_set 3 sc__law_names.nd (je_item (hu1 hr) (je_lst (ja_cons je_str (ja_cons je_str (ja_cons je_str (ja_cons je_str ja_nil))))) (je_still (jo_call h__law_take hr tk (jb_slot 0 (jb_cons je_int jb_nil))))))
  (jss_cons (js_setO 4 sc__law_names.nd (jo_lst ja_nil))
  (jss_cons (js_for (passes_of rfl) rfl (ji_range1 B.b_range (ja_cons (je_var 1) ja_nil)) (jg_name 5 sc__law_names.nd)
  (jss_cons (js_set 6 sc__law_names.nd (je_add (je_slice (je_var 3) jp_none (jp_some (je_still (jo_call h__law_take hr tk (jb_slot 0 (jb_cons je_int jb_nil)))))) (je_item (hu1 hr) (je_var 2) (je_still (jo_call h__law_take hr tk (jb_slot 0 (jb_cons je_int jb_nil)))))))
  (jss_cons (js_set 7 sc__law_names.nd (je_still (jo_call h__law_take hr tk (jb_slot 0 (jb_cons je_int jb_nil)))))
  (jss_cons (js_if (jt_eq (hu64 hr) (je_var 7) je_int)
  (jss_one (js_set 6 sc__law_names.nd (je_join je_str (je_still (jo_lc (n := 10) (own := [("turn", 8)]) rfl sc__law_names.nd (ji_range1 B.b_range (ja_cons (je_add je_int (je_still (jo_call h__law_take hr tk (jb_slot 0 (jb_cons je_int jb_nil))))) ja_nil)) (blkOk_by (sc := defScope s__law_names) (own := [("turn", 8)]) (N := ["pool", "many", "letters", "stem", "found", "k", "name", "way", "turn", "at"]) (by decide +kernel)) (fun _ _ _ _ _ => (jg_name 8 sc__law_names.nd)) (fun _ _ _ _ _ => jts_nil) (fun _ _ _ _ _ => (je_item (hu1 hr) (je_var 2) (je_still (jo_call h__law_take hr takes0 (jb_slot 0 (jb_cons je_int jb_nil)))))))))))
  jss_nil)
  (jss_cons (js_if (jt_peek (jw_pt (jw_and (jt_eq (hu64 hr) (je_var 7) je_int) (jw_and1 (jt_neE (hu64 hr) (je_var 4) (je_lst ja_nil))))))
  (jss_cons (js_set 9 sc__law_names.nd (je_still (jo_call h__law_take hr tk (jb_slot 0 (jb_cons (je_peek (je_fn call_lenA cl_len B.b_len (ja_cons (je_item (hu1 hr) (je_var 4) (je_neg je_int)) ja_nil))) jb_nil)))))
  (jss_one (js_set 6 sc__law_names.nd (je_add (je_add (je_peek (je_slice (je_item (hu1 hr) (je_var 4) (je_neg je_int)) jp_none (jp_some (je_var 9)))) (je_item (hu1 hr) (je_var 2) (je_still (jo_call h__law_take hr tk (jb_slot 0 (jb_cons je_int jb_nil)))))) (je_peek (je_slice (je_item (hu1 hr) (je_var 4) (je_neg je_int)) (jp_some (je_add (je_var 9) je_int)) jp_none))))))
  jss_nil)
  (jss_cons (js_set 8 sc__law_names.nd je_int)
  (jss_cons (js_while (passes_of rfl) (jt_peek (jt_in (hu65 hr) (je_var 6) (je_var 4)))
  (jss_cons (js_set 6 sc__law_names.nd (je_mul (je_item (hu1 hr) (je_var 2) (je_var 8)) je_int))
  (jss_one (js_set 8 sc__law_names.nd (je_add (je_var 8) je_int)))))
  (jss_one (js_append 4 (je_var 6))))))))))
  (jss_one (js_retO (jo_take 4)))))))
theorem sc__law_kind : FnScope ["pool", "deep", "most", "way", "kind", "found", "many", "name", "k"] ["pool", "deep", "most"] (defScope s__law_kind) := ⟨rfl, rfl, rfl, by decide +kernel, rfl, by decide +kernel, by decide +kernel⟩
theorem b__law_kind {P : Program} {w : World} {K : Frag} {mg : Str → Option Value} {base : Heap} {k : Nat} {f : Addr} (B : Bl mg) {S__law_take : DSpec} (h__law_take : Has P w K mg base k "_law_take" ["pool", "many"] [0] S__law_take) {S__law_room : DSpec} (h__law_room : Has P w K mg base k "_law_room" ["kind"] [] S__law_room) {S__law_names : DSpec} (h__law_names : Has P w K mg base k "_law_names" ["pool", "many"] [0] S__law_names) {S__law_kind : DSpec} (h__law_kind : Has P w K mg base k "_law_kind" ["pool", "deep", "most"] [0] S__law_kind) (cdv : Value) (A : Around) (outer : List PySem.Env) (s : Shared) (H : Hp) (E : XK)
    (hr : Room k (A.deeper (PyProof.Rows.envOfC "_law_kind" (defScope s__law_kind) s.heap.objs.size f cdv))) :
    JSs (cxOf (L2.CX P w) P w K mg base ["pool", "deep", "most", "way", "kind", "found", "many", "name", "k"] "_law_kind" (defScope s__law_kind) f cdv A outer s H E) (fun cls dd _ H' => E cls dd H') ([0], [0]) (defBody s__law_kind) (d__law_kind S__law_take S__law_room S__law_names S__law_kind) := by
  have tk : Takes (cxOf (L2.CX P w) P w K mg base ["pool", "deep", "most", "way", "kind", "found", "many", "name", "k"] "_law_kind" (defScope s__law_kind) f cdv A outer s H E) (fun cls dd _ H' => E cls dd H') := takes_of rfl rfl rfl rfl
  exact (jss_cons (js_set 3 sc__law_kind.nd (je_still (jo_call h__law_take hr tk (jb_slot 0 (jb_cons je_int jb_nil)))))
  (jss_cons (js_set 4 sc__law_kind.nd (je_tup (ja_cons je_str (ja_cons (je_add je_int (je_still (jo_call h__law_take hr tk (jb_slot 0 (jb_cons je_int jb_nil))))) (ja_cons (je_item (hu1 hr) (je_lst (ja_cons je_int (ja_cons je_int (ja_cons je_int (ja_cons je_int ja_nil))))) (je_still (jo_call h__law_take hr tk (jb_slot 0 (jb_cons je_int jb_nil))))) ja_nil)))))
  (jss_cons (js_if (jw_pt (jw_or (jt_eq (hu64 hr) (je_var 1) je_int) (jw_or1 (jt_lt (je_var 3) je_int))))
  (jss_one (js_ret (je_var 4)))
  jss_nil)
  (jss_cons (js_set 5 sc__law_kind.nd (je_var 4))
  (jss_cons (js_if (jt_lt (je_var 3) je_int)
  (jss_cons (js_set 6 sc__law_kind.nd (je_add je_int (je_item (hu1 hr) (je_lst (ja_cons (je_still (jo_call h__law_take hr tk (jb_slot 0 (jb_cons je_int jb_nil)))) (ja_cons (je_still (jo_call h__law_take hr tk (jb_slot 0 (jb_cons je_int jb_nil)))) ja_nil))) (je_still (jo_call h__law_take hr tk (jb_slot 0 (jb_cons je_int jb_nil)))))))
  (jss_one (js_set 5 sc__law_kind.nd (je_tup (ja_cons je_str (ja_cons (je_still (jo_call h__law_kind hr tk (jb_slot 0 (jb_cons (je_sub (je_var 1) je_int) (jb_cons (je_var 2) jb_nil))))) (ja_cons (je_var 6) ja_nil)))))))
  (jss_one (js_if (jt_lt (je_var 3) je_int)
  (jss_cons (js_set 6 sc__law_kind.nd (je_add je_int (je_item (hu1 hr) (je_lst (ja_cons (je_still (jo_call h__law_take hr tk (jb_slot 0 (jb_cons je_int jb_nil)))) (ja_cons (je_still (jo_call h__law_take hr tk (jb_slot 0 (jb_cons je_int jb_nil)))) ja_nil))) (je_fnT call_intA cl_int B.b_int (ja_cons (je_eq (hu64 hr) (je_still (jo_call h__law_take hr tk (jb_slot 0 (jb_cons je_int jb_nil)))) je_int) ja_nil)))))
  (jss_one (js_set 5 sc__law_kind.nd (je_tup (ja_cons je_str (ja_cons (je_still (jo_lc (n := 9) (own := [("name", 7)]) rfl sc__law_kind.nd (ji_any (je_still (jo_call h__law_names hr tk (jb_slot 0 (jb_cons (je_var 6) jb_nil))))) (blkOk_by (sc := defScope s__law_kind) (own := [("name", 7)]) (N := ["pool", "deep", "most", "way", "kind", "found", "many", "name", "k"]) (by decide +kernel)) (fun _ _ _ _ _ => (jg_name 7 sc__law_kind.nd)) (fun _ _ _ _ _ => jts_nil) (fun _ _ _ _ _ => (je_tup (ja_cons (je_var 7) (ja_cons (je_still (jo_call h__law_kind hr takes0 (jb_slot 0 (jb_cons (je_sub (je_var 1) je_int) (jb_cons (je_var 2) jb_nil))))) ja_nil)))))) ja_nil))))))
  (jss_cons (js_set 6 sc__law_kind.nd (je_add je_int (je_item (hu1 hr) (je_lst (ja_cons (je_still (jo_call h__law_take hr tk (jb_slot 0 (jb_cons je_int jb_nil)))) (ja_cons (je_still (jo_call h__law_take hr tk (jb_slot 0 (jb_cons je_int jb_nil)))) ja_nil))) (je_still (jo_call h__law_take hr tk (jb_slot 0 (jb_cons je_int jb_nil)))))))
  (jss_one (js_set 5 sc__law_kind.nd (je_tup (ja_cons je_str (ja_cons (je_still (jo_lc (n := 9) (own := [("k", 8)]) rfl sc__law_kind.nd (ji_range1 B.b_range (ja_cons (je_var 6) ja_nil)) (blkOk_by (sc := defScope s__law_kind) (own := [("k", 8)]) (N := ["pool", "deep", "most", "way", "kind", "found", "many", "name", "k"]) (by decide +kernel)) (fun _ _ _ _ _ => (jg_name 8 sc__law_kind.nd)) (fun _ _ _ _ _ => jts_nil) (fun _ _ _ _ _ => (je_still (jo_call h__law_kind hr takes0 (jb_slot 0 (jb_cons (je_sub (je_var 1) je_int) (jb_cons (je_var 2) jb_nil)))))))) ja_nil)))))))))
  (jss_cons (js_if (jt_gt (je_item (hu1 hr) (je_still (jo_call h__law_room hr tk (jb_cons (je_var 5) jb_nil))) je_int) (je_var 2))
  (jss_one (js_ret (je_var 4)))
  jss_nil)
  (jss_one (js_ret (je_var 5)))))))))
theorem sc__law_copy : FnScope ["thing", "found", "key", "one"] ["thing"] (defScope s__law_copy) := ⟨rfl, rfl, rfl, by decide +kernel, rfl, by decide +kernel, by decide +kernel⟩
theorem b__law_copy {P : Program} {w : World} {K : Frag} {mg : Str → Option Value} {base : Heap} {k : Nat} {f : Addr} (B : Bl mg) {S__law_copy : DSpec} (h__law_copy : Has P w K mg base k "_law_copy" ["thing"] [] S__law_copy) (cdv : Value) (A : Around) (outer : List PySem.Env) (s : Shared) (H : Hp) (E : XK)
    (hr : Room k (A.deeper (PyProof.Rows.envOfC "_law_copy" (defScope s__law_copy) s.heap.objs.size f cdv))) :
    JSs (cxOf (L2.CX P w) P w K mg base ["thing", "found", "key", "one"] "_law_copy" (defScope s__law_copy) f cdv A outer s H E) (fun cls dd _ H' => E cls dd H') ([], []) (defBody s__law_copy) (d__law_copy S__law_copy (hxW w)) := by
  have tk : Takes (cxOf (L2.CX P w) P w K mg base ["thing", "found", "key", "one"] "_law_copy" (defScope s__law_copy) f cdv A outer s H E) (fun cls dd _ H' => E cls dd H') := takes_of rfl rfl rfl rfl
  exact (jss_cons (js_if (jt_val (je_isi (T := "list") (by decide) (by decide +kernel) B.b_isinstance B.b_list (je_var 0)))
  (jss_one (js_retO (jo_lc (n := 4) (own := [("one", 3)]) rfl sc__law_copy.nd (ji_any (je_var 0)) (blkOk_by (sc := defScope s__law_copy) (own := [("one", 3)]) (N := ["thing", "found", "key", "one"]) (by decide +kernel)) (fun _ _ _ _ _ => (jg_name 3 sc__law_copy.nd)) (fun _ _ _ _ _ => jts_nil) (fun _ _ _ _ _ => (je_still (jo_call h__law_copy hr takes0 (jb_cons (je_var 3) jb_nil)))))))
  jss_nil)
  (jss_cons (js_if (jt_val (je_isi (T := "tuple") (by decide) (by decide +kernel) B.b_isinstance B.b_tuple (je_var 0)))
  (jss_one (js_ret (je_fnT call_tuple_of cl_tuple B.b_tuple (ja_cons (je_still (jo_lc (n := 4) (own := [("one", 3)]) rfl sc__law_copy.nd (ji_any (je_var 0)) (blkOk_by (sc := defScope s__law_copy) (own := [("one", 3)]) (N := ["thing", "found", "key", "one"]) (by decide +kernel)) (fun _ _ _ _ _ => (jg_name 3 sc__law_copy.nd)) (fun _ _ _ _ _ => jts_nil) (fun _ _ _ _ _ => (je_still (jo_call h__law_copy hr takes0 (jb_cons (je_var 3) jb_nil)))))) ja_nil))))
  jss_nil)
  (jss_cons (js_if (jt_val (je_isi (T := "dict") (by decide) (by decide +kernel) B.b_isinstance B.b_dict (je_var 0)))
  (jss_cons (js_setO 1 sc__law_copy.nd jo_dict0)
  (jss_cons (js_for (passes_of rfl) rfl (ji_any (je_var 0)) (jg_name 2 sc__law_copy.nd)
  (jss_one (js_setX 1 (hu65 hr) (je_still (jo_call h__law_copy hr tk (jb_cons (je_itX (hu65 hr) (je_var 0) (je_var 2)) jb_nil))) (je_var 2))))
  (jss_one (js_retO (jo_take 1)))))
  jss_nil)
  (jss_one (js_ret (je_var 0))))))
theorem sc__law_same : FnScope ["one", "other", "key", "a", "b"] ["one", "other"] (defScope s__law_same) := ⟨rfl, rfl, rfl, by decide +kernel, rfl, by decide +kernel, by decide +kernel⟩
theorem b__law_same {P : Program} {w : World} {K : Frag} {mg : Str → Option Value} {base : Heap} {k : Nat} {f : Addr} (B : Bl mg) {S__law_same : DSpec} (h__law_same : Has P w K mg base k "_law_same" ["one", "other"] [] S__law_same) (cdv : Value) (A : Around) (outer : List PySem.Env) (s : Shared) (H : Hp) (E : XK)
    (hr : Room k (A.deeper (PyProof.Rows.envOfC "_law_same" (defScope s__law_same) s.heap.objs.size f cdv))) :
    JSs (cxOf (L2.CX P w) P w K mg base ["one", "other", "key", "a", "b"] "_law_same" (defScope s__law_same) f cdv A outer s H E) (fun cls dd _ H' => E cls dd H') ([], []) (defBody s__law_same) (d__law_same S__law_same (hxW w)) := by
  have tk : Takes (cxOf (L2.CX P w) P w K mg base ["one", "other", "key", "a", "b"] "_law_same" (defScope s__law_same) f cdv A outer s H E) (fun cls dd _ H' => E cls dd H') := takes_of rfl rfl rfl rfl
  exact (jss_cons (js_if (jw_pt (jw_or (jt_ne (hu64 hr) (je_isi (T := "bool") (by decide) (by decide +kernel) B.b_isinstance B.b_bool (je_var 0)) (je_isi (T := "bool") (by decide) (by decide +kernel) B.b_isinstance B.b_bool (je_var 1))) (jw_or1 (jt_ne (hu64 hr) (je_isi (T := "tuple") (by decide) (by decide +kernel) B.b_isinstance B.b_tuple (je_var 0)) (je_isi (T := "tuple") (by decide) (by decide +kernel) B.b_isinstance B.b_tuple (je_var 1))))))
  (jss_one (js_ret je_bl))
  jss_nil)
  (jss_cons (js_if (jw_pt (jw_and (jt_val (je_isi2 (T := "list") (U := "tuple") (by decide) (by decide) (by decide +kernel) (by decide +kernel) B.b_isinstance B.b_list B.b_tuple (je_var 0))) (jw_and1 (jt_val (je_isi2 (T := "list") (U := "tuple") (by decide) (by decide) (by decide +kernel) (by decide +kernel) B.b_isinstance B.b_list B.b_tuple (je_var 1))))))
  (jss_one (js_ret (je_and (je_eq (hu64 hr) (je_fn call_lenA cl_len B.b_len (ja_cons (je_var 0) ja_nil)) (je_fn call_lenA cl_len B.b_len (ja_cons (je_var 1) ja_nil))) (je_one (je_eqE (hu64 hr) (je_still (jo_lc (n := 5) (own := [("a", 3), ("b", 4)]) rfl sc__law_same.nd (ji_zipA B.b_zip (ja_cons (je_var 0) (ja_cons (je_var 1) ja_nil))) (blkOk_by (sc := defScope s__law_same) (own := [("a", 3), ("b", 4)]) (N := ["one", "other", "key", "a", "b"]) (by decide +kernel)) (fun _ _ _ _ _ => (jg_tup rfl (jgs_cons (jg_name 3 sc__law_same.nd) (jgs_cons (jg_name 4 sc__law_same.nd) jgs_nil)))) (fun _ _ _ _ _ => (jts_one (jt_not (jt_val (je_still (jo_call h__law_same hr takes0 (jb_cons (je_var 3) (jb_cons (je_var 4) jb_nil)))))))) (fun _ _ _ _ _ => je_int))) (je_lst ja_nil))))))
  jss_nil)
  (jss_cons (js_if (jw_pt (jw_and (jt_val (je_isi (T := "dict") (by decide) (by decide +kernel) B.b_isinstance B.b_dict (je_var 0))) (jw_and1 (jt_val (je_isi (T := "dict") (by decide) (by decide +kernel) B.b_isinstance B.b_dict (je_var 1))))))
  (jss_cons (js_if (jw_pt (jw_or (jt_ne (hu64 hr) (je_fn call_lenA cl_len B.b_len (ja_cons (je_var 0) ja_nil)) (je_fn call_lenA cl_len B.b_len (ja_cons (je_var 1) ja_nil))) (jw_or1 (jt_neE (hu64 hr) (je_still (jo_lc (n := 5) (own := [("key", 2)]) rfl sc__law_same.nd (ji_any (je_var 0)) (blkOk_by (sc := defScope s__law_same) (own := [("key", 2)]) (N := ["one", "other", "key", "a", "b"]) (by decide +kernel)) (fun _ _ _ _ _ => (jg_name 2 sc__law_same.nd)) (fun _ _ _ _ _ => (jts_one (jt_notinX (hu65 hr) (je_var 2) (je_var 1)))) (fun _ _ _ _ _ => (je_var 2)))) (je_lst ja_nil)))))
  (jss_one (js_ret je_bl))
  jss_nil)
  (jss_one (js_ret (je_eqE (hu64 hr) (je_still (jo_lc (n := 5) (own := [("key", 2)]) rfl sc__law_same.nd (ji_any (je_var 0)) (blkOk_by (sc := defScope s__law_same) (own := [("key", 2)]) (N := ["one", "other", "key", "a", "b"]) (by decide +kernel)) (fun _ _ _ _ _ => (jg_name 2 sc__law_same.nd)) (fun _ _ _ _ _ => (jts_one (jt_not (jt_val (je_still (jo_call h__law_same hr takes0 (jb_cons (je_itX (hu65 hr) (je_var 0) (je_var 2)) (jb_cons (je_itX (hu65 hr) (je_var 1) (je_var 2)) jb_nil)))))))) (fun _ _ _ _ _ => (je_var 2)))) (je_lst ja_nil)))))
  jss_nil)
  (jss_one (js_ret (je_and (je_eq (hu64 hr) (je_isi (T := "str") (by decide) (by decide +kernel) B.b_isinstance B.b_str (je_var 0)) (je_isi (T := "str") (by decide) (by decide +kernel) B.b_isinstance B.b_str (je_var 1))) (je_one (je_eq (hu64 hr) (je_var 0) (je_var 1)))))))))
theorem sc__law_top : FnScope ["width", "found", "k"] ["width"] (defScope s__law_top) := ⟨rfl, rfl, rfl, by decide +kernel, rfl, by decide +kernel, by decide +kernel⟩
theorem b__law_top {P : Program} {w : World} {K : Frag} {mg : Str → Option Value} {base : Heap} {k : Nat} {f : Addr} (B : Bl mg) (cdv : Value) (A : Around) (outer : List PySem.Env) (s : Shared) (H : Hp) (E : XK)
    (hr : Room k (A.deeper (PyProof.Rows.envOfC "_law_top" (defScope s__law_top) s.heap.objs.size f cdv))) :
    JSs (cxOf (L2.CX P w) P w K mg base ["width", "found", "k"] "_law_top" (defScope s__law_top) f cdv A outer s H E) (fun cls dd _ H' => E cls dd H') ([], []) (defBody s__law_top) (d__law_top) := by
  have tk : Takes (cxOf (L2.CX P w) P w K mg base ["width", "found", "k"] "_law_top" (defScope s__law_top) f cdv A outer s H E) (fun cls dd _ H' => E cls dd H') := takes_of rfl rfl rfl rfl
  exact (jss_cons (js_set 1 sc__law_top.nd je_int)
  (jss_cons (js_for (passes_of rfl) rfl (ji_range1 B.b_range (ja_cons (je_var 0) ja_nil)) (jg_name 2 sc__law_top.nd)
  (jss_one (js_set 1 sc__law_top.nd (je_mul je_int (je_var 1)))))
  (jss_one (js_ret (je_sub (je_var 1) je_int)))))
theorem sc__law_value : FnScope ["pool", "kind", "k", "top", "found", "name", "inner"] ["pool", "kind"] (defScope s__law_value) := ⟨rfl, rfl, rfl, by decide +kernel, rfl, by decide +kernel, by decide +kernel⟩
theorem b__law_value {P : Program} {w : World} {K : Frag} {mg : Str → Option Value} {base : Heap} {k : Nat} {f : Addr} (B : Bl mg) {S__law_take : DSpec} (h__law_take : Has P w K mg base k "_law_take" ["pool", "many"] [0] S__law_take) {S__law_top : DSpec} (h__law_top : Has P w K mg base k "_law_top" ["width"] [] S__law_top) {S__law_value : DSpec} (h__law_value : Has P w K mg base k "_law_value" ["pool", "kind"] [0] S__law_value) (cdv : Value) (A : Around) (outer : List PySem.Env) (s : Shared) (H : Hp) (E : XK)
    (hr : Room k (A.deeper (PyProof.Rows.envOfC "_law_value" (defScope s__law_value) s.heap.objs.size f cdv))) :
    JSs (cxOf (L2.CX P w) P w K mg base ["pool", "kind", "k", "top", "found", "name", "inner"] "_law_value" (defScope s__law_value) f cdv A outer s H E) (fun cls dd _ H' => E cls dd H') ([0], [0]) (defBody s__law_value) (d__law_value S__law_take S__law_top S__law_value) := by
  have tk : Takes (cxOf (L2.CX P w) P w K mg base ["pool", "kind", "k", "top", "found", "name", "inner"] "_law_value" (defScope s__law_value) f cdv A outer s H E) (fun cls dd _ H' => E cls dd H') := takes_of rfl rfl rfl rfl
  exact (jss_cons (js_if (jt_eq (hu64 hr) (je_item (hu1 hr) (je_var 1) je_int) je_str)
  (jss_cons (js_set 3 sc__law_value.nd (je_still (jo_call h__law_top hr tk (jb_cons (je_item (hu1 hr) (je_var 1) je_int) jb_nil))))
  (jss_one (js_ret (je_item (hu1 hr) (je_lst (ja_cons je_int (ja_cons (je_var 3) (ja_cons (je_still (jo_call h__law_take hr tk (jb_slot 0 (jb_cons je_int jb_nil)))) (ja_cons (je_still (jo_call h__law_take hr tk (jb_slot 0 (jb_cons (je_add (je_var 3) je_int) jb_nil)))) ja_nil))))) (je_still (jo_call h__law_take hr tk (jb_slot 0 (jb_cons je_int jb_nil))))))))
  jss_nil)
  (jss_cons (js_if (jt_eq (hu64 hr) (je_item (hu1 hr) (je_var 1) je_int) je_str)
  (jss_one (js_retO (jo_lc (n := 7) (own := [("k", 2)]) rfl sc__law_value.nd (ji_range1 B.b_range (ja_cons (je_item (hu1 hr) (je_var 1) je_int) ja_nil)) (blkOk_by (sc := defScope s__law_value) (own := [("k", 2)]) (N := ["pool", "kind", "k", "top", "found", "name", "inner"]) (by decide +kernel)) (fun _ _ _ _ _ => (jg_name 2 sc__law_value.nd)) (fun _ _ _ _ _ => jts_nil) (fun _ _ _ _ _ => (je_still (jo_call h__law_value hr takes0 (jb_slot 0 (jb_cons (je_item (hu1 hr) (je_var 1) je_int) jb_nil))))))))
  jss_nil)
  (jss_cons (js_if (jt_eq (hu64 hr) (je_item (hu1 hr) (je_var 1) je_int) je_str)
  (jss_cons (js_setO 4 sc__law_value.nd jo_dict0)
  (jss_cons (js_for (passes_of rfl) rfl (ji_any (je_item (hu1 hr) (je_var 1) je_int)) (jg_tup rfl (jgs_cons (jg_name 5 sc__law_value.nd) (jgs_cons (jg_name 6 sc__law_value.nd) jgs_nil)))
  (jss_one (js_setitem 4 (hu1 hr) (je_still (jo_call h__law_value hr tk (jb_slot 0 (jb_cons (je_var 6) jb_nil)))) (je_var 5))))
  (jss_one (js_retO (jo_take 4)))))
  jss_nil)
  (jss_cons (js_set 2 sc__law_value.nd (je_still (jo_call h__law_take hr tk (jb_slot 0 (jb_cons (je_fn call_lenA cl_len B.b_len (ja_cons (je_item (hu1 hr) (je_var 1) je_int) ja_nil)) jb_nil)))))
  (jss_one (js_ret (je_tup (ja_cons (je_var 2) (ja_cons (je_still (jo_call h__law_value hr tk (jb_slot 0 (jb_cons (je_item (hu1 hr) (je_item (hu1 hr) (je_var 1) je_int) (je_var 2)) jb_nil)))) ja_nil)))))))))
theorem sc__law_is_value : FnScope ["kind", "thing", "name", "inner", "one"] ["kind", "thing"] (defScope s__law_is_value) := ⟨rfl, rfl, rfl, by decide +kernel, rfl, by decide +kernel, by decide +kernel⟩
theorem b__law_is_value {P : Program} {w : World} {K : Frag} {mg : Str → Option Value} {base : Heap} {k : Nat} {f : Addr} (B : Bl mg) {S__law_top : DSpec} (h__law_top : Has P w K mg base k "_law_top" ["width"] [] S__law_top) {S__law_is_value : DSpec} (h__law_is_value : Has P w K mg base k "_law_is_value" ["kind", "thing"] [] S__law_is_value) (cdv : Value) (A : Around) (outer : List PySem.Env) (s : Shared) (H : Hp) (E : XK)
    (hr : Room k (A.deeper (PyProof.Rows.envOfC "_law_is_value" (defScope s__law_is_value) s.heap.objs.size f cdv))) :
    JSs (cxOf (L2.CX P w) P w K mg base ["kind", "thing", "name", "inner", "one"] "_law_is_value" (defScope s__law_is_value) f cdv A outer s H E) (fun cls dd _ H' => E cls dd H') ([], []) (defBody s__law_is_value) (d__law_is_value S__law_top S__law_is_value (hxW w)) := by
  have tk : Takes (cxOf (L2.CX P w) P w K mg base ["kind", "thing", "name", "inner", "one"] "_law_is_value" (defScope s__law_is_value) f cdv A outer s H E) (fun cls dd _ H' => E cls dd H') := takes_of rfl rfl rfl rfl
  exact (jss_cons (js_if (jt_eq (hu64 hr) (je_item (hu1 hr) (je_var 0) je_int) je_str)
  (jss_one (js_ret (je_and (je_isi (T := "int") (by decide) (by decide +kernel) B.b_isinstance B.b_int (je_var 1)) (je_and (je_not (je_isi (T := "bool") (by decide) (by decide +kernel) B.b_isinstance B.b_bool (je_var 1))) (je_one (je_chain op_le ol_B op_le ol_B je_int (je_var 1) (je_still (jo_call h__law_top hr tk (jb_cons (je_item (hu1 hr) (je_var 0) je_int) jb_nil)))))))))
  jss_nil)
  (jss_cons (js_if (jt_eq (hu64 hr) (je_item (hu1 hr) (je_var 0) je_int) je_str)
  (jss_cons (js_if (jw_pt (jw_or (jt_not (jt_val (je_isi (T := "list") (by decide) (by decide +kernel) B.b_isinstance B.b_list (je_var 1)))) (jw_or1 (jt_ne (hu64 hr) (je_fn call_lenA cl_len B.b_len (ja_cons (je_var 1) ja_nil)) (je_item (hu1 hr) (je_var 0) je_int)))))
  (jss_one (js_ret je_bl))
  jss_nil)
  (jss_one (js_ret (je_eqE (hu64 hr) (je_still (jo_lc (n := 5) (own := [("one", 4)]) rfl sc__law_is_value.nd (ji_any (je_var 1)) (blkOk_by (sc := defScope s__law_is_value) (own := [("one", 4)]) (N := ["kind", "thing", "name", "inner", "one"]) (by decide +kernel)) (fun _ _ _ _ _ => (jg_name 4 sc__law_is_value.nd)) (fun _ _ _ _ _ => (jts_one (jt_not (jt_val (je_still (jo_call h__law_is_value hr takes0 (jb_cons (je_item (hu1 hr) (je_var 0) je_int) (jb_cons (je_var 4) jb_nil)))))))) (fun _ _ _ _ _ => je_int))) (je_lst ja_nil)))))
  jss_nil)
  (jss_cons (js_if (jt_eq (hu64 hr) (je_item (hu1 hr) (je_var 0) je_int) je_str)
  (jss_cons (js_if (jw_pt (jw_or (jt_not (jt_val (je_isi (T := "dict") (by decide) (by decide +kernel) B.b_isinstance B.b_dict (je_var 1)))) (jw_or1 (jt_ne (hu64 hr) (je_fn call_lenA cl_len B.b_len (ja_cons (je_var 1) ja_nil)) (je_fn call_lenA cl_len B.b_len (ja_cons (je_item (hu1 hr) (je_var 0) je_int) ja_nil))))))
  (jss_one (js_ret je_bl))
  jss_nil)
  (jss_cons (js_for (passes_of rfl) rfl (ji_any (je_item (hu1 hr) (je_var 0) je_int)) (jg_tup rfl (jgs_cons (jg_name 2 sc__law_is_value.nd) (jgs_cons (jg_name 3 sc__law_is_value.nd) jgs_nil)))
  (jss_one (js_if (jw_pt (jw_or (jt_notinX (hu65 hr) (je_var 2) (je_var 1)) (jw_or1 (jt_not (jt_val (je_still (jo_call h__law_is_value hr tk (jb_cons (je_var 3) (jb_cons (je_itX (hu65 hr) (je_var 1) (je_var 2)) jb_nil)))))))))
  (jss_one (js_ret je_bl))
  jss_nil)))
  (jss_one (js_ret je_bl))))
  jss_nil)
  (jss_cons (js_if (jw_pt (jw_or (jt_not (jt_val (je_isi (T := "tuple") (by decide) (by decide +kernel) B.b_isinstance B.b_tuple (je_var 1)))) (jw_or1 (jt_ne (hu64 hr) (je_fn call_lenA cl_len B.b_len (ja_cons (je_var 1) ja_nil)) je_int))))
  (jss_one (js_ret je_bl))
  jss_nil)
  (jss_cons (js_if (jw_pt (jw_or (jt_not (jt_val (je_isi (T := "int") (by decide) (by decide +kernel) B.b_isinstance B.b_int (je_itX (hu65 hr) (je_var 1) je_int)))) (jw_or1 (jt_val (je_isi (T := "bool") (by decide) (by decide +kernel) B.b_isinstance B.b_bool (je_itX (hu65 hr) (je_var 1) je_int))))))
  (jss_one (js_ret je_bl))
  jss_nil)
  (jss_one (js_ret (je_and (je_chain op_le ol_B op_lt ol_B je_int (je_itX (hu65 hr) (je_var 1) je_int) (je_fn call_lenA cl_len B.b_len (ja_cons (je_item (hu1 hr) (je_var 0) je_int) ja_nil))) (je_one (je_still (jo_call h__law_is_value hr tk (jb_cons (je_item (hu1 hr) (je_item (hu1 hr) (je_var 0) je_int) (je_itX (hu65 hr) (je_var 1) je_int)) (jb_cons (je_itX (hu65 hr) (je_var 1) je_int) jb_nil)))))))))))))
theorem sc__law_bad_record : FnScope ["pool", "kind", "value", "found", "key", "way", "name", "inner", "some"] ["pool", "kind", "value"] (defScope s__law_bad_record) := ⟨rfl, rfl, rfl, by decide +kernel, rfl, by decide +kernel, by decide +kernel⟩
theorem b__law_bad_record {P : Program} {w : World} {K : Frag} {mg : Str → Option Value} {base : Heap} {k : Nat} {f : Addr} (B : Bl mg) {S__law_take : DSpec} (h__law_take : Has P w K mg base k "_law_take" ["pool", "many"] [0] S__law_take) {S__law_bad_value : DSpec} (h__law_bad_value : Has P w K mg base k "_law_bad_value" ["pool", "kind", "value"] [0] S__law_bad_value) (cdv : Value) (A : Around) (outer : List PySem.Env) (s : Shared) (H : Hp) (E : XK)
    (hr : Room k (A.deeper (PyProof.Rows.envOfC "_law_bad_record" (defScope s__law_bad_record) s.heap.objs.size f cdv))) :
    JSs (cxOf (L2.CX P w) P w K mg base ["pool", "kind", "value", "found", "key", "way", "name", "inner", "some"] "_law_bad_record" (defScope s__law_bad_record) f cdv A outer s H E) (fun cls dd _ H' => E cls dd H') ([0], [0]) (defBody s__law_bad_record) (d__law_bad_record S__law_take S__law_bad_value (hxW w)) := by
  have tk : Takes (cxOf (L2.CX P w) P w K mg base ["pool", "kind", "value", "found", "key", "way", "name", "inner", "some"] "_law_bad_record" (defScope s__law_bad_record) f cdv A outer s H E) (fun cls dd _ H' => E cls dd H') := takes_of rfl rfl rfl rfl
  exact (jss_cons (js_asg (je_item (hu1 hr) (je_item (hu1 hr) (je_var 1) je_int) (je_still (jo_call h__law_take hr tk (jb_slot 0 (jb_cons (je_fn call_lenA cl_len B.b_len (ja_cons (je_item (hu1 hr) (je_var 1) je_int) ja_nil)) jb_nil))))) (jg_tup rfl (jgs_cons (jg_name 6 sc__law_bad_record.nd) (jgs_cons (jg_name 7 sc__law_bad_record.nd) jgs_nil))))
  (jss_cons (js_setO 3 sc__law_bad_record.nd jo_dict0)
  (jss_cons (js_for (passes_of rfl) rfl (ji_any (je_var 2)) (jg_name 4 sc__law_bad_record.nd)
  (jss_one (js_setX 3 (hu65 hr) (je_item (hu1 hr) (je_var 2) (je_var 4)) (je_var 4))))
  (jss_cons (js_set 5 sc__law_bad_record.nd (je_still (jo_call h__law_take hr tk (jb_slot 0 (jb_cons je_int jb_nil)))))
  (jss_cons (js_if (jt_lt (je_var 5) je_int)
  (jss_one (js_setX 3 (hu65 hr) (je_still (jo_call h__law_bad_value hr tk (jb_slot 0 (jb_cons (je_var 7) (jb_cons (je_item (hu1 hr) (je_var 2) (je_var 6)) jb_nil))))) (je_var 6)))
  (jss_one (js_if (jt_eq (hu64 hr) (je_var 5) je_int)
  (jss_one (js_expr (je_popK 3 (je_var 6))))
  (jss_one (js_if (jt_eq (hu64 hr) (je_var 5) je_int)
  (jss_cons (js_set 8 sc__law_bad_record.nd (je_lst (ja_cons je_str (ja_cons je_str (ja_cons je_int (ja_cons (je_add (je_var 6) je_str) (ja_cons je_non (ja_cons (je_add (je_var 6) je_str) (ja_cons (je_add je_str (je_var 6)) (ja_cons (je_add je_str (je_var 6)) (ja_cons (je_tup (ja_cons (je_var 6) ja_nil)) ja_nil)))))))))))
  (jss_one (js_setX 3 (hu65 hr) (je_item (hu1 hr) (je_var 2) (je_var 6)) (je_item (hu1 hr) (je_var 8) (je_still (jo_call h__law_take hr tk (jb_slot 0 (jb_cons je_int jb_nil))))))))
  (jss_one (js_if (jt_eq (hu64 hr) (je_var 5) je_int)
  (jss_cons (js_expr (je_popK 3 (je_var 6)))
  (jss_one (js_setX 3 (hu65 hr) (je_item (hu1 hr) (je_var 2) (je_var 6)) (je_item (hu1 hr) (je_lst (ja_cons (je_add (je_var 6) je_str) (ja_cons je_int (ja_cons je_str (ja_cons je_bl ja_nil))))) (je_still (jo_call h__law_take hr tk (jb_slot 0 (jb_cons je_int jb_nil))))))))
  (jss_one (js_ret (je_item (hu1 hr) (je_lst (ja_cons (je_still (jo_fnT (call_listA rfl) cl_list B.b_list (ja_cons (je_var 2) ja_nil))) (ja_cons (je_still (jo_fn (cr_sortX rfl) cl_sortX B.b_sorted (ja_cons (je_var 2) ja_nil))) (ja_cons je_non (ja_cons (je_still jo_dict0) (ja_cons (je_lst (ja_cons (je_var 2) ja_nil)) (ja_cons (je_tup (ja_cons (je_var 2) ja_nil)) (ja_cons je_int ja_nil)))))))) (je_still (jo_call h__law_take hr tk (jb_slot 0 (jb_cons je_int jb_nil))))))))))))))
  (jss_one (js_retO (jo_take 3))))))))
theorem sc__law_bad_row : FnScope ["pool", "kind", "value", "at", "rows"] ["pool", "kind", "value"] (defScope s__law_bad_row) := ⟨rfl, rfl, rfl, by decide +kernel, rfl, by decide +kernel, by decide +kernel⟩
theorem b__law_bad_row {P : Program} {w : World} {K : Frag} {mg : Str → Option Value} {base : Heap} {k : Nat} {f : Addr} (B : Bl mg) {S__law_take : DSpec} (h__law_take : Has P w K mg base k "_law_take" ["pool", "many"] [0] S__law_take) {S__law_bad_value : DSpec} (h__law_bad_value : Has P w K mg base k "_law_bad_value" ["pool", "kind", "value"] [0] S__law_bad_value) (cdv : Value) (A : Around) (outer : List PySem.Env) (s : Shared) (H : Hp) (E : XK)
    (hr : Room k (A.deeper (PyProof.Rows.envOfC "_law_bad_row" (defScope s__law_bad_row) s.heap.objs.size f cdv))) :
    JSs (cxOf (L2.CX P w) P w K mg base ["pool", "kind", "value", "at", "rows"] "_law_bad_row" (defScope s__law_bad_row) f cdv A outer s H E) (fun cls dd _ H' => E cls dd H') ([0], [0]) (defBody s__law_bad_row) (d__law_bad_row S__law_take S__law_bad_value) := by
  have tk : Takes (cxOf (L2.CX P w) P w K mg base ["pool", "kind", "value", "at", "rows"] "_law_bad_row" (defScope s__law_bad_row) f cdv A outer s H E) (fun cls dd _ H' => E cls dd H') := takes_of rfl rfl rfl rfl
  exact (jss_cons (js_set 3 sc__law_bad_row.nd (je_still (jo_call h__law_take hr tk (jb_slot 0 (jb_cons (je_fn call_lenA cl_len B.b_len (ja_cons (je_var 2) ja_nil)) jb_nil)))))
  (jss_cons (js_set 4 sc__law_bad_row.nd (je_mul (je_lst (ja_cons (je_add (je_add (je_slice (je_var 2) jp_none (jp_some (je_var 3))) (je_lst (ja_cons (je_still (jo_call h__law_bad_value hr tk (jb_slot 0 (jb_cons (je_item (hu1 hr) (je_var 1) je_int) (jb_cons (je_item (hu1 hr) (je_var 2) (je_var 3)) jb_nil))))) ja_nil))) (je_slice (je_var 2) (jp_some (je_add (je_var 3) je_int)) jp_none)) ja_nil)) je_int))
  (jss_cons (js_set 4 sc__law_bad_row.nd (je_add (je_var 4) (je_lst (ja_cons (je_add (je_var 2) (je_slice (je_var 2) (jp_some (je_var 3)) (jp_some (je_add (je_var 3) je_int)))) (ja_cons (je_add (je_slice (je_var 2) jp_none (jp_some (je_var 3))) (je_slice (je_var 2) (jp_some (je_add (je_var 3) je_int)) jp_none)) (ja_cons (je_fnT call_tuple_of cl_tuple B.b_tuple (ja_cons (je_var 2) ja_nil)) (ja_cons je_non ja_nil)))))))
  (jss_one (js_ret (je_item (hu1 hr) (je_add (je_var 4) (je_lst (ja_cons (je_still (jo_disp (jps_cons je_int (je_item (hu1 hr) (je_var 2) je_int) jps_nil))) (ja_cons (je_lst ja_nil) ja_nil)))) (je_still (jo_call h__law_take hr tk (jb_slot 0 (jb_cons je_int jb_nil))))))))))
theorem sc__law_bad_value : FnScope ["pool", "kind", "value", "rows", "top", "some", "k", "inner"] ["pool", "kind", "value"] (defScope s__law_bad_value) := ⟨rfl, rfl, rfl, by decide +kernel, rfl, by decide +kernel, by decide +kernel⟩
theorem b__law_bad_value {P : Program} {w : World} {K : Frag} {mg : Str → Option Value} {base : Heap} {k : Nat} {f : Addr} (B : Bl mg) {S__law_take : DSpec} (h__law_take : Has P w K mg base k "_law_take" ["pool", "many"] [0] S__law_take) {S__law_top : DSpec} (h__law_top : Has P w K mg base k "_law_top" ["width"] [] S__law_top) {S__law_bad_record : DSpec} (h__law_bad_record : Has P w K mg base k "_law_bad_record" ["pool", "kind", "value"] [0] S__law_bad_record) {S__law_bad_row : DSpec} (h__law_bad_row : Has P w K mg base k "_law_bad_row" ["pool", "kind", "value"] [0] S__law_bad_row) {S__law_bad_value : DSpec} (h__law_bad_value : Has P w K mg base k "_law_bad_value" ["pool", "kind", "value"] [0] S__law_bad_value) (cdv : Value) (A : Around) (outer : List PySem.Env) (s : Shared) (H : Hp) (E : XK)
    (hr : Room k (A.deeper (PyProof.Rows.envOfC "_law_bad_value" (defScope s__law_bad_value) s.heap.objs.size f cdv))) :
    JSs (cxOf (L2.CX P w) P w K mg base ["pool", "kind", "value", "rows", "top", "some", "k", "inner"] "_law_bad_value" (defScope s__law_bad_value) f cdv A outer s H E) (fun cls dd _ H' => E cls dd H') ([0], [0]) (defBody s__law_bad_value) (d__law_bad_value S__law_take S__law_top S__law_bad_record S__law_bad_row S__law_bad_value) := by
  have tk : Takes (cxOf (L2.CX P w) P w K mg base ["pool", "kind", "value", "rows", "top", "some", "k", "inner"] "_law_bad_value" (defScope s__law_bad_value) f cdv A outer s H E) (fun cls dd _ H' => E cls dd H') := takes_of rfl rfl rfl rfl
  exact (jss_cons (js_if (jt_eq (hu64 hr) (je_item (hu1 hr) (je_var 1) je_int) je_str)
  (jss_cons (js_set 4 sc__law_bad_value.nd (je_still (jo_call h__law_top hr tk (jb_cons (je_item (hu1 hr) (je_var 1) je_int) jb_nil))))
  (jss_cons (js_set 5 sc__law_bad_value.nd (je_lst (ja_cons (je_neg je_int) (ja_cons (je_add (je_var 4) je_int) (ja_cons je_bl (ja_cons je_bl (ja_cons je_non (ja_cons (je_fnT call_strA cl_str B.b_str (ja_cons (je_var 2) ja_nil)) (ja_cons (je_lst (ja_cons (je_var 2) ja_nil)) (ja_cons (je_tup (ja_cons (je_var 2) ja_nil)) (ja_cons (je_sub (je_neg je_int) (je_var 2)) (ja_cons (je_still jo_dict0) (ja_cons je_str ja_nil)))))))))))))
  (jss_one (js_ret (je_item (hu1 hr) (je_add (je_var 5) (je_lst (ja_cons (je_add (je_add (je_var 4) je_int) (je_var 2)) ja_nil))) (je_still (jo_call h__law_take hr tk (jb_slot 0 (jb_cons je_int jb_nil)))))))))
  jss_nil)
  (jss_cons (js_if (jt_eq (hu64 hr) (je_item (hu1 hr) (je_var 1) je_int) je_str)
  (jss_one (js_retO (jo_call h__law_bad_row hr tk (jb_slot 0 (jb_cons (je_var 1) (jb_cons (je_var 2) jb_nil))))))
  jss_nil)
  (jss_cons (js_if (jt_eq (hu64 hr) (je_item (hu1 hr) (je_var 1) je_int) je_str)
  (jss_one (js_retO (jo_call h__law_bad_record hr tk (jb_slot 0 (jb_cons (je_var 1) (jb_cons (je_var 2) jb_nil))))))
  jss_nil)
  (jss_cons (js_asg (je_var 2) (jg_tup rfl (jgs_cons (jg_name 6 sc__law_bad_value.nd) (jgs_cons (jg_name 7 sc__law_bad_value.nd) jgs_nil))))
  (jss_cons (js_set 3 sc__law_bad_value.nd (je_mul (je_lst (ja_cons (je_tup (ja_cons (je_var 6) (ja_cons (je_still (jo_call h__law_bad_value hr tk (jb_slot 0 (jb_cons (je_item (hu1 hr) (je_item (hu1 hr) (je_var 1) je_int) (je_var 6)) (jb_cons (je_var 7) jb_nil))))) ja_nil))) ja_nil)) je_int))
  (jss_cons (js_set 3 sc__law_bad_value.nd (je_add (je_var 3) (je_lst (ja_cons (je_tup (ja_cons (je_fn call_lenA cl_len B.b_len (ja_cons (je_item (hu1 hr) (je_var 1) je_int) ja_nil)) (ja_cons (je_var 7) ja_nil))) (ja_cons (je_tup (ja_cons (je_neg je_int) (ja_cons (je_var 7) ja_nil))) (ja_cons (je_tup (ja_cons (je_sub (je_var 6) (je_fn call_lenA cl_len B.b_len (ja_cons (je_item (hu1 hr) (je_var 1) je_int) ja_nil))) (ja_cons (je_var 7) ja_nil))) ja_nil))))))
  (jss_cons (js_set 3 sc__law_bad_value.nd (je_add (je_var 3) (je_lst (ja_cons (je_tup (ja_cons je_bl (ja_cons (je_var 7) ja_nil))) (ja_cons (je_tup (ja_cons je_bl (ja_cons (je_var 7) ja_nil))) ja_nil)))))
  (jss_cons (js_set 3 sc__law_bad_value.nd (je_add (je_var 3) (je_lst (ja_cons (je_lst (ja_cons (je_var 6) (ja_cons (je_var 7) ja_nil))) (ja_cons (je_tup (ja_cons (je_var 6) ja_nil)) (ja_cons (je_tup (ja_cons (je_var 6) (ja_cons (je_var 7) (ja_cons je_int ja_nil)))) (ja_cons (je_tup (ja_cons (je_var 7) (ja_cons (je_var 6) ja_nil))) (ja_cons (je_var 7) (ja_cons je_non (ja_cons (je_tup (ja_cons (je_fnT call_strA cl_str B.b_str (ja_cons (je_var 6) ja_nil)) (ja_cons (je_var 7) ja_nil))) ja_nil))))))))))
  (jss_one (js_ret (je_item (hu1 hr) (je_var 3) (je_still (jo_call h__law_take hr tk (jb_slot 0 (jb_cons je_int jb_nil)))))))))))))))
theorem sc__law_turned : FnScope ["value", "found", "name", "one"] ["value"] (defScope s__law_turned) := ⟨rfl, rfl, rfl, by decide +kernel, rfl, by decide +kernel, by decide +kernel⟩
theorem b__law_turned {P : Program} {w : World} {K : Frag} {mg : Str → Option Value} {base : Heap} {k : Nat} {f : Addr} (B : Bl mg) {S__law_turned : DSpec} (h__law_turned : Has P w K mg base k "_law_turned" ["value"] [] S__law_turned) (cdv : Value) (A : Around) (outer : List PySem.Env) (s : Shared) (H : Hp) (E : XK)
    (hr : Room k (A.deeper (PyProof.Rows.envOfC "_law_turned" (defScope s__law_turned) s.heap.objs.size f cdv))) :
    JSs (cxOf (L2.CX P w) P w K mg base ["value", "found", "name", "one"] "_law_turned" (defScope s__law_turned) f cdv A outer s H E) (fun cls dd _ H' => E cls dd H') ([], []) (defBody s__law_turned) (d__law_turned S__law_turned (hxW w)) := by
  have tk : Takes (cxOf (L2.CX P w) P w K mg base ["value", "found", "name", "one"] "_law_turned" (defScope s__law_turned) f cdv A outer s H E) (fun cls dd _ H' => E cls dd H') := takes_of rfl rfl rfl rfl
  exact (jss_cons (js_if (jt_val (je_isi (T := "list") (by decide) (by decide +kernel) B.b_isinstance B.b_list (je_var 0)))
  (jss_one (js_retO (jo_lc (n := 4) (own := [("one", 3)]) rfl sc__law_turned.nd (ji_any (je_var 0)) (blkOk_by (sc := defScope s__law_turned) (own := [("one", 3)]) (N := ["value", "found", "name", "one"]) (by decide +kernel)) (fun _ _ _ _ _ => (jg_name 3 sc__law_turned.nd)) (fun _ _ _ _ _ => jts_nil) (fun _ _ _ _ _ => (je_still (jo_call h__law_turned hr takes0 (jb_cons (je_var 3) jb_nil)))))))
  jss_nil)
  (jss_cons (js_if (jt_val (je_isi (T := "tuple") (by decide) (by decide +kernel) B.b_isinstance B.b_tuple (je_var 0)))
  (jss_one (js_ret (je_fnT call_tuple_of cl_tuple B.b_tuple (ja_cons (je_still (jo_lc (n := 4) (own := [("one", 3)]) rfl sc__law_turned.nd (ji_any (je_var 0)) (blkOk_by (sc := defScope s__law_turned) (own := [("one", 3)]) (N := ["value", "found", "name", "one"]) (by decide +kernel)) (fun _ _ _ _ _ => (jg_name 3 sc__law_turned.nd)) (fun _ _ _ _ _ => jts_nil) (fun _ _ _ _ _ => (je_still (jo_call h__law_turned hr takes0 (jb_cons (je_var 3) jb_nil)))))) ja_nil))))
  jss_nil)
  (jss_cons (js_if (jt_not (jt_val (je_isi (T := "dict") (by decide) (by decide +kernel) B.b_isinstance B.b_dict (je_var 0))))
  (jss_one (js_ret (je_var 0)))
  jss_nil)
  (jss_cons (js_setO 1 sc__law_turned.nd jo_dict0)
  (jss_cons (js_for (passes_of rfl) rfl (ji_any (je_rev (je_still (jo_fnT (call_listA rfl) cl_list B.b_list (ja_cons (je_var 0) ja_nil))))) (jg_name 2 sc__law_turned.nd)
  (jss_one (js_setX 1 (hu65 hr) (je_still (jo_call h__law_turned hr tk (jb_cons (je_itX (hu65 hr) (je_var 0) (je_var 2)) jb_nil))) (je_var 2))))
  (jss_one (js_retO (jo_take 1))))))))
theorem sc__law_right : FnScope ["kind", "thing", "handed", "found"] ["kind", "thing"] (defScope s__law_right) := ⟨rfl, rfl, rfl, by decide +kernel, rfl, by decide +kernel, by decide +kernel⟩
theorem b__law_right {P : Program} {w : World} {K : Frag} {mg : Str → Option Value} {base : Heap} {k : Nat} {f : Addr} (B : Bl mg) {S_is_value : DSpec} (h_is_value : Has P w K mg base k "is_value" ["kind", "thing"] [] S_is_value) {S__law_copy : DSpec} (h__law_copy : Has P w K mg base k "_law_copy" ["thing"] [] S__law_copy) {S__law_same : DSpec} (h__law_same : Has P w K mg base k "_law_same" ["one", "other"] [] S__law_same) {S__law_is_value : DSpec} (h__law_is_value : Has P w K mg base k "_law_is_value" ["kind", "thing"] [] S__law_is_value) (cdv : Value) (A : Around) (outer : List PySem.Env) (s : Shared) (H : Hp) (E : XK)
    (hr : Room k (A.deeper (PyProof.Rows.envOfC "_law_right" (defScope s__law_right) s.heap.objs.size f cdv))) :
    JSs (cxOf (L2.CX P w) P w K mg base ["kind", "thing", "handed", "found"] "_law_right" (defScope s__law_right) f cdv A outer s H E) (fun cls dd _ H' => E cls dd H') ([], []) (defBody s__law_right) (d__law_right S_is_value S__law_copy S__law_same S__law_is_value) := by
  have tk : Takes (cxOf (L2.CX P w) P w K mg base ["kind", "thing", "handed", "found"] "_law_right" (defScope s__law_right) f cdv A outer s H E) (fun cls dd _ H' => E cls dd H') := takes_of rfl rfl rfl rfl
  exact (jss_cons (js_set 2 sc__law_right.nd (je_lst (ja_cons (je_still (jo_call h__law_copy hr tk (jb_cons (je_var 0) jb_nil))) (ja_cons (je_still (jo_call h__law_copy hr tk (jb_cons (je_var 1) jb_nil))) ja_nil))))
  (jss_cons (js_set 3 sc__law_right.nd (je_still (jo_call h_is_value hr tk (jb_cons (je_item (hu1 hr) (je_var 2) je_int) (jb_cons (je_item (hu1 hr) (je_var 2) je_int) jb_nil)))))
  (jss_cons (js_if (jw_pt (jw_or (jt_not (jt_val (je_isi (T := "bool") (by decide) (by decide +kernel) B.b_isinstance B.b_bool (je_var 3)))) (jw_or1 (jt_ne (hu64 hr) (je_var 3) (je_still (jo_call h__law_is_value hr tk (jb_cons (je_var 0) (jb_cons (je_var 1) jb_nil))))))))
  (jss_one (js_ret je_bl))
  jss_nil)
  (jss_one (js_ret (je_and (je_still (jo_call h__law_same hr tk (jb_cons (je_item (hu1 hr) (je_var 2) je_int) (jb_cons (je_var 0) jb_nil)))) (je_one (je_still (jo_call h__law_same hr tk (jb_cons (je_item (hu1 hr) (je_var 2) je_int) (jb_cons (je_var 1) jb_nil)))))))))))
theorem sc_law : FnScope ["script", "k", "pool", "most", "kind", "other", "value", "rows", "thing", "turn", "one"] ["script"] (defScope s_law) := ⟨rfl, rfl, rfl, by decide +kernel, rfl, by decide +kernel, by decide +kernel⟩
theorem b_law {P : Program} {w : World} {K : Frag} {mg : Str → Option Value} {base : Heap} {k : Nat} {f : Addr} (B : Bl mg) {S_is_value : DSpec} (h_is_value : Has P w K mg base k "is_value" ["kind", "thing"] [] S_is_value) {S__law_pool : DSpec} (h__law_pool : Has P w K mg base k "_law_pool" ["script", "k"] [] S__law_pool) {S__law_take : DSpec} (h__law_take : Has P w K mg base k "_law_take" ["pool", "many"] [0] S__law_take) {S__law_kind : DSpec} (h__law_kind : Has P w K mg base k "_law_kind" ["pool", "deep", "most"] [0] S__law_kind) {S__law_value : DSpec} (h__law_value : Has P w K mg base k "_law_value" ["pool", "kind"] [0] S__law_value) {S__law_bad_value : DSpec} (h__law_bad_value : Has P w K mg base k "_law_bad_value" ["pool", "kind", "value"] [0] S__law_bad_value) {S__law_turned : DSpec} (h__law_turned : Has P w K mg base k "_law_turned" ["value"] [] S__law_turned) {S__law_right : DSpec} (h__law_right : Has P w K mg base k "_law_right" ["kind", "thing"] [] S__law_right) (cdv : Value) (A : Around) (outer : List PySem.Env) (s : Shared) (H : Hp) (E : XK)
    (hr : Room k (A.deeper (PyProof.Rows.envOfC "law" (defScope s_law) s.heap.objs.size f cdv))) :
    JSs (cxOf (L2.CX P w) P w K mg base ["script", "k", "pool", "most", "kind", "other", "value", "rows", "thing", "turn", "one"] "law" (defScope s_law) f cdv A outer s H E) (fun cls dd _ H' => E cls dd H') ([], []) (defBody s_law) (d_law S_is_value S__law_pool S__law_take S__law_kind S__law_value S__law_bad_value S__law_turned S__law_right) := by
  have tk : Takes (cxOf (L2.CX P w) P w K mg base ["script", "k", "pool", "most", "kind", "other", "value", "rows", "thing", "turn", "one"] "law" (defScope s_law) f cdv A outer s H E) (fun cls dd _ H' => E cls dd H') := takes_of rfl rfl rfl rfl
  exact (jss_cons (js_for (passes_of rfl) rfl (ji_range1 B.b_range (ja_cons (je_fn (call_max2 rfl) cl_max2 B.b_max (ja_cons je_int (ja_cons (je_fn (call_min2 rfl) cl_min2 B.b_min (ja_cons je_int (ja_cons (je_fn call_lenA cl_len B.b_len (ja_cons (je_var 0) ja_nil)) ja_nil))) ja_nil))) ja_nil)) (jg_name 1 sc_law.nd)
  (jss_cons (js_setO 2 sc_law.nd (jo_call h__law_pool hr tk (jb_cons (je_var 0) (jb_cons (je_var 1) jb_nil))))
  (jss_cons (js_set 3 sc_law.nd (je_item (hu1 hr) (je_lst (ja_cons je_int (ja_cons je_int (ja_cons je_int (ja_cons (je_item (hu1 hr) (je_lst (ja_cons je_int (ja_cons je_int ja_nil))) (je_fnT call_intA cl_int B.b_int (ja_cons (je_gt (je_var 1) je_int) ja_nil))) ja_nil))))) (je_still (jo_call h__law_take hr tk (jb_slot 2 (jb_cons je_int jb_nil))))))
  (jss_cons (js_set 4 sc_law.nd (je_still (jo_call h__law_kind hr tk (jb_slot 2 (jb_cons (je_add je_int (je_still (jo_call h__law_take hr tk (jb_slot 2 (jb_cons je_int jb_nil))))) (jb_cons (je_var 3) jb_nil))))))
  (jss_cons (js_set 5 sc_law.nd (je_still (jo_call h__law_kind hr tk (jb_slot 2 (jb_cons (je_add je_int (je_still (jo_call h__law_take hr tk (jb_slot 2 (jb_cons je_int jb_nil))))) (jb_cons je_int jb_nil))))))
  (jss_cons (js_set 6 sc_law.nd (je_still (jo_call h__law_value hr tk (jb_slot 2 (jb_cons (je_var 4) jb_nil)))))
  (jss_cons (js_set 7 sc_law.nd (je_add (je_lst (ja_cons (je_var 6) (ja_cons (je_still (jo_call h__law_value hr tk (jb_slot 2 (jb_cons (je_var 5) jb_nil)))) ja_nil))) (je_still (jo_lc (n := 11) (own := [("turn", 9)]) rfl sc_law.nd (ji_range1 B.b_range (ja_cons je_int ja_nil)) (blkOk_by (sc := defScope s_law) (own := [("turn", 9)]) (N := ["script", "k", "pool", "most", "kind", "other", "value", "rows", "thing", "turn", "one"]) (by decide +kernel)) (fun _ _ _ _ _ => (jg_name 9 sc_law.nd)) (fun _ _ _ _ _ => jts_nil) (fun _ _ _ _ _ => (je_still (jo_call h__law_bad_value hr takes0 (jb_slot 2 (jb_cons (je_var 4) (jb_cons (je_var 6) jb_nil))))))))))
  (jss_cons (js_if (jt_gt (je_var 3) je_int)
  (jss_one (js_set 7 sc_law.nd (je_slice (je_var 7) jp_none (jp_some je_int))))
  jss_nil)
  (jss_cons (js_set 7 sc_law.nd (je_add (je_var 7) (je_still (jo_lc (n := 11) (own := [("one", 10)]) rfl sc_law.nd (ji_any (je_slice (je_var 7) jp_none (jp_some je_int))) (blkOk_by (sc := defScope s_law) (own := [("one", 10)]) (N := ["script", "k", "pool", "most", "kind", "other", "value", "rows", "thing", "turn", "one"]) (by decide +kernel)) (fun _ _ _ _ _ => (jg_name 10 sc_law.nd)) (fun _ _ _ _ _ => jts_nil) (fun _ _ _ _ _ => (je_still (jo_call h__law_turned hr takes0 (jb_cons (je_var 10) jb_nil))))))))
  (jss_cons (js_for (passes_of rfl) rfl (ji_any (je_add (je_var 7) (je_lst (ja_cons je_non (ja_cons je_int (ja_cons je_bl (ja_cons je_str (ja_cons (je_lst ja_nil) (ja_cons (je_still jo_dict0) (ja_cons (je_tup ja_nil) (ja_cons (je_tup (ja_cons je_int (ja_cons je_int ja_nil))) (ja_cons (je_lst (ja_cons je_int ja_nil)) ja_nil)))))))))))) (jg_name 8 sc_law.nd)
  (jss_one (js_if (jt_not (jt_val (je_still (jo_call h__law_right hr tk (jb_cons (je_var 4) (jb_cons (je_var 8) jb_nil))))))
  (jss_one (js_ret je_bl))
  jss_nil)))
  (jss_one (js_if (jt_isnot (je_still (jo_call h_is_value hr tk (jb_cons (je_var 4) (jb_cons (je_var 6) jb_nil)))) je_bl)
  (jss_one (js_ret je_bl))
  jss_nil))))))))))))
  (jss_one (js_ret je_bl)))
theorem facts {P : Program} {w : World} {K : PySem.W.Frag} {h : Heap} {mg : Str → Option Value} {f : Addr} (X : K.In h) (G : h.Ns mainGlobals mg) (hfa : mg ("law" : Str) = some (.ref f)) (c : He.SaysD fa fn K) :
    ∃ fd : FuncData, (∀ (s : Shared) (v : Value), BindsTo s fd ⟨[v], []⟩ [("script", v)]) ∧ ∀ base : Heap, K.In base → base.Ns mainGlobals mg → FnOk P w K mg base (L2.CX P w) 42 f fd ["script"] (spD K [] S_law) := by
  obtain ⟨fd0, F0⟩ := c.def_ 0 (d := D_is_whole_number) rfl
  have m0 := He.glo_ok X G (c.fact 0 (f := .glo "is_whole_number") rfl)
  have e0 : Binds K fd0 ["thing"] [] := F0.bindsN fun _ _ _ _ _ _ us hl => match us, hl with | [_], _ => rfl
  obtain ⟨fd1, F1⟩ := c.def_ 1 (d := D_is_whole_within) rfl
  have m1 := He.glo_ok X G (c.fact 1 (f := .glo "is_whole_within") rfl)
  have e1 : Binds K fd1 ["thing", "low", "high"] [] := F1.bindsN fun _ _ _ _ _ _ us hl => match us, hl with | [_, _, _], _ => rfl
  obtain ⟨fd2, F2⟩ := c.def_ 2 (d := D_is_value) rfl
  have m2 := He.glo_ok X G (c.fact 2 (f := .glo "is_value") rfl)
  have e2 : Binds K fd2 ["kind", "thing"] [] := F2.bindsN fun _ _ _ _ _ _ us hl => match us, hl with | [_, _], _ => rfl
  obtain ⟨fd3, F3⟩ := c.def_ 3 (d := D__law_pool) rfl
  have m3 := He.glo_ok X G (c.fact 3 (f := .glo "_law_pool") rfl)
  have e3 : Binds K fd3 ["script", "k"] [] := F3.bindsN fun _ _ _ _ _ _ us hl => match us, hl with | [_, _], _ => rfl
  obtain ⟨fd4, F4⟩ := c.def_ 4 (d := D__law_take) rfl
  have m4 := He.glo_ok X G (c.fact 4 (f := .glo "_law_take") rfl)
  have e4 : Binds K fd4 ["pool", "many"] [] := F4.bindsN fun _ _ _ _ _ _ us hl => match us, hl with | [_, _], _ => rfl
  obtain ⟨fd5, F5⟩ := c.def_ 5 (d := D__law_rounded) rfl
  have m5 := He.glo_ok X G (c.fact 5 (f := .glo "_law_rounded") rfl)
  have e5 : Binds K fd5 ["number", "m"] [] := F5.bindsN fun _ _ _ _ _ _ us hl => match us, hl with | [_, _], _ => rfl
  obtain ⟨fd6, F6⟩ := c.def_ 6 (d := D__law_room) rfl
  have m6 := He.glo_ok X G (c.fact 6 (f := .glo "_law_room") rfl)
  have e6 : Binds K fd6 ["kind"] [] := F6.bindsN fun _ _ _ _ _ _ us hl => match us, hl with | [_], _ => rfl
  obtain ⟨fd7, F7⟩ := c.def_ 7 (d := D__law_names) rfl
  have m7 := He.glo_ok X G (c.fact 7 (f := .glo "_law_names") rfl)
  have e7 : Binds K fd7 ["pool", "many"] [] := F7.bindsN fun _ _ _ _ _ _ us hl => match us, hl with | [_, _], _ => rfl
  obtain ⟨fd8, F8⟩ := c.def_ 8 (d := D__law_kind) rfl
  have m8 := He.glo_ok X G (c.fact 8 (f := .glo "_law_kind") rfl)
  have e8 : Binds K fd8 ["pool", "deep", "most"] [] := F8.bindsN fun _ _ _ _ _ _ us hl => match us, hl with | [_, _, _], _ => rfl
  obtain ⟨fd9, F9⟩ := c.def_ 9 (d := D__law_copy) rfl
  have m9 := He.glo_ok X G (c.fact 9 (f := .glo "_law_copy") rfl)
  have e9 : Binds K fd9 ["thing"] [] := F9.bindsN fun _ _ _ _ _ _ us hl => match us, hl with | [_], _ => rfl
  obtain ⟨fd10, F10⟩ := c.def_ 10 (d := D__law_same) rfl
  have m10 := He.glo_ok X G (c.fact 10 (f := .glo "_law_same") rfl)
  have e10 : Binds K fd10 ["one", "other"] [] := F10.bindsN fun _ _ _ _ _ _ us hl => match us, hl with | [_, _], _ => rfl
  obtain ⟨fd11, F11⟩ := c.def_ 11 (d := D__law_top) rfl
  have m11 := He.glo_ok X G (c.fact 11 (f := .glo "_law_top") rfl)
  have e11 : Binds K fd11 ["width"] [] := F11.bindsN fun _ _ _ _ _ _ us hl => match us, hl with | [_], _ => rfl
  obtain ⟨fd12, F12⟩ := c.def_ 12 (d := D__law_value) rfl
  have m12 := He.glo_ok X G (c.fact 12 (f := .glo "_law_value") rfl)
  have e12 : Binds K fd12 ["pool", "kind"] [] := F12.bindsN fun _ _ _ _ _ _ us hl => match us, hl with | [_, _], _ => rfl
  obtain ⟨fd13, F13⟩ := c.def_ 13 (d := D__law_is_value) rfl
  have m13 := He.glo_ok X G (c.fact 13 (f := .glo "_law_is_value") rfl)
  have e13 : Binds K fd13 ["kind", "thing"] [] := F13.bindsN fun _ _ _ _ _ _ us hl => match us, hl with | [_, _], _ => rfl
  obtain ⟨fd14, F14⟩ := c.def_ 14 (d := D__law_bad_record) rfl
  have m14 := He.glo_ok X G (c.fact 14 (f := .glo "_law_bad_record") rfl)
  have e14 : Binds K fd14 ["pool", "kind", "value"] [] := F14.bindsN fun _ _ _ _ _ _ us hl => match us, hl with | [_, _, _], _ => rfl
  obtain ⟨fd15, F15⟩ := c.def_ 15 (d := D__law_bad_row) rfl
  have m15 := He.glo_ok X G (c.fact 15 (f := .glo "_law_bad_row") rfl)
  have e15 : Binds K fd15 ["pool", "kind", "value"] [] := F15.bindsN fun _ _ _ _ _ _ us hl => match us, hl with | [_, _, _], _ => rfl
  obtain ⟨fd16, F16⟩ := c.def_ 16 (d := D__law_bad_value) rfl
  have m16 := He.glo_ok X G (c.fact 16 (f := .glo "_law_bad_value") rfl)
  have e16 : Binds K fd16 ["pool", "kind", "value"] [] := F16.bindsN fun _ _ _ _ _ _ us hl => match us, hl with | [_, _, _], _ => rfl
  obtain ⟨fd17, F17⟩ := c.def_ 17 (d := D__law_turned) rfl
  have m17 := He.glo_ok X G (c.fact 17 (f := .glo "_law_turned") rfl)
  have e17 : Binds K fd17 ["value"] [] := F17.bindsN fun _ _ _ _ _ _ us hl => match us, hl with | [_], _ => rfl
  obtain ⟨fd18, F18⟩ := c.def_ 18 (d := D__law_right) rfl
  have m18 := He.glo_ok X G (c.fact 18 (f := .glo "_law_right") rfl)
  have e18 : Binds K fd18 ["kind", "thing"] [] := F18.bindsN fun _ _ _ _ _ _ us hl => match us, hl with | [_, _], _ => rfl
  obtain ⟨fd19, F19⟩ := c.def_ 19 (d := D_law) rfl
  have m19 := He.glo_ok X G (c.fact 19 (f := .glo "law") rfl)
  have e19 : Binds K fd19 ["script"] [] := F19.bindsN fun _ _ _ _ _ _ us hl => match us, hl with | [_], _ => rfl
  have B : Bl mg := ⟨He.free_ok X G (c.fact 20 (f := .free "bool") rfl), He.free_ok X G (c.fact 21 (f := .free "dict") rfl), He.free_ok X G (c.fact 22 (f := .free "int") rfl), He.free_ok X G (c.fact 23 (f := .free "isinstance") rfl), He.free_ok X G (c.fact 24 (f := .free "len") rfl), He.free_ok X G (c.fact 25 (f := .free "list") rfl), He.free_ok X G (c.fact 26 (f := .free "max") rfl), He.free_ok X G (c.fact 27 (f := .free "min") rfl), He.free_ok X G (c.fact 28 (f := .free "range") rfl), He.free_ok X G (c.fact 29 (f := .free "sorted") rfl), He.free_ok X G (c.fact 30 (f := .free "str") rfl), He.free_ok X G (c.fact 31 (f := .free "tuple") rfl), He.free_ok X G (c.fact 32 (f := .free "zip") rfl)⟩

  have el := hfa.symm.trans m19
  cases el
  have bl := FunD.bindsA (ps := ["script"]) F19 fun _ _ _ _ _ _ us hl => match us, hl with | [_], _ => rfl
  refine ⟨fd19, fun s v => bl s [v] rfl, fun base hB hN => ?_⟩
  have h_is_whole_number : Has P w K mg base 1 "is_whole_number" ["thing"] [] (S_is_whole_number) := has_ofD (st := s_is_whole_number) F0 sc_is_whole_number m0 e0 (fun cdv A outer s H E hr => b_is_whole_number B cdv A outer s H E hr) (law_is_whole_number)
  have h_is_whole_within : Has P w K mg base 2 "is_whole_within" ["thing", "low", "high"] [] (S_is_whole_within) := has_ofD (st := s_is_whole_within) F1 sc_is_whole_within m1 e1 (fun cdv A outer s H E hr => b_is_whole_within B (h_is_whole_number.mono (by omega)) cdv A outer s H E hr) (law_is_whole_within)
  have hrec : ∀ n : Nat, Has P w K mg base (2 + n) "is_value" ["kind", "thing"] [] (S_is_value (hxW w) n) := by
    intro n
    induction n with
    | zero => exact (has_no _ m2 F2.kp e2).imp (fun a R X ⟨d, x, r, m, k, v, _, hk, hd, _⟩ => kd_zero hk (by omega))
    | succ n ih =>
      have h_is_value := ih
      exact has_ofD (st := s_is_value) F2 sc_is_value m2 e2 (fun cdv A outer s H E hr => b_is_value B (h_is_whole_within.mono (by omega)) h_is_value cdv A outer s H E hr) (law_is_value (hxW w) n)
  have h_is_value := hrec 10
  have h__law_pool : Has P w K mg base 1 "_law_pool" ["script", "k"] [] (S_pool) := has_ofD (st := s__law_pool) F3 sc__law_pool m3 e3 (fun cdv A outer s H E hr => b__law_pool B cdv A outer s H E hr) (law__law_pool)
  have h__law_take : Has P w K mg base 1 "_law_take" ["pool", "many"] [0] (S_take) := has_ofD (st := s__law_take) F4 sc__law_take m4 e4 (fun cdv A outer s H E hr => b__law_take B cdv A outer s H E hr) (law__law_take)
  have h__law_rounded : Has P w K mg base 1 "_law_rounded" ["number", "m"] [] (S__law_rounded) := has_ofD (st := s__law_rounded) F5 sc__law_rounded m5 e5 (fun cdv A outer s H E hr => b__law_rounded B cdv A outer s H E hr) (law__law_rounded)
  have hrec : ∀ n : Nat, Has P w K mg base (1 + n) "_law_room" ["kind"] [] (S__law_room n) := by
    intro n
    induction n with
    | zero => exact (has_no _ m6 F6.kp e6).imp (fun a R X ⟨d, x, r, m, _, hk, hd, _⟩ => kd_zero hk (by omega))
    | succ n ih =>
      have h__law_room := ih
      exact has_ofD (st := s__law_room) F6 sc__law_room m6 e6 (fun cdv A outer s H E hr => b__law_room B (h__law_rounded.mono (by omega)) h__law_room cdv A outer s H E hr) (law__law_room n)
  have h__law_room := hrec 8
  have h__law_names : Has P w K mg base 2 "_law_names" ["pool", "many"] [0] (S__law_names) := has_ofD (st := s__law_names) F7 sc__law_names m7 e7 (fun cdv A outer s H E hr => b__law_names B (h__law_take.mono (by omega)) cdv A outer s H E hr) (law__law_names)
  have hrec : ∀ n : Nat, Has P w K mg base (9 + n) "_law_kind" ["pool", "deep", "most"] [0] (S__law_kind n) := by
    intro n
    induction n with
    | zero => exact (has_no _ m8 F8.kp e8).imp (fun a R X ⟨p, d, c, most, _, _, _, h1, h2, _⟩ => absurd h2 (by omega))
    | succ n ih =>
      have h__law_kind := ih
      exact has_ofD (st := s__law_kind) F8 sc__law_kind m8 e8 (fun cdv A outer s H E hr => b__law_kind B (h__law_take.mono (by omega)) (h__law_room.mono (by omega)) (h__law_names.mono (by omega)) h__law_kind cdv A outer s H E hr) (law__law_kind n)
  have h__law_kind := hrec 8
  have h__law_top : Has P w K mg base 1 "_law_top" ["width"] [] (S__law_top) := has_ofD (st := s__law_top) F11 sc__law_top m11 e11 (fun cdv A outer s H E hr => b__law_top B cdv A outer s H E hr) (law__law_top)
  have hrec : ∀ n : Nat, Has P w K mg base (1 + n) "_law_value" ["pool", "kind"] [0] (S__law_value n) := by
    intro n
    induction n with
    | zero => exact (has_no _ m12 F12.kp e12).imp (fun a R X ⟨p, x, r, m, d, c, _, _, hk, hd, _⟩ => kd_zero hk (by omega))
    | succ n ih =>
      have h__law_value := ih
      exact has_ofD (st := s__law_value) F12 sc__law_value m12 e12 (fun cdv A outer s H E hr => b__law_value B (h__law_take.mono (by omega)) (h__law_top.mono (by omega)) h__law_value cdv A outer s H E hr) (law__law_value n)
  have h__law_value := hrec 8
  have hrec : ∀ n : Nat, Has P w K mg base (1 + n) "_law_bad_record" ["pool", "kind", "value"] [0] (S__law_bad_record (hxW w) n) ∧ Has P w K mg base (1 + n) "_law_bad_row" ["pool", "kind", "value"] [0] (S__law_bad_row (hxW w) n) ∧ Has P w K mg base (1 + n) "_law_bad_value" ["pool", "kind", "value"] [0] (S__law_bad_value (hxW w) n) := by
    intro n
    induction n with
    | zero => exact ⟨(has_no _ m14 F14.kp e14).imp (fun a R X ⟨p, x, v, r, m, bs, d, c, _, _, hb, _, hd, _⟩ => kd_zero hb.kd (by omega)), (has_no _ m15 F15.kp e15).imp (fun a R X ⟨p, x, v, r, m, bs, d, c, _, _, hb, _, hd, _⟩ => kd_zero hb.kd (by omega)), (has_no _ m16 F16.kp e16).imp (fun a R X ⟨p, x, v, r, m, bs, d, c, _, _, hb, hd, _⟩ => absurd hd (by omega))⟩
    | succ n ih =>
      obtain ⟨h__law_bad_record, h__law_bad_row, h__law_bad_value⟩ := ih
      exact ⟨has_ofD (st := s__law_bad_record) F14 sc__law_bad_record m14 e14 (fun cdv A outer s H E hr => b__law_bad_record B (h__law_take.mono (by omega)) h__law_bad_value cdv A outer s H E hr) (law__law_bad_record (hxW w) n), has_ofD (st := s__law_bad_row) F15 sc__law_bad_row m15 e15 (fun cdv A outer s H E hr => b__law_bad_row B (h__law_take.mono (by omega)) h__law_bad_value cdv A outer s H E hr) (law__law_bad_row (hxW w) n), has_ofD (st := s__law_bad_value) F16 sc__law_bad_value m16 e16 (fun cdv A outer s H E hr => b__law_bad_value B (h__law_take.mono (by omega)) (h__law_top.mono (by omega)) h__law_bad_record h__law_bad_row h__law_bad_value cdv A outer s H E hr) (law__law_bad_value (hxW w) n)⟩
  obtain ⟨h__law_bad_record, h__law_bad_row, h__law_bad_value⟩ := hrec 20
  have hrec : ∀ n : Nat, Has P w K mg base (0 + n) "_law_turned" ["value"] [] (S__law_turned (hxW w) n) := by
    intro n
    induction n with
    | zero => exact (has_no _ m17 F17.kp e17).imp (fun a R X ⟨x, _, hp, _⟩ => pgx_zero hp)
    | succ n ih =>
      have h__law_turned := ih
      exact has_ofD (st := s__law_turned) F17 sc__law_turned m17 e17 (fun cdv A outer s H E hr => b__law_turned B h__law_turned cdv A outer s H E hr) (law__law_turned (hxW w) n)
  have h__law_turned := hrec 40
  have hrec : ∀ n : Nat, Has P w K mg base (0 + n) "_law_copy" ["thing"] [] (S__law_copy (hxW w) n) := by
    intro n
    induction n with
    | zero => exact (has_no _ m9 F9.kp e9).imp (fun a R X ⟨x, _, hp, _⟩ => pgx_zero hp)
    | succ n ih =>
      have h__law_copy := ih
      exact has_ofD (st := s__law_copy) F9 sc__law_copy m9 e9 (fun cdv A outer s H E hr => b__law_copy B h__law_copy cdv A outer s H E hr) (law__law_copy (hxW w) n)
  have h__law_copy := hrec 40
  have hrec : ∀ n : Nat, Has P w K mg base (0 + n) "_law_same" ["one", "other"] [] (S__law_same (hxW w) n) := by
    intro n
    induction n with
    | zero => exact (has_no _ m10 F10.kp e10).imp (fun a R X ⟨x, _, hp, _⟩ => pgx_zero hp)
    | succ n ih =>
      have h__law_same := ih
      exact has_ofD (st := s__law_same) F10 sc__law_same m10 e10 (fun cdv A outer s H E hr => b__law_same B h__law_same cdv A outer s H E hr) (law__law_same (hxW w) n)
  have h__law_same := hrec 40
  have hrec : ∀ n : Nat, Has P w K mg base (1 + n) "_law_is_value" ["kind", "thing"] [] (S__law_is_value (hxW w) n) := by
    intro n
    induction n with
    | zero => exact (has_no _ m13 F13.kp e13).imp (fun a R X ⟨d, x, r, m, k, v, _, hk, hd, _⟩ => kd_zero hk (by omega))
    | succ n ih =>
      have h__law_is_value := ih
      exact has_ofD (st := s__law_is_value) F13 sc__law_is_value m13 e13 (fun cdv A outer s H E hr => b__law_is_value B (h__law_top.mono (by omega)) h__law_is_value cdv A outer s H E hr) (law__law_is_value (hxW w) n)
  have h__law_is_value := hrec 10
  have h__law_right : Has P w K mg base 41 "_law_right" ["kind", "thing"] [] (S__law_right (hxW w)) := has_ofD (st := s__law_right) F18 sc__law_right m18 e18 (fun cdv A outer s H E hr => b__law_right B (h_is_value.mono (by omega)) (h__law_copy.mono (by omega)) (h__law_same.mono (by omega)) (h__law_is_value.mono (by omega)) cdv A outer s H E hr) (law__law_right (hxW w))
  exact ok_ofD (st := s_law) F19 sc_law (fun cdv A outer s H E hr => b_law B (h_is_value.mono (by omega)) (h__law_pool.mono (by omega)) (h__law_take.mono (by omega)) (h__law_kind.mono (by omega)) (h__law_value.mono (by omega)) (h__law_bad_value.mono (by omega)) (h__law_turned.mono (by omega)) (h__law_right.mono (by omega)) cdv A outer s H E hr) (law_law)
end LK
open PySem PySem.W PySem.Calls PyProof.Rows
theorem PySem.Challenge.cw_laidfields_k17_what_is_a_value_holds : PySem.Challenge.rw_laidfields_k17_what_is_a_value.Holds := by
  w_on; o_law
  refine HandSHeadRun.head_any (r := OpenLaw.row PySem.Challenge.rw_laidfields_k17_what_is_a_value) (q := view (OpenLaw.row PySem.Challenge.rw_laidfields_k17_what_is_a_value).prog [22]) (H := LK.hk) (ob := LK.ob) (M := 4000) (loose := [("is_whole_number" : PySem.Str), ("is_whole_within" : PySem.Str), ("is_value" : PySem.Str), ("_law_pool" : PySem.Str), ("_law_take" : PySem.Str), ("_law_rounded" : PySem.Str), ("_law_room" : PySem.Str), ("_law_names" : PySem.Str), ("_law_kind" : PySem.Str), ("_law_copy" : PySem.Str), ("_law_same" : PySem.Str), ("_law_top" : PySem.Str), ("_law_value" : PySem.Str), ("_law_is_value" : PySem.Str), ("_law_bad_record" : PySem.Str), ("_law_bad_row" : PySem.Str), ("_law_bad_value" : PySem.Str), ("_law_turned" : PySem.Str), ("_law_right" : PySem.Str)]) (d := HandSHeadRun.topDef (OpenLaw.row PySem.Challenge.rw_laidfields_k17_what_is_a_value).prog 22) (kwd := []) LK.ob_eq
    (by kernel_rfl) (fun s => by kernel_rfl) LK.run (by kernel_rfl) (by kernel_rfl) (by kernel_rfl) (by rfl) (by first | assumption | decide +kernel) (by decide +kernel) ⟨rfl, rfl, rfl, rfl, rfl, by decide +kernel⟩ ?hw ?hc
  case hw => w_witness2
  case hc =>
    refine DL.walk_law (l := PySem.Challenge.rw_laidfields_k17_what_is_a_value) (k := 42) rfl (by kernel_rfl) ⟨rfl, by decide, by decide⟩ ?F
    intro w mg fa h Y G hmg0
    obtain ⟨K, KX, c⟩ := Y
    have hmg : mg ("law" : PySem.Str) = some (.ref fa) := by
      have e : (HandSHeadRun.topDef (OpenLaw.row PySem.Challenge.rw_laidfields_k17_what_is_a_value).prog 22).name = ("law" : PySem.Str) := by kernel_rfl
      rw [← e]
      exact hmg0
    obtain ⟨fd, hb, hF⟩ := LK.facts (P := (PySem.Challenge.rw_laidfields_k17_what_is_a_value).prog) (w := w) KX G hmg c
    exact ⟨K, fd, KX, hb, hF⟩
