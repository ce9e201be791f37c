import PyProof.Rows.All
import Wide.All
import OpenK.AllK
import Wide.FinOn
import HandS.ForMost
import HandS.ForExc
import HandS.Ends
import HandS.Head0
import HandS.Head1
import HandS.Head2
import HandS.HeadHook1
import HandS.ExcInit
import HandS.ExcIs
import HandS.ExcField
import HandS.CallSlots
import HandS.TryMany
import HandS.TryOnly
import HandS.HotCalls
import HandS.IsInst
import HandS.Flow
import HandS.Style
import HandS.Wide
import HandS.WideBits
import HandS.Conv
import HandS.Strs
import HandS.TupSets
import HandS.TupLe
import HandS.TupAny
import HandS.Walk
import HandS.SortInts
import HandS.Zip
import KE.GoesMore
import KE.DataCmp
import KE.SortData
import HandS.DictComp
import PySem.Challenge.RW_middlewebs_k58_whole_fold_keeps_near_wor
set_option Elab.async false
set_option linter.all false
set_option maxRecDepth 100000
set_option maxHeartbeats 0
namespace Z
open PySem PySem.Spec PyProof.Rows L2
def top (i : Nat) : Stmt := PySem.Challenge.pw_middlewebs_k58_whole_fold_keeps_near_wor.main.body.getD i (.Pass ⟨0, 0, 0, 0⟩)
abbrev s__law_flow : Stmt := top 39
abbrev s__law_cell : Stmt := top 38
abbrev s__law_take : Stmt := top 40
abbrev s__law_chosen : Stmt := top 42
abbrev s__law_web : Stmt := top 43
abbrev s__law_shuffle : Stmt := top 41
abbrev s__law_rows : Stmt := top 46
abbrev s__law_drawn : Stmt := top 49
abbrev s_is_integer : Stmt := top 7
abbrev s_is_between : Stmt := top 8
abbrev s_is_bit : Stmt := top 9
abbrev s_is_word : Stmt := top 10
abbrev s_Words : Stmt := inClass (top 20) 0
abbrev s_number_of_word : Stmt := top 21
abbrev s_numbers_of : Stmt := top 22
abbrev s_first_wrong : Stmt := top 23
abbrev s_is_closed : Stmt := top 24
abbrev s_letter_masks : Stmt := top 25
abbrev s_kept_letters : Stmt := top 26
abbrev s_is_reduced : Stmt := top 27
abbrev s_look_at_words : Stmt := top 33
abbrev s_literal_masks : Stmt := top 29
abbrev s_pairs_with : Stmt := top 31
abbrev s_is_literal : Stmt := top 14
abbrev s_is_clause : Stmt := top 15
abbrev s_Clauses : Stmt := inClass (top 13) 0
abbrev s_words_clauses : Stmt := top 30
abbrev s_is_true : Stmt := top 16
abbrev s_turned : Stmt := top 34
abbrev s_led_into : Stmt := top 35
abbrev s_fold : Stmt := top 36
abbrev s__law_unlike : Stmt := top 48
abbrev s__law_image : Stmt := top 47
abbrev s__law_places : Stmt := top 50
abbrev s__law_neighbours : Stmt := top 51
abbrev s__law_holds : Stmt := top 52
abbrev s_law : Stmt := top 53
def hdn0 : List He.FnD := [⟨("_law_flow", none), "_law_flow", "_law_flow", defArgs s__law_flow, defBody s__law_flow, defScope s__law_flow⟩, ⟨("_law_cell", none), "_law_cell", "_law_cell", defArgs s__law_cell, defBody s__law_cell, defScope s__law_cell⟩, ⟨("_law_take", none), "_law_take", "_law_take", defArgs s__law_take, defBody s__law_take, defScope s__law_take⟩, ⟨("_law_chosen", none), "_law_chosen", "_law_chosen", defArgs s__law_chosen, defBody s__law_chosen, defScope s__law_chosen⟩, ⟨("_law_web", none), "_law_web", "_law_web", defArgs s__law_web, defBody s__law_web, defScope s__law_web⟩, ⟨("_law_shuffle", none), "_law_shuffle", "_law_shuffle", defArgs s__law_shuffle, defBody s__law_shuffle, defScope s__law_shuffle⟩, ⟨("_law_rows", none), "_law_rows", "_law_rows", defArgs s__law_rows, defBody s__law_rows, defScope s__law_rows⟩, ⟨("_law_drawn", none), "_law_drawn", "_law_drawn", defArgs s__law_drawn, defBody s__law_drawn, defScope s__law_drawn⟩, ⟨("is_integer", none), "is_integer", "is_integer", defArgs s_is_integer, defBody s_is_integer, defScope s_is_integer⟩, ⟨("is_between", none), "is_between", "is_between", defArgs s_is_between, defBody s_is_between, defScope s_is_between⟩, ⟨("is_bit", none), "is_bit", "is_bit", defArgs s_is_bit, defBody s_is_bit, defScope s_is_bit⟩, ⟨("is_word", none), "is_word", "is_word", defArgs s_is_word, defBody s_is_word, defScope s_is_word⟩, ⟨("number_of_word", none), "number_of_word", "number_of_word", defArgs s_number_of_word, defBody s_number_of_word, defScope s_number_of_word⟩, ⟨("numbers_of", none), "numbers_of", "numbers_of", defArgs s_numbers_of, defBody s_numbers_of, defScope s_numbers_of⟩, ⟨("first_wrong", none), "first_wrong", "first_wrong", defArgs s_first_wrong, defBody s_first_wrong, defScope s_first_wrong⟩, ⟨("is_closed", none), "is_closed", "is_closed", defArgs s_is_closed, defBody s_is_closed, defScope s_is_closed⟩, ⟨("letter_masks", none), "letter_masks", "letter_masks", defArgs s_letter_masks, defBody s_letter_masks, defScope s_letter_masks⟩, ⟨("kept_letters", none), "kept_letters", "kept_letters", defArgs s_kept_letters, defBody s_kept_letters, defScope s_kept_letters⟩, ⟨("is_reduced", none), "is_reduced", "is_reduced", defArgs s_is_reduced, defBody s_is_reduced, defScope s_is_reduced⟩, ⟨("look_at_words", none), "look_at_words", "look_at_words", defArgs s_look_at_words, defBody s_look_at_words, defScope s_look_at_words⟩, ⟨("literal_masks", none), "literal_masks", "literal_masks", defArgs s_literal_masks, defBody s_literal_masks, defScope s_literal_masks⟩, ⟨("pairs_with", none), "pairs_with", "pairs_with", defArgs s_pairs_with, defBody s_pairs_with, defScope s_pairs_with⟩, ⟨("is_literal", none), "is_literal", "is_literal", defArgs s_is_literal, defBody s_is_literal, defScope s_is_literal⟩, ⟨("is_clause", none), "is_clause", "is_clause", defArgs s_is_clause, defBody s_is_clause, defScope s_is_clause⟩, ⟨("words_clauses", none), "words_clauses", "words_clauses", defArgs s_words_clauses, defBody s_words_clauses, defScope s_words_clauses⟩, ⟨("is_true", none), "is_true", "is_true", defArgs s_is_true, defBody s_is_true, defScope s_is_true⟩, ⟨("turned", none), "turned", "turned", defArgs s_turned, defBody s_turned, defScope s_turned⟩, ⟨("led_into", none), "led_into", "led_into", defArgs s_led_into, defBody s_led_into, defScope s_led_into⟩, ⟨("fold", none), "fold", "fold", defArgs s_fold, defBody s_fold, defScope s_fold⟩, ⟨("_law_unlike", none), "_law_unlike", "_law_unlike", defArgs s__law_unlike, defBody s__law_unlike, defScope s__law_unlike⟩]
def hdn1 : List He.FnD := [⟨("_law_image", none), "_law_image", "_law_image", defArgs s__law_image, defBody s__law_image, defScope s__law_image⟩, ⟨("_law_places", none), "_law_places", "_law_places", defArgs s__law_places, defBody s__law_places, defScope s__law_places⟩, ⟨("_law_neighbours", none), "_law_neighbours", "_law_neighbours", defArgs s__law_neighbours, defBody s__law_neighbours, defScope s__law_neighbours⟩, ⟨("_law_holds", none), "_law_holds", "_law_holds", defArgs s__law_holds, defBody s__law_holds, defScope s__law_holds⟩, ⟨("law", none), "law", "law", defArgs s_law, defBody s_law, defScope s_law⟩, ⟨("Clauses", some "__init__"), "__init__", "Clauses.__init__", defArgs s_Clauses, defBody s_Clauses, defScope s_Clauses⟩, ⟨("Words", some "__init__"), "__init__", "Words.__init__", defArgs s_Words, defBody s_Words, defScope s_Words⟩]
def hdn : List He.FnD := hdn0 ++ hdn1
def hfa0 : List He.Fa := [.glo "_law_flow", .keep "_law_flow", .glo "_law_cell", .keep "_law_cell", .glo "_law_take", .keep "_law_take", .glo "_law_chosen", .keep "_law_chosen", .glo "_law_web", .keep "_law_web", .glo "_law_shuffle", .keep "_law_shuffle", .glo "_law_rows", .keep "_law_rows", .glo "_law_drawn", .keep "_law_drawn", .glo "is_integer", .keep "is_integer", .glo "is_between", .keep "is_between", .glo "is_bit", .keep "is_bit", .glo "is_word", .keep "is_word", .glo "number_of_word", .keep "number_of_word", .glo "numbers_of", .keep "numbers_of", .glo "first_wrong", .keep "first_wrong"]
def hfa1 : List He.Fa := [.glo "is_closed", .keep "is_closed", .glo "letter_masks", .keep "letter_masks", .glo "kept_letters", .keep "kept_letters", .glo "is_reduced", .keep "is_reduced", .glo "look_at_words", .keep "look_at_words", .glo "literal_masks", .keep "literal_masks", .glo "pairs_with", .keep "pairs_with", .glo "is_literal", .keep "is_literal", .glo "is_clause", .keep "is_clause", .glo "words_clauses", .keep "words_clauses", .glo "is_true", .keep "is_true", .glo "turned", .keep "turned", .glo "led_into", .keep "led_into", .glo "fold", .keep "fold", .glo "_law_unlike", .keep "_law_unlike"]
def hfa2 : List He.Fa := [.glo "_law_image", .keep "_law_image", .glo "_law_places", .keep "_law_places", .glo "_law_neighbours", .keep "_law_neighbours", .glo "_law_holds", .keep "_law_holds", .glo "law", .keep "law", .glo "Clauses", .meth "Clauses" "__init__", .mkr "Clauses", .cls "Clauses", .glo "Words", .meth "Words" "__init__", .mkr "Words", .cls "Words", .noat "Clauses" "clauses", .noat "Clauses" "letters", .noat "Words" "length", .noat "Words" "words", .free "all", .free "any", .free "bool", .free "enumerate", .free "int", .free "isinstance", .free "len", .free "list"]
def hfa3 : List He.Fa := [.free "min", .free "range", .free "set", .free "sorted", .free "sum", .free "tuple", .int "MOST_LETTERS_clauses" 39, .int "MOST_LETTERS_words" 39, .int "MOST_WORDS" 40]
def hfa : List He.Fa := hfa0 ++ hfa1 ++ hfa2 ++ hfa3
def nms0 : List PySem.Str := ["MiddleError", "InvalidWord", "InvalidWords", "InvalidClauses", "Undefined", "is_integer", "is_between", "is_bit", "is_word", "MOST_LETTERS_clauses", "Clauses", "is_literal", "is_clause", "is_true", "MOST_LETTERS_words", "MOST_WORDS", "Words", "number_of_word", "numbers_of", "first_wrong", "is_closed", "letter_masks", "kept_letters", "is_reduced", "literal_masks", "words_clauses", "pairs_with", "look_at_words", "turned", "led_into"]
def nms1 : List PySem.Str := ["fold", "_law_cell", "_law_flow", "_law_take", "_law_shuffle", "_law_chosen", "_law_web", "_law_joined", "_law_web_pairs", "_law_rows", "_law_image", "_law_unlike", "_law_drawn", "_law_places", "_law_neighbours", "_law_holds"]
def nms : List PySem.Str := nms0 ++ nms1
abbrev hrow : PySem.W.OpenRow :=
  PySem.W.OpenLaw.row PySem.Challenge.rw_middlewebs_k58_whole_fold_keeps_near_wor
abbrev hview : Program := PySem.W.view hrow.prog [53]
abbrev hhk : PySem.W.Hook := He.hookE 4 hfa hdn
def hob (s : PySem.W.SharedT) : He.Al :=
  He.obsG 4 hfa hdn (HandSHeadRun.getT s)
theorem hob_eq (s : PySem.W.SharedT) : hob s = hhk.obs s.abs :=
  He.obsG_eq (HandSHeadRun.getT_eq s)
theorem hrun (w : World) : HandSHeadRun.RunEq hrow hview hhk hob 6000 nms w := by
  intro os
  kernel_rfl
end Z
set_option Elab.async false
set_option linter.all false
set_option maxRecDepth 100000
set_option maxHeartbeats 4000000
/-! Z: a typed judgement over the hand layer. What a def computes is told by a plain function into M; heaps and addresses are hidden. -/
namespace Z
open PySem PySem.Spec L2
/-! ### plain data -/
inductive D where
  | non | bl (b : Bool) | int (i : Int) | str (x : Str)
  | tup (l : List D) | lst (l : List D) | rol (l : List D)
  | ob (C : Addr) (fs : List (Str × D))
  | dk (l : List (Key × D)) | dt (l : List (List Int × D))
  | si (l : List Int)
/-- an error of the text's own: its class by name, its fields -/
structure Exn where
  cls : Str
  fs : List (Str × D)
/-- a result, an error raised, or: nothing is claimed -/
inductive M (α : Type) where
  | ok (a : α) | er (e : Exn) | st
def bnd {α β : Type} (m : M α) (k : α → M β) : M β := match m with
  | .ok a => k a
  | .er e => .er e
  | .st => .st
theorem bnd_assoc {α β γ : Type} (m : M α) (k : α → M β) (l : β → M γ) : bnd (bnd m k) l = bnd m fun a => bnd (k a) l := by
  cases m <;> rfl
/-! ### partial heaps -/
def emp : Hp := fun _ => none
def sg (a : Addr) (o : HO) : Hp := fun b => if b = a then some o else none
def uni (h O : Hp) : Hp := fun a => match h a with
  | some o => some o
  | none => O a
def Dis (h O : Hp) : Prop := ∀ a, h a = none ∨ O a = none
def Ex (H H' : Hp) : Prop := ∀ a o, H a = some o → H' a = some o
theorem Ex.refl (H : Hp) : Ex H H := fun _ _ h => h
theorem Ex.trans {H H1 H2 : Hp} (a : Ex H H1) (b : Ex H1 H2) : Ex H H2 := fun x o h => b x o (a x o h)
theorem Ex.new {H : Hp} {p : Addr} {o : HO} (h : H p = none) : Ex H (upd H p o) := fun a u e => by
  rw [upd_ne (ne_of_none e h)]; exact e
theorem Ex.rd {H H' : Hp} {a : Addr} {u : HO} (e : Ex H H') (h : Rd H a u) : Rd H' a u := by
  rcases h with h | ⟨o, h⟩
  · exact .inl (e a _ h)
  · exact .inr ⟨o, e a _ h⟩
theorem Ex.sl {K : PySem.W.Frag} {H H' : Hp} {a : Addr} {xs : List V} (e : Ex H H') (h : SqL K H a xs) : SqL K H' a xs := h.elim (fun h => .inl (e.rd h)) .inr
theorem Ex.sq {K : PySem.W.Frag} {H H' : Hp} {a : Addr} {xs : List V} (e : Ex H H') (h : SqT K H a xs) : SqT K H' a xs := h.elim (fun h => .inl (e.rd h)) .inr
theorem uni_emp (O : Hp) : uni emp O = O := rfl
theorem uni_l {h O : Hp} {a : Addr} {o : HO} (e : h a = some o) : uni h O a = some o := by unfold uni; rw [e]
theorem uni_r {h O : Hp} {a : Addr} (e : h a = none) : uni h O a = O a := by unfold uni; rw [e]
theorem uni_none {h O : Hp} {a : Addr} (e : h a = none) (e' : O a = none) : uni h O a = none := by rw [uni_r e, e']
theorem of_uni {h O : Hp} {a : Addr} {o : HO} (e : uni h O a = some o) : h a = some o ∨ O a = some o := by
  cases q : h a with
  | none => rw [uni_r q] at e; exact .inr e
  | some u => rw [uni_l q] at e; exact .inl e
theorem uni_assoc (a b c : Hp) : uni (uni a b) c = uni a (uni b c) := by
  funext x; unfold uni; cases a x <;> rfl
theorem uni_comm {a b : Hp} (d : Dis a b) : uni a b = uni b a := by
  funext x; unfold uni
  rcases d x with e | e <;> rw [e] <;> first | rfl | (cases a x <;> rfl) | (cases b x <;> rfl)
theorem Dis.symm {a b : Hp} (d : Dis a b) : Dis b a := fun x => (d x).symm
theorem dis_emp (O : Hp) : Dis emp O := fun _ => .inl rfl
theorem sg_self {a : Addr} {o : HO} : sg a o a = some o := if_pos rfl
theorem sg_ne {a b : Addr} {o : HO} (h : b ≠ a) : sg a o b = none := if_neg h
theorem of_sg {a b : Addr} {o u : HO} (h : sg a o b = some u) : b = a ∧ u = o := by
  unfold sg at h
  by_cases e : b = a
  · rw [if_pos e] at h; exact ⟨e, (Option.some.inj h).symm⟩
  · rw [if_neg e] at h; cases h
theorem none_of {H : Hp} {a : Addr} (h : ¬ H a ≠ none) : H a = none := by
  cases e : H a with
  | none => rfl
  | some o => exact absurd (by rw [e]; intro z; cases z) h
theorem some_of {H : Hp} {a : Addr} (h : H a ≠ none) : ∃ o, H a = some o := by
  cases e : H a with
  | none => exact absurd e h
  | some o => exact ⟨o, rfl⟩
theorem ne_none {H : Hp} {a : Addr} {o : HO} (h : H a = some o) : H a ≠ none := by rw [h]; intro z; cases z
/-! ### what stands for what -/
structure Gx where
  P : Program
  w : World
  K : PySem.W.Frag
  mg : Str → Option Value
abbrev gx (X : Cx) : Gx := ⟨X.prog, X.w, X.K, X.mg⟩
/-- a set of ints by its members, each once -/
def setH (l : List Int) : HO := .set (fun k => decide (k ∈ l)) l.length
mutual
inductive Rep (g : Gx) (F : Hp) : V → D → Prop
  | non : Rep g F .non .non
  | bl (b : Bool) : Rep g F (.bl b) (.bl b)
  | int (i : Int) : Rep g F (.int i) (.int i)
  | str (x : Str) : Rep g F (.str x) (.str x)
  | tup {a : Addr} {vs : List V} {ds : List D} : F a = some (.tup vs) → Reps g F vs ds → Rep g F (.ref a) (.tup ds)
  | lst {a : Addr} {vs : List V} {ds : List D} : F a = some (.lst vs) → Reps g F vs ds → Rep g F (.ref a) (.lst ds)
  | rol {a : Addr} {vs : List V} {ds : List D} : SqL g.K F a vs → Reps g F vs ds → Rep g F (.ref a) (.rol ds)
  | ob {a C dx : Addr} {fs : List (Str × V)} {gs : List (Str × D)} : F a = some (.ins C dx fs) → Repf g F fs gs → Rep g F (.ref a) (.ob C gs)
  | dk {a : Addr} {kvs : List (Key × V)} {l : List (Key × D)} : F a = some (.dK kvs) → Repk g F kvs l → Rep g F (.ref a) (.dk l)
  | dt {a : Addr} {kvs : List (List Key × V)} {l : List (List Int × D)} : F a = some (.dT kvs) → Rept g F kvs l → Rep g F (.ref a) (.dt l)
  | si {a : Addr} {l : List Int} : F a = some (setH l) → Rep g F (.ref a) (.si l)
inductive Reps (g : Gx) (F : Hp) : List V → List D → Prop
  | nil : Reps g F [] []
  | cons {v : V} {d : D} {vs : List V} {ds : List D} : Rep g F v d → Reps g F vs ds → Reps g F (v :: vs) (d :: ds)
inductive Repf (g : Gx) (F : Hp) : List (Str × V) → List (Str × D) → Prop
  | nil : Repf g F [] []
  | cons {n : Str} {v : V} {d : D} {vs : List (Str × V)} {ds : List (Str × D)} : Rep g F v d → Repf g F vs ds → Repf g F ((n, v) :: vs) ((n, d) :: ds)
inductive Repk (g : Gx) (F : Hp) : List (Key × V) → List (Key × D) → Prop
  | nil : Repk g F [] []
  | cons {n : Key} {v : V} {d : D} {vs : List (Key × V)} {ds : List (Key × D)} : Rep g F v d → Repk g F vs ds → Repk g F ((n, v) :: vs) ((n, d) :: ds)
inductive Rept (g : Gx) (F : Hp) : List (List Key × V) → List (List Int × D) → Prop
  | nil : Rept g F [] []
  | cons {n : List Int} {v : V} {d : D} {vs : List (List Key × V)} {ds : List (List Int × D)} : Rep g F v d → Rept g F vs ds → Rept g F ((n.map Sum.inl, v) :: vs) ((n, d) :: ds)
end
section
variable {g : Gx} {F F' : Hp}
mutual
theorem Rep.mono (e : Ex F F') : ∀ {v : V} {d : D}, Rep g F v d → Rep g F' v d
  | _, _, .non => .non
  | _, _, .bl b => .bl b
  | _, _, .int i => .int i
  | _, _, .str x => .str x
  | _, _, .tup s r => .tup (e _ _ s) (Reps.mono e r)
  | _, _, .lst s r => .lst (e _ _ s) (Reps.mono e r)
  | _, _, .rol s r => .rol (e.sl s) (Reps.mono e r)
  | _, _, .ob s r => .ob (e _ _ s) (Repf.mono e r)
  | _, _, .dk s r => .dk (e _ _ s) (Repk.mono e r)
  | _, _, .dt s r => .dt (e _ _ s) (Rept.mono e r)
  | _, _, .si s => .si (e _ _ s)
theorem Reps.mono (e : Ex F F') : ∀ {v : List V} {d : List D}, Reps g F v d → Reps g F' v d
  | _, _, .nil => .nil
  | _, _, .cons a b => .cons (Rep.mono e a) (Reps.mono e b)
theorem Repf.mono (e : Ex F F') : ∀ {v : List (Str × V)} {d : List (Str × D)}, Repf g F v d → Repf g F' v d
  | _, _, .nil => .nil
  | _, _, .cons a b => .cons (Rep.mono e a) (Repf.mono e b)
theorem Repk.mono (e : Ex F F') : ∀ {v : List (Key × V)} {d : List (Key × D)}, Repk g F v d → Repk g F' v d
  | _, _, .nil => .nil
  | _, _, .cons a b => .cons (Rep.mono e a) (Repk.mono e b)
theorem Rept.mono (e : Ex F F') : ∀ {v : List (List Key × V)} {d : List (List Int × D)}, Rept g F v d → Rept g F' v d
  | _, _, .nil => .nil
  | _, _, .cons a b => .cons (Rep.mono e a) (Rept.mono e b)
end
theorem Reps.length : ∀ {vs : List V} {ds : List D}, Reps g F vs ds → vs.length = ds.length
  | _, _, .nil => rfl
  | _, _, .cons _ b => by rw [List.length_cons, List.length_cons, Reps.length b]
theorem Reps.get : ∀ {vs : List V} {ds : List D} {i : Nat} {d : D}, Reps g F vs ds → ds[i]? = some d → ∃ v, vs[i]? = some v ∧ Rep g F v d
  | _, _, _, _, .nil, e => by simp at e
  | _, _, 0, _, .cons a _, e => by simp at e; subst e; exact ⟨_, rfl, a⟩
  | _, _, i + 1, d, .cons _ b, e => by
    obtain ⟨v, h1, h2⟩ := Reps.get (i := i) (d := d) b (by simpa using e)
    exact ⟨v, by simpa using h1, h2⟩
theorem Reps.get' : ∀ {vs : List V} {ds : List D} {i : Nat} {v : V}, Reps g F vs ds → vs[i]? = some v → ∃ d, ds[i]? = some d ∧ Rep g F v d
  | _, _, _, _, .nil, e => by simp at e
  | _, _, 0, _, .cons a _, e => by simp at e; subst e; exact ⟨_, rfl, a⟩
  | _, _, i + 1, d, .cons _ b, e => by
    obtain ⟨v, h1, h2⟩ := Reps.get' (i := i) (v := d) b (by simpa using e)
    exact ⟨v, by simpa using h1, h2⟩
theorem Reps.append : ∀ {vs us : List V} {ds es : List D}, Reps g F vs ds → Reps g F us es → Reps g F (vs ++ us) (ds ++ es)
  | _, _, _, _, .nil, s => s
  | _, _, _, _, .cons a b, s => .cons a (Reps.append b s)
theorem Reps.take : ∀ {vs : List V} {ds : List D} (n : Nat), Reps g F vs ds → Reps g F (vs.take n) (ds.take n)
  | _, _, 0, _ => by simp; exact .nil
  | _, _, n + 1, .nil => .nil
  | _, _, n + 1, .cons a b => .cons a (Reps.take n b)
theorem Reps.drop : ∀ {vs : List V} {ds : List D} (n : Nat), Reps g F vs ds → Reps g F (vs.drop n) (ds.drop n)
  | _, _, 0, r => r
  | _, _, n + 1, .nil => .nil
  | _, _, n + 1, .cons a b => Reps.drop n b
theorem Reps.set : ∀ {vs : List V} {ds : List D} {v : V} {d : D} (i : Nat), Reps g F vs ds → Rep g F v d → Reps g F (vs.set i v) (ds.set i d)
  | _, _, _, _, _, .nil, _ => .nil
  | _, _, _, _, 0, .cons a b, r => .cons r b
  | _, _, _, _, i + 1, .cons a b, r => .cons a (Reps.set i b r)
theorem Reps.erase : ∀ {vs : List V} {ds : List D} (i : Nat), Reps g F vs ds → Reps g F (vs.eraseIdx i) (ds.eraseIdx i)
  | _, _, _, .nil => .nil
  | _, _, 0, .cons a b => b
  | _, _, i + 1, .cons a b => .cons a (Reps.erase i b)
theorem Reps.dropLast {vs : List V} {ds : List D} (r : Reps g F vs ds) : Reps g F vs.dropLast ds.dropLast := by
  rw [List.dropLast_eq_take, List.dropLast_eq_take, r.length]; exact r.take _
theorem Rep.int_of {v : V} {i : Int} (r : Rep g F v (.int i)) : v = .int i := by cases r; rfl
theorem Rep.bl_of {v : V} {i : Bool} (r : Rep g F v (.bl i)) : v = .bl i := by cases r; rfl
theorem Rep.str_of {v : V} {i : Str} (r : Rep g F v (.str i)) : v = .str i := by cases r; rfl
theorem Rep.non_of {v : V} (r : Rep g F v .non) : v = .non := by cases r; rfl
theorem Rep.tup_of {v : V} {ds : List D} (r : Rep g F v (.tup ds)) : ∃ a vs, v = .ref a ∧ SqT g.K F a vs ∧ Reps g F vs ds := by cases r with | tup s r => exact ⟨_, _, rfl, SqT.of s, r⟩
theorem Rep.tup_at {v : V} {ds : List D} (r : Rep g F v (.tup ds)) : ∃ a vs, v = .ref a ∧ F a = some (.tup vs) ∧ Reps g F vs ds := by cases r with | tup s r => exact ⟨_, _, rfl, s, r⟩
theorem Rep.lst_of {v : V} {ds : List D} (r : Rep g F v (.lst ds)) : ∃ a vs, v = .ref a ∧ F a = some (.lst vs) ∧ Reps g F vs ds := by cases r with | lst s r => exact ⟨_, _, rfl, s, r⟩
theorem Rep.rol_of {v : V} {ds : List D} (r : Rep g F v (.rol ds)) : ∃ a vs, v = .ref a ∧ SqL g.K F a vs ∧ Reps g F vs ds := by cases r with | rol s r => exact ⟨_, _, rfl, s, r⟩
theorem Rep.ob_of {v : V} {C : Addr} {gs : List (Str × D)} (r : Rep g F v (.ob C gs)) : ∃ a dx fs, v = .ref a ∧ F a = some (.ins C dx fs) ∧ Repf g F fs gs := by cases r with | ob s r => exact ⟨_, _, _, rfl, s, r⟩
theorem Repf.look : ∀ {fs : List (Str × V)} {gs : List (Str × D)} {f : Str} {d : D}, Repf g F fs gs → gs.lookup f = some d → ∃ v, fs.lookup f = some v ∧ Rep g F v d
  | _, _, _, _, .nil, e => by simp at e
  | _, _, f, d, .cons (n := n) a b, e => by
    by_cases h : f = n
    · subst h
      simp [List.lookup] at e ⊢
      subst e; exact a
    · have hb : (f == n) = false := by simpa using h
      simp only [List.lookup, hb] at e ⊢
      exact Repf.look b e
theorem Repf.look_none : ∀ {fs : List (Str × V)} {gs : List (Str × D)} {f : Str}, Repf g F fs gs → gs.lookup f = none → fs.lookup f = none
  | _, _, _, .nil, e => rfl
  | _, _, f, .cons (n := n) a b, e => by
    by_cases h : f = n
    · subst h
      simp [List.lookup] at e
    · have hb : (f == n) = false := by simpa using h
      simp only [List.lookup, hb] at e ⊢
      exact Repf.look_none b e
theorem Repf.length : ∀ {fs : List (Str × V)} {gs : List (Str × D)}, Repf g F fs gs → fs.length = gs.length
  | _, _, .nil => rfl
  | _, _, .cons _ b => by rw [List.length_cons, List.length_cons, Repf.length b]
end
/-- an object that its slot alone holds -/
def Own (g : Gx) (F : Hp) (a : Addr) (o : HO) : D → Prop
  | .lst ds => ∃ vs, o = .lst vs ∧ Reps g F vs ds
  | .dk l => ∃ kvs, o = .dK kvs ∧ Repk g F kvs l
  | .dt l => ∃ kvs, o = .dT kvs ∧ Rept g F kvs l
  | .ob C gs => ∃ dx fs, o = .ins C dx fs ∧ Repf g F fs gs
  | .si l => o = setH l
  | _ => False
theorem Own.mono {g : Gx} {F F' : Hp} {a : Addr} {o : HO} {d : D} (e : Ex F F') (h : Own g F a o d) : Own g F' a o d := by
  cases d with
  | lst ds => obtain ⟨vs, q, r⟩ := h; exact ⟨vs, q, r.mono e⟩
  | dk l => obtain ⟨vs, q, r⟩ := h; exact ⟨vs, q, r.mono e⟩
  | dt l => obtain ⟨vs, q, r⟩ := h; exact ⟨vs, q, r.mono e⟩
  | ob C gs => obtain ⟨dx, vs, q, r⟩ := h; exact ⟨dx, vs, q, r.mono e⟩
  | si l => exact h
  | _ => exact h.elim
/-- frozen, it stands for the same -/
theorem Own.rep {g : Gx} {F F' : Hp} {a : Addr} {o : HO} {d : D} (e : Ex F F') (h : Own g F a o d) (ha : F' a = some o) : Rep g F' (.ref a) d := by
  cases d with
  | lst ds => obtain ⟨vs, q, r⟩ := h; subst q; exact .lst ha (r.mono e)
  | dk l => obtain ⟨vs, q, r⟩ := h; subst q; exact .dk ha (r.mono e)
  | dt l => obtain ⟨vs, q, r⟩ := h; subst q; exact .dt ha (r.mono e)
  | ob C gs => obtain ⟨dx, vs, q, r⟩ := h; subst q; exact .ob ha (r.mono e)
  | si l => subst h; exact .si ha
  | _ => exact h.elim
/-! ### slots -/
inductive Sl where
  /-- nothing is known -/
  | un
  /-- a value that stands for d; what it reaches is never changed -/
  | va (d : D)
  /-- the only reference to an object that may be changed (its address, where it is to be known) -/
  | ow (q : Option Addr) (d : D)
def Sl.ok (g : Gx) (F : Hp) : Sl → Option V → Hp → Prop
  | .un, _, h => h = emp
  | .va d, v, h => h = emp ∧ ∃ w, v = some w ∧ Rep g F w d
  | .ow q d, v, h => ∃ a o, v = some (.ref a) ∧ h = sg a o ∧ Own g F a o d ∧ ∀ c, q = some c → a = c
theorem Sl.ok.mono {g : Gx} {F F' : Hp} {s : Sl} {v : Option V} {h : Hp} (e : Ex F F') (x : s.ok g F v h) : s.ok g F' v h := by
  cases s with
  | un => exact x
  | va d => obtain ⟨a, w, b, r⟩ := x; exact ⟨a, w, b, r.mono e⟩
  | ow q d => obtain ⟨a, o, b, c, r, z⟩ := x; exact ⟨a, o, b, c, r.mono e, z⟩
inductive SatL (g : Gx) (F : Hp) : List Sl → St → Hp → Prop
  | nil : SatL g F [] [] emp
  | cons {s : Sl} {v : Option V} {h O : Hp} {Γ : List Sl} {σ : St} : s.ok g F v h → SatL g F Γ σ O → Dis h O → SatL g F (s :: Γ) (v :: σ) (uni h O)
structure Sat (g : Gx) (F : Hp) (Γ : List Sl) (σ : St) (O H : Hp) : Prop where
  l : SatL g F Γ σ O
  fh : Ex F H
  oh : Ex O H
  fo : Dis F O
section
variable {g : Gx} {F F' O O' H H' h : Hp} {Γ : List Sl} {σ : St} {i : Nat} {d : D} {s : Sl} {v : Option V} {q : Option Addr}
theorem SatL.mono (e : Ex F F') : ∀ {Γ : List Sl} {σ : St} {O : Hp}, SatL g F Γ σ O → SatL g F' Γ σ O
  | _, _, _, .nil => .nil
  | _, _, _, .cons a b c => .cons (a.mono e) (SatL.mono e b) c
theorem SatL.len : ∀ {Γ : List Sl} {σ : St} {O : Hp}, SatL g F Γ σ O → Γ.length = σ.length
  | _, _, _, .nil => rfl
  | _, _, _, .cons _ b _ => by rw [List.length_cons, List.length_cons, SatL.len b]
theorem SatL.get : ∀ {Γ : List Sl} {σ : St} {O : Hp} {i : Nat}, SatL g F Γ σ O → Γ[i]? = some (.va d) → ∃ w, σ[i]? = some (some w) ∧ Rep g F w d
  | _, _, _, _, .nil, e => by simp at e
  | _, _, _, 0, .cons a _ _, e => by
    simp at e; subst e
    obtain ⟨_, w, q, r⟩ := a
    exact ⟨w, by simp [q], r⟩
  | _, _, _, i + 1, .cons _ b _, e => by
    obtain ⟨w, q, r⟩ := SatL.get (i := i) b (by simpa using e)
    exact ⟨w, by simpa using q, r⟩
/-- a slot is written; what it held alone is let go -/
theorem SatL.set : ∀ {Γ : List Sl} {σ : St} {O : Hp} (i : Nat), SatL g F Γ σ O → s.ok g F v h → Dis h O → ∃ O', SatL g F (Γ.set i s) (σ.set i v) O' ∧ ∀ a o, O' a = some o → h a = some o ∨ O a = some o
  | _, _, _, _, .nil, _, _ => ⟨emp, .nil, fun _ _ e => by cases e⟩
  | _, _, _, 0, .cons (h := h1) (O := O1) a b c, k, dd => by
    have d1 : Dis h O1 := fun x => (dd x).imp_right fun e => by
      cases q : h1 x with
      | none => rw [uni_r q] at e; exact e
      | some u => rw [uni_l q] at e; cases e
    refine ⟨uni h O1, .cons k b d1, fun x o e => (of_uni e).imp_right fun e => ?_⟩
    rw [uni_r ((c x).resolve_right (ne_none e))]; exact e
  | _, _, _, i + 1, .cons (h := h1) (O := O1) a b c, k, dd => by
    have d1 : Dis h O1 := fun x => (dd x).imp_right fun e => by
      cases q : h1 x with
      | none => rw [uni_r q] at e; exact e
      | some u => rw [uni_l q] at e; cases e
    obtain ⟨O2, s2, m2⟩ := SatL.set i b k d1
    refine ⟨uni h1 O2, .cons a s2 fun x => ?_, fun x o e => ?_⟩
    · cases q : O2 x with
      | none => exact .inr rfl
      | some u =>
        rcases m2 x u q with z | z
        · exact .inl ((dd x).elim (fun y => by rw [y] at z; cases z) fun y => by
            cases q1 : h1 x with
            | none => rfl
            | some u1 => rw [uni_l q1] at y; cases y)
        · exact .inl ((c x).resolve_right (ne_none z))
    · rcases of_uni e with z | z
      · exact .inr (uni_l z)
      · rcases m2 x o z with y | y
        · exact .inl y
        · exact .inr (by rw [uni_r ((c x).resolve_right (ne_none y))]; exact y)
/-- a slot that holds an object alone: the object, the rest -/
theorem SatL.own : ∀ {Γ : List Sl} {σ : St} {O : Hp} {i : Nat}, SatL g F Γ σ O → Γ[i]? = some (.ow q d) →
    ∃ a o O1, σ[i]? = some (some (.ref a)) ∧ Own g F a o d ∧ (∀ c, q = some c → a = c) ∧ O1 a = none ∧ O = uni (sg a o) O1 ∧ SatL g F (Γ.set i .un) σ O1 ∧
      ∀ (h' : Hp) (s' : Sl) (F2 : Hp), Ex F F2 → s'.ok g F2 (some (.ref a)) h' → (∀ y, y ≠ a → h' y = none) → SatL g F2 (Γ.set i s') σ (uni h' O1)
  | _, _, _, _, .nil, e => by simp at e
  | _, _, _, 0, .cons (O := O1) x b c, e => by
    simp at e; subst e
    obtain ⟨a, o, q1, hh, r, z⟩ := x
    subst hh; subst q1
    have n1 : O1 a = none := (c a).resolve_left (ne_none sg_self)
    refine ⟨a, o, O1, rfl, r, z, n1, rfl, ?_, fun h' s' F2 e k hd => .cons k (b.mono e) fun y => ?_⟩
    · have := SatL.cons (g := g) (F := F) (s := Sl.un) (v := some (V.ref a)) (h := emp) rfl b (dis_emp _)
      exact this
    · by_cases hy : y = a
      · subst hy; exact .inr n1
      · exact .inl (hd y hy)
  | _, _, _, i + 1, .cons (s := s0) (h := h1) (O := O0) x b c, e => by
    obtain ⟨a, o, O1, q1, r, z, n1, eq, s1, k1⟩ := SatL.own (i := i) b (by simpa using e)
    subst eq
    have hn : h1 a = none := (c a).resolve_right (ne_none (uni_l sg_self))
    have d1 : Dis h1 O1 := fun y => by
      by_cases hy : y = a
      · subst hy; exact .inl hn
      · have := c y
        rw [uni_r (sg_ne hy)] at this
        exact this
    have mv : ∀ h' : Hp, (∀ y, y ≠ a → h' y = none) → uni h' (uni h1 O1) = uni h1 (uni h' O1) := fun h' hd => by
      rw [← uni_assoc, ← uni_assoc, uni_comm (a := h') (b := h1) fun y => ?_]
      by_cases hy : y = a
      · subst hy; exact .inr hn
      · exact .inl (hd y hy)
    refine ⟨a, o, uni h1 O1, by simpa using q1, r, z, uni_none hn n1, (mv _ fun y hy => sg_ne hy).symm, .cons x s1 d1, fun h' s' F2 e k hd => ?_⟩
    rw [mv h' hd]
    exact .cons (x.mono e) (k1 h' s' F2 e k hd) fun y => by
      by_cases hy : y = a
      · subst hy; exact .inl hn
      · rw [uni_r (hd y hy)]; exact d1 y
theorem Sat.get (S : Sat g F Γ σ O H) (e : Γ[i]? = some (.va d)) : ∃ w, σ[i]? = some (some w) ∧ Rep g F w d := S.l.get e
theorem Sat.tail {v : Option V} (S : Sat g F (s :: Γ) (v :: σ) O H) : ∃ h O1, s.ok g F v h ∧ Dis h O1 ∧ O = uni h O1 ∧ Sat g F Γ σ O1 H := by
  obtain ⟨l, fh, oh, fo⟩ := S
  cases l with
  | cons a b c =>
    rename_i h O1
    refine ⟨h, O1, a, c, rfl, b, fh, fun x o e => oh x o ?_, fun x => (fo x).imp_right fun e => ?_⟩
    · rw [uni_r ((c x).resolve_right (ne_none e))]; exact e
    · cases q : h x with
      | none => rw [uni_r q] at e; exact e
      | some u => rw [uni_l q] at e; cases e
/-- what stands is kept, what is new is new: behind a pure expression -/
structure Grow (F H F' h H' : Hp) : Prop where
  ff : Ex F F'
  hh : Ex H H'
  fh : Ex F' H'
  nh : ∀ a o, h a = some o → H a = none ∧ H' a = some o ∧ F' a = none
  nf : ∀ a, H a ≠ none → F a = none → F' a = none
theorem Grow.refl (e : Ex F H) : Grow F H F emp H := ⟨Ex.refl _, Ex.refl _, e, fun _ _ z => (by cases z), fun _ _ z => z⟩
theorem Grow.trans {F1 h1 H1 F2 h2 H2 : Hp} (a : Grow F H F1 h1 H1) (b : Grow F1 H1 F2 h2 H2) : Grow F H F2 h2 H2 where
  ff := a.ff.trans b.ff
  hh := a.hh.trans b.hh
  fh := b.fh
  nh := fun x o e => by
    obtain ⟨q1, q2, q3⟩ := b.nh x o e
    refine ⟨?_, q2, q3⟩
    cases z : H x with
    | none => rfl
    | some u => rw [a.hh x u z] at q1; cases q1
  nf := fun x h1 h2 => by
    obtain ⟨o, ho⟩ := some_of h1
    exact b.nf x (ne_none (a.hh x o ho)) (a.nf x h1 h2)
theorem Sat.grow {h H' : Hp} (S : Sat g F Γ σ O H) (G : Grow F H F' h H') : Sat g F' Γ σ O H' :=
  ⟨S.l.mono G.ff, G.fh, S.oh.trans G.hh, fun a => by
    cases e : O a with
    | none => exact .inr rfl
    | some o => exact .inl (G.nf a (ne_none (S.oh a o e)) ((S.fo a).resolve_right (ne_none e)))⟩
theorem Sat.growT {h H' : Hp} {v : Option V} (S : Sat g F Γ σ O H) (G : Grow F H F' h H') (k : s.ok g F' v h) : Sat g F' (s :: Γ) (v :: σ) (uni h O) H' := by
  have T := S.grow G
  refine ⟨.cons k T.l fun a => ?_, T.fh, fun a o e => (of_uni e).elim (fun z => (G.nh a o z).2.1) (T.oh a o), fun a => ?_⟩
  · cases e : h a with
    | none => exact .inl rfl
    | some o =>
      refine .inr ?_
      cases q : O a with
      | none => rfl
      | some u => have := (G.nh a o e).1; rw [S.oh a u q] at this; cases this
  · cases e : h a with
    | none => rw [uni_r e]; exact T.fo a
    | some o => exact .inl (G.nh a o e).2.2
/-- what is not ours is kept: behind anything -/
structure Trn (F O H F' O' H' : Hp) : Prop where
  ff : Ex F F'
  keep : ∀ a o, H a = some o → O a = none → H' a = some o
  sep : ∀ a, H a ≠ none → F a = none → O a = none → F' a = none ∧ O' a = none
theorem Trn.refl : Trn F O H F O H := ⟨Ex.refl _, fun _ _ e _ => e, fun _ _ a b => ⟨a, b⟩⟩
theorem Trn.trans {F1 O1 H1 F2 O2 H2 : Hp} (fh : Ex F H) (fo1 : Dis F1 O1) (a : Trn F O H F1 O1 H1) (b : Trn F1 O1 H1 F2 O2 H2) : Trn F O H F2 O2 H2 where
  ff := a.ff.trans b.ff
  keep := fun x o e q => by
    have h1 := a.keep x o e q
    refine b.keep x o h1 ?_
    cases z : F x with
    | none => exact (a.sep x (ne_none e) z q).2
    | some u => exact (fo1 x).resolve_left (ne_none (a.ff x u z))
  sep := fun x h1 h2 h3 => by
    obtain ⟨o, ho⟩ := some_of h1
    obtain ⟨q1, q2⟩ := a.sep x h1 h2 h3
    exact b.sep x (ne_none (a.keep x o ho h3)) q1 q2
theorem Trn.less {O2 : Hp} (a : Trn F O H F' O' H') (m : ∀ x o, O2 x = some o → O' x = some o) : Trn F O H F' O2 H' :=
  ⟨a.ff, a.keep, fun x h1 h2 h3 => ⟨(a.sep x h1 h2 h3).1, by
    cases z : O2 x with
    | none => rfl
    | some u => have := (a.sep x h1 h2 h3).2; rw [m x u z] at this; cases this⟩⟩
theorem Grow.trn {h H' : Hp} (S : Sat g F Γ σ O H) (G : Grow F H F' h H') : Trn F O H F' (uni h O) H' :=
  ⟨G.ff, fun a o e _ => G.hh a o e, fun a h1 h2 h3 => ⟨G.nf a h1 h2, uni_none (by
    cases z : h a with
    | none => rfl
    | some u => exact absurd (G.nh a u z).1 h1) h3⟩⟩
/-- the same where nothing is ours -/
theorem Trn.grow {h H' : Hp} (S : Ex F H) (T : Trn F emp H F' h H') (fh : Ex F' H') (oh : Ex h H') (fo : Dis F' h) : Grow F H F' h H' :=
  ⟨T.ff, fun a o e => T.keep a o e rfl, fh, fun a o e => by
    refine ⟨?_, oh a o e, (fo a).resolve_right (ne_none e)⟩
    cases z : H a with
    | none => rfl
    | some u =>
      cases q : F a with
      | none => have := (T.sep a (ne_none z) q rfl).2; rw [e] at this; cases this
      | some p => exact absurd ((fo a).resolve_right (ne_none e)) (ne_none (T.ff a p q)),
    fun a h1 h2 => (T.sep a h1 h2 rfl).1⟩
end
/-! ### an error as it leaves -/
def ExR (g : Gx) (F : Hp) (cls : Value) (d : Option Addr) (x : Exn) : Prop :=
  ∃ C dd fs, g.mg x.cls = some (.ref C) ∧ cls = .ref C ∧ d = some dd ∧ F dd = some (.xd fs) ∧ Repf g F fs x.fs
theorem ExR.mono {g : Gx} {F F' : Hp} {cls : Value} {d : Option Addr} {x : Exn} (e : Ex F F') (h : ExR g F cls d x) : ExR g F' cls d x := by
  obtain ⟨C, dd, fs, a, b, c, q, r⟩ := h
  exact ⟨C, dd, fs, a, b, c, e _ _ q, r.mono e⟩
/-! ### weakest readings -/
section
variable {X : Cx} {e : Expr} {es : List Expr} {st : Stmt} {sts : List Stmt} {σ : St} {H : Hp}
def RE (X : Cx) (e : Expr) : TE := fun σ H Q => ∀ pins s, Inv X pins σ H s → wpAny (model X.prog X.w) X.A (eval e X.env) (EP X pins σ Q) X.xe s
def RT (X : Cx) (e : Expr) : TT := fun σ H Q => ∀ pins s, Inv X pins σ H s → wpAny (model X.prog X.w) X.A (isTrue e X.env (eval e X.env)) (TP X pins σ Q) X.xe s
def RW (X : Cx) (e : Expr) : TT := fun σ H Q => ∀ whole pins s, Inv X pins σ H s → wpAny (model X.prog X.w) X.A (isTrue e X.env whole) (TP X pins σ Q) X.xe s
def RA (X : Cx) (es : List Expr) : TA := fun σ H Q => ∀ pos pins s, Inv X pins σ H s → wpAny (model X.prog X.w) X.A (spliced (backTo pos (starEach es X.env))) (AP X pins σ Q) X.xe s
def RS (X : Cx) (st : Stmt) : TS := fun D σ H => ∀ pins s, Inv X pins σ H s → wpAny (model X.prog X.w) X.A (exec st X.env) (SP X pins D) X.xe s
def RB (X : Cx) (sts : List Stmt) : TS := fun D σ H => ∀ pins s, Inv X pins σ H s → wpAny (model X.prog X.w) X.A (execs sts X.env) (SP X pins D) X.xe s
theorem peR : PE X e (RE X e) := ⟨fun pins s _ _ _ I h => h pins s I⟩
theorem ptR : PT X e (RT X e) := ⟨fun pins s _ _ _ I h => h pins s I⟩
theorem pwR : PW X e (RW X e) := ⟨fun wh pins s _ _ _ I h => h wh pins s I⟩
theorem paR : PA X es (RA X es) := ⟨fun pos pins s _ _ _ I h => h pos pins s I⟩
theorem psR : PS X st (RS X st) := ⟨fun pins s _ _ _ I h => h pins s I⟩
theorem pssR : PSs X sts (RB X sts) := ⟨fun pins s _ _ _ I h => h pins s I⟩
theorem RE.of {te : TE} {Q : VK} (p : PE X e te) (q : te σ H Q) : RE X e σ H Q := fun pins s I => p.run pins s σ H Q I q
theorem RT.of {te : TT} {Q : Bool → Hp → Prop} (p : PT X e te) (q : te σ H Q) : RT X e σ H Q := fun pins s I => p.run pins s σ H Q I q
theorem RW.of {te : TT} {Q : Bool → Hp → Prop} (p : PW X e te) (q : te σ H Q) : RW X e σ H Q := fun wh pins s I => p.run wh pins s σ H Q I q
theorem RA.of {te : TA} {Q : List V → Hp → Prop} (p : PA X es te) (q : te σ H Q) : RA X es σ H Q := fun pos pins s I => p.run pos pins s σ H Q I q
theorem RS.of {te : TS} {D : Ends} (p : PS X st te) (q : te D σ H) : RS X st D σ H := fun pins s I => p.run pins s σ H D I q
theorem RB.of {te : TS} {D : Ends} (p : PSs X sts te) (q : te D σ H) : RB X sts D σ H := fun pins s I => p.run pins s σ H D I q
end
end Z
set_option Elab.async false
set_option linter.all false
set_option maxRecDepth 100000
set_option maxHeartbeats 4000000
namespace Z
open PySem PySem.Spec L2
/-! ### what a pure expression gives -/
section
variable {g : Gx} {F O H F' O' H' F1 H1 h h1 : Hp} {W : WX} {σ : St} {ρ ρ1 ρ2 : Type} {Γ : List Sl}
/-- an error leaves: what is not ours stands -/
def Fer (g : Gx) (F O H : Hp) (W : WX) (σ : St) (x : Exn) : Prop := ∀ F' H' cls d, Trn F O H F' emp H' → Ex F' H' → ExR g F' cls d x → W cls d σ H'
def Fi (g : Gx) (F O H : Hp) (W : WX) (σ : St) (m : M ρ) (t : ρ → Sl) (Q : VK) : Prop := match m with
  | .st => False
  | .ok r => ∀ F' h v H', Grow F H F' h H' → (t r).ok g F' (some v) h → Q v H'
  | .er x => Fer g F O H W σ x
/-- the same of arguments, a test -/
def FiA (g : Gx) (F O H : Hp) (W : WX) (σ : St) (m : M ρ) (ts : ρ → List D) (Q : List V → Hp → Prop) : Prop := match m with
  | .st => False
  | .ok r => ∀ F' vs H', Grow F H F' emp H' → Reps g F' vs (ts r) → Q vs H'
  | .er x => Fer g F O H W σ x
def FiT (g : Gx) (F O H : Hp) (W : WX) (σ : St) (m : M Bool) (Q : Bool → Hp → Prop) : Prop := match m with
  | .st => False
  | .ok b => ∀ F' H', Grow F H F' emp H' → Q b H'
  | .er x => Fer g F O H W σ x
theorem Grow.trnO (S : Sat g F Γ σ O H) (G : Grow F H F1 h1 H1) : Trn F O H F1 O H1 :=
  (G.trn S).less fun x o e => by
    rw [uni_r]
    · exact e
    · cases z : h1 x with
      | none => rfl
      | some u => have := (G.nh x u z).1; rw [S.oh x o e] at this; cases this
theorem Fer.shift (S : Sat g F Γ σ O H) {x : Exn} (f : Fer g F O H W σ x) (G : Grow F H F1 h1 H1) : Fer g F1 O H1 W σ x := fun F' H' cls d T e r =>
  f F' H' cls d (Trn.trans S.fh (S.grow G).fo (G.trnO S) T) e r
theorem Fi.shift (S : Sat g F Γ σ O H) {m : M ρ} {t : ρ → Sl} {Q : VK} (f : Fi g F O H W σ m t Q) (G : Grow F H F1 h1 H1) : Fi g F1 O H1 W σ m t Q := by
  cases m with
  | st => exact f
  | ok r => exact fun F' h v H' G2 k => f F' h v H' (G.trans G2) k
  | er x => exact Fer.shift S f G
theorem FiA.shift (S : Sat g F Γ σ O H) {m : M ρ} {t : ρ → List D} {Q : List V → Hp → Prop} (f : FiA g F O H W σ m t Q) (G : Grow F H F1 h1 H1) : FiA g F1 O H1 W σ m t Q := by
  cases m with
  | st => exact f
  | ok r => exact fun F' v H' G2 k => f F' v H' (G.trans G2) k
  | er x => exact Fer.shift S f G
theorem FiT.shift (S : Sat g F Γ σ O H) {m : M Bool} {Q : Bool → Hp → Prop} (f : FiT g F O H W σ m Q) (G : Grow F H F1 h1 H1) : FiT g F1 O H1 W σ m Q := by
  cases m with
  | st => exact f
  | ok r => exact fun F' H' G2 => f F' H' (G.trans G2)
  | er x => exact Fer.shift S f G
theorem Fi.bnd (S : Sat g F Γ σ O H) {m : M ρ1} {k : ρ1 → M ρ} {t : ρ → Sl} {Q : VK} {t1 : ρ1 → Sl} (f : Fi g F O H W σ (bnd m k) t Q) :
    Fi g F O H W σ m t1 (fun v H1 => ∃ r F1 h1, m = .ok r ∧ Grow F H F1 h1 H1 ∧ (t1 r).ok g F1 (some v) h1 ∧ Sat g F1 Γ σ O H1 ∧ Fi g F1 O H1 W σ (k r) t Q) := by
  cases m with
  | st => exact f
  | er x => exact f
  | ok r => exact fun F' h v H' G kk => ⟨r, F', h, rfl, G, kk, S.grow G, Fi.shift S f G⟩
theorem Fi.bndA (S : Sat g F Γ σ O H) {m : M ρ1} {k : ρ1 → M ρ} {t : ρ → Sl} {Q : VK} {t1 : ρ1 → List D} (f : Fi g F O H W σ (Z.bnd m k) t Q) :
    FiA g F O H W σ m t1 (fun v H1 => ∃ r F1, m = .ok r ∧ Grow F H F1 emp H1 ∧ Reps g F1 v (t1 r) ∧ Sat g F1 Γ σ O H1 ∧ Fi g F1 O H1 W σ (k r) t Q) := by
  cases m with
  | st => exact f
  | er x => exact f
  | ok r => exact fun F' v H' G kk => ⟨r, F', rfl, G, kk, S.grow G, Fi.shift S f G⟩
theorem Fi.bndT (S : Sat g F Γ σ O H) {m : M Bool} {k : Bool → M ρ} {t : ρ → Sl} {Q : VK} (f : Fi g F O H W σ (Z.bnd m k) t Q) :
    FiT g F O H W σ m (fun b H1 => ∃ F1, m = .ok b ∧ Grow F H F1 emp H1 ∧ Sat g F1 Γ σ O H1 ∧ Fi g F1 O H1 W σ (k b) t Q) := by
  cases m with
  | st => exact f
  | er x => exact f
  | ok r => exact fun F' H' G => ⟨F', rfl, G, S.grow G, Fi.shift S f G⟩
theorem FiA.bnd (S : Sat g F Γ σ O H) {m : M ρ1} {k : ρ1 → M ρ} {t : ρ → List D} {Q : List V → Hp → Prop} {t1 : ρ1 → Sl} (f : FiA g F O H W σ (Z.bnd m k) t Q) :
    Fi g F O H W σ m t1 (fun v H1 => ∃ r F1 h1, m = .ok r ∧ Grow F H F1 h1 H1 ∧ (t1 r).ok g F1 (some v) h1 ∧ Sat g F1 Γ σ O H1 ∧ FiA g F1 O H1 W σ (k r) t Q) := by
  cases m with
  | st => exact f
  | er x => exact f
  | ok r => exact fun F' h v H' G kk => ⟨r, F', h, rfl, G, kk, S.grow G, FiA.shift S f G⟩
theorem FiA.bndA (S : Sat g F Γ σ O H) {m : M ρ1} {k : ρ1 → M ρ} {t : ρ → List D} {Q : List V → Hp → Prop} {t1 : ρ1 → List D} (f : FiA g F O H W σ (Z.bnd m k) t Q) :
    FiA g F O H W σ m t1 (fun v H1 => ∃ r F1, m = .ok r ∧ Grow F H F1 emp H1 ∧ Reps g F1 v (t1 r) ∧ Sat g F1 Γ σ O H1 ∧ FiA g F1 O H1 W σ (k r) t Q) := by
  cases m with
  | st => exact f
  | er x => exact f
  | ok r => exact fun F' v H' G kk => ⟨r, F', rfl, G, kk, S.grow G, FiA.shift S f G⟩
theorem FiT.bnd (S : Sat g F Γ σ O H) {m : M ρ1} {k : ρ1 → M Bool} {Q : Bool → Hp → Prop} {t1 : ρ1 → Sl} (f : FiT g F O H W σ (Z.bnd m k) Q) :
    Fi g F O H W σ m t1 (fun v H1 => ∃ r F1 h1, m = .ok r ∧ Grow F H F1 h1 H1 ∧ (t1 r).ok g F1 (some v) h1 ∧ Sat g F1 Γ σ O H1 ∧ FiT g F1 O H1 W σ (k r) Q) := by
  cases m with
  | st => exact f
  | er x => exact f
  | ok r => exact fun F' h v H' G kk => ⟨r, F', h, rfl, G, kk, S.grow G, FiT.shift S f G⟩
theorem FiT.bndT (S : Sat g F Γ σ O H) {m : M Bool} {k : Bool → M Bool} {Q : Bool → Hp → Prop} (f : FiT g F O H W σ (Z.bnd m k) Q) :
    FiT g F O H W σ m (fun b H1 => ∃ F1, m = .ok b ∧ Grow F H F1 emp H1 ∧ Sat g F1 Γ σ O H1 ∧ FiT g F1 O H1 W σ (k b) Q) := by
  cases m with
  | st => exact f
  | er x => exact f
  | ok r => exact fun F' H' G => ⟨F', rfl, G, S.grow G, FiT.shift S f G⟩
end
/-! ### the judgements of pure expressions -/
def JP (X : Cx) (Γ : List Sl) (e : Expr) {ρ : Type} (m : M ρ) (t : ρ → Sl) : Prop :=
  ∀ (F O : Hp) (σ : St) (H : Hp) (Q : VK) (W : WX), Sat (gx X) F Γ σ O H → L2N.Takes X W → Fi (gx X) F O H W σ m t Q → RE X e σ H Q
def JA (X : Cx) (Γ : List Sl) (es : List Expr) {ρ : Type} (m : M ρ) (ts : ρ → List D) : Prop :=
  ∀ (F O : Hp) (σ : St) (H : Hp) (Q : List V → Hp → Prop) (W : WX), Sat (gx X) F Γ σ O H → L2N.Takes X W → FiA (gx X) F O H W σ m ts Q → RA X es σ H Q
def JT (X : Cx) (Γ : List Sl) (e : Expr) (m : M Bool) : Prop :=
  ∀ (F O : Hp) (σ : St) (H : Hp) (Q : Bool → Hp → Prop) (W : WX), Sat (gx X) F Γ σ O H → L2N.Takes X W → FiT (gx X) F O H W σ m Q → RT X e σ H Q
def JW (X : Cx) (Γ : List Sl) (e : Expr) (m : M Bool) : Prop :=
  ∀ (F O : Hp) (σ : St) (H : Hp) (Q : Bool → Hp → Prop) (W : WX), Sat (gx X) F Γ σ O H → L2N.Takes X W → FiT (gx X) F O H W σ m Q → RW X e σ H Q
section
variable {X : Cx} {Γ : List Sl} {a b c e : Expr} {es : List Expr} {pos : Pos} {ρ ρ1 ρ2 ρ3 : Type} {m : M ρ} {m1 : M ρ1} {t : ρ → Sl} {t1 : ρ1 → Sl}
theorem JP.cast {m' : M ρ} (h : JP X Γ e m t) (q : m = m') : JP X Γ e m' t := q ▸ h
theorem JT.cast {m m' : M Bool} (h : JT X Γ e m) (q : m = m') : JT X Γ e m' := q ▸ h
theorem Fi.done {g : Gx} {F O H : Hp} {W : WX} {σ : St} {Q : VK} {r : ρ} {v : V} (S : Ex F H) (f : Fi g F O H W σ (.ok r) t Q) (k : (t r).ok g F (some v) emp) : Q v H := f F emp v H (Grow.refl S) k
/-! ### names, constants -/
theorem jp_var (i : Nat) {x : Str} {d : D} (hΓ : Γ[i]? = some (.va d) := by rfl) (hN : X.N[i]? = some x := by rfl) (hv : Vis X.env.scope x := by first | exact Or.inl rfl | exact Or.inr (Or.inl rfl) | exact Or.inr (Or.inr rfl)) (hd : (x == ("__debug__" : Str)) = false := by decide)
    (hcd : (x == ("__classdict__" : Str)) = false := by decide) : JP X Γ (.Name x pos) (.ok ()) (fun _ => .va d) := fun F O σ H Q W S tk f => by
  obtain ⟨w, e, r⟩ := S.get hΓ
  exact RE.of (pe_var hN hv hd hcd) ⟨w, e, f.done S.fh ⟨rfl, w, rfl, r⟩⟩
theorem jp_int {i : Int} {j} : JP X Γ (.Constant (.int i) j pos) (.ok ()) (fun _ => .va (.int i)) := fun F O σ H Q W S tk f => RE.of pe_int (f.done S.fh ⟨rfl, _, rfl, .int i⟩)
theorem jp_bl {i : Bool} {j} : JP X Γ (.Constant (.bool i) j pos) (.ok ()) (fun _ => .va (.bl i)) := fun F O σ H Q W S tk f => RE.of pe_bl (f.done S.fh ⟨rfl, _, rfl, .bl i⟩)
theorem jp_non {j} : JP X Γ (.Constant .none j pos) (.ok ()) (fun _ => .va .non) := fun F O σ H Q W S tk f => RE.of pe_non (f.done S.fh ⟨rfl, _, rfl, .non⟩)
theorem jp_str {i : Str} {j} : JP X Γ (.Constant (.str i) j pos) (.ok ()) (fun _ => .va (.str i)) := fun F O σ H Q W S tk f => RE.of pe_str (f.done S.fh ⟨rfl, _, rfl, .str i⟩)
/-- an int of the module's -/
theorem jp_gint {x : Str} {i : Int} (hm : ∃ u, X.mg x = some (.int i u)) (hg : Gl X x := by rfl) (hd : (x == ("__debug__" : Str)) = false := by decide) : JP X Γ (.Name x pos) (.ok ()) (fun _ => .va (.int i)) := fun F O σ H Q W S tk f => by
  obtain ⟨u, hm⟩ := hm
  exact RE.of (pe_glob (v := .int i) hg hm ⟨u, rfl⟩ hd) (f.done S.fh ⟨rfl, _, rfl, .int i⟩)
/-! ### operators on values -/
def OpJ (g : Gx) (rr : R2) (d1 d2 : D) (m : M ρ) (t : ρ → Sl) : Prop :=
  ∀ (F O H : Hp) (v u : V) (Q : VK) (W : WX) (σ : St), Ex F H → Rep g F v d1 → Rep g F u d2 → Fi g F O H W σ m t Q → rr v u H Q
def UnJ (g : Gx) (rr : V → Hp → VK → Prop) (d1 : D) (m : M ρ) (t : ρ → Sl) : Prop :=
  ∀ (F O H : Hp) (v : V) (Q : VK) (W : WX) (σ : St), Ex F H → Rep g F v d1 → Fi g F O H W σ m t Q → rr v H Q
theorem Sl.va_of {g : Gx} {F h : Hp} {v : V} {d : D} (k : (Sl.va d).ok g F (some v) h) : h = emp ∧ Rep g F v d := by
  obtain ⟨a, w, e, r⟩ := k; cases e; exact ⟨a, r⟩
/-- the seam of two operands -/
theorem two {d1 : ρ1 → D} {m2 : ρ1 → M ρ2} {d2 : ρ1 → ρ2 → D} {k : ρ1 → ρ2 → M ρ} {rr : R2} (h1 : JP X Γ a m1 (fun r => .va (d1 r))) (h2 : ∀ r, JP X Γ b (m2 r) (fun s => .va (d2 r s))) (h3 : ∀ r s, OpJ (gx X) rr (d1 r) (d2 r s) (k r s) t)
    {F O : Hp} {σ : St} {H : Hp} {Q : VK} {W : WX} (S : Sat (gx X) F Γ σ O H) (tk : L2N.Takes X W) (f : Fi (gx X) F O H W σ (bnd m1 fun r => bnd (m2 r) (k r)) t Q) : tOp rr (RE X a) (RE X b) σ H Q := by
  refine h1 F O σ H _ W S tk ?_
  have f1 := f.bnd S (t1 := fun r => .va (d1 r))
  revert f1
  cases m1 with
  | st => exact id
  | er x => exact id
  | ok r =>
    intro f1 F1 hh v H1 G k1
    obtain ⟨r', F1, h1', e, G, k1, S1, f2⟩ := f1 F1 hh v H1 G k1
    cases e
    obtain ⟨_, r1⟩ := Sl.va_of k1
    refine h2 r F1 O σ H1 _ W S1 tk ?_
    have f3 := f2.bnd S1 (t1 := fun s => .va (d2 r s))
    revert f3
    cases m2 r with
    | st => exact id
    | er x => exact id
    | ok s =>
      intro f3 F2 hh2 u H2 G2 k2
      obtain ⟨s', F2, h2', e, G2, k2, S2, f4⟩ := f3 F2 hh2 u H2 G2 k2
      cases e
      obtain ⟨_, r2⟩ := Sl.va_of k2
      exact h3 r s F2 O H2 v u Q W σ S2.fh (r1.mono G2.ff) r2 f4
theorem jp_op {op : Operator} {rr : R2} {d1 : ρ1 → D} {m2 : ρ1 → M ρ2} {d2 : ρ1 → ρ2 → D} {k : ρ1 → ρ2 → M ρ} (ho : OpR X (binaryOp op) rr) (h1 : JP X Γ a m1 (fun r => .va (d1 r))) (h2 : ∀ r, JP X Γ b (m2 r) (fun s => .va (d2 r s)))
    (h3 : ∀ r s, OpJ (gx X) rr (d1 r) (d2 r s) (k r s) t) : JP X Γ (.BinOp a op b pos) (bnd m1 fun r => bnd (m2 r) (k r)) t := fun F O σ H Q W S tk f => RE.of (pe_op ho peR peR) (two h1 h2 h3 S tk f)
theorem jp_cmp {op : CmpOp} {rr : R2} {d1 : ρ1 → D} {m2 : ρ1 → M ρ2} {d2 : ρ1 → ρ2 → D} {k : ρ1 → ρ2 → M ρ} (ho : OpR X (compareOp op) rr) (hm : behindInMarks op b = false) (h1 : JP X Γ a m1 (fun r => .va (d1 r))) (h2 : ∀ r, JP X Γ b (m2 r) (fun s => .va (d2 r s)))
    (h3 : ∀ r s, OpJ (gx X) rr (d1 r) (d2 r s) (k r s) t) : JP X Γ (.Compare a [op] [b] pos) (bnd m1 fun r => bnd (m2 r) (k r)) t := fun F O σ H Q W S tk f => RE.of (pe_cmpR ho peR peR hm) (two h1 h2 h3 S tk f)
theorem jp_ix {rr : R2} {d1 : ρ1 → D} {m2 : ρ1 → M ρ2} {d2 : ρ1 → ρ2 → D} {k : ρ1 → ρ2 → M ρ} (ho : IxR X rr) (h1 : JP X Γ a m1 (fun r => .va (d1 r))) (h2 : ∀ r, JP X Γ b (m2 r) (fun s => .va (d2 r s)))
    (h3 : ∀ r s, OpJ (gx X) rr (d1 r) (d2 r s) (k r s) t) (hs : PlainIx b := by exact fun _ _ => rfl) : JP X Γ (.Subscript a b pos) (bnd m1 fun r => bnd (m2 r) (k r)) t := fun F O σ H Q W S tk f => RE.of (pe_ix ho peR peR hs) (two h1 h2 h3 S tk f)
/-- a bool as a value, as a test -/
theorem fiT_of {g : Gx} {F O H : Hp} {W : WX} {σ : St} {m : M Bool} {Q : Bool → Hp → Prop} (S : Ex F H) (f : FiT g F O H W σ m Q) : Fi g F O H W σ m (fun z => .va (.bl z)) (fun x H' => ∃ k, x = .bl k ∧ Q k H') := by
  cases m with
  | st => exact f
  | er x => exact f
  | ok b =>
    intro F' h v H' G k
    obtain ⟨e, r⟩ := Sl.va_of k
    subst e
    exact ⟨b, r.bl_of, f F' H' G⟩
theorem jt_cmp {op : CmpOp} {rr : R2} {d1 : ρ1 → D} {m2 : ρ1 → M ρ2} {d2 : ρ1 → ρ2 → D} {k : ρ1 → ρ2 → M Bool} (ho : OpR X (compareOp op) rr) (hm : behindInMarks op b = false) (h1 : JP X Γ a m1 (fun r => .va (d1 r))) (h2 : ∀ r, JP X Γ b (m2 r) (fun s => .va (d2 r s)))
    (h3 : ∀ r s, OpJ (gx X) rr (d1 r) (d2 r s) (k r s) (fun z => .va (.bl z))) : JT X Γ (.Compare a [op] [b] pos) (bnd m1 fun r => bnd (m2 r) (k r)) := fun F O σ H Q W S tk f =>
  RT.of (pt_cmpR ho peR peR hm) (two h1 h2 h3 S tk (fiT_of S.fh f))
theorem jt_val {m : M Bool} (h : JP X Γ e m (fun z => .va (.bl z))) (he : ∀ whole, isTrue e X.env whole = (do let v ← whole; standAt e.pos; holding [v] (truthy v)) := by intro _; rfl) : JT X Γ e m := fun F O σ H Q W S tk f =>
  RT.of (pt_val peR he) (h F O σ H _ W S tk (fiT_of S.fh f))
theorem jt_not {m : M Bool} (h : JT X Γ a m) : JT X Γ (.UnaryOp .Not a pos) (bnd m fun b => .ok (!b)) := fun F O σ H Q W S tk f => RT.of (pt_not ptR) (h F O σ H _ W S tk (by
  cases m with
  | st => exact f
  | er x => exact f
  | ok b => exact f))
theorem jp_not {m : M Bool} (h : JP X Γ a m (fun z => .va (.bl z))) : JP X Γ (.UnaryOp .Not a pos) (bnd m fun b => .ok (!b)) (fun z => .va (.bl z)) := fun F O σ H Q W S tk f => RE.of (pe_not peR) (h F O σ H _ W S tk (by
  cases m with
  | st => exact f
  | er x => exact f
  | ok b =>
    intro F' h v H' G k
    obtain ⟨e, r⟩ := Sl.va_of k
    exact ⟨b, r.bl_of, f F' h _ H' G ⟨e, _, rfl, .bl _⟩⟩))
theorem jw_and1 {m : M Bool} (h : JT X Γ a m) : JW X Γ (.BoolOp .And [a] pos) m := fun F O σ H Q W S tk f => RW.of (pw_and1 ptR) (h F O σ H _ W S tk f)
theorem jw_or1 {m : M Bool} (h : JT X Γ a m) : JW X Γ (.BoolOp .Or [a] pos) m := fun F O σ H Q W S tk f => RW.of (pw_or1 ptR) (h F O σ H _ W S tk f)
theorem jw_and {m n : M Bool} {rest : List Expr} (h : JT X Γ a m) (h2 : JW X Γ (.BoolOp .And (b :: rest) pos) n) : JW X Γ (.BoolOp .And (a :: b :: rest) pos) (bnd m fun x => if x then n else .ok false) := fun F O σ H Q W S tk f =>
  RW.of (pw_and ptR pwR) (h F O σ H _ W S tk (by
    have f1 := f.bndT S
    revert f1
    cases m with
    | st => exact id
    | er x => exact id
    | ok x =>
      intro f1 F' H' G
      obtain ⟨F1, _, G, S1, f2⟩ := f1 F' H' G
      cases x with
      | true => exact h2 F1 O σ H' Q W S1 tk f2
      | false => exact f2 F1 H' (Grow.refl S1.fh)))
theorem jw_or {m n : M Bool} {rest : List Expr} (h : JT X Γ a m) (h2 : JW X Γ (.BoolOp .Or (b :: rest) pos) n) : JW X Γ (.BoolOp .Or (a :: b :: rest) pos) (bnd m fun x => if x then .ok true else n) := fun F O σ H Q W S tk f =>
  RW.of (pw_or ptR pwR) (h F O σ H _ W S tk (by
    have f1 := f.bndT S
    revert f1
    cases m with
    | st => exact id
    | er x => exact id
    | ok x =>
      intro f1 F' H' G
      obtain ⟨F1, _, G, S1, f2⟩ := f1 F' H' G
      cases x with
      | false => exact h2 F1 O σ H' Q W S1 tk f2
      | true => exact f2 F1 H' (Grow.refl S1.fh)))
theorem jt_w {m : M Bool} (h : JW X Γ e m) : JT X Γ e m := fun F O σ H Q W S tk f => RT.of (PW.pt pwR) (h F O σ H _ W S tk f)
theorem jp_one {op} (h : JP X Γ a m t) : JP X Γ (.BoolOp op [a] pos) m t := fun F O σ H Q W S tk f => RE.of (pe_one peR) (h F O σ H _ W S tk f)
theorem jp_and {m n : M Bool} {rest : List Expr} (h : JP X Γ a m (fun z => .va (.bl z))) (h2 : JP X Γ (.BoolOp .And (b :: rest) pos) n (fun z => .va (.bl z))) : JP X Γ (.BoolOp .And (a :: b :: rest) pos) (bnd m fun x => if x then n else .ok false) (fun z => .va (.bl z)) := fun F O σ H Q W S tk f =>
  RE.of (pe_and peR peR) (h F O σ H _ W S tk (by
    have f1 := f.bnd S (t1 := fun z => .va (.bl z))
    revert f1
    cases m with
    | st => exact id
    | er x => exact id
    | ok x =>
      intro f1 F' hh v H' G k
      obtain ⟨_, F1, h1, e, G, k, S1, f2⟩ := f1 F' hh v H' G k
      cases e
      obtain ⟨_, r⟩ := Sl.va_of k
      refine ⟨x, r.bl_of, ?_⟩
      cases x with
      | true => exact h2 F1 O σ H' Q W S1 tk f2
      | false => exact f2.done S1.fh ⟨rfl, _, rfl, .bl _⟩))
theorem jp_or {m n : M Bool} {rest : List Expr} (h : JP X Γ a m (fun z => .va (.bl z))) (h2 : JP X Γ (.BoolOp .Or (b :: rest) pos) n (fun z => .va (.bl z))) : JP X Γ (.BoolOp .Or (a :: b :: rest) pos) (bnd m fun x => if x then .ok true else n) (fun z => .va (.bl z)) := fun F O σ H Q W S tk f =>
  RE.of (pe_or peR peR) (h F O σ H _ W S tk (by
    have f1 := f.bnd S (t1 := fun z => .va (.bl z))
    revert f1
    cases m with
    | st => exact id
    | er x => exact id
    | ok x =>
      intro f1 F' hh v H' G k
      obtain ⟨_, F1, h1, e, G, k, S1, f2⟩ := f1 F' hh v H' G k
      cases e
      obtain ⟨_, r⟩ := Sl.va_of k
      refine ⟨x, r.bl_of, ?_⟩
      cases x with
      | false => exact h2 F1 O σ H' Q W S1 tk f2
      | true => exact f2.done S1.fh ⟨rfl, _, rfl, .bl _⟩))
theorem jp_ifx {mc : M Bool} {ma mb : M ρ} (hc : JT X Γ c mc) (ha : JP X Γ a ma t) (hb : JP X Γ b mb t) : JP X Γ (.IfExp c a b pos) (bnd mc fun x => if x then ma else mb) t := fun F O σ H Q W S tk f =>
  RE.of (pe_ifExp ptR peR peR) (hc F O σ H _ W S tk (by
    have f1 := f.bndT S
    revert f1
    cases mc with
    | st => exact id
    | er x => exact id
    | ok x =>
      intro f1 F' H' G
      obtain ⟨F1, _, G, S1, f2⟩ := f1 F' H' G
      cases x with
      | true => exact ha F1 O σ H' Q W S1 tk f2
      | false => exact hb F1 O σ H' Q W S1 tk f2))
/-- a <= b <= c -/
theorem jp_chain {op op' : CmpOp} {rr rr' : R2} {d1 : ρ1 → D} {m2 : ρ1 → M ρ2} {d2 : ρ1 → ρ2 → D} {k : ρ1 → ρ2 → M Bool} {m3 : ρ1 → ρ2 → M ρ3} {d3 : ρ1 → ρ2 → ρ3 → D} {l : ρ1 → ρ2 → ρ3 → M Bool} (ho : OpR X (compareOp op) rr) (ho' : OpR X (compareOp op') rr')
    (h1 : JP X Γ a m1 (fun r => .va (d1 r))) (h2 : ∀ r, JP X Γ b (m2 r) (fun s => .va (d2 r s)))
    (h3 : ∀ r s, OpJ (gx X) rr (d1 r) (d2 r s) (k r s) (fun z => .va (.bl z))) (h4 : ∀ r s, JP X Γ c (m3 r s) (fun z => .va (d3 r s z))) (h5 : ∀ r s z, OpJ (gx X) rr' (d2 r s) (d3 r s z) (l r s z) (fun z => .va (.bl z)))
    (hm : lastMarks [op, op'] [b, c] = false := by with_unfolding_all rfl) : JP X Γ (.Compare a [op, op'] [b, c] pos) (bnd m1 fun r => bnd (m2 r) fun s => bnd (k r s) fun x => if x then bnd (m3 r s) (l r s) else .ok false) (fun z => .va (.bl z)) := fun F O σ H Q W S tk f => by
  refine RE.of (pe_chain ho ho' peR peR peR hm) ?_
  refine h1 F O σ H _ W S tk ?_
  have f1 := f.bnd S (t1 := fun r => .va (d1 r))
  revert f1
  cases m1 with
  | st => exact id
  | er x => exact id
  | ok r =>
    intro f1 F1 hh v H1 G k1
    obtain ⟨r', F1, h1', e, G, k1, S1, f2⟩ := f1 F1 hh v H1 G k1
    cases e
    obtain ⟨_, r1⟩ := Sl.va_of k1
    refine h2 r F1 O σ H1 _ W S1 tk ?_
    have f3 := f2.bnd S1 (t1 := fun s => .va (d2 r s))
    revert f3
    cases m2 r with
    | st => exact id
    | er x => exact id
    | ok s =>
      intro f3 F2 hh2 u H2 G2 k2
      obtain ⟨s', F2, h2', e, G2, k2, S2, f4⟩ := f3 F2 hh2 u H2 G2 k2
      cases e
      obtain ⟨_, r2⟩ := Sl.va_of k2
      refine h3 r s F2 O H2 v u _ W σ S2.fh (r1.mono G2.ff) r2 ?_
      have f5 := f4.bnd S2 (t1 := fun z => .va (.bl z))
      revert f5
      cases k r s with
      | st => exact id
      | er x => exact id
      | ok y =>
        intro f5 F3 hh3 x H3 G3 k3
        obtain ⟨y', F3, h3', e, G3, k3, S3, f6⟩ := f5 F3 hh3 x H3 G3 k3
        cases e
        obtain ⟨_, r3⟩ := Sl.va_of k3
        refine ⟨y, r3.bl_of, ?_⟩
        cases y with
        | false => exact f6.done S3.fh ⟨rfl, _, rfl, .bl _⟩
        | true =>
          refine h4 r s F3 O σ H3 _ W S3 tk ?_
          have f7 : Fi (gx X) F3 O H3 W σ (bnd (m3 r s) (l r s)) (fun z => .va (.bl z)) Q := f6
          have f8 := f7.bnd S3 (t1 := fun z => .va (d3 r s z))
          revert f8
          cases m3 r s with
          | st => exact id
          | er x => exact id
          | ok z =>
            intro f8 F4 hh4 w H4 G4 k4
            obtain ⟨z', F4, h4', e, G4, k4, S4, f9⟩ := f8 F4 hh4 w H4 G4 k4
            cases e
            obtain ⟨_, r4⟩ := Sl.va_of k4
            exact h5 r s z F4 O H4 u w Q W σ S4.fh (r2.mono (G3.ff.trans G4.ff)) r4 f9
theorem jp_un {op : UnaryOp} {rr : V → Hp → VK → Prop} {d1 : ρ1 → D} {k : ρ1 → M ρ} (ho : UnR X (unaryOp op) rr) (h1 : JP X Γ a m1 (fun r => .va (d1 r))) (h3 : ∀ r, UnJ (gx X) rr (d1 r) (k r) t) : JP X Γ (.UnaryOp op a pos) (bnd m1 k) t := fun F O σ H Q W S tk f =>
  RE.of (pe_un ho peR) (h1 F O σ H _ W S tk (by
    have f1 := f.bnd S (t1 := fun r => .va (d1 r))
    revert f1
    cases m1 with
    | st => exact id
    | er x => exact id
    | ok r =>
      intro f1 F1 hh v H1 G k1
      obtain ⟨r', F1, h1', e, G, k1, S1, f2⟩ := f1 F1 hh v H1 G k1
      cases e
      exact h3 r F1 O H1 v Q W σ S1.fh (Sl.va_of k1).2 f2))
/-! ### argument lists -/
theorem ja_nil : JA X Γ [] (.ok ()) (fun _ => []) := fun F O σ H Q W S tk f => RA.of pa_nil (f F [] H (Grow.refl S.fh) .nil)
theorem ja_cons {d1 : ρ1 → D} {m2 : ρ1 → M ρ2} {ts : ρ1 → ρ2 → List D} (h1 : JP X Γ e m1 (fun r => .va (d1 r))) (h2 : ∀ r, JA X Γ es (m2 r) (ts r)) (hs : starEach (e :: es) X.env = (false, eval e X.env) :: starEach es X.env := by rfl) :
    JA X Γ (e :: es) (bnd m1 fun r => bnd (m2 r) fun s => .ok (r, s)) (fun p => d1 p.1 :: ts p.1 p.2) := fun F O σ H Q W S tk f =>
  RA.of (pa_cons peR paR hs) (h1 F O σ H _ W S tk (by
    have f1 := f.bnd S (t1 := fun r => .va (d1 r))
    revert f1
    cases m1 with
    | st => exact id
    | er x => exact id
    | ok r =>
      intro f1 F1 hh v H1 G k1
      obtain ⟨r', F1, h1', e, G, k1, S1, f2⟩ := f1 F1 hh v H1 G k1
      cases e
      obtain ⟨_, r1⟩ := Sl.va_of k1
      refine h2 r F1 O σ H1 _ W S1 tk ?_
      have f3 := f2.bndA S1 (t1 := ts r)
      revert f3
      cases m2 r with
      | st => exact id
      | er x => exact id
      | ok s =>
        intro f3 F2 vs H2 G2 k2
        obtain ⟨s', F2, e, G2, k2, S2, f4⟩ := f3 F2 vs H2 G2 k2
        cases e
        exact f4 F2 (v :: vs) H2 (Grow.refl S2.fh) (.cons (r1.mono G2.ff) k2)))
end
end Z
set_option Elab.async false
set_option linter.all false
set_option maxRecDepth 100000
set_option maxHeartbeats 4000000
namespace Z
open PySem PySem.Spec L2
/-! ### expressions that may change what a slot holds alone -/
section
variable {g : Gx} {F O H F' O' H' F1 H1 h h1 : Hp} {W : WX} {σ : St} {ρ ρ1 ρ2 : Type} {Γ : List Sl}
def FiE (g : Gx) (F O H : Hp) (W : WX) (σ : St) (m : M ρ) (t : ρ → Sl) (Γ' : ρ → List Sl) (Q : VK) : Prop := match m with
  | .st => False
  | .ok r => ∀ F' O' v H', Sat g F' (t r :: Γ' r) (some v :: σ) O' H' → Trn F O H F' O' H' → Q v H'
  | .er x => Fer g F O H W σ x
def JE (X : Cx) (Γ : List Sl) (e : Expr) {ρ : Type} (m : M ρ) (t : ρ → Sl) (Γ' : ρ → List Sl) : Prop :=
  ∀ (F O : Hp) (σ : St) (H : Hp) (Q : VK) (W : WX), Sat (gx X) F Γ σ O H → L2N.Takes X W → FiE (gx X) F O H W σ m t Γ' Q → RE X e σ H Q
theorem FiE.fi (S : Sat g F Γ σ O H) {m : M ρ} {t : ρ → Sl} {Q : VK} (f : FiE g F O H W σ m t (fun _ => Γ) Q) : Fi g F O H W σ m t Q := by
  cases m with
  | st => exact f
  | er x => exact f
  | ok r => exact fun F' h v H' G k => f F' _ v H' (S.growT G k) (G.trn S)
theorem JP.je {X : Cx} {e : Expr} {m : M ρ} {t : ρ → Sl} (h : JP X Γ e m t) : JE X Γ e m t (fun _ => Γ) := fun F O σ H Q W S tk f => h F O σ H Q W S tk (f.fi S)
theorem JE.cast {X : Cx} {e : Expr} {m m' : M ρ} {t : ρ → Sl} {Γ' : ρ → List Sl} (h : JE X Γ e m t Γ') (q : m = m') : JE X Γ e m' t Γ' := q ▸ h
theorem Fer.step {x : Exn} (fh : Ex F H) (fo : Dis F1 O') (f : Fer g F O H W σ x) (T : Trn F O H F1 O' H1) : Fer g F1 O' H1 W σ x := fun F' H' cls d T2 e r => f F' H' cls d (Trn.trans fh fo T T2) e r
theorem FiE.step (fh : Ex F H) (fo : Dis F1 O') {m : M ρ} {t : ρ → Sl} {Γ' : ρ → List Sl} {Q : VK} (f : FiE g F O H W σ m t Γ' Q) (T : Trn F O H F1 O' H1) : FiE g F1 O' H1 W σ m t Γ' Q := by
  cases m with
  | st => exact f
  | er x => exact Fer.step fh fo f T
  | ok r => exact fun F' O2 v H' S T2 => f F' O2 v H' S (Trn.trans fh fo T T2)
theorem FiE.bnd (fh : Ex F H) {m : M ρ1} {k : ρ1 → M ρ} {t : ρ → Sl} {Γ' : ρ → List Sl} {Q : VK} {t1 : ρ1 → Sl} {Γ1 : ρ1 → List Sl} (f : FiE g F O H W σ (Z.bnd m k) t Γ' Q) :
    FiE g F O H W σ m t1 Γ1 (fun v H1 => ∃ r F1 O1, m = .ok r ∧ Sat g F1 (t1 r :: Γ1 r) (some v :: σ) O1 H1 ∧ Trn F O H F1 O1 H1 ∧ FiE g F1 O1 H1 W σ (k r) t Γ' Q) := by
  cases m with
  | st => exact f
  | er x => exact f
  | ok r => exact fun F' O1 v H' S T => ⟨r, F', O1, rfl, S, T, FiE.step fh S.fo f T⟩
end
/-! ### how a block ends -/
inductive Out where
  /-- falls out at the end | returns t (and the state of slot 0) | break | continue | the end of a loop's turn | raises -/
  | nx (Γ : List Sl) | rt (t : Sl) (q : Option Sl) | bk (Γ : List Sl) | ct (Γ : List Sl) | lp (Γ : List Sl) | no
def OutOk (g : Gx) (F O H : Hp) (D : Ends) : Out → Prop
  | .nx Γ' => ∀ F' O' σ' H', Sat g F' Γ' σ' O' H' → Trn F O H F' O' H' → D.nx σ' H'
  | .rt t none => ∀ F' h v H', t.ok g F' (some v) h → Ex F' H' → Ex h H' → Dis F' h → Trn F O H F' h H' → D.rt v H'
  | .rt t (some s0) => ∀ F' h h0 v v0 H', t.ok g F' (some v) h → s0.ok g F' v0 h0 → Dis h h0 → Ex F' H' → Ex (uni h h0) H' → Dis F' (uni h h0) → Trn F O H F' (uni h h0) H' → D.rt v H'
  | .bk Γ' => ∀ F' O' σ' H', Sat g F' Γ' σ' O' H' → Trn F O H F' O' H' → D.bk σ' H'
  | .ct Γ' => ∀ F' O' σ' H', Sat g F' Γ' σ' O' H' → Trn F O H F' O' H' → D.ct σ' H'
  | .lp Γ' => ∀ F' O' σ' H', Sat g F' Γ' σ' O' H' → Trn F O H F' O' H' → D.nx σ' H' ∧ D.ct σ' H'
  | .no => False
/-- what is known of the slots where an error leaves -/
def SatV (g : Gx) (F : Hp) (Γx : List Sl) (σ : St) : Prop := ∀ (i : Nat) (d : D), Γx[i]? = some (Sl.va d) → ∃ w : V, σ[i]? = some (some w) ∧ Rep g F w d
def FerS (g : Gx) (F O H : Hp) (W : WX) (Γx : List Sl) (x : Exn) : Prop := ∀ F' H' cls d σ', Trn F O H F' emp H' → Ex F' H' → ExR g F' cls d x → SatV g F' Γx σ' → W cls d σ' H'
def FiS (g : Gx) (F O H : Hp) (W : WX) (D : Ends) (Γx : List Sl) {ζ : Type} (m : M ζ) (π : ζ → Out) : Prop := match m with
  | .st => False
  | .ok z => OutOk g F O H D (π z)
  | .er x => FerS g F O H W Γx x
/-- a block, and the blocks that wait behind it -/
def RBs (X : Cx) : List (List Stmt) → TS
  | [] => fun D σ H => D.nx σ H
  | b :: K => fun D σ H => RB X b { D with nx := fun σ' H' => RBs X K D σ' H' } σ H
def JG (X : Cx) (Γx Γ : List Sl) (sts : List (List Stmt)) {ζ : Type} (m : M ζ) (π : ζ → Out) : Prop :=
  ∀ (F O : Hp) (σ : St) (H : Hp) (D : Ends) (W : WX), Sat (gx X) F Γ σ O H → L2N.Takes X W → FiS (gx X) F O H W D Γx m π → RBs X sts D σ H
/-- some slots forgotten -/
inductive Wk : List Sl → List Sl → Prop
  | nil : Wk [] []
  | un {s : Sl} {a b : List Sl} : Wk a b → Wk (s :: a) (.un :: b)
  | same {s : Sl} {a b : List Sl} : Wk a b → Wk (s :: a) (s :: b)
inductive Sub : List Sl → List Sl → Prop
  | nil {a : List Sl} : Sub [] a
  | un {s : Sl} {a b : List Sl} : Sub a b → Sub (.un :: a) (s :: b)
  | same {s : Sl} {a b : List Sl} : Sub a b → Sub (s :: a) (s :: b)
section
variable {g : Gx} {F O H F' O' H' F1 O1 H1 h h1 : Hp} {W : WX} {σ σ' : St} {ρ ρ1 ρ2 ζ : Type} {Γ Γ' Γx : List Sl}
theorem SatL.weak : ∀ {Γ Γ' : List Sl} {σ : St} {O : Hp}, SatL g F Γ σ O → Wk Γ Γ' → ∃ O', SatL g F Γ' σ O' ∧ ∀ a o, O' a = some o → O a = some o
  | _, _, _, _, .nil, .nil => ⟨emp, .nil, fun _ _ e => e⟩
  | _, _, _, _, .cons (h := h) (O := O) a b c, .un k => by
    obtain ⟨O', s, m⟩ := SatL.weak b k
    exact ⟨O', .cons (s := .un) (h := emp) rfl s (dis_emp _), fun x o e => by
      have z := m x o e
      rw [uni_r ((c x).resolve_right (ne_none z))]; exact z⟩
  | _, _, _, _, .cons (h := h) (O := O) a b c, .same k => by
    obtain ⟨O', s, m⟩ := SatL.weak b k
    refine ⟨uni h O', .cons a s fun x => ?_, fun x o e => (of_uni e).elim (fun z => uni_l z) fun z => ?_⟩
    · cases e : O' x with
      | none => exact .inr rfl
      | some u => exact .inl ((c x).resolve_right (ne_none (m x u e)))
    · have y := m x o z
      rw [uni_r ((c x).resolve_right (ne_none y))]; exact y
theorem Sat.weak (S : Sat g F Γ σ O H) (k : Wk Γ Γ') : ∃ O', Sat g F Γ' σ O' H ∧ ∀ a o, O' a = some o → O a = some o := by
  obtain ⟨O', s, m⟩ := S.l.weak k
  exact ⟨O', ⟨s, S.fh, fun a o e => S.oh a o (m a o e), fun a => by
    cases e : O' a with
    | none => exact .inr rfl
    | some u => exact .inl ((S.fo a).resolve_right (ne_none (m a u e)))⟩, m⟩
theorem SatL.satV : ∀ {Γ Γx : List Sl} {σ : St} {O : Hp}, SatL g F Γ σ O → Sub Γx Γ → SatV g F Γx σ
  | _, _, _, _, _, .nil => fun i d e => by simp at e
  | _, _, _, _, .cons a b c, .un k => fun i d e => by
    cases i with
    | zero => simp at e
    | succ i => simpa using SatL.satV b k i d (by simpa using e)
  | _, _, _, _, .cons a b c, .same k => fun i d e => by
    cases i with
    | zero =>
      simp at e; subst e
      obtain ⟨_, w, q, r⟩ := a
      exact ⟨w, by simp [q], r⟩
    | succ i => simpa using SatL.satV b k i d (by simpa using e)
theorem SatV.mono (e : Ex F F') (s : SatV g F Γx σ) : SatV g F' Γx σ := fun i d q => by
  obtain ⟨w, a, r⟩ := s i d q
  exact ⟨w, a, r.mono e⟩
theorem FerS.fer {x : Exn} (f : FerS g F O H W Γx x) (S : SatV g F Γx σ) : Fer g F O H W σ x := fun F' H' cls d T e r => f F' H' cls d σ T e r (S.mono T.ff)
theorem FerS.step {x : Exn} (fh : Ex F H) (fo : Dis F1 O') (f : FerS g F O H W Γx x) (T : Trn F O H F1 O' H1) : FerS g F1 O' H1 W Γx x := fun F' H' cls d σ T2 e r => f F' H' cls d σ (Trn.trans fh fo T T2) e r
theorem OutOk.step {D : Ends} (fh : Ex F H) (fo : Dis F1 O') (T : Trn F O H F1 O' H1) : ∀ {o : Out}, OutOk g F O H D o → OutOk g F1 O' H1 D o
  | .nx _, f => fun F' O2 σ' H' S T2 => f F' O2 σ' H' S (Trn.trans fh fo T T2)
  | .rt _ none, f => fun F' h v H' a b c d T2 => f F' h v H' a b c d (Trn.trans fh fo T T2)
  | .rt _ (some _), f => fun F' h h0 v v0 H' a a0 d0 b c d T2 => f F' h h0 v v0 H' a a0 d0 b c d (Trn.trans fh fo T T2)
  | .bk _, f => fun F' O2 σ' H' S T2 => f F' O2 σ' H' S (Trn.trans fh fo T T2)
  | .ct _, f => fun F' O2 σ' H' S T2 => f F' O2 σ' H' S (Trn.trans fh fo T T2)
  | .lp _, f => fun F' O2 σ' H' S T2 => f F' O2 σ' H' S (Trn.trans fh fo T T2)
  | .no, f => f
theorem FiS.step {D : Ends} (fh : Ex F H) (fo : Dis F1 O') {m : M ζ} {π : ζ → Out} (f : FiS g F O H W D Γx m π) (T : Trn F O H F1 O' H1) : FiS g F1 O' H1 W D Γx m π := by
  cases m with
  | st => exact f
  | er x => exact FerS.step fh fo f T
  | ok z => exact OutOk.step fh fo T f
theorem Trn.lessO (a : Trn F O H F' O' H') (fh : Ex F H) {O2 : Hp} (m : ∀ x o, O2 x = some o → O' x = some o) : Trn F O H F' O2 H' := a.less m
/-- an expression, then the rest -/
theorem FiS.bnd {D : Ends} (S : Sat g F Γ σ O H) (hx : Sub Γx Γ) {m : M ρ} {k : ρ → M ζ} {π : ζ → Out} {t : ρ → Sl} {Γ1 : ρ → List Sl} (f : FiS g F O H W D Γx (Z.bnd m k) π) :
    FiE g F O H W σ m t Γ1 (fun v H1 => ∃ r F1 O1, m = .ok r ∧ Sat g F1 (t r :: Γ1 r) (some v :: σ) O1 H1 ∧ Trn F O H F1 O1 H1 ∧ FiS g F1 O1 H1 W D Γx (k r) π) := by
  cases m with
  | st => exact f
  | er x => exact FerS.fer f (S.l.satV hx)
  | ok r => exact fun F' O1 v H' S1 T => ⟨r, F', O1, rfl, S1, T, FiS.step S.fh S1.fo f T⟩
end
section
variable {X : Cx} {Γ Γx : List Sl} {e a b c : Expr} {es : List Expr} {pos pos' : Pos} {ρ ρ1 ρ2 ζ ζ1 α β : Type} {m : M ρ} {t : ρ → Sl} {Γ1 : ρ → List Sl} {π : ζ → Out} {k : ρ → M ζ} {st : Stmt} {rest : List Stmt} {K sts : List (List Stmt)}
theorem JG.cast {m m' : M ζ} (h : JG X Γx Γ sts m π) (q : m = m') : JG X Γx Γ sts m' π := q ▸ h
/-! ### ends -/
theorem js_pop {m : M ζ} (h : JG X Γx Γ K m π) : JG X Γx Γ ([] :: K) m π := fun F O σ H D W S tk f => RB.of pss_nil (h F O σ H D W S tk f)
theorem js_end {z : ζ} {Γ' : List Sl} (hw : Wk Γ Γ') (hπ : π z = .nx Γ' := by rfl) : JG X Γx Γ [] (.ok z) π := fun F O σ H D W S tk f => by
  have f : OutOk (gx X) F O H D (π z) := f
  rw [hπ] at f
  obtain ⟨O', S', mm⟩ := S.weak hw
  exact f F O' σ H S' (Trn.refl.less mm)
theorem js_lp {z : ζ} {Γ' : List Sl} (hw : Wk Γ Γ') (hπ : π z = .lp Γ' := by rfl) : JG X Γx Γ [] (.ok z) π := fun F O σ H D W S tk f => by
  have f : OutOk (gx X) F O H D (π z) := f
  rw [hπ] at f
  obtain ⟨O', S', mm⟩ := S.weak hw
  exact (f F O' σ H S' (Trn.refl.less mm)).1
theorem js_cont {z : ζ} {Γ' : List Sl} (hw : Wk Γ Γ') (hπ : π z = .lp Γ' := by rfl) : JG X Γx Γ ((.Continue pos :: rest) :: K) (.ok z) π := fun F O σ H D W S tk f => by
  have f : OutOk (gx X) F O H D (π z) := f
  rw [hπ] at f
  obtain ⟨O', S', mm⟩ := S.weak hw
  exact RB.of (pss_cons ps_continue pssR) (f F O' σ H S' (Trn.refl.less mm)).2
theorem js_cont' {z : ζ} {Γ' : List Sl} (hw : Wk Γ Γ') (hπ : π z = .ct Γ' := by rfl) : JG X Γx Γ ((.Continue pos :: rest) :: K) (.ok z) π := fun F O σ H D W S tk f => by
  have f : OutOk (gx X) F O H D (π z) := f
  rw [hπ] at f
  obtain ⟨O', S', mm⟩ := S.weak hw
  exact RB.of (pss_cons ps_continue pssR) (f F O' σ H S' (Trn.refl.less mm))
theorem js_brk {z : ζ} {Γ' : List Sl} (hw : Wk Γ Γ') (hπ : π z = .bk Γ' := by rfl) : JG X Γx Γ ((.Break pos :: rest) :: K) (.ok z) π := fun F O σ H D W S tk f => by
  have f : OutOk (gx X) F O H D (π z) := f
  rw [hπ] at f
  obtain ⟨O', S', mm⟩ := S.weak hw
  exact RB.of (pss_cons ps_break pssR) (f F O' σ H S' (Trn.refl.less mm))
theorem js_pass {m : M ζ} (h : JG X Γx Γ (rest :: K) m π) : JG X Γx Γ ((.Pass pos :: rest) :: K) m π := fun F O σ H D W S tk f => RB.of (pss_cons ps_pass pssR) (h F O σ H D W S tk f)
/-- the seam of a statement's expression and what follows -/
theorem seam {F O H : Hp} {σ : St} {W : WX} {D : Ends} {Q : VK} (S : Sat (gx X) F Γ σ O H) (hx : Sub Γx Γ) (tk : L2N.Takes X W) (h : JE X Γ e m t Γ1) (f : FiS (gx X) F O H W D Γx (bnd m k) π)
    (g : ∀ r F1 O1 v H1, m = .ok r → Sat (gx X) F1 (t r :: Γ1 r) (some v :: σ) O1 H1 → FiS (gx X) F1 O1 H1 W D Γx (k r) π → Q v H1) : RE X e σ H Q := h F O σ H _ W S tk (by
  have f1 := f.bnd S hx (t := t) (Γ1 := Γ1)
  revert f1 g
  cases m with
  | st => exact fun _ z => z
  | er x => exact fun _ z => z
  | ok r =>
    intro g f1 F1 O1 v H1 S1 T1
    obtain ⟨r', F1, O1, e, S1, T1, f2⟩ := f1 F1 O1 v H1 S1 T1
    cases e
    exact g r F1 O1 v H1 rfl S1 f2)
/-- return e, nothing of ours handed back -/
theorem js_ret (f0 : ρ → ζ) (h : JE X Γ e m t Γ1) (hπ : ∀ r, π (f0 r) = .rt (t r) none := by intro _; rfl) (hx : Sub Γx Γ := by exact Sub.nil) : JG X Γx Γ ((.Return (some e) pos :: rest) :: K) (bnd m fun r => .ok (f0 r)) π := fun F O σ H D W S tk f =>
  RB.of (pss_cons (ps_ret peR) pssR) (seam S hx tk h f fun r F1 O1 v H1 _ S1 f2 => by
    have f2 : OutOk (gx X) F1 O1 H1 D (π (f0 r)) := f2
    rw [hπ r] at f2
    obtain ⟨h0, O2, k0, d0, e0, S2⟩ := S1.tail
    subst e0
    exact f2 F1 h0 v H1 k0 S1.fh (fun a o q => S1.oh a o (uni_l q)) (fun a => (S1.fo a).imp_right fun z => by
      cases q : h0 a with
      | none => rfl
      | some u => rw [uni_l q] at z; cases z) (Trn.refl.less fun a o q => uni_l q))
/-- the same in a block that only returns -/
theorem js_ret' (h : JE X Γ e m t Γ1) {π : ρ → Out} (hπ : ∀ r, π r = .rt (t r) none := by intro _; rfl) (hx : Sub Γx Γ := by exact Sub.nil) : JG X Γx Γ ((.Return (some e) pos :: rest) :: K) m π :=
  (js_ret id h hπ hx).cast (by cases m <;> rfl)
theorem js_retO (f0 : ρ → ζ) (s0 : ρ → Sl) (h : JE X Γ e m t Γ1) (hs : ∀ r, (Γ1 r)[0]? = some (s0 r) := by intro _; rfl) (hπ : ∀ r, π (f0 r) = .rt (t r) (some (s0 r)) := by intro _; rfl) (hx : Sub Γx Γ := by exact Sub.nil) : JG X Γx Γ ((.Return (some e) pos :: rest) :: K) (bnd m fun r => .ok (f0 r)) π := fun F O σ H D W S tk f =>
  RB.of (pss_cons (ps_ret peR) pssR) (seam S hx tk h f fun r F1 O1 v H1 _ S1 f2 => by
    have f2 : OutOk (gx X) F1 O1 H1 D (π (f0 r)) := f2
    rw [hπ r] at f2
    obtain ⟨h0, O2, k0, d0, e0, S2⟩ := S1.tail
    subst e0
    have hs := hs r
    revert hs S2
    cases Γ1 r with
    | nil => intro S2 hs; simp at hs
    | cons s Γr =>
      intro S2 hs
      simp at hs
      subst hs
      have hl := S2.l.len
      cases σ with
      | nil => simp at hl
      | cons v0 σr =>
        obtain ⟨h2, O3, k2, d2, e2, S3⟩ := S2.tail
        subst e2
        have mm : ∀ a o, uni h0 h2 a = some o → uni h0 (uni h2 O3) a = some o := fun a o q => (of_uni q).elim (fun z => uni_l z) fun z => by
          rw [uni_r ((d0 a).resolve_right (ne_none (uni_l z)))]; exact uni_l z
        exact f2 F1 h0 h2 v v0 H1 k0 k2 (fun a => (d0 a).imp_right fun z => by
          cases q : h2 a with
          | none => rfl
          | some u => rw [uni_l q] at z; cases z) S1.fh (fun a o q => S1.oh a o (mm a o q)) (fun a => by
          cases q : uni h0 h2 a with
          | none => exact .inr rfl
          | some u => exact .inl ((S1.fo a).resolve_right (ne_none (mm a u q)))) (Trn.refl.less mm))
/-! ### assignments -/
theorem satSet {g : Gx} {F O H : Hp} {Γ : List Sl} {σ : St} {s : Sl} {v : V} {i : Nat} (S : Sat g F (s :: Γ) (some v :: σ) O H) : ∃ O', Sat g F (Γ.set i s) (σ.set i (some v)) O' H ∧ ∀ a o, O' a = some o → O a = some o := by
  obtain ⟨h, O1, k, d, e, S1⟩ := S.tail
  subst e
  obtain ⟨O2, l2, m2⟩ := S1.l.set i k d
  have mm : ∀ a o, O2 a = some o → uni h O1 a = some o := fun a o q => (m2 a o q).elim (fun z => uni_l z) fun z => by
    rw [uni_r ((d a).resolve_right (ne_none z))]; exact z
  exact ⟨O2, ⟨l2, S.fh, fun a o q => S.oh a o (mm a o q), fun a => by
    cases q : O2 a with
    | none => exact .inr rfl
    | some u => exact .inl ((S.fo a).resolve_right (ne_none (mm a u q)))⟩, mm⟩
theorem js_set (i : Nat) {x : Str} (Γ2 : ρ → List Sl) (h : JE X Γ e m t Γ1) (h2 : ∀ r, JG X Γx (Γ2 r) (rest :: K) (k r) π) (hN : X.N.Nodup) (hΓ : ∀ r, Γ2 r = (Γ1 r).set i (t r) := by intro _; rfl) (hi : X.N[i]? = some x := by rfl)
    (hl : Loc X.env.scope x := by first | exact Or.inl rfl | exact Or.inr rfl) (hs : swapsWith e (some (.Name x pos')) pos.line X.env = pure false := by rfl)
    (hf : X.fn x = true ∨ X.env.scope.names.lookup x = some .local := by first | exact .inl rfl | exact .inr rfl) (hx : Sub Γx Γ := by exact Sub.nil) :
    JG X Γx Γ ((.Assign [.Name x pos'] e pos :: rest) :: K) (bnd m k) π := fun F O σ H D W S tk f =>
  RB.of (pss_cons (ps_set hN hi hl peR hs hf) pssR) (seam S hx tk h f fun r F1 O1 v H1 _ S1 f2 => by
    obtain ⟨O2, S2, mm⟩ := satSet (i := i) S1
    rw [← hΓ r] at S2
    exact h2 r F1 O2 _ H1 D W S2 tk (FiS.step S1.fh S2.fo f2 (Trn.refl.less mm)))
theorem js_expr (h : JE X Γ e m t Γ1) (h2 : ∀ r, JG X Γx (Γ1 r) (rest :: K) (k r) π) (hx : Sub Γx Γ := by exact Sub.nil) (hs : swapsWith e none pos.line X.env = pure false := by rfl) : JG X Γx Γ ((.Expr e pos :: rest) :: K) (bnd m k) π := fun F O σ H D W S tk f =>
  RB.of (pss_cons (ps_expr peR hs) pssR) (seam S hx tk h f fun r F1 O1 v H1 _ S1 f2 => by
    obtain ⟨h0, O2, k0, d0, e0, S2⟩ := S1.tail
    subst e0
    exact h2 r F1 O2 σ H1 D W S2 tk (FiS.step S1.fh S2.fo f2 (Trn.refl.less fun a o q => by
      rw [uni_r ((d0 a).resolve_right (ne_none q))]; exact q)))
/-! ### if -/
/-- a test, with what it may change -/
def FiTE (g : Gx) (F O H : Hp) (W : WX) (σ : St) (m : M ρ) (bb : ρ → Bool) (Γ' : ρ → List Sl) (Q : Bool → Hp → Prop) : Prop := match m with
  | .st => False
  | .ok r => ∀ F' O' H', Sat g F' (Γ' r) σ O' H' → Trn F O H F' O' H' → Q (bb r) H'
  | .er x => Fer g F O H W σ x
def JTE (X : Cx) (Γ : List Sl) (e : Expr) (m : M ρ) (bb : ρ → Bool) (Γ' : ρ → List Sl) : Prop :=
  ∀ (F O : Hp) (σ : St) (H : Hp) (Q : Bool → Hp → Prop) (W : WX), Sat (gx X) F Γ σ O H → L2N.Takes X W → FiTE (gx X) F O H W σ m bb Γ' Q → RT X e σ H Q
theorem JT.jte {mb : M Bool} (h : JT X Γ e mb) : JTE X Γ e mb (fun x => x) (fun _ => Γ) := fun F O σ H Q W S tk f => h F O σ H Q W S tk (by
  cases mb with
  | st => exact f
  | er x => exact f
  | ok x => exact fun F' H' G => f F' _ H' (S.grow G) (G.trnO S))
theorem JTE.of_val (h : JE X Γ e m (fun r => .va (.bl (bb r))) Γ1) (he : ∀ whole, isTrue e X.env whole = (do let v ← whole; standAt e.pos; holding [v] (truthy v)) := by intro _; rfl) : JTE X Γ e m bb Γ1 := fun F O σ H Q W S tk f =>
  RT.of (pt_val peR he) (h F O σ H _ W S tk (by
    cases m with
    | st => exact f
    | er x => exact f
    | ok x =>
      intro F' O' v H' S' T
      obtain ⟨h0, O2, k0, d0, e0, S2⟩ := S'.tail
      obtain ⟨eh, r⟩ := Sl.va_of k0
      subst eh; subst e0
      exact ⟨bb x, r.bl_of, f F' O2 H' S2 T⟩))
theorem seamT {F O H : Hp} {σ : St} {W : WX} {D : Ends} {Q : Bool → Hp → Prop} {bb : ρ → Bool} (S : Sat (gx X) F Γ σ O H) (hx : Sub Γx Γ) (tk : L2N.Takes X W) (h : JTE X Γ e m bb Γ1) (f : FiS (gx X) F O H W D Γx (bnd m k) π)
    (g : ∀ r F1 O1 H1, m = .ok r → Sat (gx X) F1 (Γ1 r) σ O1 H1 → FiS (gx X) F1 O1 H1 W D Γx (k r) π → Q (bb r) H1) : RT X e σ H Q := h F O σ H _ W S tk (by
  revert f g
  cases m with
  | st => exact fun z _ => z
  | er x => exact fun z _ => FerS.fer z (S.l.satV hx)
  | ok r => exact fun f g F1 O1 H1 S1 T1 => g r F1 O1 H1 rfl S1 (FiS.step S.fh S1.fo f T1))
/-- both ways go on with what waits -/
theorem js_if {bb : ρ → Bool} {A B : List Stmt} {mA mB : ρ → M ζ} (hc : JTE X Γ c m bb Γ1) (hA : ∀ r, JG X Γx (Γ1 r) (A :: rest :: K) (mA r) π) (hB : ∀ r, JG X Γx (Γ1 r) (B :: rest :: K) (mB r) π) (hx : Sub Γx Γ := by exact Sub.nil) :
    JG X Γx Γ ((.If c A B pos :: rest) :: K) (bnd m fun r => if bb r then mA r else mB r) π := fun F O σ H D W S tk f =>
  RB.of (pss_cons (ps_if ptR pssR pssR) pssR) (seamT S hx tk hc f fun r F1 O1 H1 _ S1 f2 => by
    revert f2
    cases hb : bb r with
    | true => exact fun f2 => hA r F1 O1 σ H1 D W S1 tk f2
    | false => exact fun f2 => hB r F1 O1 σ H1 D W S1 tk f2)
/-- what leaves a part of a block -/
def Out.thru : Out → Out
  | .nx _ => .no
  | .lp Γ => .ct Γ
  | o => o
/-- a part of a block: it falls out with s, or it leaves -/
inductive Pt (S ζ : Type) where
  | go (s : S) | dn (z : ζ)
def Pt.out {S ζ : Type} (Γ : S → List Sl) (πd : ζ → Out) : Pt S ζ → Out
  | .go s => .nx (Γ s)
  | .dn z => πd z
def Pt.to {S ζd ζ : Type} (j : ζd → ζ) (k : S → M ζ) : Pt S ζd → M ζ
  | .go s => k s
  | .dn z => .ok (j z)
theorem OutOk.thru {g : Gx} {F O H : Hp} {D D' : Ends} (h1 : D'.rt = D.rt) (h2 : D'.bk = D.bk) (h3 : D'.ct = D.ct) : ∀ {o : Out}, o.thru ≠ .no → OutOk g F O H D o → OutOk g F O H D' o.thru
  | .nx _, z, f => absurd rfl z
  | .rt _ none, _, f => fun F' h v H' a b c d T => by rw [h1]; exact f F' h v H' a b c d T
  | .rt _ (some _), _, f => fun F' h h0 v v0 H' a a0 d0 b c d T => by rw [h1]; exact f F' h h0 v v0 H' a a0 d0 b c d T
  | .bk _, _, f => fun F' O' σ' H' S T => by rw [h2]; exact f F' O' σ' H' S T
  | .ct _, _, f => fun F' O' σ' H' S T => by rw [h3]; exact f F' O' σ' H' S T
  | .lp _, _, f => fun F' O' σ' H' S T => by rw [h3]; exact (f F' O' σ' H' S T).2
  | .no, z, f => absurd rfl z
end
end Z
namespace Z
open PySem PySem.Spec L2
section
variable {X : Cx} {Γ Γx : List Sl} {e a b c : Expr} {pos : Pos} {ζ : Type} {π : ζ → Out} {sts : List (List Stmt)}
/-- a slot's object is frozen: nothing is run -/
theorem Sat.frz {g : Gx} {F O H : Hp} {Γ : List Sl} {σ : St} {i : Nat} {q : Option Addr} {d : D} (S : Sat g F Γ σ O H) (hi : Γ[i]? = some (.ow q d)) :
    ∃ F2 O2, Sat g F2 (Γ.set i (.va d)) σ O2 H ∧ Trn F O H F2 O2 H ∧ (∀ a, O2 a ≠ none → O a ≠ none) := by
  obtain ⟨a, o, O1, e1, r, _, n1, eO, _, put⟩ := S.l.own hi
  subst eO
  have hF : F a = none := (S.fo a).resolve_right (ne_none (uni_l sg_self))
  have e : Ex F (uni (sg a o) F) := fun b u q => by
    by_cases hb : b = a
    · subst hb; rw [hF] at q; cases q
    · rw [uni_r (sg_ne hb)]; exact q
  have hg : (uni (sg a o) F) a = some o := uni_l sg_self
  have O1n : ∀ y u, O1 y = some u → uni (sg a o) O1 y = some u := fun y u z => by
    by_cases hy : y = a
    · subst hy; rw [n1] at z; cases z
    · rw [uni_r (sg_ne hy)]; exact z
  have ha : H a = some o := S.oh a o (uni_l sg_self)
  refine ⟨uni (sg a o) F, O1, ⟨put emp (.va d) _ e ⟨rfl, _, rfl, r.rep e hg⟩ fun _ _ => rfl, fun b u q => ?_, fun b u q => S.oh b u (O1n b u q), fun b => ?_⟩, ⟨e, fun _ _ z _ => z, fun b h1 h2 h3 => ?_⟩, fun b z => ?_⟩
  · rcases of_uni q with z | z
    · obtain ⟨z1, z2⟩ := of_sg z
      rw [z1, z2]; exact ha
    · exact S.fh b u z
  · by_cases hb : b = a
    · subst hb; exact .inr n1
    · rw [uni_r (sg_ne hb)]
      have := S.fo b
      rw [uni_r (sg_ne hb)] at this
      exact this
  · by_cases hb : b = a
    · subst hb; exact absurd h3 (ne_none (uni_l sg_self))
    · rw [uni_r (sg_ne hb)] at h3 ⊢
      exact ⟨h2, h3⟩
  · obtain ⟨u, hu⟩ := some_of z
    exact ne_none (O1n b u hu)
theorem js_frz (i : Nat) {q : Option Addr} {d : D} (Γ2 : List Sl) {m : M ζ} (h : JG X Γx Γ2 sts m π) (hi : Γ[i]? = some (.ow q d) := by rfl) (hΓ : Γ2 = Γ.set i (.va d) := by rfl) : JG X Γx Γ sts m π := fun F O σ H D W S tk f => by
  obtain ⟨F2, O2, S2, T, _⟩ := S.frz hi
  subst hΓ
  exact h F2 O2 σ H D W S2 tk (FiS.step S.fh S2.fo f T)
/-- .. as it is read -/
theorem je_frz (i : Nat) {x : Str} {q : Option Addr} {d : D} (hi : Γ[i]? = some (.ow q d) := by rfl) (hN : X.N[i]? = some x := by rfl) (hv : Vis X.env.scope x := by first | exact Or.inl rfl | exact Or.inr (Or.inl rfl) | exact Or.inr (Or.inr rfl)) (hd : (x == ("__debug__" : Str)) = false := by decide)
    (hcd : (x == ("__classdict__" : Str)) = false := by decide) : JE X Γ (.Name x pos) (.ok ()) (fun _ => .va d) (fun _ => Γ.set i (.va d)) := fun F O σ H Q W S tk f => by
  obtain ⟨F2, O2, S2, T, _⟩ := S.frz hi
  have hlt : i < Γ.length := (List.getElem?_eq_some_iff.mp hi).1
  obtain ⟨w, e, r⟩ := S2.get (i := i) (d := d) (by rw [List.getElem?_set_self hlt])
  have S3 : Sat (gx X) F2 (.va d :: Γ.set i (.va d)) (some w :: σ) (uni emp O2) H := ⟨.cons ⟨rfl, w, rfl, r⟩ S2.l (dis_emp _), S2.fh, S2.oh, S2.fo⟩
  exact RE.of (pe_var hN hv hd hcd) ⟨w, e, f F2 _ w H S3 T⟩
/-- what is new is frozen -/
theorem Grow.frz {g : Gx} {F O H F' h H' : Hp} {a : Addr} {o : HO} (G : Grow F H F' (sg a o) H') : Grow F H (uni (sg a o) F') emp H' := by
  obtain ⟨n1, n2, n3⟩ := G.nh a o sg_self
  have e : Ex F' (uni (sg a o) F') := fun b u q => by
    by_cases hb : b = a
    · subst hb; rw [n3] at q; cases q
    · rw [uni_r (sg_ne hb)]; exact q
  refine ⟨G.ff.trans e, G.hh, fun b u q => ?_, fun _ _ z => (by cases z), fun b h1 h2 => ?_⟩
  · rcases of_uni q with z | z
    · obtain ⟨z1, z2⟩ := of_sg z
      rw [z1, z2]; exact n2
    · exact G.fh b u z
  · by_cases hb : b = a
    · subst hb; exact absurd n1 h1
    · rw [uni_r (sg_ne hb)]; exact G.nf b h1 h2
theorem jp_frz {X : Cx} {Γ : List Sl} {e : Expr} {ρ : Type} {m : M ρ} {d : ρ → D} (h : JP X Γ e m (fun r => .ow none (d r))) : JP X Γ e m (fun r => .va (d r)) := fun F O σ H Q W S tk f => h F O σ H Q W S tk (by
  cases m with
  | st => exact f
  | er x => exact f
  | ok r =>
    intro F' h v H' G k
    obtain ⟨a, o, ev, eh, ow, _⟩ := k
    cases ev; subst eh
    have e : Ex F' (uni (sg a o) F') := fun b u q => by
      by_cases hb : b = a
      · subst hb; have := (G.nh b o sg_self).2.2; rw [this] at q; cases q
      · rw [uni_r (sg_ne hb)]; exact q
    exact f (uni (sg a o) F') emp (.ref a) H' (Grow.frz (g := gx X) (O := O) (h := emp) G) ⟨rfl, _, rfl, ow.rep e (uni_l sg_self)⟩)
end
end Z
set_option Elab.async false
set_option linter.all false
set_option maxRecDepth 100000
set_option maxHeartbeats 4000000
namespace Z
open PySem PySem.Spec L2
section
variable {X : Cx} {Γ Γx : List Sl} {e a b c : Expr} {es : List Expr} {pos pos' : Pos} {ρ ρ1 ρ2 ζ ζd α β S : Type} {m : M ρ} {t : ρ → Sl} {Γ1 : ρ → List Sl} {π : ζ → Out} {πd : ζd → Out} {k : ρ → M ζ} {st : Stmt} {rest : List Stmt} {K sts : List (List Stmt)}
/-! ### one statement by itself, then the rest -/
def JS (X : Cx) (Γx Γ : List Sl) (st : Stmt) {ζ : Type} (m : M ζ) (π : ζ → Out) : Prop :=
  ∀ (F O : Hp) (σ : St) (H : Hp) (D : Ends) (W : WX), Sat (gx X) F Γ σ O H → L2N.Takes X W → FiS (gx X) F O H W D Γx m π → RS X st D σ H
theorem js_cut1 (ΓJ : S → List Sl) {mA : M S} {kk : S → M ζ} (hs : JS X Γx Γ st mA (fun s => .nx (ΓJ s))) (hr : ∀ s, JG X Γx (ΓJ s) (rest :: K) (kk s) π) : JG X Γx Γ ((st :: rest) :: K) (bnd mA kk) π := fun F O σ H D W S tk f =>
  RB.of (pss_cons psR pssR) (hs F O σ H _ W S tk (by
    revert f
    cases mA with
    | st => exact id
    | er x => exact id
    | ok s => exact fun f F' O' σ' H' S' T => hr s F' O' σ' H' D W S' tk (FiS.step S.fh S'.fo f T)))
theorem js_cut (j : ζd → ζ) (ΓJ : S → List Sl) {mA : M (Pt S ζd)} {kk : S → M ζ} (hs : JS X Γx Γ st mA (Pt.out ΓJ πd)) (hr : ∀ s, JG X Γx (ΓJ s) (rest :: K) (kk s) π) (hj : ∀ z, πd z = (π (j z)).thru := by intro _; rfl)
    (hn : ∀ z, (π (j z)).thru ≠ .no := by intro _ h; cases h) : JG X Γx Γ ((st :: rest) :: K) (bnd mA (Pt.to j kk)) π := fun F O σ H D W S tk f =>
  RB.of (pss_cons psR pssR) (hs F O σ H _ W S tk (by
    revert f
    cases mA with
    | st => exact id
    | er x => exact id
    | ok s =>
      cases s with
      | go s => exact fun f F' O' σ' H' S' T => hr s F' O' σ' H' D W S' tk (FiS.step S.fh S'.fo f T)
      | dn z =>
        intro f
        have f : OutOk (gx X) F O H D (π (j z)) := f
        show OutOk _ _ _ _ _ (πd z)
        rw [hj z]
        refine OutOk.thru (D := D) ?_ ?_ ?_ (hn z) f <;> rfl))
theorem js_ifj {bb : ρ → Bool} {A B : List Stmt} {mA mB : ρ → M ζ} (hc : JTE X Γ c m bb Γ1) (hA : ∀ r, JG X Γx (Γ1 r) [A] (mA r) π) (hB : ∀ r, JG X Γx (Γ1 r) [B] (mB r) π) (hx : Sub Γx Γ := by exact Sub.nil) :
    JS X Γx Γ (.If c A B pos) (bnd m fun r => if bb r then mA r else mB r) π := fun F O σ H D W S tk f =>
  RS.of (ps_if ptR pssR pssR) (seamT S hx tk hc f fun r F1 O1 H1 _ S1 f2 => by
    revert f2
    cases hb : bb r with
    | true => exact fun f2 => hA r F1 O1 σ H1 D W S1 tk f2
    | false => exact fun f2 => hB r F1 O1 σ H1 D W S1 tk f2)
/-! ### targets -/
def TgOk (g : Gx) (t : TG) (Γ : List Sl) (d : D) (Γ' : List Sl) : Prop := ∀ (F O : Hp) (σ : L2.St) (H : Hp) (v : V) (Q : L2.St → Hp → Prop), Sat g F Γ σ O H → Rep g F v d →
  (∀ O' σ', Sat g F Γ' σ' O' H → (∀ a o, O' a = some o → O a = some o) → Q σ' H) → t v σ H Q
def TgsOk (g : Gx) (t : TGs) (Γ : List Sl) (ds : List D) (Γ' : List Sl) : Prop := ∀ (F O : Hp) (σ : L2.St) (H : Hp) (vs : List V) (Q : L2.St → Hp → Prop), Sat g F Γ σ O H → Reps g F vs ds →
  (∀ O' σ', Sat g F Γ' σ' O' H → (∀ a o, O' a = some o → O a = some o) → Q σ' H) → t vs σ H Q
theorem tg_name (g : Gx) (i : Nat) {d : D} : TgOk g (gName i) Γ d (Γ.set i (.va d)) := fun F O σ H v Q S r q => by
  obtain ⟨O', S', mm⟩ := satSet (i := i) (s := .va d) (v := v) (O := uni emp O) (F := F) (H := H) ⟨.cons ⟨rfl, v, rfl, r⟩ S.l (dis_emp _), S.fh, S.oh, S.fo⟩
  exact q O' _ S' mm
theorem tgs_nil (g : Gx) : TgsOk g gNil Γ [] Γ := fun F O σ H vs Q S r q => by
  cases r
  exact ⟨rfl, q O σ S fun _ _ e => e⟩
theorem tgs_cons (g : Gx) {t : TG} {u : TGs} {d : D} {ds : List D} {Γ2 Γ3 : List Sl} (h1 : TgOk g t Γ d Γ2) (h2 : TgsOk g u Γ2 ds Γ3) : TgsOk g (gCons t u) Γ (d :: ds) Γ3 := fun F O σ H vs Q S r q => by
  cases r with
  | cons rv rr =>
    exact ⟨_, _, rfl, h1 F O σ H _ _ S rv fun O' σ' S' mm => h2 F O' σ' H _ Q S' rr fun O2 σ2 S2 m2 => q O2 σ2 S2 fun a o e => mm a o (m2 a o e)⟩
theorem tg_tup (g : Gx) {t : TGs} {n : Nat} {ds : List D} {Γ2 : List Sl} (h : TgsOk g t Γ ds Γ2) (hn : ds.length = n := by rfl) : TgOk g (gTup g.K n t) Γ (.tup ds) Γ2 := fun F O σ H v Q S r q => by
  obtain ⟨a, vs, rfl, sq, rs⟩ := r.tup_of
  exact ⟨a, vs, rfl, S.fh.sq sq, by rw [rs.length, hn], h F O σ H vs Q S rs q⟩
theorem tg_lst (g : Gx) {t : TGs} {n : Nat} {ds : List D} {Γ2 : List Sl} (h : TgsOk g t Γ ds Γ2) (hn : ds.length = n := by rfl) : TgOk g (gLst g.K n t) Γ (.lst ds) Γ2 := fun F O σ H v Q S r q => by
  obtain ⟨a, vs, rfl, sq, rs⟩ := r.lst_of
  exact ⟨a, vs, rfl, SqL.of (S.fh _ _ sq), by rw [rs.length, hn], h F O σ H vs Q S rs q⟩
/-- (a, b, ..) = e -/
theorem js_unp {tg : Expr} {g : TG} {d : ρ → D} {Γ2 : ρ → List Sl} (h : JE X Γ e m (fun r => .va (d r)) Γ1) (hg : PG X tg g) (hT : ∀ r, TgOk (gx X) g (Γ1 r) (d r) (Γ2 r)) (h2 : ∀ r, JG X Γx (Γ2 r) (rest :: K) (k r) π)
    (hs : swapsWithSole [tg] e pos.line X.env = pure false := by rfl) (hw : swappedStores [tg] e X.env = pure none := by rfl) (h1 : (assignEach [tg] X.env).map (·.2) = [assign tg X.env] := by rfl) (hx : Sub Γx Γ := by exact Sub.nil) :
    JG X Γx Γ ((.Assign [tg] e pos :: rest) :: K) (bnd m k) π := fun F O σ H D W S tk f =>
  RB.of (pss_cons (ps_asg peR hg hs hw h1) pssR) (seam S hx tk h f fun r F1 O1 v H1 _ S1 f2 => by
    obtain ⟨h0, O2, k0, d0, e0, S2⟩ := S1.tail
    obtain ⟨eh, rv⟩ := Sl.va_of k0
    subst eh; subst e0
    exact hT r F1 O2 σ H1 v _ S2 rv fun O' σ' S' mm => h2 r F1 O' σ' H1 D W S' tk (FiS.step S1.fh S'.fo f2 (Trn.refl.less mm)))
/-! ### loops -/
def forN {S α : Type} : List α → S → (S → α → M S) → M S
  | [], s, _ => .ok s
  | a :: l, s, f => bnd (f s a) fun s' => forN l s' f
inductive Lo (S ζ : Type) where
  | go (s : S) | br (s : S) | dn (z : ζ)
def Lo.out {S ζ : Type} (Γ : S → List Sl) (πd : ζ → Out) : Lo S ζ → Out
  | .go s => .lp (Γ s)
  | .br s => .bk (Γ s)
  | .dn z => πd z
def Lo.nxt {S ζ : Type} (k : S → M (Pt S ζ)) : Lo S ζ → M (Pt S ζ)
  | .go s => k s
  | .br s => .ok (.go s)
  | .dn z => .ok (.dn z)
def forR {S α ζ : Type} : List α → S → (S → α → M (Lo S ζ)) → M (Pt S ζ)
  | [], s, _ => .ok (.go s)
  | a :: l, s, f => bnd (f s a) (Lo.nxt fun s' => forR l s' f)
def whileN {S : Type} : Nat → S → (S → M Bool) → (S → M S) → M S
  | 0, _, _, _ => .st
  | n + 1, s, c, b => bnd (c s) fun x => if x then bnd (b s) fun s' => whileN n s' c b else .ok s
def whileR {S ζ : Type} : Nat → S → (S → M Bool) → (S → M (Lo S ζ)) → M (Pt S ζ)
  | 0, _, _, _ => .st
  | n + 1, s, c, b => bnd (c s) fun x => if x then bnd (b s) (Lo.nxt fun s' => whileR n s' c b) else .ok (.go s)
/-- what an iterator gives -/
structure ItOk (g : Gx) (F : Hp) (J : It) (xs : List D) : Prop where
  go : ∀ i Hc, i < xs.length → Ex F Hc → J.go i Hc
  stop : ∀ Hc, Ex F Hc → J.stop xs.length Hc
  yld : ∀ (i : Nat) (Fc Hc : Hp) (x : V) (H' : Hp) (d : D), xs[i]? = some d → Ex F Fc → Ex Fc Hc → J.yld i Hc x H' → ∃ F2, Grow Fc Hc F2 emp H' ∧ Rep g F2 x d
def FiI (g : Gx) (F O H : Hp) (W : WX) (σ : L2.St) (m : M ρ) (xs : ρ → List D) (R : It → Hp → Prop) : Prop := match m with
  | .st => False
  | .ok r => ∀ F' J H', Grow F H F' emp H' → ItOk g F' J (xs r) → R J H'
  | .er x => Fer g F O H W σ x
def JI (X : Cx) (Γ : List Sl) (tg iter : Expr) {ρ : Type} (m : M ρ) (xs : ρ → List D) : Prop :=
  ∃ wi, PI X tg iter wi ∧ ∀ (F O : Hp) (σ : L2.St) (H : Hp) (R : It → Hp → Prop) (W : WX), Sat (gx X) F Γ σ O H → L2N.Takes X W → FiI (gx X) F O H W σ m xs R → wi σ H R
theorem Grow.same {F H F' h H' : Hp} (G : Grow F H F' h H') (fo : ∀ a, h a = none) : Grow F H F' emp H' := ⟨G.ff, G.hh, G.fh, fun _ _ z => (by cases z), G.nf⟩
theorem for_go {g0 : TG} {tg iter : Expr} {body : List Stmt} {xs : ρ → List D} (s0 : S) (ΓL : S → List Sl) (rem : ρ → Nat → S → M ζ) (hi : JI X Γ tg iter m xs) (hg : PG X tg g0) (h0 : Wk Γ (ΓL s0)) (hp : PassesOwn (model X.prog X.w) X.A X.env X.xe) (hc : X.calm = true) (hx : Sub Γx Γ)
    (hend : ∀ r s F O σ H D W, m = .ok r → Sat (gx X) F (ΓL s) σ O H → FiS (gx X) F O H W D Γx (rem r (xs r).length s) π → D.nx σ H)
    (hbody : ∀ r i s F O σ H (D : Ends) W v d (N : L2.St → Hp → Prop), m = .ok r → (xs r)[i]? = some d → Sat (gx X) F (ΓL s) σ O H → L2N.Takes X W → Rep (gx X) F v d → FiS (gx X) F O H W D Γx (rem r i s) π →
      (∀ s' F' O' σ' H', Ex F F' → Sat (gx X) F' (ΓL s') σ' O' H' → FiS (gx X) F' O' H' W D Γx (rem r (i + 1) s') π → N σ' H') → g0 v σ H fun σ2 H2 => RB X body { D with nx := N, ct := N, bk := D.nx } σ2 H2)
    (hs : ∀ x, foldedSetIterable iter X.env x = pure x) : JS X Γx Γ (.For tg iter body [] pos) (bnd m fun r => rem r 0 s0) π := fun F O σ H D W S0 tk f => by
  obtain ⟨wi, pi, hw⟩ := hi
  refine RS.of (ps_for hp hc pi hg pssR hs) (hw F O σ H _ W S0 tk ?_)
  revert f hend hbody
  cases m with
  | st => exact fun _ _ z => z
  | er x => exact fun _ _ z => FerS.fer z (S0.l.satV hx)
  | ok r =>
    intro hend hbody f F1 J H1 G it
    have S1 := S0.grow G
    have f1 : FiS (gx X) F1 O H1 W D Γx (rem r 0 s0) π := FiS.step S0.fh S1.fo f (G.trnO S0)
    obtain ⟨O1, S2, mm⟩ := S1.weak h0
    have f2 := FiS.step S1.fh S2.fo f1 (Trn.refl.less mm)
    refine ⟨fun i m σ' H' => m = (xs r).length - i ∧ i ≤ (xs r).length ∧ ∃ s F' O', Ex F1 F' ∧ Sat (gx X) F' (ΓL s) σ' O' H' ∧ FiS (gx X) F' O' H' W D Γx (rem r i s) π, ⟨_, rfl, Nat.zero_le _, s0, F1, O1, Ex.refl _, S2, f2⟩, ?_⟩
    rintro i m' σ' H' ⟨rfl, hi, s, F', O', e', S', f'⟩
    by_cases hlt : i < (xs r).length
    · refine .inr ⟨it.go i H' hlt (e'.trans S'.fh), fun σ2 H2 => i + 1 ≤ (xs r).length ∧ ∃ s F' O', Ex F1 F' ∧ Sat (gx X) F' (ΓL s) σ2 O' H2 ∧ FiS (gx X) F' O' H2 W D Γx (rem r (i + 1) s) π, fun σ2 H2 q => ⟨(xs r).length - (i + 1), by omega, rfl, q.1, q.2⟩, fun x H2 y => ?_⟩
      obtain ⟨F2, G2, rv⟩ := it.yld i F' H' x H2 _ (List.getElem?_eq_getElem hlt) e' S'.fh y
      have S3 := S'.grow G2
      refine hbody r i s F2 O' σ' H2 D W x _ _ rfl (List.getElem?_eq_getElem hlt) S3 tk rv (FiS.step S'.fh S3.fo f' (G2.trnO S')) fun s' F3 O3 σ3 H3 e4 S4 f4 => ?_
      exact ⟨hlt, s', F3, O3, (e'.trans G2.ff).trans e4, S4, f4⟩
    · have e : i = (xs r).length := by omega
      subst e
      exact .inl ⟨it.stop H' (e'.trans S'.fh), hend r s F' O' σ' H' D W rfl S' f'⟩
theorem drop_cons {l : List α} {i : Nat} {x : α} (h : l[i]? = some x) : l.drop i = x :: l.drop (i + 1) := by
  obtain ⟨hi, e⟩ := List.getElem?_eq_some_iff.mp h
  rw [List.drop_eq_getElem_cons hi, e]
theorem jl_for {g0 : TG} {tg iter : Expr} {body : List Stmt} (l : ρ → List α) (enc : α → D) (s0 : S) (ΓL : S → List Sl) (ΓT : S → α → List Sl) (mb : S → α → M S) (hi : JI X Γ tg iter m (fun r => (l r).map enc)) (hg : PG X tg g0) (h0 : Wk Γ (ΓL s0))
    (hT : ∀ s a, TgOk (gx X) g0 (ΓL s) (enc a) (ΓT s a)) (hb : ∀ s a, JG X Γx (ΓT s a) [body] (mb s a) (fun s' => .lp (ΓL s'))) (hp : PassesOwn (model X.prog X.w) X.A X.env X.xe) (hc : X.calm = true := by rfl) (hx : Sub Γx Γ := by exact Sub.nil)
    (hs : ∀ x, foldedSetIterable iter X.env x = pure x := by intro _; rfl) : JS X Γx Γ (.For tg iter body [] pos) (bnd m fun r => forN (l r) s0 mb) (fun s => .nx (ΓL s)) :=
  fun F O σ H D W S0 tk f => for_go (ζ := S) (π := fun s => .nx (ΓL s)) s0 ΓL (fun r i s => forN ((l r).drop i) s mb) hi hg h0 hp hc hx
    (fun r s F O σ H D W _ S1 f1 => by
      rw [List.length_map, List.drop_length] at f1
      exact f1 F O σ H S1 Trn.refl)
    (fun r i s F O σ H D W v d N _ hd S1 tk1 rv f1 hN => by
      rw [List.getElem?_map] at hd
      cases ha : (l r)[i]? with
      | none => rw [ha] at hd; cases hd
      | some a =>
        rw [ha] at hd
        have hd : enc a = d := Option.some.inj hd
        subst hd
        rw [drop_cons ha] at f1
        refine hT s a F O σ H v _ S1 rv fun O' σ' S2 mm => (hb s a F O' σ' H { D with nx := N, ct := N, bk := D.nx } W S2 tk1 ?_ :)
        have f2 := FiS.step S1.fh S2.fo f1 (Trn.refl.less mm)
        have f3 : FiS (gx X) F O' H W D Γx (bnd (mb s a) fun s' => forN ((l r).drop (i + 1)) s' mb) (fun s => Out.nx (ΓL s)) := f2
        revert f3
        cases mb s a with
        | st => exact id
        | er x => exact id
        | ok s' => exact fun f3 F' O2 σ2 H2 S3 T => have z := hN s' F' O2 σ2 H2 T.ff S3 (FiS.step S2.fh S3.fo f3 T); ⟨z, z⟩)
    hs F O σ H D W S0 tk (by simpa using f)
theorem jl_forR {g0 : TG} {tg iter : Expr} {body : List Stmt} (l : ρ → List α) (enc : α → D) (s0 : S) (ΓL : S → List Sl) (ΓT : S → α → List Sl) (mb : S → α → M (Lo S ζd)) (hi : JI X Γ tg iter m (fun r => (l r).map enc)) (hg : PG X tg g0) (h0 : Wk Γ (ΓL s0))
    (hT : ∀ s a, TgOk (gx X) g0 (ΓL s) (enc a) (ΓT s a)) (hb : ∀ s a, JG X Γx (ΓT s a) [body] (mb s a) (Lo.out ΓL πd)) (hr : ∀ z, ∃ t q, πd z = .rt t q := by exact fun _ => ⟨_, _, rfl⟩) (hp : PassesOwn (model X.prog X.w) X.A X.env X.xe) (hc : X.calm = true := by rfl) (hx : Sub Γx Γ := by exact Sub.nil)
    (hs : ∀ x, foldedSetIterable iter X.env x = pure x := by intro _; rfl) : JS X Γx Γ (.For tg iter body [] pos) (bnd m fun r => forR (l r) s0 mb) (Pt.out ΓL πd) :=
  fun F O σ H D W S0 tk f => for_go (ζ := Pt S ζd) (π := Pt.out ΓL πd) s0 ΓL (fun r i s => forR ((l r).drop i) s mb) hi hg h0 hp hc hx
    (fun r s F O σ H D W _ S1 f1 => by
      rw [List.length_map, List.drop_length] at f1
      exact f1 F O σ H S1 Trn.refl)
    (fun r i s F O σ H D W v d N _ hd S1 tk1 rv f1 hN => by
      rw [List.getElem?_map] at hd
      cases ha : (l r)[i]? with
      | none => rw [ha] at hd; cases hd
      | some a =>
        rw [ha] at hd
        have hd : enc a = d := Option.some.inj hd
        subst hd
        rw [drop_cons ha] at f1
        refine hT s a F O σ H v _ S1 rv fun O' σ' S2 mm => (hb s a F O' σ' H { D with nx := N, ct := N, bk := D.nx } W S2 tk1 ?_ :)
        have f2 := FiS.step S1.fh S2.fo f1 (Trn.refl.less mm)
        unfold forR at f2
        revert f2
        cases mb s a with
        | st => exact id
        | er x => exact id
        | ok o =>
          cases o with
          | go s' => exact fun f3 F' O2 σ2 H2 S3 T => have z := hN s' F' O2 σ2 H2 T.ff S3 (FiS.step S2.fh S3.fo f3 T); ⟨z, z⟩
          | br s' => exact fun f3 F' O2 σ2 H2 S3 T => f3 F' O2 σ2 H2 S3 T
          | dn z =>
            intro f3
            have f3 : OutOk (gx X) F O' H D (πd z) := f3
            show OutOk (gx X) F O' H _ (πd z)
            obtain ⟨t, q, e⟩ := hr z
            rw [e] at f3 ⊢
            cases q <;> exact f3)
    hs F O σ H D W S0 tk (by simpa using f)
theorem jl_while {body : List Stmt} (fuel : Nat) (s0 : S) (ΓL : S → List Sl) (mc : S → M Bool) (mb : S → M S) (h0 : Wk Γ (ΓL s0)) (hc : ∀ s, JT X (ΓL s) c (mc s)) (hb : ∀ s, JG X Γx (ΓL s) [body] (mb s) (fun s' => .lp (ΓL s'))) (hp : PassesOwn (model X.prog X.w) X.A X.env X.xe)
    (hx : ∀ s, Sub Γx (ΓL s) := by exact fun _ => Sub.nil) : JS X Γx Γ (.While c body [] pos) (whileN fuel s0 mc mb) (fun s => .nx (ΓL s)) := fun F O σ H D W S0 tk f => by
  refine RS.of (ps_while hp ptR pssR) ?_
  obtain ⟨O1, S1, mm⟩ := S0.weak h0
  refine ⟨fun m σ' H' => ∃ s F' O', Sat (gx X) F' (ΓL s) σ' O' H' ∧ FiS (gx X) F' O' H' W D Γx (whileN m s mc mb) (fun s => .nx (ΓL s)), ⟨fuel, s0, F, O1, S1, FiS.step S0.fh S1.fo f (Trn.refl.less mm)⟩, ?_⟩
  rintro m' σ' H' ⟨s, F', O', S', f'⟩
  cases m' with
  | zero => exact f'.elim
  | succ m' =>
    refine hc s F' O' σ' H' _ W S' tk ?_
    unfold whileN at f'
    revert f'
    cases mc s with
    | st => exact id
    | er x => exact fun z => FerS.fer z (S'.l.satV (hx s))
    | ok b =>
      intro f' F2 H2 G
      have S2 := S'.grow G
      have f2 := FiS.step S'.fh S2.fo f' (G.trnO S')
      cases b with
      | false => exact f2 F2 O' σ' H2 S2 Trn.refl
      | true =>
        have hN : ∃ N : L2.St → Hp → Prop, N = fun σ3 H3 => ∃ s F' O', Sat (gx X) F' (ΓL s) σ3 O' H3 ∧ FiS (gx X) F' O' H3 W D Γx (whileN m' s mc mb) (fun s => .nx (ΓL s)) := ⟨_, rfl⟩
        obtain ⟨N, eN⟩ := hN
        refine ⟨N, fun σ3 H3 q => ⟨m', Nat.lt_succ_self _, by rw [eN] at q; exact q⟩, (hb s F2 O' σ' H2 { D with nx := N, ct := N, bk := D.nx } W S2 tk ?_ :)⟩
        have f3 : FiS (gx X) F2 O' H2 W D Γx (bnd (mb s) fun s' => whileN m' s' mc mb) (fun s => Out.nx (ΓL s)) := f2
        revert f3
        cases mb s with
        | st => exact id
        | er x => exact id
        | ok s' => exact fun f3 F' O2 σ2 H2' S3 T => have z : N σ2 H2' := (by rw [eN]; exact ⟨s', F', O2, S3, FiS.step S2.fh S3.fo f3 T⟩); ⟨z, z⟩
theorem jl_whileR {body : List Stmt} (fuel : Nat) (s0 : S) (ΓL : S → List Sl) (mc : S → M Bool) (mb : S → M (Lo S ζd)) (h0 : Wk Γ (ΓL s0)) (hc : ∀ s, JT X (ΓL s) c (mc s)) (hb : ∀ s, JG X Γx (ΓL s) [body] (mb s) (Lo.out ΓL πd)) (hr : ∀ z, ∃ t q, πd z = .rt t q := by exact fun _ => ⟨_, _, rfl⟩)
    (hp : PassesOwn (model X.prog X.w) X.A X.env X.xe) (hx : ∀ s, Sub Γx (ΓL s) := by exact fun _ => Sub.nil) : JS X Γx Γ (.While c body [] pos) (whileR fuel s0 mc mb) (Pt.out ΓL πd) := fun F O σ H D W S0 tk f => by
  refine RS.of (ps_while hp ptR pssR) ?_
  obtain ⟨O1, S1, mm⟩ := S0.weak h0
  refine ⟨fun m σ' H' => ∃ s F' O', Sat (gx X) F' (ΓL s) σ' O' H' ∧ FiS (gx X) F' O' H' W D Γx (whileR m s mc mb) (Pt.out ΓL πd), ⟨fuel, s0, F, O1, S1, FiS.step S0.fh S1.fo f (Trn.refl.less mm)⟩, ?_⟩
  rintro m' σ' H' ⟨s, F', O', S', f'⟩
  cases m' with
  | zero => exact f'.elim
  | succ m' =>
    refine hc s F' O' σ' H' _ W S' tk ?_
    unfold whileR at f'
    revert f'
    cases mc s with
    | st => exact id
    | er x => exact fun z => FerS.fer z (S'.l.satV (hx s))
    | ok b =>
      intro f' F2 H2 G
      have S2 := S'.grow G
      have f2 := FiS.step S'.fh S2.fo f' (G.trnO S')
      cases b with
      | false => exact f2 F2 O' σ' H2 S2 Trn.refl
      | true =>
        have hN : ∃ N : L2.St → Hp → Prop, N = fun σ3 H3 => ∃ s F' O', Sat (gx X) F' (ΓL s) σ3 O' H3 ∧ FiS (gx X) F' O' H3 W D Γx (whileR m' s mc mb) (Pt.out ΓL πd) := ⟨_, rfl⟩
        obtain ⟨N, eN⟩ := hN
        refine ⟨N, fun σ3 H3 q => ⟨m', Nat.lt_succ_self _, by rw [eN] at q; exact q⟩, (hb s F2 O' σ' H2 { D with nx := N, ct := N, bk := D.nx } W S2 tk ?_ :)⟩
        have f3 : FiS (gx X) F2 O' H2 W D Γx (bnd (mb s) (Lo.nxt fun s' => whileR m' s' mc mb)) (Pt.out ΓL πd) := f2
        revert f3
        cases mb s with
        | st => exact id
        | er x => exact id
        | ok o =>
          cases o with
          | go s' => exact fun f3 F' O2 σ2 H2' S3 T => have z : N σ2 H2' := (by rw [eN]; exact ⟨s', F', O2, S3, FiS.step S2.fh S3.fo f3 T⟩); ⟨z, z⟩
          | br s' => exact fun f3 F' O2 σ2 H2' S3 T => f3 F' O2 σ2 H2' S3 T
          | dn z =>
            intro f3
            have f3 : OutOk (gx X) F2 O' H2 D (πd z) := f3
            show OutOk (gx X) F2 O' H2 _ (πd z)
            obtain ⟨t, q, e⟩ := hr z
            rw [e] at f3 ⊢
            cases q <;> exact f3
end
end Z
set_option Elab.async false
set_option linter.all false
set_option maxRecDepth 100000
set_option maxHeartbeats 4000000
namespace Z
open PySem PySem.Spec L2
/-! ### what a def promises -/
/-- it is given values that stand for ins a, it hands back what m a says -/
def spec (g : Gx) {A ρ : Type} (ins : A → List D) (m : A → M ρ) (t : ρ → Sl) : Sp := fun vs H Q E => ∃ (a : A) (F : Hp), Ex F H ∧ Reps g F vs (ins a) ∧ match m a with
  | .st => False
  | .ok r => ∀ F' h v H', Grow F H F' h H' → (t r).ok g F' (some v) h → Q v H'
  | .er x => ∀ F' H' cls d, Trn F emp H F' emp H' → Ex F' H' → ExR g F' cls d x → E cls d H'
/-- its first argument is changed: what it held is told by own, then by own' -/
def specO (g : Gx) {A ρ : Type} (own : A → D) (ins : A → List D) (m : A → M ρ) (t : ρ → Sl) (own' : ρ → D) : Sp := fun vs H Q E => ∃ (a : A) (F : Hp) (c : Addr) (o : HO) (vr : List V), vs = .ref c :: vr ∧ Ex F H ∧ F c = none ∧ H c = some o ∧ Own g F c o (own a) ∧ Reps g F vr (ins a) ∧ match m a with
  | .st => False
  | .ok r => ∀ F' h v o' H', Trn F (sg c o) H F' (uni h (sg c o')) H' → Ex F' H' → Ex (uni h (sg c o')) H' → Dis F' (uni h (sg c o')) → Dis h (sg c o') → Own g F' c o' (own' r) → (t r).ok g F' (some v) h → Q v H'
  | .er x => ∀ F' H' cls d, Trn F (sg c o) H F' emp H' → Ex F' H' → ExR g F' cls d x → E cls d H'
theorem Reps.rev {g : Gx} {F : Hp} {vs : List V} {ds : List D} (r : Reps g F vs ds) : vs.length = ds.length := r.length
theorem sat_args {g : Gx} {F : Hp} (n : Nat) : ∀ {vs : List V} {ds : List D}, Reps g F vs ds → SatL g F (ds.map Sl.va ++ List.replicate n .un) (vs.map some ++ List.replicate n none) emp
  | _, _, .nil => by
    show SatL g F (List.replicate n .un) (List.replicate n none) emp
    induction n with
    | zero => exact .nil
    | succ n ih => exact SatL.cons (s := .un) (h := emp) (O := emp) rfl ih (dis_emp _)
  | _, _, .cons a b => SatL.cons (h := emp) (O := emp) ⟨rfl, _, rfl, a⟩ (sat_args n b) (dis_emp _)
/-- a def of the text, where it stands, at a level -/
structure Df (g : Gx) (base : Heap) (k : Nat) (x : Str) {A ρ : Type} (ins : A → List D) (m : A → M ρ) (t : ρ → Sl) : Prop where
  ex : ∃ f fd ps, FnOk g.P g.w g.K g.mg base (L2N.CX g.P g.w) k f fd ps (spec g ins m t) ∧ g.mg x = some (.ref f) ∧ PySem.W.keepIn g.K (.ref f) = true ∧ Binds g.K fd ps []
structure DfO (g : Gx) (base : Heap) (k : Nat) (x : Str) {A ρ : Type} (own : A → D) (ins : A → List D) (m : A → M ρ) (t : ρ → Sl) (own' : ρ → D) : Prop where
  ex : ∃ f fd ps, FnOk g.P g.w g.K g.mg base (L2N.CX g.P g.w) k f fd ps (specO g own ins m t own') ∧ g.mg x = some (.ref f) ∧ PySem.W.keepIn g.K (.ref f) = true ∧ Binds g.K fd ps []
abbrev cx (g : Gx) (base : Heap) (N : List Str) (qual : Str) (scope : Scope) (f : Addr) (cd : Value) (A : Around) (outer : List Env) (s : Shared) (H : Hp) (E : XK) : Cx := cxOf (L2N.CX g.P g.w) g.P g.w g.K g.mg base N qual scope f cd A outer s H E
theorem takes_cx {g : Gx} {base : Heap} {N : List Str} {qual : Str} {scope : Scope} {f : Addr} {cd : Value} {A : Around} {outer : List Env} {s : Shared} {H : Hp} {E : XK} : L2N.Takes (cx g base N qual scope f cd A outer s H E) (fun cls d _ H => E cls d H) := L2N.takes_of rfl rfl rfl rfl
theorem passes_cx {g : Gx} {base : Heap} {N : List Str} {qual : Str} {scope : Scope} {f : Addr} {cd : Value} {A : Around} {outer : List Env} {s : Shared} {H : Hp} {E : XK} :
    PassesOwn (model (cx g base N qual scope f cd A outer s H E).prog (cx g base N qual scope f cd A outer s H E).w) (cx g base N qual scope f cd A outer s H E).A (cx g base N qual scope f cd A outer s H E).env (cx g base N qual scope f cd A outer s H E).xe := passes_of rfl
/-- THE RULE: a def by its body, that returns -/
theorem fn_J {g : Gx} {base : Heap} {x qual : Str} {st : Stmt} {f : Addr} {fd : FuncData} {N ps : List Str} {k : Nat} {A ρ : Type} {ins : A → List D} {m : A → M ρ} {t : ρ → Sl} (F : Fun g.K x qual st f fd) (S : FnScope N ps (defScope st)) (hm : g.mg x = some (.ref f)) (hlen : ∀ a, (ins a).length = ps.length)
    (hbind : ∀ (kV doc pm : Value) (an : Option Addr) (cdv ct : Value) (us : List Value), us.length = ps.length → bindArgs (PySem.W.fnOf x qual (defArgs st) (defBody st) (defScope st) .none kV doc pm an cdv ct) ⟨us, []⟩ = pure (ps.zip us))
    (hb : ∀ (cdv : Value) (Ar : Around) (outer : List Env) (s : Shared) (H : Hp) (E : XK) (a : A), Room k (cx g base N qual (defScope st) f cdv Ar outer s H E).A →
      JG (cx g base N qual (defScope st) f cdv Ar outer s H E) [] ((ins a).map Sl.va ++ List.replicate (N.length - ps.length) .un) [defBody st] (m a) (fun r => .rt (t r) none)) : Df g base (k + 1) x ins m t := by
  have B : Binds g.K fd ps [] := F.binds hbind
  obtain ⟨oc, od, kV, doc, pm, an, cdv, ct, osl, rfl, lk, hcd⟩ := F.ex
  refine ⟨f, _, ps, fn_of lk hcd S (fun vs H Q E ⟨a, F0, _, r, _⟩ => by rw [r.length, hlen a]) fun Ar outer s H vs Q E hr hsp => ⟨_, pssR, ?_⟩, hm, F.kp, B⟩
  obtain ⟨a, F0, e0, r, hq⟩ := hsp
  have hl : vs.length = ps.length := by rw [r.length, hlen a]
  have S0 : Sat g F0 ((ins a).map Sl.va ++ List.replicate (N.length - ps.length) .un) (L2.start N vs) emp H := by
    refine ⟨?_, e0, fun _ _ z => (by cases z), fun _ => .inr rfl⟩
    unfold L2.start
    rw [hl]
    exact sat_args _ r
  refine (hb cdv Ar outer s H E a hr F0 emp _ H { nx := fun _ H' => Q .non H', rt := Q } _ S0 takes_cx ?_ :)
  revert hq
  cases m a with
  | st => exact id
  | ok r => exact fun hq F' h v H' k1 e1 e2 d T => hq F' h v H' (T.grow e0 e1 e2 d) k1
  | er x => exact fun hq F' H' cls d σ' T e r _ => hq F' H' cls d T e r
/-- .. that falls out at its end -/
theorem fn_JN {g : Gx} {base : Heap} {x qual : Str} {st : Stmt} {f : Addr} {fd : FuncData} {N ps : List Str} {k : Nat} {A ρ : Type} {ins : A → List D} {m : A → M ρ} {Γe : ρ → List Sl} (F : Fun g.K x qual st f fd) (S : FnScope N ps (defScope st)) (hm : g.mg x = some (.ref f)) (hlen : ∀ a, (ins a).length = ps.length)
    (hbind : ∀ (kV doc pm : Value) (an : Option Addr) (cdv ct : Value) (us : List Value), us.length = ps.length → bindArgs (PySem.W.fnOf x qual (defArgs st) (defBody st) (defScope st) .none kV doc pm an cdv ct) ⟨us, []⟩ = pure (ps.zip us))
    (hb : ∀ (cdv : Value) (Ar : Around) (outer : List Env) (s : Shared) (H : Hp) (E : XK) (a : A), Room k (cx g base N qual (defScope st) f cdv Ar outer s H E).A →
      JG (cx g base N qual (defScope st) f cdv Ar outer s H E) [] ((ins a).map Sl.va ++ List.replicate (N.length - ps.length) .un) [defBody st] (m a) (fun r => .nx (Γe r))) : Df g base (k + 1) x ins m (fun _ => .va .non) := by
  have B : Binds g.K fd ps [] := F.binds hbind
  obtain ⟨oc, od, kV, doc, pm, an, cdv, ct, osl, rfl, lk, hcd⟩ := F.ex
  refine ⟨f, _, ps, fn_of lk hcd S (fun vs H Q E ⟨a, F0, _, r, _⟩ => by rw [r.length, hlen a]) fun Ar outer s H vs Q E hr hsp => ⟨_, pssR, ?_⟩, hm, F.kp, B⟩
  obtain ⟨a, F0, e0, r, hq⟩ := hsp
  have hl : vs.length = ps.length := by rw [r.length, hlen a]
  have S0 : Sat g F0 ((ins a).map Sl.va ++ List.replicate (N.length - ps.length) .un) (L2.start N vs) emp H := by
    refine ⟨?_, e0, fun _ _ z => (by cases z), fun _ => .inr rfl⟩
    unfold L2.start
    rw [hl]
    exact sat_args _ r
  refine (hb cdv Ar outer s H E a hr F0 emp _ H { nx := fun _ H' => Q .non H', rt := Q } _ S0 takes_cx ?_ :)
  revert hq
  cases m a with
  | st => exact id
  | ok r => exact fun hq F' O' σ' H' S' T => hq F' emp .non H' (Trn.grow e0 (T.less fun _ _ z => (by cases z)) S'.fh (fun _ _ z => (by cases z)) (fun _ => .inr rfl)) ⟨rfl, _, rfl, .non⟩
  | er x => exact fun hq F' H' cls d σ' T e r _ => hq F' H' cls d T e r
/-- .. whose first argument is changed -/
theorem fn_JO {g : Gx} {base : Heap} {x qual : Str} {st : Stmt} {f : Addr} {fd : FuncData} {N ps : List Str} {k : Nat} {A ρ : Type} {own : A → D} {ins : A → List D} {m : A → M ρ} {t : ρ → Sl} {own' : ρ → D} (F : Fun g.K x qual st f fd) (S : FnScope N ps (defScope st)) (hm : g.mg x = some (.ref f)) (hlen : ∀ a, (ins a).length + 1 = ps.length)
    (hbind : ∀ (kV doc pm : Value) (an : Option Addr) (cdv ct : Value) (us : List Value), us.length = ps.length → bindArgs (PySem.W.fnOf x qual (defArgs st) (defBody st) (defScope st) .none kV doc pm an cdv ct) ⟨us, []⟩ = pure (ps.zip us))
    (hb : ∀ (cdv : Value) (Ar : Around) (outer : List Env) (s : Shared) (H : Hp) (E : XK) (a : A) (c : Addr), Room k (cx g base N qual (defScope st) f cdv Ar outer s H E).A →
      JG (cx g base N qual (defScope st) f cdv Ar outer s H E) [] (.ow (some c) (own a) :: ((ins a).map Sl.va ++ List.replicate (N.length - ps.length) .un)) [defBody st] (m a) (fun r => .rt (t r) (some (.ow (some c) (own' r))))) : DfO g base (k + 1) x own ins m t own' := by
  have B : Binds g.K fd ps [] := F.binds hbind
  obtain ⟨oc, od, kV, doc, pm, an, cdv, ct, osl, rfl, lk, hcd⟩ := F.ex
  refine ⟨f, _, ps, fn_of lk hcd S (fun vs H Q E ⟨a, F0, c, o, vr, ev, _, _, _, _, r, _⟩ => by rw [ev, List.length_cons, r.length, hlen a]) fun Ar outer s H vs Q E hr hsp => ⟨_, pssR, ?_⟩, hm, F.kp, B⟩
  obtain ⟨a, F0, c, o, vr, rfl, e0, hF, hH, ow, r, hq⟩ := hsp
  have hl : (V.ref c :: vr).length = ps.length := by rw [List.length_cons, r.length, hlen a]
  have S0 : Sat g F0 (.ow (some c) (own a) :: ((ins a).map Sl.va ++ List.replicate (N.length - ps.length) .un)) (L2.start N (V.ref c :: vr)) (sg c o) H := by
    refine ⟨?_, e0, fun b u z => (by obtain ⟨z1, z2⟩ := of_sg z; rw [z1, z2]; exact hH), fun b => ?_⟩
    · unfold L2.start
      rw [hl]
      have := SatL.cons (g := g) (F := F0) (s := .ow (some c) (own a)) (v := some (V.ref c)) (h := sg c o) ⟨c, o, rfl, rfl, ow, fun _ z => (by cases z; rfl)⟩ (sat_args (N.length - ps.length) r) (fun _ => .inr rfl)
      have e : uni (sg c o) emp = sg c o := by
        funext y; unfold uni emp; cases sg c o y <;> rfl
      rw [e] at this
      exact this
    · by_cases hb : b = c
      · subst hb; exact .inl hF
      · exact .inr (sg_ne hb)
  refine (hb cdv Ar outer s H E a c hr F0 (sg c o) _ H { nx := fun _ H' => Q .non H', rt := Q } _ S0 takes_cx ?_ :)
  revert hq
  cases m a with
  | st => exact id
  | ok r =>
    intro hq F' h h0 v v0 H' k1 k0 dd e1 e2 d T
    obtain ⟨c', o', _, eh, ow', ea⟩ := k0
    have : c' = c := ea c rfl
    subst this; subst eh
    exact hq F' h v o' H' T e1 e2 d dd ow' k1
  | er x => exact fun hq F' H' cls d σ' T e r _ => hq F' H' cls d T e r
/-! ### calls -/
section
variable {X : Cx} {Γ Γx : List Sl} {e a b c : Expr} {es : List Expr} {p pos pos' : Pos} {ρ ρA : Type} {A : Type} {k : Nat} {x : Str} {ma : M ρA} {ts : ρA → List D} {m : A → M ρ} {t : ρ → Sl} {ins : A → List D} {own : A → D} {own' : ρ → D}
theorem spec_of {g : Gx} {F O H : Hp} {W : WX} {σ : L2.St} {Q : VK} {vs : List V} {aa : A} {Γ : List Sl} (S : Sat g F Γ σ O H) (r : Reps g F vs (ins aa)) (f : Fi g F O H W σ (m aa) t Q) : spec g ins m t vs H Q (WE W σ) := by
  refine ⟨aa, F, S.fh, r, ?_⟩
  revert f
  cases m aa with
  | st => exact id
  | ok r => exact id
  | er x => exact fun f F' H' cls d T e r => f F' H' cls d ⟨T.ff, fun a o h1 h2 => T.keep a o h1 rfl, fun a h1 h2 h3 => T.sep a h1 h2 rfl⟩ e r
theorem jp_call (Fk : Df (gx X) X.base k x ins m t) (hr : Room k X.A) (aa : ρA → A) (ha : JA X Γ (e :: es) ma ts) (hts : ∀ q, ts q = ins (aa q) := by intro _; rfl) (hg : Gl X x := by rfl) (hdb : (x == ("__debug__" : Str)) = false := by decide)
    (he : starEach (e :: es) X.env = (false, eval e X.env) :: starEach es X.env := by rfl) (hpl : (backTo pos (starEach es X.env)).any (·.1) = false := by rfl) : JP X Γ (.Call (.Name x p) (e :: es) [] pos) (bnd ma fun q => m (aa q)) t := fun F O σ H Q W S tk f => by
  obtain ⟨fa, fd, ps, F1, hm, hk, hb⟩ := Fk.ex
  refine RE.of (pe_callS (E := WE W) F1 hr hg hm hk hb (fun σ => L2N.passAt tk σ) paR hdb he hpl) (ha F O σ H _ W S tk ?_)
  have f1 := f.bndA S (t1 := ts)
  revert f1
  cases ma with
  | st => exact id
  | er x => exact id
  | ok q =>
    intro f1 F1 vs H1 G k1
    obtain ⟨q', F1, e, G, k1, S1, f2⟩ := f1 F1 vs H1 G k1
    cases e
    rw [hts q] at k1
    exact spec_of S1 k1 f2
/-- the first argument is a slot's own -/
theorem je_callO (i : Nat) {y : Str} {py : Pos} {q : Option Addr} {d : D} (Fk : DfO (gx X) X.base k x own ins m t own') (hr : Room k X.A) (aa : ρA → A) (ha : JA X Γ es ma ts) (hi : Γ[i]? = some (.ow q d) := by rfl) (hd : ∀ z, own (aa z) = d := by intro _; rfl) (hts : ∀ z, ts z = ins (aa z) := by intro _; rfl) (hN : X.N[i]? = some y := by rfl)
    (hv : Vis X.env.scope y := by first | exact Or.inl rfl | exact Or.inr (Or.inl rfl) | exact Or.inr (Or.inr rfl)) (hdb2 : (y == ("__debug__" : Str)) = false := by decide) (hcd : (y == ("__classdict__" : Str)) = false := by decide)
    (hg : Gl X x := by rfl) (hdb : (x == ("__debug__" : Str)) = false := by decide)
    (he : starEach (.Name y py :: es) X.env = (false, eval (.Name y py) X.env) :: starEach es X.env := by rfl) (hpl : (backTo pos (starEach es X.env)).any (·.1) = false := by rfl) :
    JE X Γ (.Call (.Name x p) (.Name y py :: es) [] pos) (bnd ma fun z => m (aa z)) t (fun r => Γ.set i (.ow q (own' r))) := fun F O σ H Q W S tk f => by
  obtain ⟨fa, fd, ps, FF, hm, hk, hb⟩ := Fk.ex
  obtain ⟨c, o, O1, e1, ow1, hq, n1, eO, _, put⟩ := S.l.own hi
  subst eO
  refine RE.of (pe_callS (E := WE W) FF hr hg hm hk hb (fun σ => L2N.passAt tk σ) (pa_cons (pe_var hN hv hdb2 hcd) paR he) hdb he hpl) ⟨_, e1, ?_⟩
  refine ha F _ σ H _ W S tk ?_
  revert f
  cases ma with
  | st => exact id
  | er x => exact id
  | ok z =>
    intro f F1 vs H1 G k1
    have S1 := S.grow G
    have f : FiE (gx X) F (uni (sg c o) O1) H W σ (m (aa z)) t (fun r => Γ.set i (.ow q (own' r))) Q := f
    have f1 := FiE.step S.fh S1.fo f (G.trnO S)
    refine ⟨aa z, F1, c, o, vs, rfl, S1.fh, (S1.fo c).resolve_right (ne_none (uni_l sg_self)), S1.oh c o (uni_l sg_self), by rw [hd z]; exact ow1.mono G.ff, by rw [← hts z]; exact k1, ?_⟩
    revert f1
    cases m (aa z) with
    | st => exact id
    | er x =>
      intro f1 F' H' cls d T e r
      refine f1 F' H' cls d ⟨T.ff, fun y u h1 h2 => T.keep y u h1 ?_, fun y h1 h2 h3 => T.sep y h1 h2 ?_⟩ e r
      · cases w : sg c o y with
        | none => rfl
        | some u2 => rw [uni_l w] at h2; cases h2
      · cases w : sg c o y with
        | none => rfl
        | some u2 => rw [uni_l w] at h3; cases h3
    | ok r =>
      intro f1 F' h v o' H' T fh oh fo dd ow' kt
      have nO : ∀ y, uni (sg c o) O1 y = none → sg c o y = none ∧ O1 y = none := fun y hy => by
        cases w : sg c o y with
        | none => rw [uni_r w] at hy; exact ⟨rfl, hy⟩
        | some u2 => rw [uni_l w] at hy; cases hy
      have inO : ∀ y u, O1 y = some u → y ≠ c ∧ uni (sg c o) O1 y = some u := fun y u hy => by
        have hyc : y ≠ c := fun z => by subst z; rw [n1] at hy; cases hy
        exact ⟨hyc, by rw [uni_r (sg_ne hyc)]; exact hy⟩
      have o1 : ∀ y u, O1 y = some u → H1 y = some u ∧ F1 y = none ∧ F' y = none ∧ h y = none ∧ sg c o' y = none ∧ H' y = some u := fun y u hy => by
        obtain ⟨hyc, hO⟩ := inO y u hy
        have a1 := S1.oh y u hO
        have a2 := (S1.fo y).resolve_right (ne_none hO)
        obtain ⟨b1, b2⟩ := T.sep y (ne_none a1) a2 (sg_ne hyc)
        have b3 : h y = none := by
          cases w : h y with
          | none => rfl
          | some u2 => rw [uni_l w] at b2; cases b2
        exact ⟨a1, a2, b1, b3, sg_ne hyc, T.keep y u a1 (sg_ne hyc)⟩
      have L := put (sg c o') (.ow q (own' r)) F' (G.ff.trans T.ff) ⟨c, o', rfl, rfl, ow', hq⟩ fun y hy => sg_ne hy
      refine f1 F' (uni h (uni (sg c o') O1)) v H' ⟨.cons kt L fun y => ?_, fh, fun y u hy => ?_, fun y => ?_⟩ ⟨T.ff, fun y u h1 h2 => T.keep y u h1 (nO y h2).1, fun y h1 h2 h3 => ?_⟩
      · cases w : O1 y with
        | none => exact (dd y).imp_right fun z => uni_none z w
        | some u => exact .inl (o1 y u w).2.2.2.1
      · rcases of_uni hy with z | z
        · exact oh y u (uni_l z)
        · rcases of_uni z with z | z
          · have : h y = none := (dd y).resolve_right (ne_none z)
            exact oh y u (by rw [uni_r this]; exact z)
          · exact (o1 y u z).2.2.2.2.2
      · cases w : O1 y with
        | some u => exact .inl (o1 y u w).2.2.1
        | none =>
          refine (fo y).imp_right fun z => ?_
          have z1 : h y = none := by
            cases w2 : h y with
            | none => rfl
            | some u2 => rw [uni_l w2] at z; cases z
          rw [uni_r z1] at z
          exact uni_none z1 (uni_none z w)
      · obtain ⟨a1, a2⟩ := nO y h3
        obtain ⟨b1, b2⟩ := T.sep y h1 h2 a1
        refine ⟨b1, ?_⟩
        have z1 : h y = none := by
          cases w2 : h y with
          | none => rfl
          | some u2 => rw [uni_l w2] at b2; cases b2
        rw [uni_r z1] at b2
        exact uni_none z1 (uni_none b2 a2)
end
end Z
set_option Elab.async false
set_option linter.all false
set_option maxRecDepth 100000
set_option maxHeartbeats 4000000
namespace Z
open PySem PySem.Spec L2
/-! ### ints -/
def chk {α : Type} (p : Prop) [Decidable p] (a : α) : M α := if p then .ok a else .st
abbrev vI (z : Int) : Sl := .va (.int z)
abbrev vB (z : Bool) : Sl := .va (.bl z)
section
variable {g : Gx} {ρ : Type} {x y : Int} {d d1 d2 : D}
theorem od_I0 (f : Int → Int → Int) : OpJ g (rI0 fun i j => .int (f i j)) (.int x) (.int y) (.ok (f x y)) vI := fun F O H v u Q W σ e r1 r2 q => by
  cases r1; cases r2; exact ⟨x, y, rfl, rfl, q.done e ⟨rfl, _, rfl, .int _⟩⟩
theorem od_B0 (f : Int → Int → Bool) : OpJ g (rI0 fun i j => .bl (f i j)) (.int x) (.int y) (.ok (f x y)) vB := fun F O H v u Q W σ e r1 r2 q => by
  cases r1; cases r2; exact ⟨x, y, rfl, rfl, q.done e ⟨rfl, _, rfl, .bl _⟩⟩
theorem od_IC (C : Int → Int → Prop) (f : Int → Int → Int) [Decidable (C x y)] : OpJ g (rI C fun i j => .int (f i j)) (.int x) (.int y) (chk (C x y) (f x y)) vI := fun F O H v u Q W σ e r1 r2 q => by
  cases r1; cases r2
  unfold chk at q
  by_cases h : C x y
  · rw [if_pos h] at q; exact ⟨x, y, rfl, rfl, h, q.done e ⟨rfl, _, rfl, .int _⟩⟩
  · rw [if_neg h] at q; exact q.elim
instance (i j : Int) : Decidable (CDiv i j) := by unfold CDiv; infer_instance
instance (i j : Int) : Decidable (CPow i j) := by unfold CPow; infer_instance
instance (i j : Int) : Decidable (CMul i j) := by unfold CMul; infer_instance
def mdiv (x y : Int) : M Int := chk (CDiv x y) (x / y)
def mmod (x y : Int) : M Int := chk (0 < y) (x % y)
def mmul (x y : Int) : M Int := chk (CMul x y) (x * y)
def mshl (x y : Int) : M Int := chk (CPow x y) (x * 2 ^ y.toNat)
def mshr (x y : Int) : M Int := chk (0 ≤ y) (x / 2 ^ y.toNat)
def mpow (x y : Int) : M Int := chk (CPow x y) (x ^ y.toNat)
abbrev band (x y : Int) : Int := Builtin.bitAnd x y
abbrev bor (x y : Int) : Int := Builtin.bitOr x y
abbrev bxor (x y : Int) : Int := Builtin.bitXor x y
abbrev bnot (x : Int) : Int := Builtin.bitNot x
theorem od_add : OpJ g (rI0 fun i j => .int (i + j)) (.int x) (.int y) (.ok (x + y)) vI := od_I0 (· + ·)
theorem od_sub : OpJ g (rI0 fun i j => .int (i - j)) (.int x) (.int y) (.ok (x - y)) vI := od_I0 (· - ·)
theorem od_mul : OpJ g (rI CMul fun i j => .int (i * j)) (.int x) (.int y) (mmul x y) vI := od_IC CMul (· * ·)
theorem od_fdiv : OpJ g (rI CDiv fun i j => .int (i / j)) (.int x) (.int y) (mdiv x y) vI := od_IC CDiv (· / ·)
theorem od_mod : OpJ g (rI (fun _ j => 0 < j) fun i j => .int (i % j)) (.int x) (.int y) (mmod x y) vI := od_IC (fun _ j => 0 < j) (· % ·)
theorem od_pow : OpJ g (rI CPow fun i j => .int (i ^ j.toNat)) (.int x) (.int y) (mpow x y) vI := od_IC CPow fun i j => i ^ j.toNat
theorem od_shl : OpJ g (rI CPow fun i j => .int (i * 2 ^ j.toNat)) (.int x) (.int y) (mshl x y) vI := od_IC CPow fun i j => i * 2 ^ j.toNat
theorem od_shr : OpJ g (rI (fun _ j => 0 ≤ j) fun i j => .int (i / 2 ^ j.toNat)) (.int x) (.int y) (mshr x y) vI := od_IC (fun _ j => 0 ≤ j) fun i j => i / 2 ^ j.toNat
theorem od_and : OpJ g (rI0 fun i j => .int (Builtin.bitAnd i j)) (.int x) (.int y) (.ok (band x y)) vI := od_I0 _
theorem od_or : OpJ g (rI0 fun i j => .int (Builtin.bitOr i j)) (.int x) (.int y) (.ok (bor x y)) vI := od_I0 _
theorem od_xor : OpJ g (rI0 fun i j => .int (Builtin.bitXor i j)) (.int x) (.int y) (.ok (bxor x y)) vI := od_I0 _
theorem od_lt : OpJ g (rI0 fun i j => .bl (decide (i < j))) (.int x) (.int y) (.ok (decide (x < y))) vB := od_B0 fun i j => decide (i < j)
theorem od_le : OpJ g (rI0 fun i j => .bl (decide (i ≤ j))) (.int x) (.int y) (.ok (decide (x ≤ y))) vB := od_B0 fun i j => decide (i ≤ j)
theorem od_gt : OpJ g (rI0 fun i j => .bl (decide (j < i))) (.int x) (.int y) (.ok (decide (y < x))) vB := od_B0 fun i j => decide (j < i)
theorem od_ge : OpJ g (rI0 fun i j => .bl (decide (j ≤ i))) (.int x) (.int y) (.ok (decide (y ≤ x))) vB := od_B0 fun i j => decide (j ≤ i)
theorem od_eqI : OpJ g rEq (.int x) (.int y) (.ok (decide (x = y))) vB := fun F O H v u Q W σ e r1 r2 q => by
  cases r1; cases r2
  have : decide (V.int x = V.int y) = decide (x = y) := by simp
  exact ⟨rfl, by rw [this]; exact q.done e ⟨rfl, _, rfl, .bl _⟩⟩
theorem od_neI : OpJ g rNe (.int x) (.int y) (.ok (!decide (x = y))) vB := fun F O H v u Q W σ e r1 r2 q => by
  cases r1; cases r2
  have : decide (V.int x = V.int y) = decide (x = y) := by simp
  exact ⟨rfl, by rw [this]; exact q.done e ⟨rfl, _, rfl, .bl _⟩⟩
theorem od_eqS {x y : Str} : OpJ g rEq (.str x) (.str y) (.ok (decide (x = y))) vB := fun F O H v u Q W σ e r1 r2 q => by
  cases r1; cases r2
  have : decide (V.str x = V.str y) = decide (x = y) := by simp
  exact ⟨rfl, by rw [this]; exact q.done e ⟨rfl, _, rfl, .bl _⟩⟩
theorem od_eqB {x y : Bool} : OpJ g rEq (.bl x) (.bl y) (.ok (decide (x = y))) vB := fun F O H v u Q W σ e r1 r2 q => by
  cases r1; cases r2
  have : decide (V.bl x = V.bl y) = decide (x = y) := by simp
  exact ⟨rfl, by rw [this]; exact q.done e ⟨rfl, _, rfl, .bl _⟩⟩
theorem od_neB {x y : Bool} : OpJ g rNe (.bl x) (.bl y) (.ok (!decide (x = y))) vB := fun F O H v u Q W σ e r1 r2 q => by
  cases r1; cases r2
  have : decide (V.bl x = V.bl y) = decide (x = y) := by simp
  exact ⟨rfl, by rw [this]; exact q.done e ⟨rfl, _, rfl, .bl _⟩⟩
def isN : D → Bool
  | .non => true
  | _ => false
theorem rep_isN {F : Hp} {v : V} (r : Rep g F v d) : decide (v = V.non) = isN d := by
  cases r <;> simp [isN]
theorem od_isN : OpJ g (fun x y H Q => y = .non ∧ Q (.bl (decide (x = .non))) H) d .non (.ok (isN d)) vB := fun F O H v u Q W σ e r1 r2 q => by
  cases r2
  exact ⟨rfl, by rw [rep_isN r1]; exact q.done e ⟨rfl, _, rfl, .bl _⟩⟩
theorem od_notN : OpJ g (fun x y H Q => y = .non ∧ Q (.bl (!decide (x = .non))) H) d .non (.ok (!isN d)) vB := fun F O H v u Q W σ e r1 r2 q => by
  cases r2
  exact ⟨rfl, by rw [rep_isN r1]; exact q.done e ⟨rfl, _, rfl, .bl _⟩⟩
theorem ud_neg : UnJ g (rU fun i => .int (-i)) (.int x) (.ok (-x)) vI := fun F O H v Q W σ e r1 q => by
  cases r1; exact ⟨x, rfl, q.done e ⟨rfl, _, rfl, .int _⟩⟩
theorem ud_inv : UnJ g (rU fun i => .int (Builtin.bitNot i)) (.int x) (.ok (bnot x)) vI := fun F O H v Q W σ e r1 q => by
  cases r1; exact ⟨x, rfl, q.done e ⟨rfl, _, rfl, .int _⟩⟩
/-! ### items -/
def gt {α : Type} (xs : List α) (i : Int) : M α := match atI xs i with
  | some a => .ok a
  | none => .st
theorem atI_map {α β : Type} (f : α → β) (xs : List α) (i : Int) : atI (xs.map f) i = (atI xs i).map f := by
  unfold atI
  rw [List.length_map]
  cases ixN xs.length i with
  | none => rfl
  | some j => simp
theorem Reps.at_ {F : Hp} {vs : List V} {ds : List D} {i : Int} (r : Reps g F vs ds) (h : atI ds i = some d) : ∃ v, atI vs i = some v ∧ Rep g F v d := by
  unfold atI at h ⊢
  rw [r.length]
  cases e : ixN ds.length i with
  | none => rw [e] at h; cases h
  | some j => rw [e] at h; exact r.get h
/-- at a written place of a written tuple -/
theorem od_ixTc {ds : List D} (i : Int) (h : atI ds i = some d := by rfl) : OpJ g (rIxT g.K) (.tup ds) (.int i) (.ok ()) (fun _ => .va d) := fun F O H v u Q W σ e r1 r2 q => by
  cases r2
  obtain ⟨a, vs, rfl, sq, rs⟩ := r1.tup_of
  obtain ⟨w, hw, rw'⟩ := rs.at_ h
  exact ⟨a, vs, i, w, rfl, rfl, e.sq sq, hw, q.done e ⟨rfl, _, rfl, rw'⟩⟩
theorem od_ixLc {ds : List D} (i : Int) (h : atI ds i = some d := by rfl) : OpJ g (rIxL g.K) (.lst ds) (.int i) (.ok ()) (fun _ => .va d) := fun F O H v u Q W σ e r1 r2 q => by
  cases r2
  obtain ⟨a, vs, rfl, sq, rs⟩ := r1.lst_of
  obtain ⟨w, hw, rw'⟩ := rs.at_ h
  exact ⟨a, vs, i, w, rfl, rfl, SqL.of (e _ _ sq), hw, q.done e ⟨rfl, _, rfl, rw'⟩⟩
theorem od_ixT {α : Type} {xs : List α} {i : Int} (enc : α → D) : OpJ g (rIxT g.K) (.tup (xs.map enc)) (.int i) (gt xs i) (fun a => .va (enc a)) := fun F O H v u Q W σ e r1 r2 q => by
  cases r2
  obtain ⟨a, vs, rfl, sq, rs⟩ := r1.tup_of
  unfold gt at q
  cases h : atI xs i with
  | none => rw [h] at q; exact q.elim
  | some b =>
    rw [h] at q
    obtain ⟨w, hw, rw'⟩ := rs.at_ (i := i) (d := enc b) (by rw [atI_map, h]; rfl)
    exact ⟨a, vs, i, w, rfl, rfl, e.sq sq, hw, q.done e ⟨rfl, _, rfl, rw'⟩⟩
theorem od_ixL {α : Type} {xs : List α} {i : Int} (enc : α → D) : OpJ g (rIxL g.K) (.lst (xs.map enc)) (.int i) (gt xs i) (fun a => .va (enc a)) := fun F O H v u Q W σ e r1 r2 q => by
  cases r2
  obtain ⟨a, vs, rfl, sq, rs⟩ := r1.lst_of
  unfold gt at q
  cases h : atI xs i with
  | none => rw [h] at q; exact q.elim
  | some b =>
    rw [h] at q
    obtain ⟨w, hw, rw'⟩ := rs.at_ (i := i) (d := enc b) (by rw [atI_map, h]; rfl)
    exact ⟨a, vs, i, w, rfl, rfl, SqL.of (e _ _ sq), hw, q.done e ⟨rfl, _, rfl, rw'⟩⟩
theorem od_ixR {α : Type} {xs : List α} {i : Int} (enc : α → D) : OpJ g (rIxL g.K) (.rol (xs.map enc)) (.int i) (gt xs i) (fun a => .va (enc a)) := fun F O H v u Q W σ e r1 r2 q => by
  cases r2
  obtain ⟨a, vs, rfl, sq, rs⟩ := r1.rol_of
  unfold gt at q
  cases h : atI xs i with
  | none => rw [h] at q; exact q.elim
  | some b =>
    rw [h] at q
    obtain ⟨w, hw, rw'⟩ := rs.at_ (i := i) (d := enc b) (by rw [atI_map, h]; rfl)
    exact ⟨a, vs, i, w, rfl, rfl, e.sl sq, hw, q.done e ⟨rfl, _, rfl, rw'⟩⟩
/-! ### tuples of ints in their order -/
theorem reps_ints : ∀ {F : Hp} {vs : List V} {xs : List Int}, Reps g F vs (xs.map D.int) → vs = xs.map V.int
  | _, _, [], .nil => rfl
  | _, _, x :: xs, .cons a b => by rw [a.int_of, reps_ints b]; rfl
theorem ints_reps {F : Hp} : ∀ (xs : List Int), Reps g F (xs.map V.int) (xs.map D.int)
  | [] => .nil
  | x :: xs => .cons (.int x) (ints_reps xs)
theorem reps_bls : ∀ {F : Hp} {vs : List V} {xs : List Bool}, Reps g F vs (xs.map D.bl) → vs = xs.map V.bl
  | _, _, [], .nil => rfl
  | _, _, x :: xs, .cons a b => by rw [a.bl_of, reps_bls b]; rfl
def lexLe : List Int → List Int → Bool
  | [], _ => true
  | _ :: _, [] => false
  | x :: xs, y :: ys => if x = y then lexLe xs ys else decide (x ≤ y)
theorem lexAt_le (ns ms : List Int) : ∀ k i, i + k = min ns.length ms.length →
    Ob.lexAt (fun j => decide (ns.getD j 0 = ms.getD j 0)) (fun j => decide (ns.getD j 0 ≤ ms.getD j 0)) (decide (ns.length ≤ ms.length)) i k = lexLe (ns.drop i) (ms.drop i)
  | 0, i, h => by
    rw [Ob.lexAt_zero]
    by_cases hl : ns.length ≤ ms.length
    · rw [List.drop_of_length_le (by omega : ns.length ≤ i)]
      simp [lexLe, hl]
    · have hi : i < ns.length := by omega
      rw [List.drop_of_length_le (by omega : ms.length ≤ i), List.drop_eq_getElem_cons hi]
      simp [lexLe, hl]
  | k + 1, i, h => by
    have h1 : i < ns.length := by omega
    have h2 : i < ms.length := by omega
    rw [Ob.lexAt_succ, lexAt_le ns ms k (i + 1) (by omega), List.drop_eq_getElem_cons h1, List.drop_eq_getElem_cons h2]
    simp [lexLe, List.getD_eq_getElem?_getD, List.getElem?_eq_getElem h1, List.getElem?_eq_getElem h2]
theorem od_leT {xs ys : List Int} : OpJ g (rLeT g.K) (.tup (xs.map .int)) (.tup (ys.map .int)) (.ok (lexLe xs ys)) vB := fun F O H v u Q W σ e r1 r2 q => by
  obtain ⟨a, vs, rfl, sq, rs⟩ := r1.tup_of
  obtain ⟨b, us, rfl, sq2, rs2⟩ := r2.tup_of
  have e1 := reps_ints rs
  have e2 := reps_ints rs2
  subst e1; subst e2
  refine ⟨a, b, xs, ys, rfl, rfl, e.sq sq, e.sq sq2, ?_⟩
  rw [lexAt_le xs ys _ 0 (by omega)]
  exact q.done e ⟨rfl, _, rfl, .bl _⟩
theorem od_ltT {xs ys : List Int} : OpJ g (rLtT g.K) (.tup (xs.map .int)) (.tup (ys.map .int)) (.ok (HT.lexLt xs ys)) vB := fun F O H v u Q W σ e r1 r2 q => by
  obtain ⟨a, vs, rfl, sq, rs⟩ := r1.tup_of
  obtain ⟨b, us, rfl, sq2, rs2⟩ := r2.tup_of
  have e1 := reps_ints rs
  have e2 := reps_ints rs2
  subst e1; subst e2
  exact ⟨a, b, xs, ys, rfl, rfl, e.sq sq, e.sq sq2, q.done e ⟨rfl, _, rfl, .bl _⟩⟩
end
/-! ### new objects -/
section
variable {g : Gx} {F O H F1 h1 H1 : Hp} {p : Addr} {o : HO}
theorem upd_self {H : Hp} {a : Addr} {o : HO} : upd H a o a = some o := upd_same
theorem Grow.own (G : Grow F H F1 emp H1) (hp : H1 p = none) (o : HO) : Grow F H F1 (sg p o) (upd H1 p o) := by
  have hF : F1 p = none := by
    cases e : F1 p with
    | none => rfl
    | some u => rw [G.fh p u e] at hp; cases hp
  refine ⟨G.ff, G.hh.trans (Ex.new hp), G.fh.trans (Ex.new hp), fun a u z => ?_, G.nf⟩
  obtain ⟨z1, z2⟩ := of_sg z
  subst z1; subst z2
  refine ⟨?_, upd_same, hF⟩
  cases e : H a with
  | none => rfl
  | some u => rw [G.hh a u e] at hp; cases hp
theorem Grow.fro (G : Grow F H F1 emp H1) (hp : H1 p = none) (o : HO) : Grow F H (upd F1 p o) emp (upd H1 p o) := by
  have hF : F1 p = none := by
    cases e : F1 p with
    | none => rfl
    | some u => rw [G.fh p u e] at hp; cases hp
  refine ⟨G.ff.trans (Ex.new hF), G.hh.trans (Ex.new hp), fun a u z => ?_, fun _ _ z => (by cases z), fun a z1 z2 => ?_⟩
  · by_cases h : a = p
    · subst h; rw [upd_same] at z ⊢; exact z
    · rw [upd_ne h] at z ⊢; exact G.fh a u z
  · have h : a ≠ p := fun z => by
      subst z
      obtain ⟨u, hu⟩ := some_of z1
      rw [G.hh a u hu] at hp; cases hp
    rw [upd_ne h]; exact G.nf a z1 z2
theorem ext_fro (G : Grow F H F1 emp H1) (hp : H1 p = none) (o : HO) : Ex F1 (upd F1 p o) := Ex.new (by
  cases e : F1 p with
  | none => rfl
  | some u => rw [G.fh p u e] at hp; cases hp)
end
section
variable {X : Cx} {Γ Γx : List Sl} {e a b c : Expr} {es : List Expr} {p pos pos' : Pos} {ρ ρ1 ρ2 ρA : Type} {m : M ρ} {m1 : M ρ1} {t : ρ → Sl} {ts : ρ → List D}
theorem jp_tup {kk} (h : JA X Γ es m ts) (hl : ∀ r, (ts r).length ≤ 1000 := by intro _; exact of_decide_eq_true rfl) : JP X Γ (.Tuple es kk pos) m (fun r => .va (.tup (ts r))) := fun F O σ H Q W S tk f => RE.of (pe_tup paR) (h F O σ H _ W S tk (by
  revert f
  cases m with
  | st => exact id
  | er x => exact id
  | ok r =>
    intro f F1 vs H1 G k1
    refine ⟨by rw [k1.length, sizeLine_eq]; have := hl r; omega, fun p hp => f _ emp _ _ (G.fro hp (.tup vs)) ⟨rfl, _, rfl, .tup upd_same (k1.mono (ext_fro G hp _))⟩⟩))
theorem jp_lst (h : JA X Γ es m ts) (hl : ∀ r, (ts r).length ≤ 1000 := by intro _; exact of_decide_eq_true rfl) : JP X Γ (.List es pos) m (fun r => .ow none (.lst (ts r))) := fun F O σ H Q W S tk f => RE.of (pe_lst paR) (h F O σ H _ W S tk (by
  revert f
  cases m with
  | st => exact id
  | er x => exact id
  | ok r =>
    intro f F1 vs H1 G k1
    refine ⟨by rw [k1.length, sizeLine_eq]; have := hl r; omega, fun p hp => f _ _ _ _ (G.own hp (.lst vs)) ⟨p, _, rfl, rfl, ⟨vs, rfl, k1⟩, fun _ z => (by cases z)⟩⟩))
/-- o.f -/
theorem jp_fld {f : Str} {C : Addr} {gs : ρ → List (Str × D)} {d : ρ → D} (h : JP X Γ e m (fun r => .va (.ob C (gs r)))) (hc : Cls X.K C) (hn : NoAttr X.K C f) (hl : ∀ r, (gs r).lookup f = some (d r) := by intro _; rfl) (hb : attributeBase e f X.env (eval e X.env) = eval e X.env := by rfl) :
    JP X Γ (.Attribute e f pos) m (fun r => .va (d r)) := fun F O σ H Q W S tk fi => RE.of (pe_fld peR hb) (h F O σ H _ W S tk (by
  revert fi
  cases m with
  | st => exact id
  | er x => exact id
  | ok r =>
    intro fi F1 hh v H1 G k1
    obtain ⟨eh, rv⟩ := Sl.va_of k1
    subst eh
    obtain ⟨a, dx, fs, rfl, ha, rf⟩ := rv.ob_of
    obtain ⟨w, hw, rw'⟩ := rf.look (hl r)
    exact ⟨a, C, dx, fs, w, rfl, G.fh _ _ ha, hc, hn, hw, fi F1 emp w H1 G ⟨rfl, _, rfl, rw'⟩⟩))
/-! ### built-in calls by values -/
def ArJ (g : Gx) (rr : List V → Hp → VK → Prop) (ds : List D) {ρ : Type} (m : M ρ) (t : ρ → Sl) : Prop :=
  ∀ (F O H : Hp) (vs : List V) (Q : VK) (W : WX) (σ : L2.St), Ex F H → Reps g F vs ds → Fi g F O H W σ m t Q → rr vs H Q
theorem seamA {rr : List V → Hp → VK → Prop} {k : ρ → M ρ2} {t2 : ρ2 → Sl} {F O H : Hp} {σ : L2.St} {W : WX} {Q : VK} (ha : JA X Γ es m ts) (S : Sat (gx X) F Γ σ O H) (tk : L2N.Takes X W) (f : Fi (gx X) F O H W σ (bnd m k) t2 Q) (h3 : ∀ r, ArJ (gx X) rr (ts r) (k r) t2) :
    RA X es σ H fun vs H1 => rr vs H1 Q := ha F O σ H _ W S tk (by
  have f1 := f.bndA S (t1 := ts)
  revert f1
  cases m with
  | st => exact id
  | er x => exact id
  | ok r =>
    intro f1 F1 vs H1 G k1
    obtain ⟨r', F1, ee, G, k1, S1, f2⟩ := f1 F1 vs H1 G k1
    cases ee
    exact h3 r F1 O H1 vs Q W σ S1.fh k1 f2)
theorem jp_cb {x : Str} {id : String} {rr : List V → Hp → VK → Prop} {k : ρ → M ρ2} {t2 : ρ2 → Sl} (hc : CallR X (.builtin id) rr) (hm : X.mg x = none) (hv : bootBuiltins x = some (.builtin id)) (ha : JA X Γ (e :: es) m ts) (h3 : ∀ r, ArJ (gx X) rr (ts r) (k r) t2) (hg : Gl X x := by rfl)
    (hn : x ≠ "__name__" := by decide) (hdb : (x == ("__debug__" : Str)) = false := by decide) (he : starEach (e :: es) X.env = (false, eval e X.env) :: starEach es X.env := by rfl) (hpl : (backTo pos (starEach es X.env)).any (·.1) = false := by rfl) :
    JP X Γ (.Call (.Name x p) (e :: es) [] pos) (bnd m k) t2 := fun F O σ H Q W S tk f => RE.of (pe_callB hc hg hm hv paR hn hdb he hpl) (seamA ha S tk f h3)
theorem jp_cty {x : Str} {T : String} {rr : List V → Hp → VK → Prop} {k : ρ → M ρ2} {t2 : ρ2 → Sl} (hc : CallR X (.type T) rr) (hm : X.mg x = none) (hv : bootBuiltins x = some (.type T)) (ha : JA X Γ (e :: es) m ts) (h3 : ∀ r, ArJ (gx X) rr (ts r) (k r) t2) (hg : Gl X x := by rfl)
    (hn : x ≠ "__name__" := by decide) (hdb : (x == ("__debug__" : Str)) = false := by decide) (he : starEach (e :: es) X.env = (false, eval e X.env) :: starEach es X.env := by rfl) (hpl : (backTo pos (starEach es X.env)).any (·.1) = false := by rfl) :
    JP X Γ (.Call (.Name x p) (e :: es) [] pos) (bnd m k) t2 := fun F O σ H Q W S tk f => RE.of (pe_callTy hc hg hm hv paR hn hdb he hpl) (seamA ha S tk f h3)
theorem Reps.one {g : Gx} {F : Hp} {vs : List V} {d : D} (r : Reps g F vs [d]) : ∃ v, vs = [v] ∧ Rep g F v d := by
  cases r with
  | cons a b => cases b; exact ⟨_, rfl, a⟩
theorem Reps.two {g : Gx} {F : Hp} {vs : List V} {d1 d2 : D} (r : Reps g F vs [d1, d2]) : ∃ v u, vs = [v, u] ∧ Rep g F v d1 ∧ Rep g F u d2 := by
  cases r with
  | cons a b =>
    obtain ⟨u, e, r⟩ := b.one
    subst e
    exact ⟨_, _, rfl, a, r⟩
def lenD : D → M Int
  | .tup l => .ok l.length
  | .lst l => .ok l.length
  | .rol l => .ok l.length
  | .str s => chk (s.length ≤ 16777216) s.length
  | _ => .st
theorem ar_len {d : D} : ArJ (gx X) (fun xs H Q => ∃ x n, xs = [x] ∧ LenV X.K x H n ∧ Q (.int n) H) [d] (lenD d) vI := fun F O H vs Q W σ e r q => by
  obtain ⟨v, e0, r1⟩ := r.one; subst e0
  have fin : ∀ {n : Nat}, Fi (gx X) F O H W σ (.ok (n : Int)) vI Q → Q (.int n) H := fun q => q.done e ⟨rfl, _, rfl, .int _⟩
  cases r1 with
  | tup s rs => exact ⟨_, _, rfl, .inr ⟨_, SqT.of (e _ _ s), rfl⟩, by rw [rs.length]; exact fin q⟩
  | lst s rs => exact ⟨_, _, rfl, .inl ⟨_, SqL.of (e _ _ s), rfl⟩, by rw [rs.length]; exact fin q⟩
  | rol s rs => exact ⟨_, _, rfl, .inl ⟨_, e.sl s, rfl⟩, by rw [rs.length]; exact fin q⟩
  | str x =>
    have q : Fi (gx X) F O H W σ (chk (x.length ≤ 16777216) (x.length : Int)) vI Q := q
    unfold chk at q
    by_cases h : x.length ≤ 16777216
    · rw [if_pos h] at q
      exact ⟨_, _, rfl, ⟨by rw [sizeLine_eq]; exact h, rfl⟩, fin q⟩
    · rw [if_neg h] at q; exact q.elim
  | _ => exact q.elim
theorem ar_int {x : Int} : ArJ (gx X) (fun xs H Q => (∃ i, xs = [.int i] ∧ Q (.int i) H) ∨ ∃ k, xs = [.bl k] ∧ Q (.int (if k then 1 else 0)) H) [.int x] (.ok x) vI := fun F O H vs Q W σ e r q => by
  obtain ⟨v, e0, r1⟩ := r.one; subst e0
  cases r1
  exact .inl ⟨x, rfl, q.done e ⟨rfl, _, rfl, .int _⟩⟩
theorem ar_min2 {x y : Int} : ArJ (gx X) (fun xs H Q => ∃ i j, xs = [.int i, .int j] ∧ Q (.int (if j < i then j else i)) H) [.int x, .int y] (.ok (if y < x then y else x)) vI := fun F O H vs Q W σ e r q => by
  obtain ⟨v, u, e0, r1, r2⟩ := r.two; subst e0
  cases r1; cases r2
  exact ⟨x, y, rfl, q.done e ⟨rfl, _, rfl, .int _⟩⟩
theorem ar_max2 {x y : Int} : ArJ (gx X) (fun xs H Q => ∃ i j, xs = [.int i, .int j] ∧ Q (.int (if j > i then j else i)) H) [.int x, .int y] (.ok (if y > x then y else x)) vI := fun F O H vs Q W σ e r q => by
  obtain ⟨v, u, e0, r1, r2⟩ := r.two; subst e0
  cases r1; cases r2
  exact ⟨x, y, rfl, q.done e ⟨rfl, _, rfl, .int _⟩⟩
theorem ar_all {xs : List Bool} : ArJ (gx X) (rAll X.K) [.lst (xs.map .bl)] (.ok (xs.all id)) vB := fun F O H vs Q W σ e r q => by
  obtain ⟨v, e0, r1⟩ := r.one; subst e0
  obtain ⟨a, ws, rfl, sq, rs⟩ := r1.lst_of
  rw [reps_bls rs] at sq
  exact ⟨a, xs, rfl, SqL.of (e _ _ sq), q.done e ⟨rfl, _, rfl, .bl _⟩⟩
theorem ar_any {xs : List Bool} : ArJ (gx X) (rAny X.K) [.lst (xs.map .bl)] (.ok (xs.any id)) vB := fun F O H vs Q W σ e r q => by
  obtain ⟨v, e0, r1⟩ := r.one; subst e0
  obtain ⟨a, ws, rfl, sq, rs⟩ := r1.lst_of
  rw [reps_bls rs] at sq
  exact ⟨a, xs, rfl, SqL.of (e _ _ sq), q.done e ⟨rfl, _, rfl, .bl _⟩⟩
theorem ar_sum {xs : List Int} : ArJ (gx X) (rSum X.K) [.lst (xs.map .int)] (.ok xs.sum) vI := fun F O H vs Q W σ e r q => by
  obtain ⟨v, e0, r1⟩ := r.one; subst e0
  obtain ⟨a, ws, rfl, sq, rs⟩ := r1.lst_of
  rw [reps_ints rs] at sq
  exact ⟨a, xs, rfl, SqL.of (e _ _ sq), q.done e ⟨rfl, _, rfl, .int _⟩⟩
/-- tuple(..), list(..): the items -/
def itemsD : D → M (List D)
  | .tup l => .ok l
  | .lst l => .ok l
  | .rol l => .ok l
  | _ => .st
theorem ar_tuple {d : D} : ArJ (gx X) (fun xs H Q => ∃ p ys, xs = [.ref p] ∧ ((SqL X.K H p ys ∧ ∀ l, H l = none → Q (.ref l) (upd H l (.tup ys))) ∨ (SqT X.K H p ys ∧ Q (.ref p) H))) [d] (itemsD d) (fun l => .va (.tup l)) := fun F O H vs Q W σ e r q => by
  obtain ⟨v, e0, r1⟩ := r.one; subst e0
  have new : ∀ {ds : List D} {ws : List V}, Fi (gx X) F O H W σ (.ok ds) (fun l => .va (.tup l)) Q → Reps (gx X) F ws ds → ∀ l, H l = none → Q (.ref l) (upd H l (.tup ws)) := fun q rs l hl =>
    q _ emp _ _ ((Grow.refl e).fro hl _) ⟨rfl, _, rfl, .tup upd_same (rs.mono (ext_fro (Grow.refl e) hl _))⟩
  cases r1 with
  | tup s rs => exact ⟨_, _, rfl, .inr ⟨SqT.of (e _ _ s), q.done e ⟨rfl, _, rfl, .tup s rs⟩⟩⟩
  | lst s rs => exact ⟨_, _, rfl, .inl ⟨SqL.of (e _ _ s), new q rs⟩⟩
  | rol s rs => exact ⟨_, _, rfl, .inl ⟨e.sl s, new q rs⟩⟩
  | _ => exact q.elim
theorem ar_list {d : D} : ArJ (gx X) (fun xs H Q => ∃ p ys, xs = [.ref p] ∧ (SqL X.K H p ys ∨ SqT X.K H p ys) ∧ ∀ l, H l = none → Q (.ref l) (upd H l (.lst ys))) [d] (itemsD d) (fun l => .ow none (.lst l)) := fun F O H vs Q W σ e r q => by
  obtain ⟨v, e0, r1⟩ := r.one; subst e0
  have new : ∀ {ds : List D} {ws : List V}, Fi (gx X) F O H W σ (.ok ds) (fun l => .ow none (.lst l)) Q → Reps (gx X) F ws ds → ∀ l, H l = none → Q (.ref l) (upd H l (.lst ws)) := fun q rs l hl =>
    q _ _ _ _ ((Grow.refl e).own hl _) ⟨l, _, rfl, rfl, ⟨_, rfl, rs⟩, fun _ z => (by cases z)⟩
  cases r1 with
  | tup s rs => exact ⟨_, _, rfl, .inr (SqT.of (e _ _ s)), new q rs⟩
  | lst s rs => exact ⟨_, _, rfl, .inl (SqL.of (e _ _ s)), new q rs⟩
  | rol s rs => exact ⟨_, _, rfl, .inl (e.sl s), new q rs⟩
  | _ => exact q.elim
end
end Z
set_option Elab.async false
set_option linter.all false
set_option maxRecDepth 100000
set_option maxHeartbeats 4000000
namespace Z
open PySem PySem.Spec L2
/-! ### arguments that may change what a slot holds -/
section
variable {g : Gx} {F O H F' O' H' F1 O1 H1 h h1 : Hp} {W : WX} {σ : L2.St} {ρ ρ1 ρ2 : Type} {Γ : List Sl}
def Sp {α : Type} (E : Exn → Prop) (P : α → Prop) : M α → Prop
  | .st => False
  | .er x => E x
  | .ok a => P a
def FiAE (g : Gx) (F O H : Hp) (W : WX) (σ : L2.St) (m : M ρ) (ts : ρ → List D) (Γ' : ρ → List Sl) (Q : List V → Hp → Prop) : Prop := match m with
  | .st => False
  | .ok r => ∀ F' O' vs H', Sat g F' (Γ' r) σ O' H' → Trn F O H F' O' H' → Reps g F' vs (ts r) → Q vs H'
  | .er x => Fer g F O H W σ x
def JAE (X : Cx) (Γ : List Sl) (es : List Expr) {ρ : Type} (m : M ρ) (ts : ρ → List D) (Γ' : ρ → List Sl) : Prop :=
  ∀ (F O : Hp) (σ : L2.St) (H : Hp) (Q : List V → Hp → Prop) (W : WX), Sat (gx X) F Γ σ O H → L2N.Takes X W → FiAE (gx X) F O H W σ m ts Γ' Q → RA X es σ H Q
theorem FiE.val {m : M ρ} {d : ρ → D} {Γ' : ρ → List Sl} {Q : VK} (f : Sp (Fer g F O H W σ) (fun r => ∀ F' O' v H', Sat g F' (Γ' r) σ O' H' → Trn F O H F' O' H' → Rep g F' v (d r) → Q v H') m) : FiE g F O H W σ m (fun r => .va (d r)) Γ' Q := by
  cases m with
  | st => exact f
  | er x => exact f
  | ok r =>
    intro F' O' v H' S T
    obtain ⟨h0, O2, k0, d0, e0, S2⟩ := S.tail
    obtain ⟨eh, rv⟩ := Sl.va_of k0
    subst eh; subst e0
    exact f F' O2 v H' S2 T rv
theorem FiAE.step (fh : Ex F H) (fo : Dis F1 O') {m : M ρ} {t : ρ → List D} {Γ' : ρ → List Sl} {Q : List V → Hp → Prop} (f : FiAE g F O H W σ m t Γ' Q) (T : Trn F O H F1 O' H1) : FiAE g F1 O' H1 W σ m t Γ' Q := by
  cases m with
  | st => exact f
  | er x => exact Fer.step fh fo f T
  | ok r => exact fun F' O2 v H' S T2 => f F' O2 v H' S (Trn.trans fh fo T T2)
theorem FiTE.step (fh : Ex F H) (fo : Dis F1 O') {m : M ρ} {bb : ρ → Bool} {Γ' : ρ → List Sl} {Q : Bool → Hp → Prop} (f : FiTE g F O H W σ m bb Γ' Q) (T : Trn F O H F1 O' H1) : FiTE g F1 O' H1 W σ m bb Γ' Q := by
  cases m with
  | st => exact f
  | er x => exact Fer.step fh fo f T
  | ok r => exact fun F' O2 H' S T2 => f F' O2 H' S (Trn.trans fh fo T T2)
theorem FiE.done {r : ρ} {t : ρ → Sl} {Γ' : ρ → List Sl} {Q : VK} {v : V} {d : D} (S : Sat g F Γ σ O H) (f : FiE g F O H W σ (.ok r) t Γ' Q) (hΓ : Γ' r = Γ) (ht : t r = .va d) (k : Rep g F v d) : Q v H := by
  refine f F (uni emp O) v H ?_ Trn.refl
  rw [ht, hΓ]
  exact ⟨.cons ⟨rfl, v, rfl, k⟩ S.l (dis_emp _), S.fh, S.oh, S.fo⟩
/-- what a pure end gives, in FiE -/
theorem Fi.ofE (S : Sat g F Γ σ O H) {m : M ρ} {t : ρ → Sl} {Q : VK} (f : FiE g F O H W σ m t (fun _ => Γ) Q) : Fi g F O H W σ m t Q := f.fi S
end
section
variable {X : Cx} {Γ Γx : List Sl} {e a b c : Expr} {es : List Expr} {p pos pos' : Pos} {ρ ρ1 ρ2 ρ3 ρA ζ : Type} {m : M ρ} {m1 : M ρ1} {t : ρ → Sl} {ts : ρ → List D} {Γ1 : ρ1 → List Sl} {Γ2 : ρ1 → ρ2 → List Sl} {Γ' : ρ → List Sl} {d1 : ρ1 → D} {m2 : ρ1 → M ρ2} {d2 : ρ1 → ρ2 → D} {k : ρ1 → ρ2 → M ρ}
theorem JA.jae (h : JA X Γ es m ts) : JAE X Γ es m ts (fun _ => Γ) := fun F O σ H Q W S tk f => h F O σ H Q W S tk (by
  cases m with
  | st => exact f
  | er x => exact f
  | ok r => exact fun F' vs H' G r' => f F' _ vs H' (S.grow G) (G.trnO S) r')
theorem jae_nil : JAE X Γ [] (.ok ()) (fun _ => []) (fun _ => Γ) := (ja_nil (X := X) (Γ := Γ)).jae
theorem jae_cons {m2 : ρ1 → M ρ2} {ts : ρ1 → ρ2 → List D} (h1 : JE X Γ e m1 (fun r => .va (d1 r)) Γ1) (h2 : ∀ r, JAE X (Γ1 r) es (m2 r) (ts r) (Γ2 r)) (hs : starEach (e :: es) X.env = (false, eval e X.env) :: starEach es X.env := by rfl) :
    JAE X Γ (e :: es) (bnd m1 fun r => bnd (m2 r) fun s => .ok (r, s)) (fun p => d1 p.1 :: ts p.1 p.2) (fun p => Γ2 p.1 p.2) := fun F O σ H Q W S tk f =>
  RA.of (pa_cons peR paR hs) (h1 F O σ H _ W S tk (FiE.val (by
    revert f
    cases m1 with
    | st => exact id
    | er x => exact id
    | ok r =>
      intro f F1 O1 v H1 S1 T1 r1
      have f2 : FiAE (gx X) F1 O1 H1 W σ (bnd (m2 r) fun s => .ok (r, s)) (fun p => d1 p.1 :: ts p.1 p.2) (fun p => Γ2 p.1 p.2) Q := FiAE.step S.fh S1.fo f T1
      refine h2 r F1 O1 σ H1 _ W S1 tk ?_
      revert f2
      cases m2 r with
      | st => exact id
      | er x => exact id
      | ok s => exact fun f2 F2 O2 vs H2 S2 T2 r2 => f2 F2 O2 (v :: vs) H2 S2 T2 (.cons (r1.mono T2.ff) r2))))
/-- two operands -/
theorem twoE {rr : R2} (h1 : JE X Γ a m1 (fun r => .va (d1 r)) Γ1) (h2 : ∀ r, JE X (Γ1 r) b (m2 r) (fun s => .va (d2 r s)) (Γ2 r)) (h3 : ∀ r s, OpJ (gx X) rr (d1 r) (d2 r s) (k r s) t)
    {F O : Hp} {σ : L2.St} {H : Hp} {Q : VK} {W : WX} (S : Sat (gx X) F Γ σ O H) (tk : L2N.Takes X W)
    (f : Sp (Fer (gx X) F O H W σ) (fun r => Sp (Fer (gx X) F O H W σ) (fun s => FiE (gx X) F O H W σ (k r s) t (fun _ => Γ2 r s) Q) (m2 r)) m1) : tOp rr (RE X a) (RE X b) σ H Q := h1 F O σ H _ W S tk (FiE.val (by
  revert f
  cases m1 with
  | st => exact id
  | er x => exact id
  | ok r =>
    intro f F1 O1 v H1 S1 T1 r1
    refine h2 r F1 O1 σ H1 _ W S1 tk (FiE.val ?_)
    have f : Sp (Fer (gx X) F O H W σ) (fun s => FiE (gx X) F O H W σ (k r s) t (fun _ => Γ2 r s) Q) (m2 r) := f
    revert f
    cases m2 r with
    | st => exact id
    | er x => exact fun f => Fer.step (x := x) S.fh S1.fo f T1
    | ok s =>
      intro f F2 O2 u H2 S2 T2 r2
      have f : FiE (gx X) F O H W σ (k r s) t (fun _ => Γ2 r s) Q := f
      exact h3 r s F2 O2 H2 v u Q W σ S2.fh (r1.mono T2.ff) r2 (FiE.fi S2 (FiE.step S.fh S2.fo f (Trn.trans S.fh S1.fo T1 T2)))))
theorem two_f {g : Gx} {F O H : Hp} {σ : L2.St} {W : WX} {Q : VK} (f : FiE g F O H W σ (bnd m1 fun r => bnd (m2 r) fun s => bnd (k r s) fun z => .ok (z, r, s)) (fun z => t z.1) (fun z => Γ2 z.2.1 z.2.2) Q) : Sp (Fer g F O H W σ) (fun r => Sp (Fer g F O H W σ) (fun s => FiE g F O H W σ (k r s) t (fun _ => Γ2 r s) Q) (m2 r)) m1 := by
  revert f
  cases m1 with
  | st => exact id
  | er x => exact id
  | ok r =>
    show FiE g F O H W σ (bnd (m2 r) fun s => bnd (k r s) fun z => .ok (z, r, s)) _ _ Q → _
    show _ → Sp (Fer g F O H W σ) (fun s => FiE g F O H W σ (k r s) t (fun _ => Γ2 r s) Q) (m2 r)
    cases m2 r with
    | st => exact id
    | er x => exact id
    | ok s =>
      show FiE g F O H W σ (bnd (k r s) fun z => .ok (z, r, s)) _ _ Q → FiE g F O H W σ (k r s) t (fun _ => Γ2 r s) Q
      cases k r s with
      | st => exact id
      | er x => exact id
      | ok z => exact id
theorem je_op {op : Operator} {rr : R2} (ho : OpR X (binaryOp op) rr) (h1 : JE X Γ a m1 (fun r => .va (d1 r)) Γ1) (h2 : ∀ r, JE X (Γ1 r) b (m2 r) (fun s => .va (d2 r s)) (Γ2 r)) (h3 : ∀ r s, OpJ (gx X) rr (d1 r) (d2 r s) (k r s) t) :
    JE X Γ (.BinOp a op b pos) (bnd m1 fun r => bnd (m2 r) fun s => bnd (k r s) fun z => .ok (z, r, s)) (fun z => t z.1) (fun z => Γ2 z.2.1 z.2.2) := fun F O σ H Q W S tk f => RE.of (pe_op ho peR peR) (twoE h1 h2 h3 S tk (two_f f))
theorem je_cmp {op : CmpOp} {rr : R2} (ho : OpR X (compareOp op) rr) (hm : behindInMarks op b = false) (h1 : JE X Γ a m1 (fun r => .va (d1 r)) Γ1) (h2 : ∀ r, JE X (Γ1 r) b (m2 r) (fun s => .va (d2 r s)) (Γ2 r)) (h3 : ∀ r s, OpJ (gx X) rr (d1 r) (d2 r s) (k r s) t) :
    JE X Γ (.Compare a [op] [b] pos) (bnd m1 fun r => bnd (m2 r) fun s => bnd (k r s) fun z => .ok (z, r, s)) (fun z => t z.1) (fun z => Γ2 z.2.1 z.2.2) := fun F O σ H Q W S tk f => RE.of (pe_cmpR ho peR peR hm) (twoE h1 h2 h3 S tk (two_f f))
theorem je_ix {rr : R2} (ho : IxR X rr) (h1 : JE X Γ a m1 (fun r => .va (d1 r)) Γ1) (h2 : ∀ r, JE X (Γ1 r) b (m2 r) (fun s => .va (d2 r s)) (Γ2 r)) (h3 : ∀ r s, OpJ (gx X) rr (d1 r) (d2 r s) (k r s) t) (hs : PlainIx b := by exact fun _ _ => rfl) :
    JE X Γ (.Subscript a b pos) (bnd m1 fun r => bnd (m2 r) fun s => bnd (k r s) fun z => .ok (z, r, s)) (fun z => t z.1) (fun z => Γ2 z.2.1 z.2.2) := fun F O σ H Q W S tk f => RE.of (pe_ix ho peR peR hs) (twoE h1 h2 h3 S tk (two_f f))
/-- the test a op b -/
theorem fiTE_val {g : Gx} {F O H : Hp} {W : WX} {σ : L2.St} {m : M ρ} {bb : ρ → Bool} {Γ' : ρ → List Sl} {Q : Bool → Hp → Prop} (f : FiTE g F O H W σ m bb Γ' Q) : FiE g F O H W σ m (fun r => .va (.bl (bb r))) Γ' (fun x H' => ∃ k, x = .bl k ∧ Q k H') := FiE.val (by
  cases m with
  | st => exact f
  | er x => exact f
  | ok r => exact fun F' O' v H' S T r' => ⟨bb r, r'.bl_of, f F' O' H' S T⟩)
theorem jte_cmp {op : CmpOp} {rr : R2} {k : ρ1 → ρ2 → M Bool} (ho : OpR X (compareOp op) rr) (hm : behindInMarks op b = false) (h1 : JE X Γ a m1 (fun r => .va (d1 r)) Γ1) (h2 : ∀ r, JE X (Γ1 r) b (m2 r) (fun s => .va (d2 r s)) (Γ2 r)) (h3 : ∀ r s, OpJ (gx X) rr (d1 r) (d2 r s) (k r s) vB) :
    JTE X Γ (.Compare a [op] [b] pos) (bnd m1 fun r => bnd (m2 r) fun s => bnd (k r s) fun z => .ok (z, r, s)) (fun z => z.1) (fun z => Γ2 z.2.1 z.2.2) := fun F O σ H Q W S tk f => RT.of (pt_cmpR ho peR peR hm) (twoE h1 h2 h3 S tk (two_f (fiTE_val f)))
theorem jte_not {mt : M ρ} {bb : ρ → Bool} (h : JTE X Γ a mt bb Γ') : JTE X Γ (.UnaryOp .Not a pos) mt (fun r => !bb r) Γ' := fun F O σ H Q W S tk f => RT.of (pt_not ptR) (h F O σ H _ W S tk (by
  cases mt with
  | st => exact f
  | er x => exact f
  | ok r => exact f))
theorem je_un {op : UnaryOp} {rr : V → Hp → VK → Prop} {k : ρ1 → M ρ} (ho : UnR X (unaryOp op) rr) (h1 : JE X Γ a m1 (fun r => .va (d1 r)) Γ1) (h3 : ∀ r, UnJ (gx X) rr (d1 r) (k r) t) : JE X Γ (.UnaryOp op a pos) (bnd m1 fun r => bnd (k r) fun z => .ok (z, r)) (fun z => t z.1) (fun z => Γ1 z.2) := fun F O σ H Q W S tk f =>
  RE.of (pe_un ho peR) (h1 F O σ H _ W S tk (FiE.val (by
    revert f
    cases m1 with
    | st => exact id
    | er x => exact id
    | ok r =>
      intro f F1 O1 v H1 S1 T1 r1
      refine h3 r F1 O1 H1 v Q W σ S1.fh r1 (FiE.fi S1 (FiE.step S.fh S1.fo ?_ T1))
      revert f
      show FiE (gx X) F O H W σ (bnd (k r) fun z => .ok (z, r)) _ _ Q → _
      cases k r with
      | st => exact id
      | er x => exact id
      | ok z => exact id)))
/-! ### built with arguments -/
theorem fiAE_end {g : Gx} {F O H : Hp} {W : WX} {σ : L2.St} {Γ : List Sl} {mA : M ρA} {ts : ρA → List D} {ΓA : ρA → List Sl} {Q : VK} {m : ρA → M ρ} {t : ρ → Sl} {R : List V → Hp → Prop} (S : Sat g F Γ σ O H) (f : FiE g F O H W σ (bnd mA fun q => bnd (m q) fun z => .ok (z, q)) (fun z => t z.1) (fun z => ΓA z.2) Q)
    (h : ∀ q F1 O1 vs H1, mA = .ok q → Sat g F1 (ΓA q) σ O1 H1 → Reps g F1 vs (ts q) → FiE g F1 O1 H1 W σ (m q) t (fun _ => ΓA q) Q → R vs H1) : FiAE g F O H W σ mA ts ΓA R := by
  revert f h
  cases mA with
  | st => exact fun f _ => f
  | er x => exact fun f _ => f
  | ok q =>
    intro f h F1 O1 vs H1 S1 T1 r1
    refine h q F1 O1 vs H1 rfl S1 r1 (FiE.step S.fh S1.fo ?_ T1)
    revert f
    show FiE g F O H W σ (bnd (m q) fun z => .ok (z, q)) _ _ Q → _
    cases m q with
    | st => exact id
    | er x => exact id
    | ok z => exact id
theorem fiE_drop {g : Gx} {F O H : Hp} {W : WX} {σ : L2.St} {mA : M ρA} {ΓA : ρA → List Sl} {Q : VK} {t : ρA → Sl} (f : FiE g F O H W σ mA t ΓA Q) : FiE g F O H W σ (bnd mA fun q => bnd (M.ok q) fun z => .ok (z, q)) (fun z => t z.1) (fun z => ΓA z.2) Q := by
  cases mA with
  | st => exact f
  | er x => exact f
  | ok q => exact f
theorem je_tup {kk} {mA : M ρA} {ts : ρA → List D} {ΓA : ρA → List Sl} (h : JAE X Γ es mA ts ΓA) (hl : ∀ r, (ts r).length ≤ 1000 := by intro _; exact of_decide_eq_true rfl) : JE X Γ (.Tuple es kk pos) mA (fun r => .va (.tup (ts r))) ΓA := fun F O σ H Q W S tk f => RE.of (pe_tup paR) (h F O σ H _ W S tk (fiAE_end (m := fun q => .ok q) (t := fun r => .va (.tup (ts r))) S (fiE_drop f) fun q F1 O1 vs H1 _ S1 r1 f1 => by
  refine ⟨by rw [r1.length, sizeLine_eq]; have := hl q; omega, fun l hl => ?_⟩
  have f2 := FiE.fi S1 f1
  exact f2 _ emp _ _ ((Grow.refl S1.fh).fro hl (.tup vs)) ⟨rfl, _, rfl, .tup upd_same (r1.mono (ext_fro (Grow.refl S1.fh) hl _))⟩))
theorem je_lst {mA : M ρA} {ts : ρA → List D} {ΓA : ρA → List Sl} (h : JAE X Γ es mA ts ΓA) (hl : ∀ r, (ts r).length ≤ 1000 := by intro _; exact of_decide_eq_true rfl) : JE X Γ (.List es pos) mA (fun r => .ow none (.lst (ts r))) ΓA := fun F O σ H Q W S tk f => RE.of (pe_lst paR) (h F O σ H _ W S tk (fiAE_end (m := fun q => .ok q) (t := fun r => .ow none (.lst (ts r))) S (fiE_drop f) fun q F1 O1 vs H1 _ S1 r1 f1 => by
  refine ⟨by rw [r1.length, sizeLine_eq]; have := hl q; omega, fun l hl => ?_⟩
  have f2 := FiE.fi S1 f1
  exact f2 _ _ _ _ ((Grow.refl S1.fh).own hl (.lst vs)) ⟨l, _, rfl, rfl, ⟨vs, rfl, r1⟩, fun _ z => (by cases z)⟩))
theorem je_cb {x : Str} {id : String} {rr : List V → Hp → VK → Prop} {mA : M ρA} {ts : ρA → List D} {ΓA : ρA → List Sl} {k : ρA → M ρ} (hc : CallR X (.builtin id) rr) (hm : X.mg x = none) (hv : bootBuiltins x = some (.builtin id)) (ha : JAE X Γ (e :: es) mA ts ΓA) (h3 : ∀ r, ArJ (gx X) rr (ts r) (k r) t) (hg : Gl X x := by rfl)
    (hn : x ≠ "__name__" := by decide) (hdb : (x == ("__debug__" : Str)) = false := by decide) (he : starEach (e :: es) X.env = (false, eval e X.env) :: starEach es X.env := by rfl) (hpl : (backTo pos (starEach es X.env)).any (·.1) = false := by rfl) :
    JE X Γ (.Call (.Name x p) (e :: es) [] pos) (bnd mA fun q => bnd (k q) fun z => .ok (z, q)) (fun z => t z.1) (fun z => ΓA z.2) := fun F O σ H Q W S tk f => RE.of (pe_callB hc hg hm hv paR hn hdb he hpl) (ha F O σ H _ W S tk (fiAE_end S f fun q F1 O1 vs H1 _ S1 r1 f1 => h3 q F1 O1 H1 vs Q W σ S1.fh r1 (FiE.fi S1 f1)))
theorem je_cty {x : Str} {T : String} {rr : List V → Hp → VK → Prop} {mA : M ρA} {ts : ρA → List D} {ΓA : ρA → List Sl} {k : ρA → M ρ} (hc : CallR X (.type T) rr) (hm : X.mg x = none) (hv : bootBuiltins x = some (.type T)) (ha : JAE X Γ (e :: es) mA ts ΓA) (h3 : ∀ r, ArJ (gx X) rr (ts r) (k r) t) (hg : Gl X x := by rfl)
    (hn : x ≠ "__name__" := by decide) (hdb : (x == ("__debug__" : Str)) = false := by decide) (he : starEach (e :: es) X.env = (false, eval e X.env) :: starEach es X.env := by rfl) (hpl : (backTo pos (starEach es X.env)).any (·.1) = false := by rfl) :
    JE X Γ (.Call (.Name x p) (e :: es) [] pos) (bnd mA fun q => bnd (k q) fun z => .ok (z, q)) (fun z => t z.1) (fun z => ΓA z.2) := fun F O σ H Q W S tk f => RE.of (pe_callTy hc hg hm hv paR hn hdb he hpl) (ha F O σ H _ W S tk (fiAE_end S f fun q F1 O1 vs H1 _ S1 r1 f1 => h3 q F1 O1 H1 vs Q W σ S1.fh r1 (FiE.fi S1 f1)))
theorem je_call {A : Type} {k : Nat} {x : Str} {mA : M ρA} {ts : ρA → List D} {ΓA : ρA → List Sl} {m : A → M ρ} {ins : A → List D} (Fk : Df (gx X) X.base k x ins m t) (hr : Room k X.A) (aa : ρA → A) (ha : JAE X Γ (e :: es) mA ts ΓA) (hts : ∀ q, ts q = ins (aa q) := by intro _; rfl) (hg : Gl X x := by rfl) (hdb : (x == ("__debug__" : Str)) = false := by decide)
    (he : starEach (e :: es) X.env = (false, eval e X.env) :: starEach es X.env := by rfl) (hpl : (backTo pos (starEach es X.env)).any (·.1) = false := by rfl) : JE X Γ (.Call (.Name x p) (e :: es) [] pos) (bnd mA fun q => bnd (m (aa q)) fun z => .ok (z, q)) (fun z => t z.1) (fun z => ΓA z.2) := fun F O σ H Q W S tk f => by
  obtain ⟨fa, fd, ps, F1, hm, hk, hb⟩ := Fk.ex
  refine RE.of (pe_callS (E := WE W) F1 hr hg hm hk hb (fun σ => L2N.passAt tk σ) paR hdb he hpl) (ha F O σ H _ W S tk (fiAE_end S f fun q F1 O1 vs H1 _ S1 r1 f1 => ?_))
  rw [hts q] at r1
  exact spec_of S1 r1 (FiE.fi S1 f1)
end
end Z
set_option Elab.async false
set_option linter.all false
set_option maxRecDepth 100000
set_option maxHeartbeats 4000000
namespace Z
open PySem PySem.Spec L2
/-! ### an object is written in its place -/
section
variable {g : Gx} {F O H : Hp} {Γ : List Sl} {σ : L2.St} {i : Nat} {q : Option Addr} {d : D}
theorem Sat.upd (S : Sat g F Γ σ O H) (hi : Γ[i]? = some (.ow q d)) : ∃ a o, σ[i]? = some (some (.ref a)) ∧ H a = some o ∧ F a = none ∧ Own g F a o d ∧ (∀ c, q = some c → a = c) ∧
    ∀ o' d', Own g F a o' d' → ∃ O', Sat g F (Γ.set i (.ow q d')) σ O' (L2.upd H a o') ∧ Trn F O H F O' (L2.upd H a o') := by
  obtain ⟨a, o, O1, e1, ow, hq, n1, eO, _, put⟩ := S.l.own hi
  subst eO
  have hF : F a = none := (S.fo a).resolve_right (ne_none (uni_l sg_self))
  have ha : H a = some o := S.oh a o (uni_l sg_self)
  refine ⟨a, o, e1, ha, hF, ow, hq, fun o' d' ow' => ⟨uni (sg a o') O1, ⟨put (sg a o') (.ow q d') F (Ex.refl F) ⟨a, o', rfl, rfl, ow', hq⟩ fun y hy => sg_ne hy, fun b u z => ?_, fun b u z => ?_, fun b => ?_⟩, ⟨Ex.refl F, fun b u z1 z2 => ?_, fun b z1 z2 z3 => ?_⟩⟩⟩
  · rw [upd_ne (fun h => by subst h; rw [hF] at z; cases z)]; exact S.fh b u z
  · rcases of_uni z with z | z
    · obtain ⟨z1, z2⟩ := of_sg z
      subst z1; subst z2; exact upd_same
    · have hb : b ≠ a := fun h => by
        have zz := z
        rw [h, n1] at zz; cases zz
      rw [upd_ne hb]
      exact S.oh b u (by rw [uni_r (sg_ne hb)]; exact z)
  · by_cases hb : b = a
    · subst hb; exact .inl hF
    · have := S.fo b
      rw [uni_r (sg_ne hb)] at this ⊢
      exact this
  · have hb : b ≠ a := fun h => by subst h; rw [uni_l sg_self] at z2; cases z2
    rw [upd_ne hb]; exact z1
  · have hb : b ≠ a := fun h => by subst h; rw [uni_l sg_self] at z3; cases z3
    rw [uni_r (sg_ne hb)] at z3
    exact ⟨z2, by rw [uni_r (sg_ne hb)]; exact z3⟩
theorem Sat.own_at (S : Sat g F Γ σ O H) (hi : Γ[i]? = some (.ow q d)) : ∃ a o, σ[i]? = some (some (.ref a)) ∧ H a = some o ∧ F a = none ∧ Own g F a o d := by
  obtain ⟨a, o, e1, e2, e3, e4, _⟩ := S.upd hi
  exact ⟨a, o, e1, e2, e3, e4⟩
end
section
variable {X : Cx} {Γ Γx : List Sl} {e a b c : Expr} {es : List Expr} {p pos pos' py : Pos} {ρ ρ1 ρ2 ρ3 ρA ζ α : Type} {m : M ρ} {m1 : M ρ1} {t : ρ → Sl} {ts : ρ → List D} {Γ1 : ρ → List Sl} {q : Option Addr} {d0 : D} {y : Str} {π : ζ → Out} {rest : List Stmt} {K : List (List Stmt)}
/-! ### an own object is read -/
theorem jp_lenO (i : Nat) {ds : List D} {q : Option Addr} (T_len : X.mg "len" = none) (hi : Γ[i]? = some (.ow q (.lst ds)) := by rfl) (hN : X.N[i]? = some y := by rfl) (hv : Vis X.env.scope y := by first | exact Or.inl rfl | exact Or.inr (Or.inl rfl) | exact Or.inr (Or.inr rfl))
    (hdb2 : (y == ("__debug__" : Str)) = false := by decide) (hcd : (y == ("__classdict__" : Str)) = false := by decide) (hg : Gl X "len" := by rfl) (he : starEach [.Name y py] X.env = (false, eval (.Name y py) X.env) :: starEach [] X.env := by rfl) :
    JP X Γ (.Call (.Name "len" p) [.Name y py] [] pos) (.ok ()) (fun _ => .va (.int ds.length)) := fun F O σ H Q W S tk f => by
  obtain ⟨v, o, e1, e2, _, ow⟩ := S.own_at hi
  obtain ⟨vs, rfl, rs⟩ := ow
  refine RE.of (pe_callB call_len_seq hg T_len PySem.boot_len (pa_cons (pe_var hN hv hdb2 hcd) pa_nil he)) ⟨_, e1, v, vs, rfl, .inl (SqL.of e2), ?_⟩
  rw [rs.length]
  exact f.done S.fh ⟨rfl, _, rfl, .int _⟩
theorem jp_ixO (i : Nat) {xs : List α} {m1 : M ρ1} {z : ρ1 → Int} {q : Option Addr} (enc : α → D) (h : JP X Γ b m1 (fun r => .va (.int (z r)))) (hi : Γ[i]? = some (.ow q (.lst (xs.map enc))) := by rfl) (hN : X.N[i]? = some y := by rfl) (hv : Vis X.env.scope y := by first | exact Or.inl rfl | exact Or.inr (Or.inl rfl) | exact Or.inr (Or.inr rfl))
    (hdb2 : (y == ("__debug__" : Str)) = false := by decide) (hcd : (y == ("__classdict__" : Str)) = false := by decide) (hs : PlainIx b := by exact fun _ _ => rfl) :
    JP X Γ (.Subscript (.Name y py) b pos) (bnd m1 fun r => gt xs (z r)) (fun x => .va (enc x)) := fun F O σ H Q W S tk f => by
  obtain ⟨v, o, e1, e2, _, ow⟩ := S.own_at hi
  obtain ⟨vs, rfl, rs⟩ := ow
  refine RE.of (pe_ix ix_list (pe_var hN hv hdb2 hcd) peR hs) ⟨_, e1, h F O σ H _ W S tk ?_⟩
  have f1 := f.bnd S (t1 := fun r => .va (.int (z r)))
  revert f1
  cases m1 with
  | st => exact id
  | er x => exact id
  | ok r =>
    intro f1 F1 hh u H1 G k1
    obtain ⟨r', F1, h1', e, G, k1, S1, f2⟩ := f1 F1 hh u H1 G k1
    cases e
    obtain ⟨_, r1⟩ := Sl.va_of k1
    cases r1
    unfold gt at f2
    cases hx : atI xs (z r) with
    | none => rw [hx] at f2; exact f2.elim
    | some w =>
      rw [hx] at f2
      obtain ⟨w', hw, rw'⟩ := rs.at_ (i := z r) (d := enc w) (by rw [atI_map, hx]; rfl)
      exact ⟨v, vs, z r, w', rfl, rfl, SqL.of (G.hh _ _ e2), hw, f2.done S1.fh ⟨rfl, _, rfl, rw'.mono G.ff⟩⟩
/-- at a written place of a list of parts -/
theorem jp_ixOc (i : Nat) {ds : List D} {d : D} {m1 : M ρ1} {q : Option Addr} (z : Int) (h : JP X Γ b m1 (fun r => .va (.int z))) (hi : Γ[i]? = some (.ow q (.lst ds)) := by rfl) (hx : atI ds z = some d := by rfl) (hN : X.N[i]? = some y := by rfl) (hv : Vis X.env.scope y := by first | exact Or.inl rfl | exact Or.inr (Or.inl rfl) | exact Or.inr (Or.inr rfl))
    (hdb2 : (y == ("__debug__" : Str)) = false := by decide) (hcd : (y == ("__classdict__" : Str)) = false := by decide) (hs : PlainIx b := by exact fun _ _ => rfl) :
    JP X Γ (.Subscript (.Name y py) b pos) m1 (fun _ => .va d) := fun F O σ H Q W S tk f => by
  obtain ⟨v, o, e1, e2, _, ow⟩ := S.own_at hi
  obtain ⟨vs, rfl, rs⟩ := ow
  refine RE.of (pe_ix ix_list (pe_var hN hv hdb2 hcd) peR hs) ⟨_, e1, h F O σ H _ W S tk ?_⟩
  revert f
  cases m1 with
  | st => exact id
  | er x => exact id
  | ok r =>
    intro f F1 hh u H1 G k1
    obtain ⟨eh, r1⟩ := Sl.va_of k1
    subst eh
    cases r1
    obtain ⟨w', hw, rw'⟩ := rs.at_ hx
    exact ⟨v, vs, z, w', rfl, rfl, SqL.of (G.hh _ _ e2), hw, f F1 emp w' H1 G ⟨rfl, _, rfl, rw'.mono G.ff⟩⟩
/-! ### methods that change it -/
def apd {α : Type} (xs : List α) (x : α) : M (List α) := chk (xs.length < sizeLine) (xs ++ [x])
def ext {α : Type} (xs ys : List α) : M (List α) := chk (xs.length + ys.length ≤ sizeLine) (xs ++ ys)
def popL {α : Type} (xs : List α) : M (α × List α) := match xs[xs.length - 1]? with
  | some x => .ok (x, xs.dropLast)
  | none => .st
def popI {α : Type} (xs : List α) (i : Int) : M (α × List α) := match seqIndex? i xs.length with
  | some k => match xs[k]? with
    | some x => chk (xs.length ≤ sizeLine) (x, xs.eraseIdx k)
    | none => .st
  | none => .st
def TyO (X : Cx) (T : String) (d : D) : Prop := ∀ (F H : Hp) (a : Addr) (o : HO), H a = some o → Own (gx X) F a o d → tyV X.K T (.ref a) H
theorem ty_lst {ds : List D} : TyO X "list" (.lst ds) := fun F H a o ha ⟨vs, e, _⟩ => by subst e; exact .inl ⟨rfl, _, SqL.of ha⟩
theorem ty_dk {ds : List (Key × D)} : TyO X "dict" (.dk ds) := fun F H a o ha ⟨vs, e, _⟩ => by subst e; exact .inr (.inr (.inl ⟨rfl, .inl ⟨_, ha⟩⟩))
theorem ty_dt {ds : List (List Int × D)} : TyO X "dict" (.dt ds) := fun F H a o ha ⟨vs, e, _⟩ => by subst e; exact .inr (.inr (.inl ⟨rfl, .inr ⟨_, ha⟩⟩))
/-- what a method does to an own object -/
def MeJ (X : Cx) (rr : V → List V → Hp → VK → Prop) (d : D) (ds : List D) {ρ : Type} (m : M ρ) (t : ρ → D) (d' : ρ → D) : Prop :=
  ∀ (F H : Hp) (a : Addr) (o : HO) (vs : List V) (Q : VK), Ex F H → H a = some o → Own (gx X) F a o d → Reps (gx X) F vs ds →
    Sp (fun _ => False) (fun r => ∀ v o', Own (gx X) F a o' (d' r) → Rep (gx X) F v (t r) → Q v (L2.upd H a o')) m → rr (.ref a) vs H Q
theorem me_append {enc : α → D} {xs : List α} {x : α} : MeJ X rAppend (.lst (xs.map enc)) [enc x] (apd xs x) (fun _ => .non) (fun ys => .lst (ys.map enc)) := fun F H a o vs Q _ ha ow r f => by
  obtain ⟨us, rfl, rs⟩ := ow
  obtain ⟨v, e0, r1⟩ := r.one
  subst e0
  unfold apd chk at f
  by_cases h : xs.length < sizeLine
  · rw [if_pos h] at f
    refine ⟨a, us, v, rfl, rfl, ha, by rw [rs.length, List.length_map]; exact h, f .non _ ⟨_, rfl, ?_⟩ .non⟩
    rw [List.map_append]
    exact rs.append (.cons r1 .nil)
  · rw [if_neg h] at f; exact f.elim
theorem me_extend {enc : α → D} {xs ys : List α} : MeJ X rExtend (.lst (xs.map enc)) [.lst (ys.map enc)] (ext xs ys) (fun _ => .non) (fun zs => .lst (zs.map enc)) := fun F H a o vs Q e ha ow r f => by
  obtain ⟨us, rfl, rs⟩ := ow
  obtain ⟨v, e0, r1⟩ := r.one
  subst e0
  obtain ⟨b, ws, e1, hb, rb⟩ := r1.lst_of
  subst e1
  unfold ext chk at f
  by_cases h : xs.length + ys.length ≤ sizeLine
  · rw [if_pos h] at f
    refine ⟨a, b, us, ws, rfl, rfl, ha, e _ _ hb, by rw [rs.length, rb.length, List.length_map, List.length_map]; exact h, f .non _ ⟨_, rfl, ?_⟩ .non⟩
    rw [List.map_append]
    exact rs.append rb
  · rw [if_neg h] at f; exact f.elim
theorem me_pop {enc : α → D} {xs : List α} : MeJ X rPop (.lst (xs.map enc)) [] (popL xs) (fun r => enc r.1) (fun r => .lst (r.2.map enc)) := fun F H a o vs Q e ha ow r f => by
  obtain ⟨us, rfl, rs⟩ := ow
  cases r
  unfold popL at f
  cases h : xs[xs.length - 1]? with
  | none => rw [h] at f; exact f.elim
  | some x =>
    rw [h] at f
    obtain ⟨w, hw, rw'⟩ := rs.get (i := xs.length - 1) (d := enc x) (by rw [List.getElem?_map, h]; rfl)
    refine ⟨a, us, w, rfl, rfl, ha, by rw [rs.length, List.length_map]; exact hw, f w _ ⟨_, rfl, ?_⟩ rw'⟩
    rw [List.map_dropLast]
    exact rs.dropLast
theorem map_erase (f : α → β) : ∀ (l : List α) (i : Nat), (l.eraseIdx i).map f = (l.map f).eraseIdx i
  | [], _ => rfl
  | a :: l, 0 => rfl
  | a :: l, i + 1 => by simp [map_erase f l i]
theorem seqIndex_lt {i : Int} {n k : Nat} (h : seqIndex? i n = some k) : k < n ∧ -(n : Int) ≤ i ∧ i < n := by
  unfold seqIndex? at h
  by_cases hi : i < 0
  · simp only [hi, if_true, Bool.and_eq_true, decide_eq_true_eq] at h
    by_cases hc : 0 ≤ i + ↑n ∧ i + ↑n < ↑n
    · rw [if_pos hc] at h; have := Option.some.inj h; omega
    · rw [if_neg hc] at h; cases h
  · simp only [hi, if_false, Bool.and_eq_true, decide_eq_true_eq] at h
    by_cases hc : 0 ≤ i ∧ i < ↑n
    · rw [if_pos hc] at h; have := Option.some.inj h; omega
    · rw [if_neg hc] at h; cases h
theorem me_popI {enc : α → D} {xs : List α} {i : Int} : MeJ X rPopAt (.lst (xs.map enc)) [.int i] (popI xs i) (fun r => enc r.1) (fun r => .lst (r.2.map enc)) := fun F H a o vs Q e ha ow r f => by
  obtain ⟨us, rfl, rs⟩ := ow
  obtain ⟨v, e0, r1⟩ := r.one
  subst e0
  cases r1
  unfold popI chk at f
  cases hk : seqIndex? i xs.length with
  | none => rw [hk] at f; exact f.elim
  | some k =>
    rw [hk] at f
    cases h : xs[k]? with
    | none => simp only [h] at f; exact f.elim
    | some x =>
      simp only [h] at f
      by_cases hz : xs.length ≤ sizeLine
      · rw [if_pos hz] at f
        obtain ⟨w, hw, rw'⟩ := rs.get (i := k) (d := enc x) (by rw [List.getElem?_map, h]; rfl)
        have z := seqIndex_lt hk
        rw [sizeLine_eq] at hz
        refine ⟨a, us, i, k, w, rfl, rfl, ha, by omega, by omega, by rw [rs.length, List.length_map]; exact hk, hw, f w _ ⟨_, rfl, ?_⟩ rw'⟩
        rw [map_erase]
        exact rs.erase k
      · rw [if_neg hz] at f; exact f.elim
/-- y.m(es), y an own slot -/
theorem Sat.same_own {g : Gx} {F O H : Hp} {Γ' : List Sl} {σ : L2.St} {i : Nat} {q : Option Addr} {d : D} {c : Addr} (S : Sat g F Γ' σ O H) (hi : Γ'[i]? = some (.ow q d)) (e : σ[i]? = some (some (.ref c))) :
    ∃ o, H c = some o ∧ F c = none ∧ Own g F c o d ∧ ∀ o' d', Own g F c o' d' → ∃ O', Sat g F (Γ'.set i (.ow q d')) σ O' (L2.upd H c o') ∧ Trn F O H F O' (L2.upd H c o') := by
  obtain ⟨a, o, e1, e2, e3, e4, _, w⟩ := S.upd hi
  rw [e1] at e
  cases e
  exact ⟨o, e2, e3, e4, w⟩
theorem me_end {F O H : Hp} {σ : L2.St} {W : WX} {Q : VK} {i : Nat} {c : Addr} {Γ' : List Sl} {rr : V → List V → Hp → VK → Prop} {q : Option Addr} {d : D} {ds : List D} {k : M ρ} {t : ρ → D} {d' : ρ → D} {vs : List V} (S : Sat (gx X) F Γ' σ O H) (hi : Γ'[i]? = some (.ow q d)) (e : σ[i]? = some (some (.ref c))) (h3 : MeJ X rr d ds k t d') (r : Reps (gx X) F vs ds)
    (hne : ∀ x, k = .er x → False) (f : FiE (gx X) F O H W σ k (fun r => .va (t r)) (fun r => Γ'.set i (.ow q (d' r))) Q) : rr (.ref c) vs H Q := by
  obtain ⟨o, e2, e3, ow, w⟩ := S.same_own hi e
  refine h3 F H c o vs Q S.fh e2 ow r ?_
  revert f hne
  cases k with
  | st => exact fun _ f => f
  | er x => exact fun z _ => z x rfl
  | ok r =>
    intro _ f v o' ow' rv
    obtain ⟨O', S', T'⟩ := w o' _ ow'
    exact f F (uni emp O') v _ ⟨.cons ⟨rfl, v, rfl, rv⟩ S'.l (dis_emp _), S'.fh, S'.oh, S'.fo⟩ T'
theorem je_me (i : Nat) {T idn : String} {name : Str} {apos cpos : Pos} {rr : V → List V → Hp → VK → Prop} {mA : M ρA} {ΓA : ρA → List Sl} {tsA : ρA → List D} {d : ρA → D} {qq : ρA → Option Addr} {k : ρA → M ρ} {t : ρ → D} {d' : ρ → D} (pa : PySem.PlainAttrs T) (slot : PySem.Slot T name idn) (hty : typeOf (.builtin idn) = pure (.type "method_descriptor")) (hm : MtR X idn rr)
    (hT : TyO X T d0) (ha : JAE X Γ (e :: es) mA tsA ΓA) (h3 : ∀ r, MeJ X rr (d r) (tsA r) (k r) t d') (hne : ∀ r x, k r = .er x → False) (hi0 : Γ[i]? = some (.ow q d0) := by rfl) (hi : ∀ r, (ΓA r)[i]? = some (.ow (qq r) (d r)) := by intro _; rfl) (hN : X.N[i]? = some y := by rfl) (hv : Vis X.env.scope y := by first | exact Or.inl rfl | exact Or.inr (Or.inl rfl) | exact Or.inr (Or.inr rfl))
    (hdb2 : (y == ("__debug__" : Str)) = false := by decide) (hcd : (y == ("__classdict__" : Str)) = false := by decide) (hbase : attributeBase (.Name y py) name X.env (eval (.Name y py) X.env) = eval (.Name y py) X.env := by rfl)
    (hfew : ((backTo cpos (starEach (e :: es) X.env)).all (fun x => !x.1) && (backToKw cpos (keywordEach [] X.env)).all (fun x => x.1.isSome)
      && decide ((e :: es).length + ([] : List Keyword).length + (if ([] : List Keyword).isEmpty then 0 else 1) < 30)) = true := by rfl)
    (hline : (apos.endLine == cpos.line) = true := by rfl) (hs : starEach (e :: es) X.env = (false, eval e X.env) :: starEach es X.env := by rfl) (hplain : (backTo cpos (starEach es X.env)).any (·.1) = false := by rfl) :
    JE X Γ (.Call (.Attribute (.Name y py) name apos) (e :: es) [] cpos) (bnd mA fun r => bnd (k r) fun z => .ok (z, r)) (fun z => .va (t z.1)) (fun z => (ΓA z.2).set i (.ow (qq z.2) (d' z.1))) := fun F O σ H Q W S tk f => by
  obtain ⟨c, o, e1, e2, _, ow⟩ := S.own_at hi0
  refine RE.of (pe_bm pa slot hty hm (pe_var hN hv hdb2 hcd) paR hbase hfew hline hs hplain) ⟨_, e1, hT F H c o e2 ow, ha F O σ H _ W S tk ?_⟩
  revert f
  cases mA with
  | st => exact id
  | er x => exact id
  | ok r =>
    intro f F1 O1 vs H1 S1 T1 r1
    refine me_end S1 (hi r) e1 (h3 r) r1 (hne r) (FiE.step (W := W) S.fh S1.fo ?_ T1)
    revert f
    show FiE (gx X) F O H W σ (bnd (k r) fun z => .ok (z, r)) _ _ Q → _
    cases k r with
    | st => exact id
    | er x => exact id
    | ok z => exact id
theorem je_me0 (i : Nat) {T idn : String} {name : Str} {apos cpos : Pos} {rr : V → List V → Hp → VK → Prop} {k : M ρ} {t : ρ → D} {d' : ρ → D} (pa : PySem.PlainAttrs T) (slot : PySem.Slot T name idn) (hty : typeOf (.builtin idn) = pure (.type "method_descriptor")) (hm : MtR X idn rr)
    (hT : TyO X T d0) (h3 : MeJ X rr d0 [] k t d') (hne : ∀ x, k = .er x → False) (hi0 : Γ[i]? = some (.ow q d0) := by rfl) (hN : X.N[i]? = some y := by rfl) (hv : Vis X.env.scope y := by first | exact Or.inl rfl | exact Or.inr (Or.inl rfl) | exact Or.inr (Or.inr rfl))
    (hdb2 : (y == ("__debug__" : Str)) = false := by decide) (hcd : (y == ("__classdict__" : Str)) = false := by decide) (hbase : attributeBase (.Name y py) name X.env (eval (.Name y py) X.env) = eval (.Name y py) X.env := by rfl) (hline : (apos.endLine == cpos.line) = true := by rfl) :
    JE X Γ (.Call (.Attribute (.Name y py) name apos) [] [] cpos) k (fun z => .va (t z)) (fun z => Γ.set i (.ow q (d' z))) := fun F O σ H Q W S tk f => by
  obtain ⟨c, o, e1, e2, _, ow⟩ := S.own_at hi0
  exact RE.of (pe_bm0 pa slot hty hm (pe_var hN hv hdb2 hcd) hbase hline) ⟨_, e1, hT F H c o e2 ow, me_end S hi0 e1 h3 .nil hne f⟩
end
end Z
set_option Elab.async false
set_option linter.all false
set_option maxRecDepth 100000
set_option maxHeartbeats 4000000
/-! enumerate over a tuple -/
namespace Z
open PySem PySem.Spec PyProof.Rows L2
theorem enumT_new {v : Value} {o : Obj} {Hh : Heap → Prop} (B : Begins v o Hh) :
    Meets (Builtin.«enumerate.__new__» ⟨[.type "enumerate", v], []⟩) (fun _ R s => Hh s.heap ∧ R (.ok (.ret (.ref (s.heap.push o).objs.size))) { s with heap := (s.heap.push o).push { cls := .type "enumerate", data := .fields #[.none, .bool false, .ref s.heap.objs.size, rawInt 0, .none, .none] } }) := by
  refine .of_wp fun prog w A R s h => ?_
  obtain ⟨hp, g, d, tk, os⟩ := s
  obtain ⟨h1, h⟩ := h
  have hsub := sub_enumerate
  have q1 : ∀ {A' : Around} {E Q : Value → Shared → Prop}, Q (.ref hp.objs.size) ⟨hp.push o, g, d, tk, os⟩ → wpAny (model prog w) A' (pyIter v) Q E ⟨hp, g, d, tk, os⟩ := fun q => B.iter prog w _ _ ⟨hp, g, d, tk, os⟩ _ h1 q
  wp_walk using q1
  refine wpAny_stack_any fun st => wpAny_pure ?_
  split
  · rename_i c _ _ _ _ _
    cases (c == Value.type "enumerate") <;> (wp_walk using q1; exact ⟨_, rfl, h⟩)
  · (wp_walk using q1); exact ⟨_, rfl, h⟩
theorem enumT_call {prog : Program} {w : World} {A : Around} {E Q : Value → Shared → Prop} {s : Shared} {v : Value} {o : Obj} {Hh : Heap → Prop} (B : Begins v o Hh) (h1 : Hh s.heap)
    (h : ∀ h', IsEnum h' (s.heap.objs.size + 1) s.heap.objs.size 0 .none → h'.get? s.heap.objs.size = some o → (∀ b u, s.heap.get? b = some u → h'.get? b = some u) → Q (.ref (s.heap.objs.size + 1)) { s with heap := h' }) :
    wpAny (model prog w) A (call (.type "enumerate") [v]) Q E s := by
  refine callType_new F.called_enumerate (by decide) (F.typeCall_enumerate_1 _) (F.newCall_enumerate_1 _) (fun x => F.args_object_init_2 x _) F.entry_enumerate_new (enumT_new B) ⟨h1, ?_⟩
  have hz : (s.heap.push o).objs.size = s.heap.objs.size + 1 := Heap.size_push ..
  show _ ∧ _
  rw [hz]
  have he : IsEnum ((s.heap.push o).push { cls := .type "enumerate", data := .fields #[.none, .bool false, .ref s.heap.objs.size, rawInt 0, .none, .none] }) (s.heap.objs.size + 1) s.heap.objs.size 0 .none := by
    have q := Heap.get?_push_size (s.heap.push o) (o := { cls := .type "enumerate", data := .fields #[.none, .bool false, .ref s.heap.objs.size, rawInt 0, .none, .none] }) rfl
    rw [hz] at q
    exact q
  exact ⟨⟨_, he, rfl⟩, h _ he (Heap.get?_push_of_some _ (Heap.get?_push_size _ B.free)) fun b u x => Heap.get?_push_of_some _ (Heap.get?_push_of_some _ x)⟩
/-- the tuple at a, each item in a new pair -/
def IteT (K : PySem.W.Frag) (a : Addr) : It :=
  ⟨fun i H => ∃ (xs : List V) (x : V), SqT K H a xs ∧ xs[i]? = some x, fun i H v H' => ∃ T x, v = .ref T ∧ H T = none ∧ H' = upd H T (.tup [.int (i : Nat), x]) ∧ ∀ ys, SqT K H a ys → ys[i]? = some x, fun i H => ∃ xs : List V, SqT K H a xs ∧ xs.length ≤ i⟩
theorem turn_enumT {P : Program} {w : World} {K : PySem.W.Frag} {elts : List Expr} {kk : Nat} {tpos : Pos} (a e it : Addr) :
    Turn P w K (.Tuple elts kk tpos) (IteT K a) [e, it] e (fun i h => (∃ old, IsEnum h e it ((i : Nat) : Int) old) ∧ h.IsTupleIter it a i ∧ e ≠ it) := by
  refine ⟨by simp, fun i h st b hb => ?_, fun i h h' st k => ?_, ?_, ?_, fun A i s Q E st h => ?_⟩
  · obtain ⟨⟨old, he⟩, ⟨o, ho, hc, hd⟩, _⟩ := st
    have e' : b = e ∨ b = it := by simpa using hb
    rcases e' with z | z
    · subst z; exact ⟨_, he, fun v q => nomatch q⟩
    · subst z; exact ⟨o, ho, fun v q => by rw [hd] at q; cases q⟩
  · obtain ⟨⟨old, he⟩, hi, hne⟩ := st
    exact ⟨⟨old, k e (by simp) _ he⟩, hi.at fun o q => k it (by simp) o q, hne⟩
  · intro X hP hw hK hc i pins s σ H E I hf st hg
    subst hP hw hK
    obtain ⟨⟨old, he⟩, hit, hne⟩ := st
    obtain ⟨xs, x, hq, hx⟩ := hg
    obtain ⟨its, rv, p, hz⟩ := I.tuple hq
    have p : s.heap.IsTuple a its.toArray := p
    obtain ⟨u, hu, ru⟩ := rv.get hx
    have hel : e < s.heap.objs.size := Heap.lt_size he
    have hil : it < s.heap.objs.size := (fun ⟨_, q, _⟩ => Heap.lt_size q : s.heap.IsTupleIter it a i → _) hit
    have nea : e ≠ a := fun z => by
      subst z
      obtain ⟨o, ho, hcl, _⟩ := p
      rw [he] at ho; cases ho
      exact absurd (Value.type.inj hcl) (by decide)
    have nia : a ≠ it := fun z => by
      subst z
      obtain ⟨o, ho, hcl, _⟩ := p
      obtain ⟨o', ho', hcl', _⟩ := hit
      rw [ho] at ho'; cases ho'
      rw [hcl] at hcl'
      exact absurd (Value.type.inj hcl') (by decide)
    refine wpAny_pyNext_enum_itemD (n := its.toArray.size) (Draws.tuple (A := X.A.in1) (show X.A.in1.handled = none from I.ok.hd hc) it a nia its.toArray) he ⟨hit, p⟩ ?_ hne (by simp [hne, nea]) fun y h' tk hy ho hit' hT hsz hk => ?_
    · rw [List.size_toArray]
      exact (List.getElem?_eq_some_iff.mp hu).1
    have hyu : y = u := by
      have hy : its.toArray[i]? = some y := hy
      rw [← Array.getElem?_toList] at hy
      have hy : its[i]? = some y := hy
      rw [hu] at hy
      exact (Option.some.inj hy).symm
    subst hyu
    refine ⟨_, rfl, wpAny_letOwnedTupleGo_enum (s := { s with heap := h', toks := tk + 1 }) ho fun h'' he' sb => ?_⟩
    have hT2 : h''.get? s.heap.objs.size = some { cls := .type "tuple", data := .seq #[.int i tk, y] } := (sb.2 _ (Nat.ne_of_gt hel)).trans hT
    have new : ObjOk X.prog X.w (upd H s.heap.objs.size (.tup [.int (i : Nat), x])) h'' s.heap.objs.size (.tup [.int (i : Nat), x]) := ⟨by show 2 ≤ sizeLine; decide, [.int i tk, y], .cons ⟨_, rfl⟩ (.cons ru .nil), ⟨_, hT2, rfl, _, rfl⟩⟩
    have I1 : Inv X pins σ (upd H s.heap.objs.size (.tup [.int (i : Nat), x])) { s with heap := h'', toks := tk + 1 } := by
      refine I.turnedNew (ch := [e, it]) (fun b ob hb q => ?_) hf (Nat.le_refl _) new
      have n1 : b ≠ e := fun z => hb (by simp [z])
      have n2 : b ≠ it := fun z => hb (by simp [z])
      exact (sb.2 b n1).trans (hk b ob n1 n2 q)
    refine ⟨.ref s.heap.objs.size, _, I1, rfl, ⟨_, x, rfl, I.hok.fresh (Nat.le_refl _), rfl, fun ys hy => by rw [I.tuple_inj hy hq]; exact hx⟩, ⟨⟨y, ?_⟩, hit'.1.at fun o q => (sb.2 it (Ne.symm hne)).trans q, hne⟩, fun b hb => ?_⟩
    · rw [show ((i + 1 : Nat) : Int) = (i : Int) + 1 by omega]
      exact he'
    · have hb' : b < s.heap.objs.size := by
        have e' : b = e ∨ b = it := by simpa using hb
        rcases e' with z | z <;> (rw [z]; assumption)
      rw [upd_ne (Nat.ne_of_lt hb')]
      exact (hf b hb).1
  · intro X hP hw hK hc i pins s σ H E I hf st hg
    subst hP hw hK
    obtain ⟨⟨old, he⟩, hit, hne⟩ := st
    obtain ⟨xs, hq, hx⟩ := hg
    obtain ⟨its, rv, p, hz⟩ := I.tuple hq
    have p : s.heap.IsTuple a its.toArray := p
    have hl := rv.length
    obtain ⟨f0, f1, f2, f3, f4, f5⟩ := hf it (by simp)
    have nia : a ≠ it := fun z => by
      subst z
      obtain ⟨o, ho, hcl, _⟩ := p
      obtain ⟨o', ho', hcl', _⟩ := hit
      rw [ho] at ho'; cases ho'
      rw [hcl] at hcl'
      exact absurd (Value.type.inj hcl') (by decide)
    have hT : s.TypeIs (.ref e) "enumerate" := ⟨_, he, rfl⟩
    unfold pyNext
    refine wpAny_bind (wpAny_attempt (wpAny_callSpecial?_slot (name := Str.ofString "__next__") hT F.slot_enumerate_next (wpAny_call_entry F.slot_enumerate_next hT F.entry_enumerate_next ?_ (F.args_enumerate_next_1 _))))
    show wpAny _ _ (field (.ref e) 2 >>= _) _ _ _
    refine wpAny_bind (wpAny_field he rfl (x := .ref it) rfl ?_)
    refine wpAny_bind (wpAny_nextOf_tuple_end (show X.A.in1.handled = none from I.ok.hd hc) hit p (by simp; omega) fun h' x he' hx' => ?_)
    obtain ⟨o, ho, hcx⟩ := hx'
    refine wpAny_bind (wpAny_isInstance (T := "StopIteration") (b := true) ⟨o, ho, hcx⟩ isSubtype_stop ?_)
    exact wpAny_pure ⟨rfl, I.turned (t' := s.toks) (fun b o hb q => he' b o hb q) f0 f1 f3 f4 f5⟩
  · obtain ⟨⟨_, he⟩, _⟩ := st
    exact wpAny_pyIter_enum he h
def iEnumT (K : PySem.W.Frag) (ta : TA) : TI := fun σ H R => ta σ H fun vs H1 => ∃ a xs, vs = [.ref a] ∧ SqT K H1 a xs ∧ R (IteT K a) H1
theorem pi_enumT {X : Cx} {e : Expr} {ta : TA} {p pos tpos : Pos} {elts : List Expr} {kk : Nat} (hg : Gl X "enumerate") (hm : X.mg "enumerate" = none) (ha : PA X [e] ta) (hs : starEach [e] X.env = [(false, eval e X.env)] := by rfl) :
    PI X (.Tuple elts kk tpos) (.Call (.Name "enumerate" p) [e] [] pos) (iEnumT X.K ta) := ⟨fun pins s σ H R I h => by
  refine Call_ (ld_blt I hg hm boot_enumerate (PyProof.Rows.callWith_type1 (thn (ha.run pos pins s σ H _ I h) fun us s1 ⟨vs, H1, I1, r1, a, xs, ex, hq, q⟩ => ?_) hs rfl))
  subst ex
  cases r1 with
  | cons r rr =>
    cases rr
    cases r
    obtain ⟨its, rv, p', hz⟩ := I1.tuple hq
    refine enumT_call (begins_tuple a its.toArray) (show s1.heap.IsTuple a its.toArray from p') fun h' he hit hk => wpAny_pyIter_enum he ?_
    have I2 : Inv X pins σ H1 { s1 with heap := h' } := I1.kept (t' := s1.toks) hk
    refine ⟨s1.heap.objs.size + 1, [s1.heap.objs.size + 1, s1.heap.objs.size], _, _, H1, rfl, I2, turn_enumT a (s1.heap.objs.size + 1) s1.heap.objs.size, ⟨⟨.none, he⟩, ⟨_, hit, rfl, rfl⟩, Nat.succ_ne_self _⟩, fun b hb => ?_, q⟩
    have e' : b = s1.heap.objs.size + 1 ∨ b = s1.heap.objs.size := by simpa using hb
    have hle : s1.heap.objs.size ≤ b := by rcases e' with z | z <;> rw [z] <;> omega
    exact I1.fpOk hle (I1.hok.fresh hle)⟩
end Z
set_option Elab.async false
set_option linter.all false
set_option maxRecDepth 100000
set_option maxHeartbeats 4000000
namespace Z
open PySem PySem.Spec L2
/-! ### what is walked -/
def rangeL (lo hi : Int) : List Int := (List.range (hi - lo).toNat).map fun k : Nat => lo + (k : Int)
def rng (lo hi : Int) : M (List Int) := chk (-(2 ^ 62) ≤ lo ∧ lo < 2 ^ 62 ∧ -(2 ^ 62) ≤ hi ∧ hi < 2 ^ 62) (rangeL lo hi)
def enumL {α : Type} (l : List α) : List (Int × α) := l.zipIdx.map fun p => ((p.2 : Int), p.1)
section
variable {g : Gx} {F : Hp} {a : Addr}
theorem it_seqL' {vs : List V} {ds : List D} (s : SqL g.K F a vs) (rs : Reps g F vs ds) : ItOk g F (Itl g.K a) ds where
  go := fun i Hc hi e => ⟨vs, vs[i]'(by rw [rs.length]; exact hi), e.sl s, by simp⟩
  stop := fun Hc e => ⟨vs, e.sl s, by rw [rs.length]; exact Nat.le_refl _⟩
  yld := fun i Fc Hc x H' d hd e1 e2 y => by
    obtain ⟨eH, hx⟩ := y
    subst eH
    obtain ⟨w, hw, rw'⟩ := rs.get hd
    have q := hx vs ((e1.trans e2).sl s)
    rw [hw] at q
    cases q
    exact ⟨Fc, Grow.refl e2, rw'.mono e1⟩
theorem it_seqT {vs : List V} {ds : List D} (s : SqT g.K F a vs) (rs : Reps g F vs ds) : ItOk g F (Itt g.K a) ds where
  go := fun i Hc hi e => ⟨vs, vs[i]'(by rw [rs.length]; exact hi), e.sq s, by simp⟩
  stop := fun Hc e => ⟨vs, e.sq s, by rw [rs.length]; exact Nat.le_refl _⟩
  yld := fun i Fc Hc x H' d hd e1 e2 y => by
    obtain ⟨eH, hx⟩ := y
    subst eH
    obtain ⟨w, hw, rw'⟩ := rs.get hd
    have q := hx vs ((e1.trans e2).sq s)
    rw [hw] at q
    cases q
    exact ⟨Fc, Grow.refl e2, rw'.mono e1⟩
theorem it_range {lo hi : Int} : ItOk g F (Itr lo (hi - lo).toNat) ((rangeL lo hi).map .int) where
  go := fun i Hc hi e => by
    simp [rangeL] at hi
    show i < _
    omega
  stop := fun Hc e => by
    show _ ≤ _
    simp [rangeL]
  yld := fun i Fc Hc x H' d hd e1 e2 y => by
    obtain ⟨eH, hx⟩ := y
    subst eH; subst hx
    have hd' : d = .int (lo + (i : Int)) := by
      simp only [rangeL, List.map_map, List.getElem?_map, Option.map_eq_some_iff] at hd
      obtain ⟨k, hk, e⟩ := hd
      rw [List.getElem?_range] at hk
      · cases hk; exact e.symm
      · rcases Nat.lt_or_ge i (hi - lo).toNat with q | q
        · exact q
        · rw [List.getElem?_eq_none (by simpa using q)] at hk; cases hk
    subst hd'
    exact ⟨Fc, Grow.refl e2, .int _⟩
theorem enumL_get {α : Type} {l : List α} {i : Nat} : (enumL l)[i]? = (l[i]?).map fun x => ((i : Int), x) := by
  unfold enumL
  rw [List.getElem?_map, List.getElem?_zipIdx]
  cases l[i]? <;> simp
theorem enumL_len {α : Type} {l : List α} : (enumL l).length = l.length := by simp [enumL]
theorem enum_yld {vs : List V} {ds : List D} (rs : Reps g F vs ds) {i : Nat} {Fc Hc H' : Hp} {x : V} {d : D} (hd : ((enumL ds).map fun p => D.tup [.int p.1, p.2])[i]? = some d) (e1 : Ex F Fc) (e2 : Ex Fc Hc)
    (y : ∃ T x0, x = .ref T ∧ Hc T = none ∧ H' = L2.upd Hc T (.tup [.int (i : Nat), x0]) ∧ vs[i]? = some x0) : ∃ F2, Grow Fc Hc F2 emp H' ∧ Rep g F2 x d := by
  obtain ⟨T, x0, ex, hT, eH, hx⟩ := y
  subst ex; subst eH
  rw [List.getElem?_map, enumL_get] at hd
  cases q : ds[i]? with
  | none => rw [q] at hd; cases hd
  | some d0 =>
    rw [q] at hd
    cases hd
    obtain ⟨w, hw, rw'⟩ := rs.get q
    rw [hx] at hw
    cases hw
    have G := (Grow.refl e2).fro hT (.tup [.int (i : Nat), x0])
    exact ⟨_, G, .tup upd_same (.cons (.int _) (.cons (rw'.mono (e1.trans G.ff)) .nil))⟩
theorem it_enumT {vs : List V} {ds : List D} (s : SqT g.K F a vs) (rs : Reps g F vs ds) : ItOk g F (IteT g.K a) ((enumL ds).map fun p => D.tup [.int p.1, p.2]) where
  go := fun i Hc hi e => ⟨vs, vs[i]'(by rw [rs.length]; simpa [enumL_len] using hi), e.sq s, by simp⟩
  stop := fun Hc e => ⟨vs, e.sq s, by rw [rs.length]; simp [enumL_len]⟩
  yld := fun i Fc Hc x H' d hd e1 e2 ⟨T, x0, q1, q2, q3, q4⟩ => enum_yld rs hd e1 e2 ⟨T, x0, q1, q2, q3, q4 vs ((e1.trans e2).sq s)⟩
theorem it_enumL {vs : List V} {ds : List D} (s : SqL g.K F a vs) (rs : Reps g F vs ds) : ItOk g F (Ite g.K a) ((enumL ds).map fun p => D.tup [.int p.1, p.2]) where
  go := fun i Hc hi e => ⟨vs, vs[i]'(by rw [rs.length]; simpa [enumL_len] using hi), e.sl s, by simp⟩
  stop := fun Hc e => ⟨vs, e.sl s, by rw [rs.length]; simp [enumL_len]⟩
  yld := fun i Fc Hc x H' d hd e1 e2 ⟨T, x0, q1, q2, q3, q4⟩ => enum_yld rs hd e1 e2 ⟨T, x0, q1, q2, q3, q4 vs ((e1.trans e2).sl s)⟩
end
section
variable {X : Cx} {Γ Γx : List Sl} {e a b c tg iter : Expr} {es : List Expr} {p pos pos' py : Pos} {ρ ρ1 ρ2 ρ3 ρA ζ α β : Type} {m : M ρ} {m1 : M ρ1} {t : ρ → Sl}
theorem fiI_of {g : Gx} {F O H : Hp} {W : WX} {σ : L2.St} {Γ : List Sl} {xs : ρ → List D} {R : It → Hp → Prop} {d : ρ → D} (S : Sat g F Γ σ O H) (f : FiI g F O H W σ m xs R) {Q : VK}
    (h : ∀ r F1 v H1, m = .ok r → Grow F H F1 emp H1 → Rep g F1 v (d r) → (∀ J, ItOk g F1 J (xs r) → R J H1) → Q v H1) : Fi g F O H W σ m (fun r => .va (d r)) Q := by
  revert f h
  cases m with
  | st => exact fun f _ => f
  | er x => exact fun f _ => f
  | ok r =>
    intro f h F1 hh v H1 G k
    obtain ⟨eh, rv⟩ := Sl.va_of k
    subst eh
    exact h r F1 v H1 rfl G rv fun J it => f F1 J H1 G it
theorem ji_list {ds : ρ → List D} (h : JP X Γ iter m (fun r => .va (.lst (ds r)))) : JI X Γ tg iter m ds := ⟨_, pi_list peR, fun F O σ H R W S tk f => h F O σ H _ W S tk (fiI_of S f fun r F1 v H1 _ G rv k => by
  obtain ⟨a, vs, ev, s, rs⟩ := rv.lst_of
  exact ⟨a, ev, ⟨vs, SqL.of (G.fh _ _ s)⟩, k _ (it_seqL' (SqL.of s) rs)⟩)⟩
theorem ji_rol {ds : ρ → List D} (h : JP X Γ iter m (fun r => .va (.rol (ds r)))) : JI X Γ tg iter m ds := ⟨_, pi_list peR, fun F O σ H R W S tk f => h F O σ H _ W S tk (fiI_of S f fun r F1 v H1 _ G rv k => by
  obtain ⟨a, vs, ev, s, rs⟩ := rv.rol_of
  exact ⟨a, ev, ⟨vs, G.fh.sl s⟩, k _ (it_seqL' s rs)⟩)⟩
theorem ji_tup {ds : ρ → List D} (h : JP X Γ iter m (fun r => .va (.tup (ds r)))) : JI X Γ tg iter m ds := ⟨_, pi_tup peR, fun F O σ H R W S tk f => h F O σ H _ W S tk (fiI_of S f fun r F1 v H1 _ G rv k => by
  obtain ⟨a, vs, ev, s, rs⟩ := rv.tup_of
  exact ⟨a, ev, ⟨vs, G.fh.sq s⟩, k _ (it_seqT s rs)⟩)⟩
theorem ji_range1 {z : ρ → Int} (h : JP X Γ a m (fun r => .va (.int (z r)))) (hm : X.mg "range" = none) (hg : Gl X "range" := by rfl) (hs : starEach [a] X.env = [(false, eval a X.env)] := by rfl) : JI X Γ tg (.Call (.Name "range" p) [a] [] pos) (bnd m fun r => rng 0 (z r)) (fun l => l.map .int) :=
  ⟨_, pi_range1 hg hm (pa_cons peR pa_nil hs) hs, fun F O σ H R W S tk f => h F O σ H _ W S tk (by
    revert f
    cases m with
    | st => exact id
    | er x => exact id
    | ok r =>
      intro f F1 hh v H1 G k
      obtain ⟨eh, rv⟩ := Sl.va_of k
      subst eh
      cases rv
      unfold FiI bnd rng chk at f
      by_cases hc : -(2 ^ 62) ≤ (0 : Int) ∧ (0 : Int) < 2 ^ 62 ∧ -(2 ^ 62) ≤ z r ∧ z r < 2 ^ 62
      · simp only [if_pos hc] at f
        refine ⟨z r, rfl, hc.2.2.1, hc.2.2.2, ?_⟩
        have := f F1 _ H1 G (it_range (lo := 0) (hi := z r))
        simpa using this
      · simp only [if_neg hc] at f)⟩
theorem ji_range2 {z : ρ1 → Int} {m2 : ρ1 → M ρ2} {y : ρ1 → ρ2 → Int} (h : JP X Γ a m1 (fun r => .va (.int (z r)))) (h2 : ∀ r, JP X Γ b (m2 r) (fun s => .va (.int (y r s)))) (hm : X.mg "range" = none) (hg : Gl X "range" := by rfl) (hs : starEach [a, b] X.env = [(false, eval a X.env), (false, eval b X.env)] := by rfl) (hs2 : starEach [b] X.env = [(false, eval b X.env)] := by rfl) :
    JI X Γ tg (.Call (.Name "range" p) [a, b] [] pos) (bnd m1 fun r => bnd (m2 r) fun s => rng (z r) (y r s)) (fun l => l.map .int) :=
  ⟨_, pi_range2 hg hm (pa_cons peR (pa_cons peR pa_nil hs2) (by rw [hs, hs2])) hs hs2, fun F O σ H R W S tk f => h F O σ H _ W S tk (by
    revert f
    cases m1 with
    | st => exact id
    | er x => exact id
    | ok r =>
      intro f F1 hh v H1 G k
      obtain ⟨eh, rv⟩ := Sl.va_of k
      subst eh
      cases rv
      have S1 := S.grow G
      refine h2 r F1 O σ H1 _ W S1 tk ?_
      have f : FiI (gx X) F O H W σ (bnd (m2 r) fun s => rng (z r) (y r s)) (fun l => l.map .int) R := f
      revert f
      cases m2 r with
      | st => exact id
      | er x => exact fun f => Fer.shift (x := x) S f G
      | ok s =>
        intro f F2 hh v H2 G2 k2
        obtain ⟨eh, rv⟩ := Sl.va_of k2
        subst eh
        cases rv
        unfold FiI bnd rng chk at f
        by_cases hc : -(2 ^ 62) ≤ z r ∧ z r < 2 ^ 62 ∧ -(2 ^ 62) ≤ y r s ∧ y r s < 2 ^ 62
        · simp only [if_pos hc] at f
          exact ⟨z r, y r s, rfl, ⟨hc.1, hc.2.1, hc.2.2.1, hc.2.2.2⟩, f F2 _ H2 (G.trans G2) it_range⟩
        · simp only [if_neg hc] at f)⟩
theorem ji_enumT {elts : List Expr} {kk : Nat} {tpos : Pos} {ds : ρ → List D} (h : JP X Γ e m (fun r => .va (.tup (ds r)))) (hm : X.mg "enumerate" = none) (hg : Gl X "enumerate" := by rfl) (hs : starEach [e] X.env = [(false, eval e X.env)] := by rfl) :
    JI X Γ (.Tuple elts kk tpos) (.Call (.Name "enumerate" p) [e] [] pos) m (fun r => (enumL (ds r)).map fun q => D.tup [.int q.1, q.2]) :=
  ⟨_, pi_enumT hg hm (pa_cons peR pa_nil hs) hs, fun F O σ H R W S tk f => h F O σ H _ W S tk (fiI_of S f fun r F1 v H1 _ G rv k => by
    obtain ⟨a, vs, ev, s, rs⟩ := rv.tup_of
    subst ev
    exact ⟨a, vs, rfl, G.fh.sq s, k _ (it_enumT s rs)⟩)⟩
theorem ji_enumL {elts : List Expr} {kk : Nat} {tpos : Pos} {ds : ρ → List D} (h : JP X Γ e m (fun r => .va (.lst (ds r)))) (hm : X.mg "enumerate" = none) (hg : Gl X "enumerate" := by rfl) (hs : starEach [e] X.env = [(false, eval e X.env)] := by rfl) :
    JI X Γ (.Tuple elts kk tpos) (.Call (.Name "enumerate" p) [e] [] pos) m (fun r => (enumL (ds r)).map fun q => D.tup [.int q.1, q.2]) :=
  ⟨_, pi_enum hg hm (pa_cons peR pa_nil hs) hs, fun F O σ H R W S tk f => h F O σ H _ W S tk (fiI_of S f fun r F1 v H1 _ G rv k => by
    obtain ⟨a, vs, ev, s, rs⟩ := rv.lst_of
    subst ev
    exact ⟨a, vs, rfl, SqL.of (G.fh _ _ s), k _ (it_enumL (SqL.of s) rs)⟩)⟩
theorem enumL_map (f : α → β) (l : List α) : enumL (l.map f) = (enumL l).map fun p => (p.1, f p.2) := by
  apply List.ext_getElem?
  intro i
  rw [enumL_get, List.getElem?_map, List.getElem?_map, enumL_get]
  cases l[i]? <;> rfl
theorem JI.cast {m' : M ρ1} {xs : ρ → List D} {xs' : ρ1 → List D} (h : JI X Γ tg iter m xs) (q : ρ = ρ1) (q1 : HEq m m') (q2 : HEq xs xs') : JI X Γ tg iter m' xs' := by
  subst q; cases q1; cases q2; exact h
theorem JI.xs {xs xs' : ρ → List D} (h : JI X Γ tg iter m xs) (q : ∀ r, xs r = xs' r) : JI X Γ tg iter m xs' := (funext q : xs = xs') ▸ h
end
end Z
set_option Elab.async false
set_option linter.all false
set_option maxRecDepth 100000
set_option maxHeartbeats 4000000
namespace Z
open PySem PySem.Spec L2
/-! ### list comprehensions -/
/-- an error within is not told -/
def noer {α : Type} : M α → M α
  | .er _ => .st
  | m => m
def lcP {α β : Type} : List α → (α → M Bool) → (α → M β) → M (List β)
  | [], _, _ => .ok []
  | a :: l, c, f => bnd (noer (c a)) fun b => if b then bnd (noer (f a)) fun y => bnd (lcP l c f) fun ys => .ok (y :: ys) else lcP l c f
section
variable {g : Gx} {F O H F' H' F1 H1 : Hp} {σ σ' : L2.St} {Γ Γ' : List Sl} {i : Nat} {vs : List Nat}
/-- where nothing is known the frame may change -/
theorem SatL.re : ∀ {Γ : List Sl} {σ σ' : L2.St} {O : Hp}, SatL g F Γ σ O → σ'.length = σ.length → (∀ i : Nat, Γ[i]? = some Sl.un ∨ σ'[i]? = σ[i]?) → SatL g F Γ σ' O
  | _, _, σ', _, .nil, h, _ => by
    cases σ' with
    | nil => exact .nil
    | cons a b => simp at h
  | _, _, σ', _, .cons (s := s) (v := v) a b c, h, k => by
    cases σ' with
    | nil => simp at h
    | cons v' σ2 =>
      refine .cons ?_ (SatL.re b (by simpa using h) fun i => by simpa using k (i + 1)) c
      rcases k 0 with z | z
      · simp at z; subst z; exact a
      · simp at z; rw [z]; exact a
theorem Sat.re (S : Sat g F Γ σ O H) (h : σ'.length = σ.length) (k : ∀ i : Nat, Γ[i]? = some Sl.un ∨ σ'[i]? = σ[i]?) : Sat g F Γ σ' O H := ⟨S.l.re h k, S.fh, S.oh, S.fo⟩
theorem wipe_get (σ : L2.St) : ∀ {vs : List Nat} {i : Nat}, i ∉ vs → (wipe σ vs)[i]? = σ[i]?
  | [], i, _ => rfl
  | v :: vs, i, h => by
    simp only [List.mem_cons, not_or] at h
    unfold wipe
    rw [List.getElem?_set_ne (Ne.symm h.1)]
    exact wipe_get σ h.2
theorem Sat.wiped (S : Sat g F Γ σ O H) (hv : ∀ i ∈ vs, Γ[i]? = some .un) : Sat g F Γ (wipe σ vs) O H := S.re (wipe_length σ vs) fun i => by
  by_cases h : i ∈ vs
  · exact .inl (hv i h)
  · exact .inr (wipe_get σ h)
theorem Sat.unwipe (S : Sat g F Γ σ O H) (hv : ∀ i ∈ vs, Γ[i]? = some .un) (e : wipe σ vs = wipe σ' vs) : Sat g F Γ σ' O H := by
  have hl : σ'.length = σ.length := by rw [← wipe_length σ' vs, ← e, wipe_length]
  refine S.re hl fun i => ?_
  by_cases h : i ∈ vs
  · exact .inl (hv i h)
  · exact .inr (by rw [← wipe_get σ' h, ← e, wipe_get σ h])
theorem wipe_set {v : Option V} : ∀ {vs : List Nat} {σ : L2.St} {i : Nat}, i ∈ vs → wipe (σ.set i v) vs = wipe σ vs
  | [], σ, i, h => by simp at h
  | w :: vs, σ, i, h => by
    unfold wipe
    by_cases hw : i = w
    · subst hw
      by_cases hm : i ∈ vs
      · rw [wipe_set hm]
      · have : ∀ {vs : List Nat} {σ : L2.St}, i ∉ vs → wipe (σ.set i v) vs = (wipe σ vs).set i v := by
          intro vs
          induction vs with
          | nil => intro σ _; rfl
          | cons a vs ih =>
            intro σ hn
            simp only [List.mem_cons, not_or] at hn
            unfold wipe
            rw [ih hn.2, List.set_comm _ _ hn.1]
        rw [this hm, List.set_set]
    · have hm : i ∈ vs := by
        rcases List.mem_cons.mp h with z | z
        · exact absurd z hw
        · exact z
      rw [wipe_set hm]
/-- a comprehension's target -/
def TgB (g : Gx) (vs : List Nat) (t : TG) (Γ : List Sl) (d : D) (Γ' : List Sl) : Prop := ∀ (F O : Hp) (σ : L2.St) (H : Hp) (v : V) (Q : L2.St → Hp → Prop), Sat g F Γ σ O H → Rep g F v d →
  (∀ O' σ', Sat g F Γ' σ' O' H → (∀ a o, O' a = some o → O a = some o) → wipe σ' vs = wipe σ vs → Q σ' H) → t v σ H Q
def TgsB (g : Gx) (vs : List Nat) (t : TGs) (Γ : List Sl) (ds : List D) (Γ' : List Sl) : Prop := ∀ (F O : Hp) (σ : L2.St) (H : Hp) (us : List V) (Q : L2.St → Hp → Prop), Sat g F Γ σ O H → Reps g F us ds →
  (∀ O' σ', Sat g F Γ' σ' O' H → (∀ a o, O' a = some o → O a = some o) → wipe σ' vs = wipe σ vs → Q σ' H) → t us σ H Q
theorem tgb_name (g : Gx) (i : Nat) {d : D} (hi : i ∈ vs := by decide) : TgB g vs (gName i) Γ d (Γ.set i (.va d)) := fun F O σ H v Q S r q => by
  obtain ⟨O', S', mm⟩ := satSet (i := i) (s := .va d) (v := v) (O := uni emp O) (F := F) (H := H) ⟨.cons ⟨rfl, v, rfl, r⟩ S.l (dis_emp _), S.fh, S.oh, S.fo⟩
  exact q O' _ S' mm (wipe_set hi)
theorem tgsb_nil (g : Gx) : TgsB g vs gNil Γ [] Γ := fun F O σ H us Q S r q => by
  cases r
  exact ⟨rfl, q O σ S (fun _ _ e => e) rfl⟩
theorem tgsb_cons (g : Gx) {t : TG} {u : TGs} {d : D} {ds : List D} {Γ2 Γ3 : List Sl} (h1 : TgB g vs t Γ d Γ2) (h2 : TgsB g vs u Γ2 ds Γ3) : TgsB g vs (gCons t u) Γ (d :: ds) Γ3 := fun F O σ H us Q S r q => by
  cases r with
  | cons rv rr =>
    exact ⟨_, _, rfl, h1 F O σ H _ _ S rv fun O' σ' S' mm e => h2 F O' σ' H _ Q S' rr fun O2 σ2 S2 m2 e2 => q O2 σ2 S2 (fun a o z => mm a o (m2 a o z)) (e2.trans e)⟩
theorem tgb_tup (g : Gx) {t : TGs} {n : Nat} {ds : List D} {Γ2 : List Sl} (h : TgsB g vs t Γ ds Γ2) (hn : ds.length = n := by rfl) : TgB g vs (gTup g.K n t) Γ (.tup ds) Γ2 := fun F O σ H v Q S r q => by
  obtain ⟨a, us, rfl, sq, rs⟩ := r.tup_of
  exact ⟨a, us, rfl, S.fh.sq sq, by rw [rs.length, hn], h F O σ H us Q S rs q⟩
theorem Grow.acc {D : Addr} {o o' : HO} {F2 H2 : Hp} (G : Grow F H F1 (sg D o) H1) (G2 : Grow F1 H1 F2 emp H2) : H2 D = some o ∧ Grow F H F2 (sg D o') (L2.upd H2 D o') := by
  obtain ⟨n1, n2, n3⟩ := G.nh D o sg_self
  have hD := G2.hh D o n2
  have fD : F2 D = none := G2.nf D (ne_none n2) n3
  have nd : ∀ a u, H a = some u → a ≠ D := fun a u e z => by subst z; rw [n1] at e; cases e
  refine ⟨hD, ⟨G.ff.trans G2.ff, fun a u e => ?_, fun a u e => ?_, fun a u e => ?_, fun a h1 h2 => ?_⟩⟩
  · rw [upd_ne (nd a u e)]; exact G2.hh a u (G.hh a u e)
  · rw [upd_ne (fun z => by subst z; rw [fD] at e; cases e)]; exact G2.fh a u e
  · obtain ⟨z1, z2⟩ := of_sg e
    subst z1; subst z2
    exact ⟨n1, upd_same, fD⟩
  · obtain ⟨u, hu⟩ := some_of h1
    exact G2.nf a (ne_none (G.hh a u hu)) (G.nf a h1 h2)
end
section
variable {X : Cx} {Γ Γx : List Sl} {elt tg iter c e : Expr} {ifs : List Expr} {scope : Scope} {own : List (Str × Nat)} {pos pos' py : Pos} {ρ ζ α β : Type} {m : M ρ} {y : Str} {rest : List Stmt} {K : List (List Stmt)} {π : ζ → Out}
abbrev blk (X : Cx) (scope : Scope) (s : Shared) (H : Hp) (C : Addr) (cl : List (Str × Addr)) (fp : List Addr) : Cx := X.blk s H scope (compEnvC scope cl C X.env) fp
def REb (X : Cx) (scope : Scope) (elt : Expr) : TE := fun σ H Q => ∀ s H0 C cl fp, RE (blk X scope s H0 C cl fp) elt σ H Q
def RTb (X : Cx) (scope : Scope) (ifs : List Expr) : TT := fun σ H Q => ∀ s H0 C cl fp pins s', Inv (blk X scope s H0 C cl fp) pins σ H s' →
  wpAny (model X.prog X.w) X.A (forIn ifs true fun c r => if r = true then do let ok ← isTrue c (blk X scope s H0 C cl fp).env (eval c (blk X scope s H0 C cl fp).env); pure (ForInStep.yield ok) else pure (ForInStep.yield r)) (TP (blk X scope s H0 C cl fp) pins σ Q) (blk X scope s H0 C cl fp).xe s'
theorem takesB {X : Cx} : L2N.Takes X (fun _ _ _ _ => False) := fun _ _ ⟨_, _, _, _, _, _, _, _, _, _, _, _, _, _, _, _, w⟩ => w.elim
/-- the tests of a comprehension -/
def JTs (X : Cx) (Γ : List Sl) (ifs : List Expr) (m : M Bool) : Prop :=
  ∀ (F O : Hp) (σ : L2.St) (H : Hp) (Q : Bool → Hp → Prop) (W : WX), Sat (gx X) F Γ σ O H → L2N.Takes X W → FiT (gx X) F O H W σ m Q → ∃ tt, PTs X ifs tt ∧ tt σ H Q
theorem jts_nil : JTs X Γ [] (.ok true) := fun F O σ H Q W S tk f => ⟨tYes, pts_nil, f F H (Grow.refl S.fh)⟩
theorem jts_one {m : M Bool} (h : JT X Γ c m) : JTs X Γ [c] m := fun F O σ H Q W S tk f => ⟨RT X c, pts_one ptR, h F O σ H Q W S tk f⟩
theorem noer_fi {g : Gx} {F O H : Hp} {σ : L2.St} {m : M ρ} {t : ρ → Sl} {Q : VK} (f : Fi g F O H (fun _ _ _ _ => False) σ (noer m) t Q) : Fi g F O H (fun _ _ _ _ => False) σ m t Q := by
  cases m with
  | st => exact f
  | er x => exact f.elim
  | ok r => exact f
theorem noer_fiT {g : Gx} {F O H : Hp} {σ : L2.St} {m : M Bool} {Q : Bool → Hp → Prop} (f : FiT g F O H (fun _ _ _ _ => False) σ (noer m) Q) : FiT g F O H (fun _ _ _ _ => False) σ m Q := by
  cases m with
  | st => exact f
  | er x => exact f.elim
  | ok r => exact f
def lcM {ρ α β : Type} (m : M ρ) (l : ρ → List α) (mc : α → M Bool) (me : α → M β) : M (List β) := bnd m fun r => bnd (chk ((l r).length ≤ sizeLine) ()) fun _ => lcP (l r) mc me
theorem lc_body (l : ρ → List α) (enc : α → D) (encB : β → D) (ΓT : α → List Sl) (mc : α → M Bool) (me : α → M β) {g0 : TG} (hi : JI X Γ tg iter m (fun r => (l r).map enc)) (hv : ∀ i ∈ own.map (·.2), Γ[i]? = some .un)
    (hT : ∀ a, TgB (gx X) (own.map (·.2)) g0 Γ (enc a) (ΓT a)) (hc : ∀ a s H C cl fp, JTs (blk X scope s H C cl fp) (ΓT a) ifs (mc a)) (he : ∀ a s H C cl fp, JP (blk X scope s H C cl fp) (ΓT a) elt (me a) (fun b => .va (encB b))) :
    ∃ wi, PI X tg iter wi ∧ ∀ (F O : Hp) (σ : L2.St) (H : Hp) (Q : VK) (W : WX), Sat (gx X) F Γ σ O H → L2N.Takes X W → Fi (gx X) F O H W σ (lcM m l mc me) (fun ys => .ow none (.lst (ys.map encB))) Q → tLc wi g0 (RTb X scope ifs) (REb X scope elt) (own.map (·.2)) σ H Q := by
  obtain ⟨wi, pi, hw⟩ := hi
  refine ⟨wi, pi, fun F O σ H Q W S tk f => ?_⟩
  refine hw F O σ H _ W S tk ?_
  revert f
  unfold lcM
  cases m with
  | st => exact id
  | er x => exact id
  | ok r =>
    intro f F1 J H1 G it D hD
    have S1 := S.grow G
    have f : Fi (gx X) F O H W σ (bnd (chk ((l r).length ≤ sizeLine) ()) fun _ => lcP (l r) mc me) (fun ys => .ow none (.lst (ys.map encB))) Q := f
    unfold chk at f
    by_cases hz : (l r).length ≤ sizeLine
    · rw [if_pos hz] at f
      have f1 : Fi (gx X) F1 O H1 W σ (bnd (lcP ((l r).drop 0) mc me) fun ys => .ok ([] ++ ys)) (fun ys => .ow none (.lst (ys.map encB))) Q := by
        have f2 : Fi (gx X) F1 O H1 W σ (lcP (l r) mc me) (fun ys => .ow none (.lst (ys.map encB))) Q := Fi.shift S f G
        rw [List.drop_zero]
        revert f2
        cases lcP (l r) mc me with
        | st => exact id
        | er x => exact id
        | ok ys => exact id
      refine ⟨fun i m H' => m = (l r).length - i ∧ i ≤ (l r).length ∧ ∃ bs acc F', bs.length ≤ i ∧ Grow F1 H1 F' (sg D (.lst acc)) H' ∧ Reps (gx X) F' acc (bs.map encB) ∧ Fi (gx X) F1 O H1 W σ (bnd (lcP ((l r).drop i) mc me) fun ys => .ok (bs ++ ys)) (fun ys => .ow none (.lst (ys.map encB))) Q,
        ⟨_, rfl, Nat.zero_le _, [], [], F1, Nat.le_refl _, (Grow.refl S1.fh).own hD _, .nil, f1⟩, ?_⟩
      rintro i m' H' ⟨rfl, hi, bs, acc, F', hbl, G', ra, f'⟩
      have S' := S1.grow G'
      have nD := G'.nh D _ sg_self
      by_cases hlt : i < (l r).length
      · obtain ⟨a, ha⟩ : ∃ a, (l r)[i]? = some a := ⟨_, List.getElem?_eq_getElem hlt⟩
        refine .inr ⟨it.go i H' (by rw [List.length_map]; exact hlt) (G'.ff.trans S'.fh), fun H2 => i + 1 ≤ (l r).length ∧ ∃ bs acc F', bs.length ≤ i + 1 ∧ Grow F1 H1 F' (sg D (.lst acc)) H2 ∧ Reps (gx X) F' acc (bs.map encB) ∧ Fi (gx X) F1 O H1 W σ (bnd (lcP ((l r).drop (i + 1)) mc me) fun ys => .ok (bs ++ ys)) (fun ys => .ow none (.lst (ys.map encB))) Q,
          fun H2 q => ⟨(l r).length - (i + 1), by omega, rfl, q.1, q.2⟩, fun x H2 yy => ?_⟩
        obtain ⟨F2, G2, rv⟩ := it.yld i F' H' x H2 (enc a) (by rw [List.getElem?_map, ha]; rfl) G'.ff S'.fh yy
        have S2 := (S'.grow G2).wiped hv
        refine hT a F2 O (wipe σ (own.map (·.2))) H2 x _ S2 rv fun O3 σ3 S3 mm ew => ?_
        have ew2 : wipe (wipe σ (own.map (·.2))) (own.map (·.2)) = wipe σ (own.map (·.2)) := by
          apply List.ext_getElem?
          intro j
          by_cases hj : j ∈ own.map (·.2)
          · have hn : ∀ (τ : L2.St) (vs : List Nat), j ∈ vs → (wipe τ vs)[j]? = if j < τ.length then some none else none := by
              intro τ vs
              induction vs with
              | nil => intro h; simp at h
              | cons v vs ih =>
                intro h
                unfold wipe
                by_cases hjv : v = j
                · subst hjv
                  rw [List.getElem?_set]
                  simp [wipe_length]
                · rw [List.getElem?_set_ne hjv]
                  rcases List.mem_cons.mp h with z | z
                  · exact absurd z.symm hjv
                  · exact ih z
            rw [hn _ _ hj, hn _ _ hj, wipe_length]
          · rw [wipe_get _ hj]
        rw [drop_cons ha] at f'
        refine ⟨ew.trans ew2, ?_⟩
        have hmc : ∀ x, mc a = .er x → False := fun x h => by
          have f' := f'
          unfold lcP at f'
          rw [h] at f'; exact f'
        have hst : mc a ≠ .st := fun h => by
          have f' := f'
          unfold lcP at f'
          rw [h] at f'; exact f'
        cases hmv : mc a with
        | st => exact absurd hmv hst
        | er x => exact (hmc x hmv).elim
        | ok b0 =>
          intro s H0 C cl fp pins s' I'
          obtain ⟨tt, pt, ht⟩ := hc a s H0 C cl fp F2 O3 σ3 H2 (fun b H3 => if b = true then REb X scope elt σ3 H3 fun y H4 => ∃ acc, H4 D = some (.lst acc) ∧ acc.length < sizeLine ∧ (i + 1 ≤ (l r).length ∧ ∃ bs acc' F', bs.length ≤ i + 1 ∧ Grow F1 H1 F' (sg D (.lst acc')) (L2.upd H4 D (.lst (acc ++ [y]))) ∧ Reps (gx X) F' acc' (bs.map encB) ∧ Fi (gx X) F1 O H1 W σ (bnd (lcP ((l r).drop (i + 1)) mc me) fun ys => .ok (bs ++ ys)) (fun ys => .ow none (.lst (ys.map encB))) Q)
            else (i + 1 ≤ (l r).length ∧ ∃ bs acc F', bs.length ≤ i + 1 ∧ Grow F1 H1 F' (sg D (.lst acc)) H3 ∧ Reps (gx X) F' acc (bs.map encB) ∧ Fi (gx X) F1 O H1 W σ (bnd (lcP ((l r).drop (i + 1)) mc me) fun ys => .ok (bs ++ ys)) (fun ys => .ow none (.lst (ys.map encB))) Q)) (fun _ _ _ _ => False) S3 takesB (by
              rw [hmv]
              intro F3 H3 G3
              unfold lcP at f'
              rw [hmv] at f'
              cases b0 with
              | false =>
                have GG := (Grow.acc (o' := .lst acc) G' (G2.trans G3))
                have e3 : L2.upd H3 D (.lst acc) = H3 := by
                  funext z
                  by_cases hz : z = D
                  · subst hz; rw [upd_same, GG.1]
                  · rw [upd_ne hz]
                rw [e3] at GG
                exact ⟨hlt, bs, acc, F3, Nat.le_succ_of_le hbl, GG.2, ra.mono (G2.ff.trans G3.ff), f'⟩
              | true =>
                have f' : Fi (gx X) F1 O H1 W σ (bnd (bnd (noer (me a)) fun y => bnd (lcP ((l r).drop (i + 1)) mc me) fun ys => .ok (y :: ys)) fun ys => .ok (bs ++ ys)) (fun ys => .ow none (.lst (ys.map encB))) Q := f'
                intro s H0 C cl fp
                have S4 := S3.grow G3
                refine he a s H0 C cl fp F3 O3 σ3 H3 _ (fun _ _ _ _ => False) S4 takesB (noer_fi ?_)
                revert f'
                cases hme : noer (me a) with
                | st => exact id
                | er x => cases h : me a <;> rw [h] at hme <;> cases hme
                | ok b =>
                  intro f' F4 hh v H4 G4 k
                  obtain ⟨eh, rb⟩ := Sl.va_of k
                  subst eh
                  have GG := Grow.acc (o' := .lst (acc ++ [v])) G' ((G2.trans G3).trans G4)
                  refine ⟨acc, GG.1, ?_, hlt, bs ++ [b], acc ++ [v], F4, by rw [List.length_append, List.length_singleton]; omega, GG.2, ?_, ?_⟩
                  · rw [ra.length, List.length_map]; omega
                  · rw [List.map_append]; exact (ra.mono ((G2.ff.trans G3.ff).trans G4.ff)).append (.cons rb .nil)
                  · have f' : Fi (gx X) F1 O H1 W σ (bnd (bnd (lcP ((l r).drop (i + 1)) mc me) fun ys => .ok (b :: ys)) fun ys => .ok (bs ++ ys)) (fun ys => .ow none (.lst (ys.map encB))) Q := f'
                    rw [bnd_assoc] at f'
                    revert f'
                    cases lcP ((l r).drop (i + 1)) mc me with
                    | st => exact id
                    | er x => exact id
                    | ok ys =>
                      show Fi _ _ _ _ _ _ (M.ok (bs ++ (b :: ys))) _ _ → Fi _ _ _ _ _ _ (M.ok ((bs ++ [b]) ++ ys)) _ _
                      rw [List.append_assoc]
                      exact id)
          exact pt.run pins s' σ3 H2 _ I' ht
      · have e : i = (l r).length := by omega
        subst e
        refine .inl ⟨?_, ?_⟩
        · have := it.stop H' (G'.ff.trans S'.fh)
          rwa [List.length_map] at this
        · rw [List.drop_length] at f'
          have f' : Fi (gx X) F1 O H1 W σ (.ok (bs ++ [])) (fun ys => .ow none (.lst (ys.map encB))) Q := f'
          rw [List.append_nil] at f'
          exact f' F' _ _ H' G' ⟨D, _, rfl, rfl, ⟨acc, rfl, ra⟩, fun _ z => (by cases z)⟩
    · rw [if_neg hz] at f; exact f.elim
theorem peRb : ∀ (s : Shared) (H : Hp) (C : Addr) (cl : List (Str × Addr)) (fp : List Addr), PE (X.blk s H scope (compEnvC scope cl C X.env) fp) elt (REb X scope elt) := fun s H C cl fp => ⟨fun pins s' σ H' Q I h => h s H C cl fp pins s' I⟩
theorem ptsRb : ∀ (s : Shared) (H : Hp) (C : Addr) (cl : List (Str × Addr)) (fp : List Addr), PTs (X.blk s H scope (compEnvC scope cl C X.env) fp) ifs (RTb X scope ifs) := fun s H C cl fp => ⟨fun pins s' σ H' Q I h => h s H C cl fp pins s' I⟩
/-- [elt for tg in iter if ..] -/
theorem jp_lc (l : ρ → List α) (enc : α → D) (encB : β → D) (ΓT : α → List Sl) (mc : α → M Bool) (me : α → M β) {g0 : TG} (hi : JI X Γ tg iter m (fun r => (l r).map enc)) (hv : ∀ i ∈ own.map (·.2), Γ[i]? = some .un)
    (hT : ∀ a, TgB (gx X) (own.map (·.2)) g0 Γ (enc a) (ΓT a)) (hc : ∀ a s H C cl fp, JTs (blk X scope s H C cl fp) (ΓT a) ifs (mc a)) (he : ∀ a s H C cl fp, JP (blk X scope s H C cl fp) (ΓT a) elt (me a) (fun b => .va (encB b)))
    (hcm : X.calm = true) (hN : X.N.Nodup) (ok : BlkOk X.N X.env.scope scope own) (hg : ∀ (s : Shared) (H : Hp) (C : Addr) (cl : List (Str × Addr)) (fp : List Addr), PG (X.blk s H scope (compEnvC scope cl C X.env) fp) tg g0)
    (hs : ∀ x, foldedSetIterable iter X.env x = pure x := by intro _; rfl) : JP X Γ (.ListComp elt [⟨tg, iter, ifs, 0⟩] scope pos) (lcM m l mc me) (fun ys => .ow none (.lst (ys.map encB))) := fun F O σ H Q W S tk f => by
  obtain ⟨wi, pi, hw⟩ := lc_body (own := own) (scope := scope) l enc encB ΓT mc me hi hv hT hc he
  exact RE.of (pe_lc hcm hN pi ok hg ptsRb peRb hs) (hw F O σ H Q W S tk f)
/-- name = [..] -/
theorem js_setLc (i : Nat) (l : ρ → List α) (enc : α → D) (encB : β → D) (ΓT : α → List Sl) (mc : α → M Bool) (me : α → M β) {g0 : TG} {k : List β → M ζ} (Γ2 : List β → List Sl) (hi : JI X Γ tg iter m (fun r => (l r).map enc)) (hv : ∀ i ∈ own.map (·.2), Γ[i]? = some .un)
    (hT : ∀ a, TgB (gx X) (own.map (·.2)) g0 Γ (enc a) (ΓT a)) (hc : ∀ a s H C cl fp, JTs (blk X scope s H C cl fp) (ΓT a) ifs (mc a)) (he : ∀ a s H C cl fp, JP (blk X scope s H C cl fp) (ΓT a) elt (me a) (fun b => .va (encB b)))
    (h2 : ∀ ys, JG X Γx (Γ2 ys) (rest :: K) (k ys) π)
    (hcm : X.calm = true) (hN : X.N.Nodup) (ok : BlkOk X.N X.env.scope scope own) (hg : ∀ (s : Shared) (H : Hp) (C : Addr) (cl : List (Str × Addr)) (fp : List Addr), PG (X.blk s H scope (compEnvC scope cl C X.env) fp) tg g0)
    (hsw : swapsWith (.ListComp elt [⟨tg, iter, ifs, 0⟩] scope pos) (some (.Name y py)) pos'.line X.env = pure true) (hΓ : ∀ ys, Γ2 ys = Γ.set i (.ow none (.lst (ys.map encB))) := by intro _; rfl) (hy : X.N[i]? = some y := by rfl) (hyl : X.env.scope.names.lookup y = some .local := by rfl)
    (hs : ∀ x, foldedSetIterable iter X.env x = pure x := by intro _; rfl) (hx : Sub Γx Γ := by exact Sub.nil) :
    JG X Γx Γ ((.Assign [.Name y py] (.ListComp elt [⟨tg, iter, ifs, 0⟩] scope pos) pos' :: rest) :: K) (bnd (lcM m l mc me) k) π := fun F O σ H D W S tk f => by
  obtain ⟨wi, pi, hw⟩ := lc_body (own := own) (scope := scope) l enc encB ΓT mc me hi hv hT hc he
  refine RB.of (pss_cons (ps_setLc (i := i) hcm hN hy hyl hsw pi ok hg ptsRb peRb hs) pssR) (show tLc wi g0 (RTb X scope ifs) (REb X scope elt) (own.map (·.2)) σ H (fun x H1 => gName i x σ H1 (fun σ' H' => RB X rest { D with nx := fun σ' H' => RBs X K D σ' H' } σ' H')) from hw F O σ H _ W S tk ?_)
  revert f
  cases lcM m l mc me with
  | st => exact id
  | er x => exact fun f => FerS.fer (x := x) f (S.l.satV hx)
  | ok ys =>
    intro f F1 h v H1 G kk
    obtain ⟨O2, S2, mm⟩ := satSet (i := i) (S.growT G kk)
    rw [← hΓ ys] at S2
    exact h2 ys F1 O2 _ H1 D W S2 tk (FiS.step S.fh S2.fo f ((G.trn S).less mm))
end
end Z
set_option Elab.async false
set_option linter.all false
set_option maxRecDepth 100000
set_option maxHeartbeats 4000000
namespace Z
open PySem PySem.Spec L2
@[simp] theorem bnd_ok {α β : Type} (a : α) (k : α → M β) : bnd (.ok a) k = k a := rfl
theorem bnd_ret {α : Type} (m : M α) : bnd m (fun a => .ok a) = m := by cases m <;> rfl
/-! ### stores -/
def setI {α : Type} (xs : List α) (i : Int) (x : α) : M (List α) := match ixN xs.length i with
  | some j => .ok (xs.set j x)
  | none => .st
section
variable {X : Cx} {Γ Γx : List Sl} {e b : Expr} {es : List Expr} {p pos pos' py : Pos} {ρ ρ1 ρ2 ρ3 ρA ζ α : Type} {m1 : M ρ1} {y : Str} {rest : List Stmt} {K : List (List Stmt)} {π : ζ → Out}
/-- name op= e -/
theorem js_aug (i : Nat) {x : Str} {op : Operator} {rr : R2} {d0 : D} {d1 : ρ1 → D} {Γ1 : ρ1 → List Sl} {k : ρ1 → M ρ} {t : ρ → Sl} {kk : ρ1 → ρ → M ζ} (Γ2 : ρ1 → ρ → List Sl) (ho : OpR X (inplaceOp op) rr) (h : JE X Γ e m1 (fun r => .va (d1 r)) Γ1) (h3 : ∀ r, OpJ (gx X) rr d0 (d1 r) (k r) t)
    (h2 : ∀ r z, JG X Γx (Γ2 r z) (rest :: K) (kk r z) π) (hN : X.N.Nodup) (h0 : Γ[i]? = some (.va d0) := by rfl) (hx1 : ∀ r, Sub Γx (Γ1 r) := by exact fun _ => Sub.nil) (hΓ : ∀ r z, Γ2 r z = (Γ1 r).set i (t z) := by intro _ _; rfl) (hi : X.N[i]? = some x := by rfl) (hl : Loc X.env.scope x := by first | exact Or.inl rfl | exact Or.inr rfl)
    (hf : X.fn x = true ∨ X.env.scope.names.lookup x = some .local := by first | exact .inl rfl | exact .inr rfl) (hx : Sub Γx Γ := by exact Sub.nil) :
    JG X Γx Γ ((.AugAssign (.Name x pos') op e pos :: rest) :: K) (bnd m1 fun r => bnd (k r) fun z => kk r z) π := fun F O σ H D W S tk f => by
  obtain ⟨w, e1, rw'⟩ := S.get h0
  refine RB.of (pss_cons (ps_aug hN hi hl peR ho hf) pssR) ⟨w, e1, h F O σ H _ W S tk (FiE.val ?_)⟩
  revert f
  cases m1 with
  | st => exact id
  | er x => exact fun f => FerS.fer (x := x) f (S.l.satV hx)
  | ok r =>
    intro f F1 O1 v H1 S1 T1 r1
    have f : FiS (gx X) F O H W D Γx (bnd (k r) fun z => kk r z) π := f
    have f1 := FiS.step S.fh S1.fo f T1
    refine h3 r F1 O1 H1 w v _ W σ S1.fh (rw'.mono T1.ff) r1 ?_
    revert f1
    cases k r with
    | st => exact id
    | er x => exact fun f1 => FerS.fer (x := x) f1 (S1.l.satV (hx1 r))
    | ok z =>
      intro f1 F2 h' v' H2 G2 kt
      obtain ⟨O3, S3, mm⟩ := satSet (i := i) (S1.growT G2 kt)
      rw [← hΓ r z] at S3
      exact h2 r z F2 O3 _ H2 D W S3 tk (FiS.step S1.fh S3.fo f1 ((G2.trn S1).less mm))
/-- y[b] = e, y an own list of things alike -/
theorem js_seti (i : Nat) {xs : ρ1 → List α} {enc : α → D} {v : ρ1 → α} {Γ1 : ρ1 → List Sl} {m2 : ρ1 → M ρ2} {z : ρ1 → ρ2 → Int} {q : ρ1 → Option Addr} {kk : ρ1 → ρ2 → List α → M ζ} (Γ2 : ρ1 → ρ2 → List α → List Sl) (h : JE X Γ e m1 (fun r => .va (enc (v r))) Γ1) (hb : ∀ r, JP X (Γ1 r) b (m2 r) (fun s => .va (.int (z r s))))
    (h2 : ∀ r s l, JG X Γx (Γ2 r s l) (rest :: K) (kk r s l) π) (h0 : ∀ r, (Γ1 r)[i]? = some (.ow (q r) (.lst ((xs r).map enc))) := by intro _; rfl) (hΓ : ∀ r s l, Γ2 r s l = (Γ1 r).set i (.ow (q r) (.lst (l.map enc))) := by intro _ _ _; rfl) (hN : X.N[i]? = some y := by rfl) (hv : Vis X.env.scope y := by first | exact Or.inl rfl | exact Or.inr (Or.inl rfl) | exact Or.inr (Or.inr rfl))
    (hdb2 : (y == ("__debug__" : Str)) = false := by decide) (hcd : (y == ("__classdict__" : Str)) = false := by decide) (hs : swapsWithSole [.Subscript (.Name y py) b pos'] e pos.line X.env = pure false := by rfl) (hw : swappedStores [.Subscript (.Name y py) b pos'] e X.env = pure none := by rfl) (h1 : (assignEach [.Subscript (.Name y py) b pos'] X.env).map (·.2) = [assign (.Subscript (.Name y py) b pos') X.env] := by rfl)
    (ha : ∀ v, assign (.Subscript (.Name y py) b pos') X.env v = (do
      let ov ← holding [v] (eval (.Name y py) X.env)
      let iv ← holding [v, ov] (eval b X.env)
      standAt pos'
      holding [v, ov, iv] (setItem ov iv v)
      release [v, ov, iv] []) := by intro _; rfl) (hx : Sub Γx Γ := by exact Sub.nil) (hx1 : ∀ r, Sub Γx (Γ1 r) := by exact fun _ => Sub.nil) :
    JG X Γx Γ ((.Assign [.Subscript (.Name y py) b pos'] e pos :: rest) :: K) (bnd m1 fun r => bnd (m2 r) fun s => bnd (setI (xs r) (z r s) (v r)) fun l => kk r s l) π := fun F O σ H D W S tk f => by
  refine RB.of (pss_cons (ps_asg peR (pg_sub (pe_var hN hv hdb2 hcd) peR set_list ha) hs hw h1) pssR) (h F O σ H _ W S tk (FiE.val ?_))
  revert f
  cases m1 with
  | st => exact id
  | er x => exact fun f => FerS.fer (x := x) f (S.l.satV hx)
  | ok r =>
    intro f F1 O1 u H1 S1 T1 r1
    have f : FiS (gx X) F O H W D Γx (bnd (m2 r) fun s => bnd (setI (xs r) (z r s) (v r)) fun l => kk r s l) π := f
    have f1 := FiS.step S.fh S1.fo f T1
    obtain ⟨a, o, e1, e2, e3, ow⟩ := S1.own_at (h0 r)
    refine ⟨_, e1, ?_⟩
    refine hb r F1 O1 σ H1 _ W S1 tk ?_
    revert f1
    cases m2 r with
    | st => exact id
    | er x => exact fun f1 => FerS.fer (x := x) f1 (S1.l.satV (hx1 r))
    | ok s =>
      intro f1 F2 hh w H2 G2 kw
      obtain ⟨eh, rw'⟩ := Sl.va_of kw
      subst eh
      cases rw'
      have S2 := S1.grow G2
      have f1 : FiS (gx X) F1 O1 H1 W D Γx (bnd (setI (xs r) (z r s) (v r)) fun l => kk r s l) π := f1
      have f2 := FiS.step S1.fh S2.fo f1 (G2.trnO S1)
      obtain ⟨o', e4, e5, ow', up⟩ := S2.same_own (h0 r) e1
      obtain ⟨vs, rfl, rs⟩ := ow'
      unfold setI at f2
      cases hj : ixN (xs r).length (z r s) with
      | none => rw [hj] at f2; exact f2.elim
      | some j =>
        rw [hj] at f2
        obtain ⟨O3, S3, T3⟩ := up (.lst (vs.set j u)) (.lst (((xs r).set j (v r)).map enc)) ⟨_, rfl, by rw [List.map_set]; exact rs.set j (r1.mono G2.ff)⟩
        rw [← hΓ r s] at S3
        refine ⟨a, vs, z r s, j, rfl, rfl, e4, by rw [rs.length, List.length_map]; exact hj, ?_⟩
        exact h2 r s _ F2 O3 σ _ D W S3 tk (FiS.step S2.fh S3.fo f2 T3)
/-- y[z] = e at a written place of a list of parts -/
theorem js_setc (i : Nat) {ds : ρ1 → List D} {d : ρ1 → D} {Γ1 : ρ1 → List Sl} (z : Int) (j : Nat) {ρ2 : Type} {m2 : M ρ2} {q : ρ1 → Option Addr} {kk : ρ1 → ρ2 → M ζ} (Γ2 : ρ1 → List Sl) (h : JE X Γ e m1 (fun r => .va (d r)) Γ1) (hb : ∀ r, JP X (Γ1 r) b m2 (fun _ => .va (.int z)))
    (h2 : ∀ r s, JG X Γx (Γ2 r) (rest :: K) (kk r s) π) (h0 : ∀ r, (Γ1 r)[i]? = some (.ow (q r) (.lst (ds r))) := by intro _; rfl) (hj : ∀ r, ixN (ds r).length z = some j := by intro _; rfl) (hΓ : ∀ r, Γ2 r = (Γ1 r).set i (.ow (q r) (.lst ((ds r).set j (d r)))) := by intro _; rfl) (hN : X.N[i]? = some y := by rfl) (hv : Vis X.env.scope y := by first | exact Or.inl rfl | exact Or.inr (Or.inl rfl) | exact Or.inr (Or.inr rfl))
    (hdb2 : (y == ("__debug__" : Str)) = false := by decide) (hcd : (y == ("__classdict__" : Str)) = false := by decide) (hs : swapsWithSole [.Subscript (.Name y py) b pos'] e pos.line X.env = pure false := by rfl) (hw : swappedStores [.Subscript (.Name y py) b pos'] e X.env = pure none := by rfl) (h1 : (assignEach [.Subscript (.Name y py) b pos'] X.env).map (·.2) = [assign (.Subscript (.Name y py) b pos') X.env] := by rfl)
    (ha : ∀ v, assign (.Subscript (.Name y py) b pos') X.env v = (do
      let ov ← holding [v] (eval (.Name y py) X.env)
      let iv ← holding [v, ov] (eval b X.env)
      standAt pos'
      holding [v, ov, iv] (setItem ov iv v)
      release [v, ov, iv] []) := by intro _; rfl) (hx : Sub Γx Γ := by exact Sub.nil) (hx1 : ∀ r, Sub Γx (Γ1 r) := by exact fun _ => Sub.nil) :
    JG X Γx Γ ((.Assign [.Subscript (.Name y py) b pos'] e pos :: rest) :: K) (bnd m1 fun r => bnd m2 fun s => kk r s) π := fun F O σ H D W S tk f => by
  refine RB.of (pss_cons (ps_asg peR (pg_sub (pe_var hN hv hdb2 hcd) peR set_list ha) hs hw h1) pssR) (h F O σ H _ W S tk (FiE.val ?_))
  revert f
  cases m1 with
  | st => exact id
  | er x => exact fun f => FerS.fer (x := x) f (S.l.satV hx)
  | ok r =>
    intro f F1 O1 u H1 S1 T1 r1
    have f : FiS (gx X) F O H W D Γx (bnd m2 fun s => kk r s) π := f
    have f1 := FiS.step S.fh S1.fo f T1
    obtain ⟨a, o, e1, e2, e3, ow⟩ := S1.own_at (h0 r)
    refine ⟨_, e1, ?_⟩
    refine hb r F1 O1 σ H1 _ W S1 tk ?_
    revert f1 f h2 hb
    cases m2 with
    | st => exact fun _ _ _ f => f
    | er x => exact fun _ _ _ f1 => FerS.fer (x := x) f1 (S1.l.satV (hx1 r))
    | ok s =>
      intro hb h2 f f1 F2 hh w H2 G2 kw
      obtain ⟨eh, rw'⟩ := Sl.va_of kw
      subst eh
      cases rw'
      have S2 := S1.grow G2
      have f1 : FiS (gx X) F1 O1 H1 W D Γx (kk r s) π := f1
      have f2 := FiS.step S1.fh S2.fo f1 (G2.trnO S1)
      obtain ⟨o', e4, e5, ow', up⟩ := S2.same_own (h0 r) e1
      obtain ⟨vs, rfl, rs⟩ := ow'
      obtain ⟨O3, S3, T3⟩ := up (.lst (vs.set j u)) (.lst ((ds r).set j (d r))) ⟨_, rfl, rs.set j (r1.mono G2.ff)⟩
      rw [← hΓ r] at S3
      refine ⟨a, vs, z, j, rfl, rfl, e4, by rw [rs.length]; exact hj r, ?_⟩
      exact h2 r s F2 O3 σ _ D W S3 tk (FiS.step S2.fh S3.fo f2 T3)
theorem gi_list : PGet X (rIxL X.K) := fun pins s σ H x y v u Q I rx ry h => by
  obtain ⟨p, xs, i, z, rfl, rfl, hq, he, q⟩ := h
  cases rx
  obtain ⟨t, rfl⟩ := ry
  obtain ⟨its, r, pl, hz⟩ := I.list hq
  obtain ⟨j, h1, h2, h3, h4, h5⟩ := atI_get he
  obtain ⟨w, ew, rw'⟩ := r.get h2
  have hl := r.length
  have hn := line63
  have fin : EP X pins σ Q w s := ⟨z, H, I, rw', q⟩
  by_cases h0 : 0 ≤ i
  · have hj : i.toNat = j := by
      rw [seqIndex_of h0 h5] at h1
      exact Option.some.inj h1
    exact wpAny_getItem_list pl.isList h0 (by omega) (by rw [hj]; simpa using ew) fin
  · have hj : (i + (its.toArray.size : Int)).toNat = j := by
      rw [seqIndex_neg (by omega) h4] at h1
      rw [List.size_toArray, ← hl]
      exact Option.some.inj h1
    exact wpAny_getItem_list_neg pl.isList (by omega) (by rw [List.size_toArray] <;> omega) (by omega) (by rw [hj]; simpa using ew) fin
/-- y[b] op= e -/
theorem js_augS (i : Nat) {xs : List Int} {m2 : ρ1 → M ρ2} {z : ρ1 → Int} {w : ρ1 → ρ2 → Int} {q : Option Addr} {op : Operator} {rr : R2} {k : ρ1 → ρ2 → Int → M Int} {kk : ρ1 → ρ2 → List Int → M ζ} (Γ2 : List Int → List Sl) (ho : OpR X (inplaceOp op) rr) (hb : JP X Γ b m1 (fun r => .va (.int (z r)))) (he : ∀ r, JP X Γ e (m2 r) (fun s => .va (.int (w r s))))
    (h3 : ∀ r s x, OpJ (gx X) rr (.int x) (.int (w r s)) (k r s x) vI) (h2 : ∀ r s l, JG X Γx (Γ2 l) (rest :: K) (kk r s l) π) (h0 : Γ[i]? = some (.ow q (.lst (xs.map .int))) := by rfl) (hΓ : ∀ l, Γ2 l = Γ.set i (.ow q (.lst (l.map .int))) := by intro _; rfl) (hN : X.N[i]? = some y := by rfl) (hv : Vis X.env.scope y := by first | exact Or.inl rfl | exact Or.inr (Or.inl rfl) | exact Or.inr (Or.inr rfl))
    (hdb2 : (y == ("__debug__" : Str)) = false := by decide) (hcd : (y == ("__classdict__" : Str)) = false := by decide) (ha : ∀ ov iv new, augStore b ov iv new = (do holding [new, ov, iv] (setItem ov iv new); release [new, ov, iv] []; pure .next) := by intros; rfl) (hx : Sub Γx Γ := by exact Sub.nil) :
    JG X Γx Γ ((.AugAssign (.Subscript (.Name y py) b pos') op e pos :: rest) :: K) (bnd m1 fun r => bnd (gt xs (z r)) fun x => bnd (m2 r) fun s => bnd (k r s x) fun v => bnd (setI xs (z r) v) fun l => kk r s l) π := fun F O σ H D W S tk f => by
  obtain ⟨a, o, e1, e2, e3, ow⟩ := S.own_at h0
  refine RB.of (pss_cons (ps_augS (pe_var hN hv hdb2 hcd) peR gi_list peR ho set_list ha) pssR) ⟨_, e1, hb F O σ H _ W S tk ?_⟩
  revert f
  cases m1 with
  | st => exact id
  | er x => exact fun f => FerS.fer (x := x) f (S.l.satV hx)
  | ok r =>
    intro f F1 hh v H1 G1 kv
    obtain ⟨eh, rv⟩ := Sl.va_of kv
    subst eh
    cases rv
    have S1 := S.grow G1
    have f : FiS (gx X) F O H W D Γx (bnd (gt xs (z r)) fun x => bnd (m2 r) fun s => bnd (k r s x) fun v => bnd (setI xs (z r) v) fun l => kk r s l) π := f
    have f1 := FiS.step S.fh S1.fo f (G1.trnO S)
    obtain ⟨vs, rfl, rs⟩ := ow
    unfold gt at f1
    cases hx1 : atI xs (z r) with
    | none => rw [hx1] at f1; exact f1.elim
    | some x =>
      rw [hx1] at f1
      obtain ⟨u, hu, ru⟩ := rs.at_ (i := z r) (d := .int x) (by rw [atI_map, hx1]; rfl)
      cases ru
      refine ⟨a, vs, z r, _, rfl, rfl, SqL.of (G1.hh _ _ e2), hu, he r F1 O σ H1 _ W S1 tk ?_⟩
      have f1 : FiS (gx X) F1 O H1 W D Γx (bnd (m2 r) fun s => bnd (k r s x) fun v => bnd (setI xs (z r) v) fun l => kk r s l) π := f1
      revert f1
      cases m2 r with
      | st => exact id
      | er x => exact fun f => FerS.fer (x := x) f (S1.l.satV hx)
      | ok s =>
        intro f1 F2 hh v H2 G2 kv
        obtain ⟨eh, rv⟩ := Sl.va_of kv
        subst eh
        have S2 := S1.grow G2
        have f1 : FiS (gx X) F1 O H1 W D Γx (bnd (k r s x) fun v => bnd (setI xs (z r) v) fun l => kk r s l) π := f1
        have f2 := FiS.step S1.fh S2.fo f1 (G2.trnO S1)
        refine h3 r s x F2 O H2 _ v _ W σ S2.fh (.int x) rv ?_
        revert f2
        cases k r s x with
        | st => exact id
        | er x => exact fun f => FerS.fer (x := x) f (S2.l.satV hx)
        | ok n =>
          intro f2 F3 hh v3 H3 G3 kv
          obtain ⟨eh, rv3⟩ := Sl.va_of kv
          subst eh
          have S3 := S2.grow G3
          have f2 : FiS (gx X) F2 O H2 W D Γx (bnd (setI xs (z r) n) fun l => kk r s l) π := f2
          have f3 := FiS.step S2.fh S3.fo f2 (G3.trnO S2)
          obtain ⟨o', e4, e5, ow', up⟩ := S3.same_own h0 e1
          obtain ⟨vs', eo, rs'⟩ := ow'
          subst eo
          unfold setI at f3
          cases hj : ixN xs.length (z r) with
          | none => rw [hj] at f3; exact f3.elim
          | some j =>
            rw [hj] at f3
            obtain ⟨O4, S4, T4⟩ := up (.lst (vs'.set j v3)) (.lst ((xs.set j n).map .int)) ⟨_, rfl, by rw [List.map_set]; exact rs'.set j rv3⟩
            rw [← hΓ] at S4
            exact ⟨a, vs', z r, j, rfl, rfl, e4, by rw [rs'.length, List.length_map]; exact hj, h2 r s _ F3 O4 σ _ D W S4 tk (FiS.step S3.fh S4.fo f3 T4)⟩
end
end Z
set_option Elab.async false
set_option linter.all false
set_option maxRecDepth 100000
set_option maxHeartbeats 4000000
namespace Z
open PySem PySem.Spec L2
/-! ### data that are compared -/
structure EqE {α : Type} [DecidableEq α] (enc : α → D) (n : Nat) where
  pd : α → PyData
  dp : ∀ {g : Gx} {F : Hp} {v : V} {a : α}, Rep g F v (enc a) → Dp g.K F v (pd a)
  lay : ∀ a, (pd a).canLay0 = true
  dep : ∀ a, (pd a).depth ≤ n
  eq : ∀ a b, PyData.eqv (pd a) (pd b) = decide (a = b)
/-- .. by their order, too -/
structure OrdE {α : Type} [DecidableEq α] (enc : α → D) (n : Nat) extends EqE enc n where
  lt : α → α → Bool
  al : ∀ a b, PySem.W.alike (pd a) (pd b) = true
  nn : ∀ a, pd a ≠ .none
  lt_eq : ∀ a b, PySem.W.dataLt (pd a) (pd b) = lt a b
def oInt : OrdE D.int 0 where
  pd := .int
  dp := fun r => by cases r; exact .int _
  lay := fun _ => by simp [PyData.canLay0]
  dep := fun _ => by simp [PyData.depth]
  eq := fun a b => by simp only [PyData.eqv]; by_cases h : a = b <;> simp [h]
  lt := fun a b => decide (a < b)
  al := fun _ _ => by simp [PySem.W.alike]
  nn := fun _ h => by cases h
  lt_eq := fun a b => PySem.W.dataLt_int a b
def eBl : EqE D.bl 0 where
  pd := .bool
  dp := fun r => by cases r; exact .bl _
  lay := fun _ => by simp [PyData.canLay0]
  dep := fun _ => by simp [PyData.depth]
  eq := fun a b => by simp only [PyData.eqv]; by_cases h : a = b <;> simp [h]
section
variable {α β : Type} [DecidableEq α] [DecidableEq β] {enc : α → D} {encB : β → D} {n k : Nat}
theorem dpAll (E : EqE enc n) {g : Gx} {F : Hp} : ∀ {vs : List V} {xs : List α}, Reps g F vs (xs.map enc) → DpAll g.K F vs (xs.map E.pd)
  | _, [], .nil => .nil
  | _, _ :: _, .cons a b => .cons (E.dp a) (dpAll E b)
theorem lay_all (E : EqE enc n) : ∀ xs : List α, PyData.canLayAll0 (xs.map E.pd) = true
  | [] => by simp [PyData.canLayAll0]
  | x :: xs => by simp [PyData.canLayAll0, E.lay x, lay_all E xs]
theorem dep_all (E : EqE enc n) : ∀ xs : List α, PyData.depthAll (xs.map E.pd) ≤ n
  | [] => by simp [PyData.depthAll]
  | x :: xs => by
    simp only [List.map_cons, PyData.depthAll]
    exact Nat.max_le.mpr ⟨E.dep x, dep_all E xs⟩
theorem eq_all (E : EqE enc n) : ∀ xs ys : List α, PyData.eqvAll (xs.map E.pd) (ys.map E.pd) = decide (xs = ys)
  | [], [] => by simp [PyData.eqvAll]
  | [], _ :: _ => by simp [PyData.eqvAll]
  | _ :: _, [] => by simp [PyData.eqvAll]
  | x :: xs, y :: ys => by
    simp only [List.map_cons, PyData.eqvAll, E.eq x y, eq_all E xs ys]
    by_cases h : x = y <;> by_cases h2 : xs = ys <;> simp [h, h2]
def EqE.tup (E : EqE enc n) : EqE (fun xs : List α => D.tup (xs.map enc)) (n + 1) where
  pd := fun xs => .tuple (xs.map E.pd)
  dp := fun r => by
    obtain ⟨a, vs, rfl, s, rs⟩ := r.tup_of
    exact .tup s (dpAll E rs)
  lay := fun xs => by simp only [PyData.canLay0]; exact lay_all E xs
  dep := fun xs => by simp only [PyData.depth]; have := dep_all E xs; omega
  eq := fun a b => by simp only [PyData.eqv]; exact eq_all E a b
def EqE.lst (E : EqE enc n) : EqE (fun xs : List α => D.lst (xs.map enc)) (n + 1) where
  pd := fun xs => .list (xs.map E.pd)
  dp := fun r => by
    obtain ⟨a, vs, rfl, s, rs⟩ := r.lst_of
    exact .lst (SqL.of s) (dpAll E rs)
  lay := fun xs => by simp only [PyData.canLay0]; exact lay_all E xs
  dep := fun xs => by simp only [PyData.depth]; have := dep_all E xs; omega
  eq := fun a b => by simp only [PyData.eqv]; exact eq_all E a b
/-- a pair -/
abbrev encP (enc : α → D) (encB : β → D) : α × β → D := fun p => .tup [enc p.1, encB p.2]
def EqE.pr (E : EqE enc n) (E2 : EqE encB k) : EqE (encP enc encB) (max n k + 1) where
  pd := fun p => .tuple [E.pd p.1, E2.pd p.2]
  dp := fun r => by
    obtain ⟨a, vs, rfl, s, rs⟩ := r.tup_of
    cases rs with
    | cons r1 rs =>
      cases rs with
      | cons r2 rs =>
        cases rs
        exact .tup s (.cons (E.dp r1) (.cons (E2.dp r2) .nil))
  lay := fun p => by simp [PyData.canLay0, PyData.canLayAll0, E.lay, E2.lay]
  dep := fun p => by
    simp only [PyData.depth, PyData.depthAll]
    have := E.dep p.1
    have := E2.dep p.2
    omega
  eq := fun a b => by
    simp only [PyData.eqv, PyData.eqvAll, E.eq, E2.eq, Bool.and_true]
    obtain ⟨a1, a2⟩ := a
    obtain ⟨b1, b2⟩ := b
    by_cases h : a1 = b1 <;> by_cases h2 : a2 = b2 <;> simp [h, h2]
/-- a value or None -/
abbrev encO (enc : α → D) : Option α → D
  | none => .non
  | some a => enc a
def EqE.opt (E : EqE enc n) (nn : ∀ a, PyData.eqv (E.pd a) .none = false ∧ PyData.eqv .none (E.pd a) = false) : EqE (encO enc) n where
  pd := fun o => match o with
    | none => .none
    | some a => E.pd a
  dp := fun {g F v a} r => by
    cases a with
    | none => cases r; exact .non
    | some a => exact E.dp r
  lay := fun a => by cases a <;> simp [PyData.canLay0, E.lay]
  dep := fun a => by
    cases a with
    | none => simp [PyData.depth]
    | some a => exact E.dep a
  eq := fun a b => by
    cases a with
    | none =>
      cases b with
      | none => simp [PyData.eqv]
      | some b => simp [(nn b).2]
    | some a =>
      cases b with
      | none => simp [(nn a).1]
      | some b => simp [E.eq]
theorem al_all (E : OrdE enc n) : ∀ xs ys : List α, PySem.W.alikeAll (xs.map E.pd) (ys.map E.pd) = true
  | [], _ => by simp [PySem.W.alikeAll]
  | _ :: _, [] => by simp [PySem.W.alikeAll]
  | x :: xs, y :: ys => by simp only [List.map_cons, PySem.W.alikeAll, E.al, al_all E xs ys, Bool.and_true]
/-- in the order of the first place where they differ -/
def lxLt (lt : α → α → Bool) : List α → List α → Bool
  | [], [] => false
  | [], _ :: _ => true
  | _ :: _, [] => false
  | x :: xs, y :: ys => if x = y then lxLt lt xs ys else lt x y
theorem row_lt (E : OrdE enc n) : ∀ xs ys : List α, PySem.W.rowLt (xs.map E.pd) (ys.map E.pd) = lxLt E.lt xs ys
  | [], [] => PyProof.Rows.lex_irrefl _
  | [], y :: ys => by
    unfold PySem.W.rowLt
    rw [List.map_cons, PySem.W.toks_all_cons]
    simp only [List.map_nil, PySem.W.keyToksAll, lxLt]
    rfl
  | x :: xs, [] => by
    unfold PySem.W.rowLt
    rw [List.map_cons, PySem.W.toks_all_cons]
    simp only [List.map_nil, PySem.W.keyToksAll, lxLt]
    rfl
  | x :: xs, y :: ys => by
    unfold PySem.W.rowLt
    rw [List.map_cons, List.map_cons, PySem.W.dataLt_cons (E.al x y), E.eq, E.lt_eq]
    have := row_lt E xs ys
    unfold PySem.W.rowLt at this
    rw [this, lxLt]
    by_cases h : x = y <;> simp [h]
def OrdE.tup (E : OrdE enc n) : OrdE (fun xs : List α => D.tup (xs.map enc)) (n + 1) where
  toEqE := E.toEqE.tup
  lt := lxLt E.lt
  al := fun a b => by
    show PySem.W.alike (.tuple _) (.tuple _) = true
    simp only [PySem.W.alike]
    exact al_all E a b
  nn := fun _ h => by cases h
  lt_eq := fun a b => (PySem.W.dataLt_tuple _ _).trans (row_lt E a b)
def OrdE.pr (E : OrdE enc n) (E2 : OrdE encB k) : OrdE (encP enc encB) (max n k + 1) where
  toEqE := E.toEqE.pr E2.toEqE
  lt := fun p q => if p.1 = q.1 then E2.lt p.2 q.2 && !decide (p.2 = q.2) else E.lt p.1 q.1
  al := fun a b => by
    show PySem.W.alike (.tuple _) (.tuple _) = true
    simp only [PySem.W.alike, PySem.W.alikeAll, E.al, E2.al, Bool.and_true]
  nn := fun _ h => by cases h
  lt_eq := fun a b => by
    refine (PySem.W.dataLt_pair (E.al _ _) (E2.al _ _)).trans ?_
    rw [E.eq, E2.eq, E.lt_eq, E2.lt_eq]
    by_cases h : a.1 = b.1 <;> by_cases h2 : a.2 = b.2 <;> simp [h, h2]
end
section
variable {X : Cx} {α β : Type} [DecidableEq α] [DecidableEq β] {enc : α → D} {encB : β → D} {n k : Nat} {x y : α}
theorem od_eqE (E : EqE enc n) (hn : n ≤ 60 := by decide) : OpJ (gx X) (rEqD X.K) (enc x) (enc y) (.ok (decide (x = y))) vB := fun F O H v u Q W σ e r1 r2 q => by
  refine ⟨E.pd x, E.pd y, E.dp (r1.mono e), E.dp (r2.mono e), ?_, ?_, ?_⟩
  · unfold SeqAt.shaped; rw [E.lay]; have := E.dep x; simp; omega
  · unfold SeqAt.shaped; rw [E.lay]; have := E.dep y; simp; omega
  · rw [E.eq]; exact q.done e ⟨rfl, _, rfl, .bl _⟩
theorem od_neE (E : EqE enc n) (hn : n ≤ 60 := by decide) : OpJ (gx X) (rNeD X.K) (enc x) (enc y) (.ok (!decide (x = y))) vB := fun F O H v u Q W σ e r1 r2 q => by
  refine ⟨E.pd x, E.pd y, E.dp (r1.mono e), E.dp (r2.mono e), ?_, ?_, ?_⟩
  · unfold SeqAt.shaped; rw [E.lay]; have := E.dep x; simp; omega
  · unfold SeqAt.shaped; rw [E.lay]; have := E.dep y; simp; omega
  · rw [E.eq]; exact q.done e ⟨rfl, _, rfl, .bl _⟩
def rOrd (K : PySem.W.Frag) (f : PyData → PyData → Bool) : R2 := fun x y H Q => ∃ p q, Dp K H x p ∧ Dp K H y q ∧ PySem.W.alike p q = true ∧ p ≠ .none ∧ p.depth ≤ 60 ∧ Q (.bl (f p q)) H
theorem op_leD (hu : X.A.units + 64 < cLine) : OpR X (compareOp .LtE) (rOrd X.K fun p q => !PySem.W.dataLt q p) := fun pins s σ H x y v u Q I rx ry ⟨p, q, h1, h2, h3, h4, h5, k⟩ => by
  obtain ⟨as, r1⟩ := Dp.reads I p x v h1 rx
  obtain ⟨bs, r2⟩ := Dp.reads I q y u h2 ry
  exact PySem.W.le_data r1 r2 h3 h4 (by have := Nat.min_le_left p.depth q.depth; omega) ⟨.bl _, H, I, rfl, k⟩
theorem op_ltD (hu : X.A.units + 64 < cLine) : OpR X (compareOp .Lt) (rOrd X.K fun p q => PySem.W.dataLt p q) := fun pins s σ H x y v u Q I rx ry ⟨p, q, h1, h2, h3, h4, h5, k⟩ => by
  obtain ⟨as, r1⟩ := Dp.reads I p x v h1 rx
  obtain ⟨bs, r2⟩ := Dp.reads I q y u h2 ry
  exact PySem.W.lt_data r1 r2 h3 h4 (by have := Nat.min_le_left p.depth q.depth; omega) ⟨.bl _, H, I, rfl, k⟩
theorem od_leE (E : OrdE enc n) (hn : n ≤ 60 := by decide) : OpJ (gx X) (rOrd X.K fun p q => !PySem.W.dataLt q p) (enc x) (enc y) (.ok (!E.lt y x)) vB := fun F O H v u Q W σ e r1 r2 q =>
  ⟨E.pd x, E.pd y, E.dp (r1.mono e), E.dp (r2.mono e), E.al _ _, E.nn _, Nat.le_trans (E.dep x) hn, by simp only [E.lt_eq]; exact q.done e ⟨rfl, _, rfl, .bl _⟩⟩
theorem od_ltE (E : OrdE enc n) (hn : n ≤ 60 := by decide) : OpJ (gx X) (rOrd X.K fun p q => PySem.W.dataLt p q) (enc x) (enc y) (.ok (E.lt x y)) vB := fun F O H v u Q W σ e r1 r2 q =>
  ⟨E.pd x, E.pd y, E.dp (r1.mono e), E.dp (r2.mono e), E.al _ _, E.nn _, Nat.le_trans (E.dep x) hn, by simp only [E.lt_eq]; exact q.done e ⟨rfl, _, rfl, .bl _⟩⟩
/-- in, not in -/
def rInQ (K : PySem.W.Frag) (neg : Bool) : R2 := fun x y H Q => ∃ p ps, Dp K H x p ∧ (Dp K H y (.list ps) ∨ Dp K H y (.tuple ps)) ∧ p.canLay0 = true ∧ PyData.canLayAll0 ps = true ∧ PyData.depthAll ps ≤ 60 ∧ Q (.bl (if neg then !ps.any fun z => PyData.eqv z p else ps.any fun z => PyData.eqv z p)) H
theorem op_inQ (hu : X.A.units + 65 < cLine) : OpR X (compareOp .In) (rInQ X.K false) := fun pins s σ H x y v u Q I rx ry ⟨p, ps, h1, h2, h3, h4, h5, k⟩ => by
  obtain ⟨as, r1⟩ := Dp.reads I p x v h1 rx
  have hr : X.A.units + 1 + min (PyData.depthAll ps) p.depth < cLine := by have := Nat.min_le_left (PyData.depthAll ps) p.depth; omega
  rcases h2 with h2 | h2
  · obtain ⟨bs, r2⟩ := Dp.reads I _ y u h2 ry
    exact SeqAt.in_list_reads r2 r1 h4 h3 hr ⟨.bl _, H, I, rfl, k⟩
  · obtain ⟨bs, r2⟩ := Dp.reads I _ y u h2 ry
    exact SeqAt.in_tuple_reads r2 r1 h4 h3 hr ⟨.bl _, H, I, rfl, k⟩
theorem op_notInQ (hu : X.A.units + 65 < cLine) : OpR X (compareOp .NotIn) (rInQ X.K true) := fun pins s σ H x y v u Q I rx ry ⟨p, ps, h1, h2, h3, h4, h5, k⟩ => by
  obtain ⟨as, r1⟩ := Dp.reads I p x v h1 rx
  have hr : X.A.units + 1 + min (PyData.depthAll ps) p.depth < cLine := by have := Nat.min_le_left (PyData.depthAll ps) p.depth; omega
  rcases h2 with h2 | h2
  · obtain ⟨bs, r2⟩ := Dp.reads I _ y u h2 ry
    exact SeqAt.notIn_list_reads r2 r1 h4 h3 hr ⟨.bl _, H, I, rfl, k⟩
  · obtain ⟨bs, r2⟩ := Dp.reads I _ y u h2 ry
    exact SeqAt.notIn_tuple_reads r2 r1 h4 h3 hr ⟨.bl _, H, I, rfl, k⟩
theorem any_eq (E : EqE enc n) (x : α) : ∀ xs : List α, ((xs.map E.pd).any fun z => PyData.eqv z (E.pd x)) = decide (x ∈ xs)
  | [] => by simp
  | y :: ys => by
    rw [List.map_cons, List.any_cons, any_eq E x ys, E.eq]
    by_cases h : x = y
    · simp [h]
    · have h' : ¬ y = x := fun z => h z.symm
      simp [h, h']
theorem od_inT (E : EqE enc n) {xs : List α} (hn : n ≤ 60 := by decide) : OpJ (gx X) (rInQ X.K false) (enc x) (.tup (xs.map enc)) (.ok (decide (x ∈ xs))) vB := fun F O H v u Q W σ e r1 r2 q => by
  obtain ⟨a, vs, rfl, s, rs⟩ := (r2.mono e).tup_of
  refine ⟨E.pd x, xs.map E.pd, E.dp (r1.mono e), .inr (.tup s (dpAll E rs)), E.lay x, lay_all E xs, Nat.le_trans (dep_all E xs) hn, ?_⟩
  rw [any_eq]; exact q.done e ⟨rfl, _, rfl, .bl _⟩
theorem od_inL (E : EqE enc n) {xs : List α} (hn : n ≤ 60 := by decide) : OpJ (gx X) (rInQ X.K false) (enc x) (.lst (xs.map enc)) (.ok (decide (x ∈ xs))) vB := fun F O H v u Q W σ e r1 r2 q => by
  obtain ⟨a, vs, rfl, s, rs⟩ := (r2.mono e).lst_of
  refine ⟨E.pd x, xs.map E.pd, E.dp (r1.mono e), .inl (.lst (SqL.of s) (dpAll E rs)), E.lay x, lay_all E xs, Nat.le_trans (dep_all E xs) hn, ?_⟩
  rw [any_eq]; exact q.done e ⟨rfl, _, rfl, .bl _⟩
theorem od_niT (E : EqE enc n) {xs : List α} (hn : n ≤ 60 := by decide) : OpJ (gx X) (rInQ X.K true) (enc x) (.tup (xs.map enc)) (.ok (!decide (x ∈ xs))) vB := fun F O H v u Q W σ e r1 r2 q => by
  obtain ⟨a, vs, rfl, s, rs⟩ := (r2.mono e).tup_of
  refine ⟨E.pd x, xs.map E.pd, E.dp (r1.mono e), .inr (.tup s (dpAll E rs)), E.lay x, lay_all E xs, Nat.le_trans (dep_all E xs) hn, ?_⟩
  rw [any_eq]; exact q.done e ⟨rfl, _, rfl, .bl _⟩
theorem od_niL (E : EqE enc n) {xs : List α} (hn : n ≤ 60 := by decide) : OpJ (gx X) (rInQ X.K true) (enc x) (.lst (xs.map enc)) (.ok (!decide (x ∈ xs))) vB := fun F O H v u Q W σ e r1 r2 q => by
  obtain ⟨a, vs, rfl, s, rs⟩ := (r2.mono e).lst_of
  refine ⟨E.pd x, xs.map E.pd, E.dp (r1.mono e), .inl (.lst (SqL.of s) (dpAll E rs)), E.lay x, lay_all E xs, Nat.le_trans (dep_all E xs) hn, ?_⟩
  rw [any_eq]; exact q.done e ⟨rfl, _, rfl, .bl _⟩
end
end Z
set_option Elab.async false
set_option linter.all false
set_option maxRecDepth 100000
set_option maxHeartbeats 4000000
namespace Z
open PySem PySem.Spec L2
/-! ### a call that changes a slot's object -/
section
variable {X : Cx} {Γ Γx : List Sl} {e a b c : Expr} {es : List Expr} {p pos pos' py : Pos} {ρ ρ1 ρA ζ : Type} {A : Type} {k : Nat} {x y : Str} {m : A → M ρ} {t : ρ → Sl} {ins : A → List D} {own : A → D} {own' : ρ → D}
theorem specO_of {F O H : Hp} {σ : L2.St} {W : WX} {Q : VK} {i : Nat} {c : Addr} {Γ' : List Sl} {q : Option Addr} {d : D} {vs : List V} (S : Sat (gx X) F Γ' σ O H) (hi : Γ'[i]? = some (.ow q d)) (e1 : σ[i]? = some (some (.ref c))) (aa : A) (hd : own aa = d) (r : Reps (gx X) F vs (ins aa))
    (f : FiE (gx X) F O H W σ (m aa) t (fun r => Γ'.set i (.ow q (own' r))) Q) : specO (gx X) own ins m t own' (.ref c :: vs) H Q (WE W σ) := by
  obtain ⟨c', o, O1, e1', ow1, hq, n1, eO, _, put⟩ := S.l.own hi
  have ec : c' = c := by rw [e1] at e1'; cases e1'; rfl
  subst ec
  subst eO
  refine ⟨aa, F, c', o, vs, rfl, S.fh, (S.fo c').resolve_right (ne_none (uni_l sg_self)), S.oh c' o (uni_l sg_self), by rw [hd]; exact ow1, r, ?_⟩
  revert f
  cases m aa with
  | st => exact id
  | er x =>
    intro f1 F' H' cls d T e r
    refine f1 F' H' cls d ⟨T.ff, fun y u h1 h2 => T.keep y u h1 ?_, fun y h1 h2 h3 => T.sep y h1 h2 ?_⟩ e r
    · cases w : sg c' o y with
      | none => rfl
      | some u2 => rw [uni_l w] at h2; cases h2
    · cases w : sg c' o y with
      | none => rfl
      | some u2 => rw [uni_l w] at h3; cases h3
  | ok r =>
    intro f1 F' h v o' H' T fh oh fo dd ow' kt
    have nO : ∀ y, uni (sg c' o) O1 y = none → sg c' o y = none ∧ O1 y = none := fun y hy => by
      cases w : sg c' o y with
      | none => rw [uni_r w] at hy; exact ⟨rfl, hy⟩
      | some u2 => rw [uni_l w] at hy; cases hy
    have o1 : ∀ y u, O1 y = some u → H y = some u ∧ F y = none ∧ F' y = none ∧ h y = none ∧ sg c' o' y = none ∧ H' y = some u := fun y u hy => by
      have hyc : y ≠ c' := fun z => by subst z; rw [n1] at hy; cases hy
      have hO : uni (sg c' o) O1 y = some u := by rw [uni_r (sg_ne hyc)]; exact hy
      have a1 := S.oh y u hO
      have a2 := (S.fo y).resolve_right (ne_none hO)
      obtain ⟨b1, b2⟩ := T.sep y (ne_none a1) a2 (sg_ne hyc)
      have b3 : h y = none := by
        cases w : h y with
        | none => rfl
        | some u2 => rw [uni_l w] at b2; cases b2
      exact ⟨a1, a2, b1, b3, sg_ne hyc, T.keep y u a1 (sg_ne hyc)⟩
    have L := put (sg c' o') (.ow q (own' r)) F' T.ff ⟨c', o', rfl, rfl, ow', hq⟩ fun y hy => sg_ne hy
    refine f1 F' (uni h (uni (sg c' o') O1)) v H' ⟨.cons kt L fun y => ?_, fh, fun y u hy => ?_, fun y => ?_⟩ ⟨T.ff, fun y u h1 h2 => T.keep y u h1 (nO y h2).1, fun y h1 h2 h3 => ?_⟩
    · cases w : O1 y with
      | none => exact (dd y).imp_right fun z => uni_none z w
      | some u => exact .inl (o1 y u w).2.2.2.1
    · rcases of_uni hy with z | z
      · exact oh y u (uni_l z)
      · rcases of_uni z with z | z
        · have : h y = none := (dd y).resolve_right (ne_none z)
          exact oh y u (by rw [uni_r this]; exact z)
        · exact (o1 y u z).2.2.2.2.2
    · cases w : O1 y with
      | some u => exact .inl (o1 y u w).2.2.1
      | none =>
        refine (fo y).imp_right fun z => ?_
        have z1 : h y = none := by
          cases w2 : h y with
          | none => rfl
          | some u2 => rw [uni_l w2] at z; cases z
        rw [uni_r z1] at z
        exact uni_none z1 (uni_none z w)
    · obtain ⟨a1, a2⟩ := nO y h3
      obtain ⟨b1, b2⟩ := T.sep y h1 h2 a1
      refine ⟨b1, ?_⟩
      have z1 : h y = none := by
        cases w2 : h y with
        | none => rfl
        | some u2 => rw [uni_l w2] at b2; cases b2
      rw [uni_r z1] at b2
      exact uni_none z1 (uni_none b2 a2)
/-- x(y, es): the arguments behind y may change y's object, too -/
theorem je_callOE (i : Nat) {q0 : Option Addr} {d0 : D} {mA : M ρA} {tsA : ρA → List D} {ΓA : ρA → List Sl} {qq : ρA → Option Addr} (Fk : DfO (gx X) X.base k x own ins m t own') (hr : Room k X.A) (aa : ρA → A) (ha : JAE X Γ es mA tsA ΓA) (hi0 : Γ[i]? = some (.ow q0 d0) := by rfl) (hi : ∀ z, (ΓA z)[i]? = some (.ow (qq z) (own (aa z))) := by intro _; rfl) (hts : ∀ z, tsA z = ins (aa z) := by intro _; rfl) (hN : X.N[i]? = some y := by rfl)
    (hv : Vis X.env.scope y := by first | exact Or.inl rfl | exact Or.inr (Or.inl rfl) | exact Or.inr (Or.inr rfl)) (hdb2 : (y == ("__debug__" : Str)) = false := by decide) (hcd : (y == ("__classdict__" : Str)) = false := by decide)
    (hg : Gl X x := by rfl) (hdb : (x == ("__debug__" : Str)) = false := by decide)
    (he : starEach (.Name y py :: es) X.env = (false, eval (.Name y py) X.env) :: starEach es X.env := by rfl) (hpl : (backTo pos (starEach es X.env)).any (·.1) = false := by rfl) :
    JE X Γ (.Call (.Name x p) (.Name y py :: es) [] pos) (bnd mA fun z => bnd (m (aa z)) fun r => .ok (r, z)) (fun w => t w.1) (fun w => (ΓA w.2).set i (.ow (qq w.2) (own' w.1))) := fun F O σ H Q W S tk f => by
  obtain ⟨fa, fd, ps, FF, hm, hk, hb⟩ := Fk.ex
  obtain ⟨c, o, e1, _, _, _⟩ := S.own_at hi0
  refine RE.of (pe_callS (E := WE W) FF hr hg hm hk hb (fun σ => L2N.passAt tk σ) (pa_cons (pe_var hN hv hdb2 hcd) paR he) hdb he hpl) ⟨_, e1, ?_⟩
  refine ha F O σ H _ W S tk ?_
  revert f
  cases mA with
  | st => exact id
  | er x => exact id
  | ok z =>
    intro f F1 O1 vs H1 S1 T1 r1
    refine specO_of S1 (hi z) e1 (aa z) rfl (by rw [← hts z]; exact r1) (FiE.step S.fh S1.fo ?_ T1)
    revert f
    show FiE (gx X) F O H W σ (bnd (m (aa z)) fun r => .ok (r, z)) _ _ Q → _
    cases m (aa z) with
    | st => exact id
    | er x => exact id
    | ok r => exact id
end
/-! ### isinstance -/
def tyD : D → Option String
  | .non => some "NoneType"
  | .bl _ => some "bool"
  | .int _ => some "int"
  | .str _ => some "str"
  | .tup _ => some "tuple"
  | .lst _ => some "list"
  | .rol _ => some "list"
  | .dk _ => some "dict"
  | .dt _ => some "dict"
  | .si _ => some "set"
  | .ob _ _ => none
theorem tyX_of {g : Gx} {F H : Hp} {v : V} {d : D} {T : String} (h : tyD d = some T) (e : Ex F H) (r : Rep g F v d) : TyX g.K H v (.type T) := by
  cases r with
  | non => cases h; exact .base .non
  | bl b => cases h; exact .base (.bl b)
  | int b => cases h; exact .base (.int b)
  | str b => cases h; exact .base (.str b)
  | tup s _ => cases h; exact .base (.tup (e _ _ s))
  | lst s _ => cases h; exact .base (.lst (e _ _ s))
  | rol s _ =>
    cases h
    rcases e.sl s with (s | ⟨o, s⟩) | ⟨o, its, n, s1, s2, _⟩
    · exact .base (.lst s)
    · exact .base (.frz s)
    · exact .kList s1 s2
  | dk s _ => cases h; exact .base (.dK (e _ _ s))
  | dt s _ => cases h; exact .base (.dT (e _ _ s))
  | si s => cases h; exact .set (e _ _ s)
  | ob s _ => cases h
/-- isinstance of what stands for d, of the class u: b -/
def IsiD (K : PySem.W.Frag) (d : D) (u : Value) (b : Bool) : Prop := ∃ t, (∀ (g : Gx) (F H : Hp) (v : V), g.K = K → Ex F H → Rep g F v d → TyX K H v t) ∧ PySem.W.kitOne K t u = some b
theorem isi_ty {K : PySem.W.Frag} {d : D} {T T' : String} {b : Bool} (h : tyD d = some T) (hk : kitB T T' = some b) : IsiD K d (.type T') b := ⟨_, fun g F H v eK e r => by subst eK; exact tyX_of h e r, kit_ty hk⟩
/-- several classes: of one of them -/
def IsiA (K : PySem.W.Frag) (d : D) (us : List Value) (b : Bool) : Prop := ∃ t, (∀ (g : Gx) (F H : Hp) (v : V), g.K = K → Ex F H → Rep g F v d → TyX K H v t) ∧ PySem.W.kitAny K t us = some b
theorem isi_any2 {K : PySem.W.Frag} {d : D} {T T1 T2 : String} {b1 b2 : Bool} (h : tyD d = some T) (hk : kitB T T1 = some b1) (hk2 : kitB T T2 = some b2) : IsiA K d [.type T1, .type T2] (b1 || b2) :=
  ⟨_, fun g F H v eK e r => by subst eK; exact tyX_of h e r, kitAny_cons (kit_ty hk) (fun h0 => by
    subst h0
    exact kitAny_cons (kit_ty hk2) (fun h0 => by subst h0; exact kitAny_nil) fun h1 => by subst h1; rfl) fun h1 => by subst h1; rfl⟩
section
variable {X : Cx} {Γ Γx : List Sl} {e a b c : Expr} {es : List Expr} {p pos pos' py p2 tpos : Pos} {ρ ζ : Type} {m : M ρ} {d : ρ → D} {x : Str}
theorem pe_tyn {T : String} (hg : Gl X x) (hm : X.mg x = none) (hv : bootBuiltins x = some (.type T)) (hn : x ≠ "__name__" := by decide) (hd : (x == ("__debug__" : Str)) = false := by decide) : PE X (.Name x p) (tC (.ty T)) := pe_bltn hg hm hv rfl hn hd
theorem jp_isi {T : String} {bb : ρ → Bool} (h : JP X Γ e m (fun r => .va (d r))) (hk : ∀ r, IsiD X.K (d r) (.type T) (bb r)) (hmi : X.mg "isinstance" = none) (hm : X.mg x = none) (hv : bootBuiltins x = some (.type T)) (hgi : Gl X "isinstance" := by rfl) (hg : Gl X x := by rfl) (hn : x ≠ "__name__" := by decide) (hd : (x == ("__debug__" : Str)) = false := by decide)
    (hs1 : starEach [e, .Name x p2] X.env = (false, eval e X.env) :: starEach [.Name x p2] X.env := by rfl) (hs2 : starEach [.Name x p2] X.env = (false, eval (.Name x p2) X.env) :: starEach [] X.env := by rfl) (hpl : (backTo pos (starEach [.Name x p2] X.env)).any (·.1) = false := by rfl) :
    JP X Γ (.Call (.Name "isinstance" p) [e, .Name x p2] [] pos) (bnd m fun r => .ok (bb r)) vB := fun F O σ H Q W S tk f =>
  RE.of (pe_callB call_isi hgi hmi PyProof.Rows.boot_isinstance (pa_cons peR (pa_cons (pe_tyn hg hm hv hn hd) pa_nil hs2) hs1) (by decide) (by decide) hs1 hpl) (h F O σ H _ W S tk (by
    revert f
    cases m with
    | st => exact id
    | er x => exact id
    | ok r =>
      intro f F1 hh v H1 G k
      obtain ⟨eh, rv⟩ := Sl.va_of k
      subst eh
      obtain ⟨t, h1, h2⟩ := hk r
      exact ⟨v, .ty T, t, .type T, bb r, rfl, .ty T, h1 _ F1 H1 v rfl G.fh rv, h2, f F1 emp _ H1 G ⟨rfl, _, rfl, .bl _⟩⟩))
/-- isinstance(e, (T1, T2)) -/
theorem jp_isi2 {T1 T2 : String} {x1 x2 : Str} {p3 : Pos} {kk} {bb : ρ → Bool} (h : JP X Γ e m (fun r => .va (d r))) (hk : ∀ r, IsiA X.K (d r) [.type T1, .type T2] (bb r)) (hmi : X.mg "isinstance" = none) (hm1 : X.mg x1 = none) (hm2 : X.mg x2 = none) (hv1 : bootBuiltins x1 = some (.type T1)) (hv2 : bootBuiltins x2 = some (.type T2)) (hgi : Gl X "isinstance" := by rfl) (hg1 : Gl X x1 := by rfl) (hg2 : Gl X x2 := by rfl)
    (hn1 : x1 ≠ "__name__" := by decide) (hd1 : (x1 == ("__debug__" : Str)) = false := by decide) (hn2 : x2 ≠ "__name__" := by decide) (hd2 : (x2 == ("__debug__" : Str)) = false := by decide)
    (hs1 : starEach [e, .Tuple [.Name x1 p2, .Name x2 p3] kk tpos] X.env = (false, eval e X.env) :: starEach [.Tuple [.Name x1 p2, .Name x2 p3] kk tpos] X.env := by rfl) (hs2 : starEach [.Tuple [.Name x1 p2, .Name x2 p3] kk tpos] X.env = (false, eval (.Tuple [.Name x1 p2, .Name x2 p3] kk tpos) X.env) :: starEach [] X.env := by rfl)
    (hs3 : starEach [.Name x1 p2, .Name x2 p3] X.env = (false, eval (.Name x1 p2) X.env) :: starEach [.Name x2 p3] X.env := by rfl) (hs4 : starEach [.Name x2 p3] X.env = (false, eval (.Name x2 p3) X.env) :: starEach [] X.env := by rfl) (hpl : (backTo pos (starEach [.Tuple [.Name x1 p2, .Name x2 p3] kk tpos] X.env)).any (·.1) = false := by rfl) :
    JP X Γ (.Call (.Name "isinstance" p) [e, .Tuple [.Name x1 p2, .Name x2 p3] kk tpos] [] pos) (bnd m fun r => .ok (bb r)) vB := fun F O σ H Q W S tk f =>
  RE.of (pe_callB call_isiT hgi hmi PyProof.Rows.boot_isinstance (pa_cons peR (pa_cons (pe_tup (pa_cons (pe_tyn hg1 hm1 hv1 hn1 hd1) (pa_cons (pe_tyn hg2 hm2 hv2 hn2 hd2) pa_nil hs4) hs3)) pa_nil hs2) hs1) (by decide) (by decide) hs1 hpl) (h F O σ H _ W S tk (by
    revert f
    cases m with
    | st => exact id
    | er x => exact id
    | ok r =>
      intro f F1 hh v H1 G k
      obtain ⟨eh, rv⟩ := Sl.va_of k
      subst eh
      obtain ⟨t, h1, h2⟩ := hk r
      refine ⟨by rw [sizeLine_eq]; show 2 ≤ 16777216; decide, fun l hl => ?_⟩
      have G2 : Grow F1 H1 F1 emp (L2.upd H1 l (.tup [.ty T1, .ty T2])) := ⟨Ex.refl _, Ex.new hl, G.fh.trans (Ex.new hl), fun _ _ z => (by cases z), fun _ _ z => z⟩
      exact ⟨v, l, _, t, _, bb r, rfl, upd_same, .cons (.ty T1) (.cons (.ty T2) .nil), h1 _ F1 _ v rfl (G.fh.trans (Ex.new hl)) rv, h2, f F1 emp _ _ (G.trans G2) ⟨rfl, _, rfl, .bl _⟩⟩))
end
end Z
set_option Elab.async false
set_option linter.all false
set_option maxRecDepth 100000
set_option maxHeartbeats 4000000
/-! dict comprehensions whose keys are tuples of ints -/
namespace Z
open PySem PySem.Spec PyProof.Rows L2
theorem kt_ints (k : List Int) : (k.map Sum.inl : List Key).map kV = k.map V.int := by rw [List.map_map]; rfl
/-- D[key] = v by a comprehension, the key a tuple of ints -/
theorem dT_set {X : Cx} {pins : List (Addr × Obj)} {σ : L2.St} {H : Hp} {s : Shared} {E : Value → Shared → Prop} {D b : Addr} {kvs : List (List Key × V)} {k : List Key} {v : V} {r : Value} {Q : Unit → Shared → Prop} (hu : X.A.units + 1 < cLine) (I : Inv X pins σ H s)
    (hD : H D = some (.dT kvs)) (hb : H b = some (.tup (k.map kV))) (hz : kvs.length < sizeLine) (rv : RelV v r) (h : ∀ s', Inv X pins σ (upd H D (.dT (putK kvs k v))) s' → Q () s') : wpAny (model X.prog X.w) X.A (dictSet D (.ref b) r) Q E s := by
  obtain ⟨z, hd, xs, rel, dd⟩ := dt_of I.hok hD
  have hl : (putK kvs k v).length ≤ sizeLine := Nat.le_trans (length_putK kvs k v) hz
  refine wpAny_dictSet_heap (hsz := by rw [← Paired.length rel]; exact z) (show (tupleKind (mixKind X.prog X.w)).room X.A from Nat.lt_of_succ_lt hu) (key_of I.hok hb) dd fun h' dd' hs => h _ ?_
  obtain ⟨q, es, ep, hq, h2, h3, h4, _, h5⟩ := dd'
  have new := (rel.put k hb rv).keeps (H' := upd H D (.dT (putK kvs k v))) fun c ys ec => by rw [upd_ne (ne_of ec hD (fun z => nomatch z))]; exact ec
  exact d_write I (by rw [hD]; exact True.intro) hs ⟨q, hq⟩ ⟨hl, hd, _, new, q, es, ep, hq, h2, h3, h4, h5⟩
section
variable {X : Cx}
/-- {key: value for tg in iter if ..}: D the new dict -/
def tDt (wi : TI) (g : TG) (tt : TT) (tk tv : TE) (vs : List Nat) : TE := fun σ H Q => wi σ H fun J H1 => ∀ D, H1 D = none → ∃ W : Nat → Nat → Hp → Prop, (∃ m, W 0 m (upd H1 D (.dT []))) ∧ ∀ i m H, W i m H →
  (J.stop i H ∧ Q (.ref D) H) ∨ (J.go i H ∧ ∃ Nx : Hp → Prop, (∀ H', Nx H' → ∃ m', m' < m ∧ W (i + 1) m' H') ∧ ∀ x H', J.yld i H x H' → g x (wipe σ vs) H' fun σ2 H2 => wipe σ2 vs = wipe σ vs ∧ tt σ2 H2 fun b H3 =>
    if b = true then tk σ2 H3 fun y H4 => tv σ2 H4 fun z H5 => ∃ kvs k b, y = .ref b ∧ H5 b = some (.tup (List.map kV k)) ∧ H5 D = some (.dT kvs) ∧ kvs.length < sizeLine ∧ Nx (upd H5 D (.dT (putK kvs k z))) else Nx H3)
variable {kx vx tg iter : Expr} {ifs : List Expr} {scope : Scope} {own : List (Str × Nat)} {pos pos' : Pos} {wi : TI} {g : TG} {tt : TT} {tk tv : TE}
theorem dt_core {pins : List (Addr × Obj)} {s : Shared} {σ : L2.St} {H : Hp} {Q : VK} {use : Option (Value → Sem Unit)} {Qf : Value → Shared → Prop} (hu : X.A.units + 1 < cLine) (hcalm : X.calm = true) (hN : X.N.Nodup) (I : Inv X pins σ H s) (hi : PI X tg iter wi) (ok : BlkOk X.N X.env.scope scope own)
    (hg : ∀ s H C cl fp, PG (blk X scope s H C cl fp) tg g) (ht : ∀ s H C cl fp, PTs (blk X scope s H C cl fp) ifs tt) (hk : ∀ s H C cl fp, PE (blk X scope s H C cl fp) kx tk) (he : ∀ s H C cl fp, PE (blk X scope s H C cl fp) vx tv) (hs : ∀ x, foldedSetIterable iter X.env x = pure x)
    (h : tDt wi g tt tk tv (own.map (·.2)) σ H Q)
    (post : ∀ D C s' m H', Inv X pins σ H' s' → Q (.ref D) H' → s'.heap.Ns C m → FpOk X pins H' C → compPost (model X.prog X.w) X.A X.xe use Qf (.ref D) C (.ok .next) s') :
    wpAny (model X.prog X.w) X.A (comprehension (.DictComp kx vx [⟨tg, iter, ifs, 0⟩] scope pos) scope X.env pos' newDict false (eval iter X.env) use) Qf X.xe s := by
  have cells : ∀ y ∈ scope.names, y.2 = .free → ∃ c, X.env.cells.lookup y.1 = some c := fun y hy e => I.ok.has _ (ok.free y hy e)
  refine wpAny_comprehension_free (use := use) rfl hs (closure_ok cells) ok.kind (fun y hy e => by rw [ok.uniq y hy, e]) (thn (hi.run pins s σ H _ I h) fun xv t1 hx => thn hx fun itv t2 got => ?_)
  obtain ⟨it, fp, tn, J, G2, eit, J2, T, now, fpo, q⟩ := got
  subst eit
  refine wpAny_newObj_type (newEnv_comp ?_)
  generalize eD : t2.heap.objs.size = D
  have free : G2 D = none := J2.hok.fresh (Nat.le_of_eq eD)
  obtain ⟨W, ⟨m0, w0⟩, turn⟩ := q D free
  generalize e3 : ({ t2 with heap := t2.heap.push { cls := .type "dict", data := .dict #[] } } : Shared) = t3
  have J3 : Inv X pins σ (upd G2 D (.dT [])) t3 := by
    subst e3; subst eD
    exact J2.laid (t' := t2.toks) (fun _ _ e => Heap.get?_push_of_some _ e) (Nat.le_refl _) (dt_empty t2.heap J2.big)
  have grown : t3.heap = t2.heap.push { cls := .type "dict", data := .dict #[] } := by subst e3; rfl
  have here : ∀ b ∈ fp, b < t2.heap.objs.size := fun b hb => by obtain ⟨o, e, _⟩ := T.obj _ _ now b hb; exact Heap.lt_size e
  have fpo3 : ∀ b ∈ fp, FpOk X pins (upd G2 D (.dT [])) b ∧ b < t3.heap.objs.size := fun b hb => by
    have lt := here b hb
    have ne : b ≠ D := by rw [← eD]; exact Nat.ne_of_lt lt
    exact ⟨⟨by rw [upd_ne ne]; exact (fpo b hb).1, (fpo b hb).2⟩, by rw [grown, Heap.size_push]; exact Nat.lt_succ_of_lt lt⟩
  have now3 : tn 0 t3.heap := T.keep _ _ _ now fun b _ o e => by rw [grown]; exact Heap.get?_push_of_some _ e
  have J4 := block_start J3 ok hN fpo3
  generalize ecl : cellsFrom (t3.heap.objs.size + 1) scope.names (cloFrom X.env.cells scope.names []) = cl at J4 ⊢
  show codeAny _ _ (.compStart (.DictComp kx vx [⟨tg, iter, ifs, 0⟩] scope pos) 0 (.ref it) (.ref D) (compEnvC scope cl t3.heap.objs.size X.env)) (compPost (model X.prog X.w) X.A X.xe use Qf (.ref D) t3.heap.objs.size) { t3 with heap := pushCells (t3.heap.push { cls := .type "dict", data := .dict #[] }) scope.names }
  have nfp : ∀ b ∈ fp, upd G2 D (.dT []) b = none := fun b hb => (fpo3 b hb).1.1
  generalize e5 : upd G2 D (.dT []) = G3 at J3 J4 w0 nfp fpo3
  have pg := hg t3 G3 t3.heap.objs.size cl fp
  have pt := ht t3 G3 t3.heap.objs.size cl fp
  have pk := hk t3 G3 t3.heap.objs.size cl fp
  have pv := he t3 G3 t3.heap.objs.size cl fp
  generalize eB : blk X scope t3 G3 t3.heap.objs.size cl fp = B at J4 pg pt pk pv
  have bP : B.prog = X.prog := by subst eB; rfl
  have bw : B.w = X.w := by subst eB; rfl
  have bA : B.A = X.A := by subst eB; rfl
  generalize e4 : ({ t3 with heap := pushCells (t3.heap.push { cls := .type "dict", data := .dict #[] }) scope.names } : Shared) = t4 at J4 ⊢
  have now4 : tn 0 t4.heap := T.keep _ _ _ now3 fun b _ o e => by rw [← e4]; exact pushCells_keeps _ _ _ _ (Heap.get?_push_of_some _ e)
  have still : ∀ {σ' : L2.St} {H' : Hp} {s' : Shared}, Inv B [] σ' H' s' → (∀ b ∈ fp, H' b = none) → ∀ b ∈ fp, FpOk B [] H' b := fun {σ' H' s'} J' none b hb => by
    subst eB
    exact ⟨none b hb, (J'.ok.exf b hb).1, J'.ok.exfs b hb, .inl hb, fun x c e => (J'.ok.exf b hb).2 x c e, fun p hp => absurd (show p ∈ ([] : List (Addr × Obj)) ++ [] from hp) (by simp)⟩
  have go : codeAny (model X.prog X.w) X.A (.compLoop (.DictComp kx vx [⟨tg, iter, ifs, 0⟩] scope pos) 0 (.ref it) (.ref D) (compEnvC scope cl t3.heap.objs.size X.env)) (compPost (model X.prog X.w) X.A X.xe use Qf (.ref D) t3.heap.objs.size) t4 := by
    subst eB
    refine compLoop_anyD (fun n s' => ∃ i H', Inv (blk X scope t3 G3 t3.heap.objs.size cl fp) [] (wipe σ (own.map (·.2))) H' s' ∧ tn i s'.heap ∧ (∀ b ∈ fp, H' b = none) ∧ W i n H') ?_ m0 ⟨0, G3, J4, now4, nfp, w0⟩
    rintro n t5 ⟨i, H5, J5, now5, none5, w5⟩
    rcases turn i n H5 w5 with ⟨stop, done⟩ | ⟨more, Nx, hNx, step⟩
    · refine thnF (T.done (blk X scope t3 G3 t3.heap.objs.size cl fp) rfl rfl rfl hcalm i [] t5 _ H5 (fun _ _ => False) J5 (still J5 none5) now5 stop) fun r t6 ⟨hr, J6⟩ => ?_
      subst hr
      have J7 : Inv X pins σ H5 t6 := J3.call' (ch := fp) J6.os J6.base J6.hok J6.bare fun b hb => by
        obtain ⟨_, p2, p3, p4, p5, p6⟩ := (fpo3 b hb).1
        exact ⟨p4, p2, p5, p6⟩
      obtain ⟨m, ns, _⟩ := J6.loc
      exact post D t3.heap.objs.size t6 m H5 J7 done ns (J3.fpOk (Nat.le_refl _) J6.free)
    · refine thnF (T.item (blk X scope t3 G3 t3.heap.objs.size cl fp) rfl rfl rfl hcalm i [] t5 _ H5 (fun _ _ => False) J5 (still J5 none5) now5 more) fun r t6 ⟨u, hr, h6⟩ => ?_
      subst hr
      refine thnF h6 fun _ t7 ⟨x, H7, J7, r7, y7, now7, none7⟩ => ?_
      have J7' := J7.pinned (still J7 none7) (T.obj _ _ now7)
      refine thnF (pg.run _ t7 _ H7 x u _ J7' r7 (step x H7 y7)) fun _ t8 ⟨σ8, H8, J8, ew, q8⟩ => ?_
      refine thnF (pt.run _ t8 σ8 H8 _ J8 q8) fun b t9 ⟨H9, J9, q9⟩ => ?_
      have fin : ∀ {s' : Shared} {H' : Hp}, Inv (blk X scope t3 G3 t3.heap.objs.size cl fp) ([] ++ pinsAt fp t7.heap) σ8 H' s' → Nx H' → ∃ m, m < n ∧ ∃ i H', Inv (blk X scope t3 G3 t3.heap.objs.size cl fp) [] (wipe σ (own.map (·.2))) H' s' ∧ tn i s'.heap ∧ (∀ b ∈ fp, H' b = none) ∧ W i m H' := fun {s' H'} J' nx => by
        obtain ⟨m', less, w'⟩ := hNx H' nx
        have pinned : ∀ b ∈ fp, ∀ o, t7.heap.get? b = some o → s'.heap.get? b = some o ∧ H' b = none := fun b hb o e => by
          obtain ⟨z1, z2, _⟩ := J'.pin (b, o) (List.mem_append_right _ (List.mem_append_right _ (mem_pinsAt hb e)))
          exact ⟨z1, z2⟩
        have len : (wipe σ (own.map (·.2))).length = σ8.length := by rw [← ew, wipe_length]
        have J8' : Inv (blk X scope t3 G3 t3.heap.objs.size cl fp) [] (wipe σ (own.map (·.2))) H' s' := (J'.unpinned (pins := [])).weak len fun j v e => by
          rw [← ew] at e
          exact (wipe_some e).1
        refine ⟨m', less, i + 1, H', J8', T.keep _ _ _ now7 fun b hb o e => (pinned b hb o e).1, fun b hb => ?_, w'⟩
        obtain ⟨o, e, _⟩ := T.obj _ _ now7 b hb
        exact (pinned b hb o e).2
      cases b with
      | false => exact fin J9 q9
      | true =>
        refine thnF (pk.run _ t9 σ8 H9 _ J9 q9) fun z t10 ⟨yk, H10, J10, r10, q10⟩ => ?_
        refine thnF (pv.run _ t10 σ8 H10 _ J10 q10) fun z2 t11 ⟨yv, H11, J11, r11, kvs, k, b, ek, hb11, hD11, hz11, nx⟩ => ?_
        subst ek
        obtain rfl : z = Value.ref b := r10
        exact dT_set (X := blk X scope t3 G3 t3.heap.objs.size cl fp) hu J11 hD11 hb11 hz11 r11 fun t12 J12 => fin J12 nx
  exact codeAny_compStart_dict go (T.self X.A 0 _ _ _ now4 go)
theorem pe_dt (hu : X.A.units + 1 < cLine) (hc : X.calm = true) (hN : X.N.Nodup) (hi : PI X tg iter wi) (ok : BlkOk X.N X.env.scope scope own) (hg : ∀ s H C cl fp, PG (blk X scope s H C cl fp) tg g) (ht : ∀ s H C cl fp, PTs (blk X scope s H C cl fp) ifs tt)
    (hk : ∀ s H C cl fp, PE (blk X scope s H C cl fp) kx tk) (he : ∀ s H C cl fp, PE (blk X scope s H C cl fp) vx tv) (hs : ∀ x, foldedSetIterable iter X.env x = pure x := by intro _; rfl) : PE X (.DictComp kx vx [⟨tg, iter, ifs, 0⟩] scope pos) (tDt wi g tt tk tv (own.map (·.2))) := ⟨fun pins s σ H Q I h => by
  rw [arm_eval_DictComp]
  refine dt_core hu hc hN I hi ok hg ht hk he hs h fun D C s' m H' I' q hn f => ⟨m, hn, fun h'' sb => ?_⟩
  obtain ⟨f0, f1, f2, f3, f4, f5⟩ := f
  exact ⟨.ref D, H', I'.turned (t' := s'.toks) (fun b o hb e => (sb.2 b hb).trans e) f0 f1 f3 f4 f5, rfl, q⟩⟩
end
end Z
set_option Elab.async false
set_option linter.all false
set_option maxRecDepth 100000
set_option maxHeartbeats 4000000
namespace Z
open PySem PySem.Spec L2
/-! ### dicts whose keys are tuples of ints -/
def putT {β : Type} (l : List (List Int × β)) (k : List Int) (v : β) : List (List Int × β) := if (l.any fun p => decide (p.1 = k)) = true then l.map fun p => if p.1 = k then (p.1, v) else p else l ++ [(k, v)]
def dcP {α β : Type} : List α → (α → M (List Int)) → (α → M β) → List (List Int × β) → M (List (List Int × β))
  | [], _, _, acc => .ok acc
  | a :: l, mk, mv, acc => bnd (noer (mk a)) fun k => bnd (noer (mv a)) fun v => dcP l mk mv (putT acc k v)
def dcM {ρ α β : Type} (m : M ρ) (l : ρ → List α) (mk : α → M (List Int)) (mv : α → M β) : M (List (List Int × β)) := bnd m fun r => bnd (chk ((l r).length ≤ 1000000) ()) fun _ => dcP (l r) mk mv []
abbrev encT {β : Type} (encB : β → D) (l : List (List Int × β)) : D := .dt (l.map fun p => (p.1, encB p.2))
section
variable {g : Gx} {F : Hp}
theorem inl_inj {k k' : List Int} (h : (k.map Sum.inl : List Key) = k'.map Sum.inl) : k = k' := by
  induction k generalizing k' with
  | nil => cases k' with
    | nil => rfl
    | cons a b => simp at h
  | cons a b ih => cases k' with
    | nil => simp at h
    | cons a' b' =>
      simp only [List.map_cons, List.cons.injEq] at h
      rw [Sum.inl.inj h.1, ih h.2]
theorem rept_any {k : List Int} : ∀ {kvs : List (List Key × V)} {l : List (List Int × D)}, Rept g F kvs l → (kvs.any fun kv => decide (kv.1 = k.map Sum.inl)) = l.any fun p => decide (p.1 = k)
  | _, _, .nil => rfl
  | _, _, .cons (n := n) a b => by
    rw [List.any_cons, List.any_cons, rept_any b]
    by_cases h : n = k
    · subst h; simp
    · have h' : ¬ (n.map Sum.inl : List Key) = k.map Sum.inl := fun z => h (inl_inj z)
      simp only [h, h', decide_false]
theorem rept_repl {k : List Int} {v : V} {d : D} (r : Rep g F v d) : ∀ {kvs : List (List Key × V)} {l : List (List Int × D)}, Rept g F kvs l → Rept g F (kvs.map fun kv => if kv.1 = k.map Sum.inl then (kv.1, v) else kv) (l.map fun p => if p.1 = k then (p.1, d) else p)
  | _, _, .nil => .nil
  | _, _, .cons (n := n) a b => by
    rw [List.map_cons, List.map_cons]
    by_cases h : n = k
    · subst h; simp only [if_true]; exact .cons r (rept_repl r b)
    · have h' : ¬ (n.map Sum.inl : List Key) = k.map Sum.inl := fun z => h (inl_inj z)
      simp only [h, h', if_false]; exact .cons a (rept_repl r b)
theorem rept_snoc {k : List Int} {v : V} {d : D} (r : Rep g F v d) : ∀ {kvs : List (List Key × V)} {l : List (List Int × D)}, Rept g F kvs l → Rept g F (kvs ++ [(k.map Sum.inl, v)]) (l ++ [(k, d)])
  | _, _, .nil => .cons r .nil
  | _, _, .cons a b => .cons a (rept_snoc r b)
theorem rept_put {k : List Int} {v : V} {d : D} {kvs : List (List Key × V)} {l : List (List Int × D)} (q : Rept g F kvs l) (r : Rep g F v d) : Rept g F (putK kvs (k.map Sum.inl) v) (putT l k d) := by
  unfold putK putT
  rw [rept_any q]
  by_cases h : (l.any fun p => decide (p.1 = k)) = true
  · rw [if_pos h, if_pos h]; exact rept_repl r q
  · rw [if_neg h, if_neg h]; exact rept_snoc r q
theorem rept_len : ∀ {kvs : List (List Key × V)} {l : List (List Int × D)}, Rept g F kvs l → kvs.length = l.length
  | _, _, .nil => rfl
  | _, _, .cons _ b => by rw [List.length_cons, List.length_cons, rept_len b]
theorem putT_map {β : Type} (f : β → D) (l : List (List Int × β)) (k : List Int) (v : β) : (putT l k v).map (fun p => (p.1, f p.2)) = putT (l.map fun p => (p.1, f p.2)) k (f v) := by
  unfold putT
  have e : ((l.map fun p => (p.1, f p.2)).any fun p => decide (p.1 = k)) = l.any fun p => decide (p.1 = k) := by rw [List.any_map]; rfl
  rw [e]
  by_cases h : (l.any fun p => decide (p.1 = k)) = true
  · rw [if_pos h, if_pos h, List.map_map, List.map_map]
    apply List.map_congr_left
    intro p _
    by_cases hp : p.1 = k <;> simp [hp]
  · rw [if_neg h, if_neg h, List.map_append]; rfl
theorem putT_len {β : Type} (l : List (List Int × β)) (k : List Int) (v : β) : (putT l k v).length ≤ l.length + 1 := by
  unfold putT
  split
  · rw [List.length_map]; omega
  · rw [List.length_append, List.length_singleton]; exact Nat.le_refl _
theorem valV_isSome {k : List Int} : ∀ {kvs : List (List Key × V)} {l : List (List Int × D)}, Rept g F kvs l → (valV kvs (k.map Sum.inl)).isSome = decide (k ∈ l.map (·.1))
  | _, _, .nil => by simp [valV]
  | _, _, .cons (n := n) (vs := vs) (ds := ds) a b => by
    have ih := valV_isSome (k := k) b
    by_cases h : n = k
    · subst h
      rw [valV_pos rfl]
      simp
    · have h' : ¬ (n.map Sum.inl : List Key) = k.map Sum.inl := fun z => h (inl_inj z)
      rw [valV_neg h', ih]
      have hk : ¬ k = n := fun z => h z.symm
      simp only [List.map_cons, List.mem_cons, hk, false_or]
end
section
variable {X : Cx} {Γ Γx : List Sl} {kx vx tg iter c e : Expr} {scope : Scope} {own : List (Str × Nat)} {pos pos' py : Pos} {ρ ζ α β : Type} {m : M ρ}
/-- {key: value for tg in iter} -/
theorem jp_dt (l : ρ → List α) (enc : α → D) (encB : β → D) (ΓT : α → List Sl) (mk : α → M (List Int)) (mv : α → M β) {g0 : TG} (hi : JI X Γ tg iter m (fun r => (l r).map enc)) (hv : ∀ i ∈ own.map (·.2), Γ[i]? = some .un)
    (hT : ∀ a, TgB (gx X) (own.map (·.2)) g0 Γ (enc a) (ΓT a)) (hk : ∀ a s H C cl fp, JP (blk X scope s H C cl fp) (ΓT a) kx (mk a) (fun k => .va (.tup (k.map .int)))) (he : ∀ a s H C cl fp, JP (blk X scope s H C cl fp) (ΓT a) vx (mv a) (fun b => .va (encB b)))
    (hu : X.A.units + 1 < cLine) (hcm : X.calm = true) (hN : X.N.Nodup) (ok : BlkOk X.N X.env.scope scope own) (hg : ∀ (s : Shared) (H : Hp) (C : Addr) (cl : List (Str × Addr)) (fp : List Addr), PG (blk X scope s H C cl fp) tg g0)
    (hs : ∀ x, foldedSetIterable iter X.env x = pure x := by intro _; rfl) : JP X Γ (.DictComp kx vx [⟨tg, iter, [], 0⟩] scope pos) (dcM m l mk mv) (fun ys => .ow none (encT encB ys)) := fun F O σ H Q W S tk f => by
  obtain ⟨wi, pi, hw⟩ := hi
  refine RE.of (pe_dt (tk := REb X scope kx) (tv := REb X scope vx) hu hcm hN pi ok hg (fun _ _ _ _ _ => pts_nil) peRb peRb hs) (hw F O σ H _ W S tk ?_)
  revert f
  unfold dcM
  cases m with
  | st => exact id
  | er x => exact id
  | ok r =>
    intro f F1 J H1 G it D hD
    have S1 := S.grow G
    have f : Fi (gx X) F O H W σ (bnd (chk ((l r).length ≤ 1000000) ()) fun _ => dcP (l r) mk mv []) (fun ys => .ow none (encT encB ys)) Q := f
    unfold chk at f
    by_cases hz : (l r).length ≤ 1000000
    · rw [if_pos hz] at f
      have f1 : Fi (gx X) F1 O H1 W σ (dcP ((l r).drop 0) mk mv []) (fun ys => .ow none (encT encB ys)) Q := Fi.shift S f G
      refine ⟨fun i m H' => m = (l r).length - i ∧ i ≤ (l r).length ∧ ∃ bs acc F', bs.length ≤ i ∧ Grow F1 H1 F' (sg D (.dT acc)) H' ∧ Rept (gx X) F' acc (bs.map fun p => (p.1, encB p.2)) ∧ Fi (gx X) F1 O H1 W σ (dcP ((l r).drop i) mk mv bs) (fun ys => .ow none (encT encB ys)) Q,
        ⟨_, rfl, Nat.zero_le _, [], [], F1, Nat.le_refl _, (Grow.refl S1.fh).own hD _, .nil, f1⟩, ?_⟩
      rintro i m' H' ⟨rfl, hi, bs, acc, F', hbl, G', ra, f'⟩
      have S' := S1.grow G'
      by_cases hlt : i < (l r).length
      · obtain ⟨a, ha⟩ : ∃ a, (l r)[i]? = some a := ⟨_, List.getElem?_eq_getElem hlt⟩
        refine .inr ⟨it.go i H' (by rw [List.length_map]; exact hlt) (G'.ff.trans S'.fh), fun H2 => i + 1 ≤ (l r).length ∧ ∃ bs acc F', bs.length ≤ i + 1 ∧ Grow F1 H1 F' (sg D (.dT acc)) H2 ∧ Rept (gx X) F' acc (bs.map fun p => (p.1, encB p.2)) ∧ Fi (gx X) F1 O H1 W σ (dcP ((l r).drop (i + 1)) mk mv bs) (fun ys => .ow none (encT encB ys)) Q,
          fun H2 q => ⟨(l r).length - (i + 1), by omega, rfl, q.1, q.2⟩, fun x H2 yy => ?_⟩
        obtain ⟨F2, G2, rv⟩ := it.yld i F' H' x H2 (enc a) (by rw [List.getElem?_map, ha]; rfl) G'.ff S'.fh yy
        have S2 := (S'.grow G2).wiped hv
        refine hT a F2 O (wipe σ (own.map (·.2))) H2 x _ S2 rv fun O3 σ3 S3 mm ew => ?_
        refine ⟨?_, ?_⟩
        · rw [ew]
          apply List.ext_getElem?
          intro j
          by_cases hj : j ∈ own.map (·.2)
          · have hn : ∀ (τ : L2.St) (vs : List Nat), j ∈ vs → (wipe τ vs)[j]? = if j < τ.length then some none else none := by
              intro τ vs
              induction vs with
              | nil => intro h; simp at h
              | cons v vs ih =>
                intro h
                unfold wipe
                by_cases hjv : v = j
                · subst hjv
                  rw [List.getElem?_set]
                  simp [wipe_length]
                · rw [List.getElem?_set_ne hjv]
                  rcases List.mem_cons.mp h with z | z
                  · exact absurd z.symm hjv
                  · exact ih z
            rw [hn _ _ hj, hn _ _ hj, wipe_length]
          · rw [wipe_get _ hj]
        · rw [drop_cons ha] at f'
          have f' : Fi (gx X) F1 O H1 W σ (bnd (noer (mk a)) fun k => bnd (noer (mv a)) fun v => dcP ((l r).drop (i + 1)) mk mv (putT bs k v)) (fun ys => .ow none (encT encB ys)) Q := f'
          unfold tYes
          simp only [if_true]
          intro s H0 C cl fp
          refine hk a s H0 C cl fp F2 O3 σ3 H2 _ (fun _ _ _ _ => False) S3 takesB (noer_fi ?_)
          revert f'
          cases hmk : noer (mk a) with
          | st => exact id
          | er x => cases h : mk a <;> rw [h] at hmk <;> cases hmk
          | ok k =>
            intro f' F3 hh vk H3 G3 kk
            obtain ⟨eh, rk⟩ := Sl.va_of kk
            subst eh
            have f' : Fi (gx X) F1 O H1 W σ (bnd (noer (mv a)) fun v => dcP ((l r).drop (i + 1)) mk mv (putT bs k v)) (fun ys => .ow none (encT encB ys)) Q := f'
            have S4 := S3.grow G3
            intro s H0 C cl fp
            refine he a s H0 C cl fp F3 O3 σ3 H3 _ (fun _ _ _ _ => False) S4 takesB (noer_fi ?_)
            revert f'
            cases hmv : noer (mv a) with
            | st => exact id
            | er x => cases h : mv a <;> rw [h] at hmv <;> cases hmv
            | ok b =>
              intro f' F4 hh v H4 G4 kk
              obtain ⟨eh, rb⟩ := Sl.va_of kk
              subst eh
              have GG := Grow.acc (o' := .dT (putK acc (k.map Sum.inl) v)) G' ((G2.trans G3).trans G4)
              obtain ⟨ta, us, ek, tk1, rs⟩ := (rk.mono G4.ff).tup_at
              have eu := reps_ints rs
              subst ek; subst eu
              have ra' := ra.mono ((G2.ff.trans G3.ff).trans G4.ff)
              refine ⟨acc, k.map Sum.inl, ta, rfl, ?_, GG.1, ?_, hlt, putT bs k b, _, F4, ?_, GG.2, ?_, f'⟩
              · rw [kt_ints]; exact G4.fh _ _ tk1
              · rw [rept_len ra, List.length_map, sizeLine_eq]; omega
              · have := putT_len bs k b; omega
              · rw [putT_map]; exact rept_put ra' rb
      · have e : i = (l r).length := by omega
        subst e
        refine .inl ⟨?_, ?_⟩
        · have := it.stop H' (G'.ff.trans S'.fh)
          rwa [List.length_map] at this
        · rw [List.drop_length] at f'
          have f' : Fi (gx X) F1 O H1 W σ (.ok bs) (fun ys => .ow none (encT encB ys)) Q := f'
          exact f' F' _ _ H' G' ⟨D, _, rfl, rfl, ⟨acc, rfl, ra⟩, fun _ z => (by cases z)⟩
    · rw [if_neg hz] at f; exact f.elim
end
end Z
set_option Elab.async false
set_option linter.all false
set_option maxRecDepth 100000
set_option maxHeartbeats 4000000
namespace Z
open PySem PySem.Spec L2
section
variable {X : Cx} {Γ Γx : List Sl} {e a b c o : Expr} {es : List Expr} {p pos pos' py p2 : Pos} {ρ ρ1 ρ2 ζ α β : Type} {m1 : M ρ1} {m2 : ρ1 → M ρ2} {y : Str}
/-! ### key in dict -/
def rDct (neg : Bool) : R2 := fun x y H Q => ∃ d o, y = .ref d ∧ DGet H d x o ∧ Q (.bl (if neg then !o.isSome else o.isSome)) H
theorem op_inDct (hu : X.A.units + 1 < cLine) : OpR X (compareOp .In) (rDct false) := fun pins s σ H x y v u Q I rx ry ⟨d, o, ey, gg, q⟩ => by
  subst ey
  obtain rfl : u = Value.ref d := ry
  exact d_in hu I gg rx fun s' I' => ⟨.bl o.isSome, H, I', rfl, q⟩
theorem op_niDct (hu : X.A.units + 1 < cLine) : OpR X (compareOp .NotIn) (rDct true) := fun pins s σ H x y v u Q I rx ry ⟨d, o, ey, gg, q⟩ => by
  subst ey
  obtain rfl : u = Value.ref d := ry
  exact d_notIn hu I gg rx fun s' I' => ⟨.bl (!o.isSome), H, I', rfl, q⟩
theorem dget_T {g : Gx} {F H : Hp} {v u : V} {k : List Int} {l : List (List Int × D)} (e : Ex F H) (r1 : Rep g F v (.tup (k.map .int))) (r2 : Rep g F u (.dt l)) : ∃ d o, u = .ref d ∧ DGet H d v o ∧ o.isSome = decide (k ∈ l.map (·.1)) := by
  obtain ⟨ta, us, ev, tk1, rs⟩ := r1.tup_at
  have eu := reps_ints rs
  subst ev; subst eu
  cases r2 with
  | dt s r => exact ⟨_, _, rfl, DGet.t (k := k.map Sum.inl) (e _ _ s) (by rw [kt_ints]; exact e _ _ tk1), valV_isSome r⟩
theorem od_inDt {k : List Int} {l : List (List Int × β)} {encB : β → D} : OpJ (gx X) (rDct false) (.tup (k.map .int)) (encT encB l) (.ok (decide (k ∈ l.map (·.1)))) vB := fun F O H v u Q W σ e r1 r2 q => by
  obtain ⟨d, o, h1, h2, h3⟩ := dget_T e r1 r2
  refine ⟨d, o, h1, h2, ?_⟩
  rw [List.map_map] at h3
  simp only [Bool.false_eq_true, if_false]
  rw [h3]; exact q.done e ⟨rfl, _, rfl, .bl _⟩
theorem od_niDt {k : List Int} {l : List (List Int × β)} {encB : β → D} : OpJ (gx X) (rDct true) (.tup (k.map .int)) (encT encB l) (.ok (!decide (k ∈ l.map (·.1)))) vB := fun F O H v u Q W σ e r1 r2 q => by
  obtain ⟨d, o, h1, h2, h3⟩ := dget_T e r1 r2
  refine ⟨d, o, h1, h2, ?_⟩
  rw [List.map_map] at h3
  simp only [if_true]
  rw [h3]; exact q.done e ⟨rfl, _, rfl, .bl _⟩
/-! ### a op y, y an own slot, the answer a bool -/
theorem od_unfrz {rr : R2} {F O H : Hp} {v : V} {a : Addr} {ob : HO} {Q : VK} {W : WX} {σ : L2.St} {d1 d0 : D} {bb : Bool} (e : Ex F H) (ha : H a = some ob) (ow : Own (gx X) F a ob d0) (rv : Rep (gx X) F v d1) (hF : F a = none) (h3 : OpJ (gx X) rr d1 d0 (.ok bb) vB) (f : Fi (gx X) F O H W σ (.ok bb) vB Q) : rr v (.ref a) H Q := by
  have e2 : Ex F (uni (sg a ob) F) := fun b u q => by
    by_cases hb : b = a
    · subst hb; rw [hF] at q; cases q
    · rw [uni_r (sg_ne hb)]; exact q
  have e3 : Ex (uni (sg a ob) F) H := fun b u q => by
    rcases of_uni q with z | z
    · obtain ⟨z1, z2⟩ := of_sg z
      rw [z1, z2]; exact ha
    · exact e b u z
  refine h3 _ O H v (.ref a) Q W σ e3 (rv.mono e2) (ow.rep e2 (uni_l sg_self)) fun F' h v' H' G k => ?_
  obtain ⟨eh, r⟩ := Sl.va_of k
  subst eh
  exact f F emp v' H' ⟨Ex.refl _, G.hh, e.trans G.hh, fun _ _ z => (by cases z), fun _ _ z => z⟩ ⟨rfl, _, rfl, by cases r; exact .bl _⟩
theorem two_ownR (i : Nat) {q : Option Addr} {d0 : D} {d1 : ρ1 → D} {bb : ρ1 → Bool} {rr : R2} (h1 : JP X Γ a m1 (fun r => .va (d1 r))) (hi : Γ[i]? = some (.ow q d0)) (h3 : ∀ r, OpJ (gx X) rr (d1 r) d0 (.ok (bb r)) vB) {F O : Hp} {σ : L2.St} {H : Hp} {Q : VK} {W : WX} (S : Sat (gx X) F Γ σ O H) (tk : L2N.Takes X W)
    (f : Fi (gx X) F O H W σ (bnd m1 fun r => .ok (bb r)) vB Q) : tOp rr (RE X a) (tVar i) σ H Q := h1 F O σ H _ W S tk (by
  have f1 := f.bnd S (t1 := fun r => .va (d1 r))
  revert f1
  cases m1 with
  | st => exact id
  | er x => exact id
  | ok r =>
    intro f1 F1 hh v H1 G k1
    obtain ⟨r', F1, h1', e, G, k1, S1, f2⟩ := f1 F1 hh v H1 G k1
    cases e
    obtain ⟨_, r1⟩ := Sl.va_of k1
    obtain ⟨a, ob, e1, ha, hF, ow⟩ := S1.own_at hi
    exact ⟨_, e1, od_unfrz S1.fh ha ow r1 hF (h3 r) f2⟩)
theorem jt_cmpO (i : Nat) {q : Option Addr} {d0 : D} {d1 : ρ1 → D} {bb : ρ1 → Bool} {op : CmpOp} {rr : R2} (ho : OpR X (compareOp op) rr) (hm : behindInMarks op (.Name y py) = false) (h1 : JP X Γ a m1 (fun r => .va (d1 r))) (h3 : ∀ r, OpJ (gx X) rr (d1 r) d0 (.ok (bb r)) vB) (hi : Γ[i]? = some (.ow q d0) := by rfl) (hN : X.N[i]? = some y := by rfl)
    (hv : Vis X.env.scope y := by first | exact Or.inl rfl | exact Or.inr (Or.inl rfl) | exact Or.inr (Or.inr rfl)) (hdb2 : (y == ("__debug__" : Str)) = false := by decide) (hcd : (y == ("__classdict__" : Str)) = false := by decide) :
    JT X Γ (.Compare a [op] [.Name y py] pos) (bnd m1 fun r => .ok (bb r)) := fun F O σ H Q W S tk f => RT.of (pt_cmpR ho peR (pe_var hN hv hdb2 hcd) hm) (two_ownR i h1 hi h3 S tk (fiT_of S.fh f))
/-! ### sets of ints -/
def addS (l : List Int) (k : Int) : List Int := if k ∈ l then l else l ++ [k]
def setOf (ns : List Int) : List Int := ns.foldl addS []
theorem step_add (ks : List Int) (n : Int) : PyProof.Rows.step_dedup ks n = addS ks n := by
  unfold PyProof.Rows.step_dedup addS
  by_cases h : n ∈ ks
  · simp [h]
  · simp [h]
theorem setOf_met (ns : List Int) : PyProof.Rows.firstMet (fun i => ns.getD i 0) ns.length = setOf ns := by
  unfold PyProof.Rows.firstMet setOf
  have e : (List.range ns.length).map (fun i => ns.getD i 0) = ns := by
    apply List.ext_getElem?
    intro i
    by_cases h : i < ns.length
    · rw [List.getElem?_map, List.getElem?_range h]
      simp [List.getD_eq_getElem?_getD, List.getElem?_eq_getElem h]
    · rw [List.getElem?_eq_none (by simpa using h), List.getElem?_eq_none (by simpa using h)]
  rw [e]
  congr 1
  funext ks n
  exact step_add ks n
theorem setOf_le (ns : List Int) : (setOf ns).length ≤ ns.length := by
  rw [← setOf_met]; exact PyProof.Rows.firstMet_length_le _ _
theorem foldl_add_mem (k : Int) : ∀ (ns acc : List Int), k ∈ ns.foldl addS acc ↔ k ∈ acc ∨ k ∈ ns
  | [], acc => by simp
  | n :: ns, acc => by
    rw [List.foldl_cons, foldl_add_mem k ns]
    unfold addS
    by_cases h : n ∈ acc
    · simp only [h, if_true, List.mem_cons]
      constructor
      · rintro (z | z)
        · exact .inl z
        · exact .inr (.inr z)
      · rintro (z | z | z)
        · exact .inl z
        · subst z; exact .inl h
        · exact .inr z
    · simp only [h, if_false, List.mem_cons, List.mem_append, List.mem_singleton, List.not_mem_nil, or_false]
      constructor
      · rintro ((z | z) | z) <;> simp [z]
      · rintro (z | z | z) <;> simp [z]
theorem setOf_mem (k : Int) (ns : List Int) : k ∈ setOf ns ↔ k ∈ ns := by
  unfold setOf; rw [foldl_add_mem]; simp
def rSet (neg : Bool) : R2 := fun x y H Q => ∃ k a l, x = .int k ∧ y = .ref a ∧ H a = some (setH l) ∧ Q (.bl (if neg then !decide (k ∈ l) else decide (k ∈ l))) H
theorem setH_get {pins : List (Addr × Obj)} {σ : L2.St} {H : Hp} {s : Shared} {a : Addr} {l : List Int} (I : Inv X pins σ H s) (h : H a = some (setH l)) : s.heap.SetOf (intKind X.prog X.w) a (fun k => decide (k ∈ l)) l.length := I.hok a _ h
theorem op_inSet : OpR X (compareOp .In) (rSet false) := fun pins s σ H x y v u Q I rx ry ⟨k, a, l, ex, ey, ha, q⟩ => by
  subst ex; subst ey
  obtain ⟨tk, rfl⟩ := rx
  obtain rfl : u = Value.ref a := ry
  exact wpAny_inSet_of (intKind_is _ _ _ _) rfl (setH_get I ha) ⟨.bl _, H, I.tok _, rfl, q⟩
theorem op_niSet : OpR X (compareOp .NotIn) (rSet true) := fun pins s σ H x y v u Q I rx ry ⟨k, a, l, ex, ey, ha, q⟩ => by
  subst ex; subst ey
  obtain ⟨tk, rfl⟩ := rx
  obtain rfl : u = Value.ref a := ry
  exact wpAny_notInSet_of (intKind_is _ _ _ _) rfl (setH_get I ha) ⟨.bl _, H, I.tok _, rfl, q⟩
theorem od_inS {k : Int} {l : List Int} : OpJ (gx X) (rSet false) (.int k) (.si l) (.ok (decide (k ∈ l))) vB := fun F O H v u Q W σ e r1 r2 q => by
  cases r1
  cases r2 with
  | si s => exact ⟨k, _, l, rfl, rfl, e _ _ s, q.done e ⟨rfl, _, rfl, .bl _⟩⟩
theorem od_niS {k : Int} {l : List Int} : OpJ (gx X) (rSet true) (.int k) (.si l) (.ok (!decide (k ∈ l))) vB := fun F O H v u Q W σ e r1 r2 q => by
  cases r1
  cases r2 with
  | si s => exact ⟨k, _, l, rfl, rfl, e _ _ s, q.done e ⟨rfl, _, rfl, .bl _⟩⟩
/-- set(numbers) -/
def rSetL (K : PySem.W.Frag) : List V → Hp → VK → Prop := fun vs H Q => ∃ a ns, vs = [.ref a] ∧ SqL K H a (ns.map V.int) ∧ ns.length + 1 < scanBound ∧ ∀ p, H p = none → Q (.ref p) (L2.upd H p (setH (setOf ns)))
theorem cr_setL (hc : X.calm = true) : CallR X (.type "set") (rSetL X.K) := fun pins s σ H xs us Q I r ⟨a, ns, e, hs, hb, q⟩ => by
  subst e
  rw [Vals.ref1 r]
  obtain ⟨its, rv, hl, hz⟩ := I.list hs
  have hi := rv.ints
  have hn : its.toArray.size = ns.length := by rw [List.size_toArray, ← rv.length, List.length_map]
  refine PySem.call_set_list (ns := ns) (I.ok.hd hc) hl.isList (by simpa using hi) (by rw [hn]; exact hb) fun h' tk hS kp => ?_
  rw [hn, setOf_met] at hS
  have eS : (fun k' => (setOf ns).any (· == k')) = fun k => decide (k ∈ setOf ns) := by
    funext k
    by_cases h : k ∈ setOf ns
    · simp [h]
    · simp only [h, decide_false, List.any_eq_false, beq_iff_eq]
      exact fun x hx z => h (z ▸ hx)
  rw [eS] at hS
  have keep : ∀ b o, s.heap.get? b = some o → h'.get? b = some o := fun b o z => kp b o (Heap.lt_size z) z
  exact ⟨.ref _, _, I.laid (t' := tk) (o := setH (setOf ns)) keep (Nat.le_refl _) hS, rfl, q _ (I.hok.fresh (Nat.le_refl _))⟩
theorem ar_setL {ns : List Int} : ArJ (gx X) (rSetL X.K) [.lst (ns.map .int)] (chk (ns.length + 1 < scanBound) (setOf ns)) (fun l => .ow none (.si l)) := fun F O H vs Q W σ e r q => by
  obtain ⟨v, e0, r1⟩ := r.one; subst e0
  obtain ⟨a, ws, rfl, sq, rs⟩ := r1.lst_of
  have ew := reps_ints rs
  subst ew
  unfold chk at q
  by_cases h : ns.length + 1 < scanBound
  · rw [if_pos h] at q
    exact ⟨a, ns, rfl, SqL.of (e _ _ sq), h, fun l hl => q _ _ _ _ ((Grow.refl e).own hl _) ⟨l, _, rfl, rfl, rfl, fun _ z => (by cases z)⟩⟩
  · rw [if_neg h] at q; exact q.elim
/-- set() -/
theorem pe_set0 {x : Str} (hg : Gl X x) (hm : X.mg x = none) (hv : bootBuiltins x = some (.type "set")) (hn : x ≠ "__name__" := by decide) (hdb : (x == ("__debug__" : Str)) = false := by decide) : PE X (.Call (.Name x p) [] [] pos) (fun _ H Q => ∀ l, H l = none → Q (.ref l) (L2.upd H l (setH []))) := ⟨fun pins s σ H Q I h => by
  refine wpAny_Call_Name_kw (ld_blt I hg hm hv ?_ hn hdb)
  refine PyProof.Rows.callWith_type0 (setR_new fun new => ?_)
  exact ⟨.ref _, _, I.laid (t' := s.toks) (o := setH []) (fun b u e => Heap.get?_push_of_some _ e) (Nat.le_refl _) (by
    have := new.setOf (P := X.prog)
    exact this), rfl, h _ (I.hok.fresh (Nat.le_refl _))⟩⟩
theorem jp_set0 (hm : X.mg "set" = none) (hg : Gl X "set" := by rfl) : JP X Γ (.Call (.Name "set" p) [] [] pos) (.ok ()) (fun _ => .ow none (.si [])) := fun F O σ H Q W S tk f => RE.of (pe_set0 hg hm PyProof.Rows.boot_set) fun l hl => f _ _ _ _ ((Grow.refl S.fh).own hl _) ⟨l, _, rfl, rfl, rfl, fun _ z => (by cases z)⟩
/-- y.add(k) -/
def addM (l : List Int) (k : Int) : M (List Int) := chk (l.length + 1 < scanBound) (addS l k)
def rAddS : V → List V → Hp → VK → Prop := fun x vs H Q => ∃ a k l, x = .ref a ∧ vs = [.int k] ∧ H a = some (setH l) ∧ l.length + 1 < scanBound ∧ Q .non (L2.upd H a (setH (addS l k)))
theorem mt_addS : MtR X "set.add" rAddS := fun pins s σ H x xs v us Q I rx rxs ⟨a, k, l, ex, es, ha, hb, q⟩ => by
  subst ex; subst es
  obtain rfl : v = Value.ref a := rx
  cases rxs with
  | cons ry rt =>
    cases rt
    obtain ⟨tk, rfl⟩ := ry
    refine call_set_add (intKind_is _ _ _ _) rfl (setH_get I ha) hb fun h' sb hS => ?_
    have eS : (fun k' => decide (k' ∈ l) || decide (k' = k)) = fun k' => decide (k' ∈ addS l k) := by
      funext k'
      unfold addS
      by_cases h : k ∈ l
      · by_cases h2 : k' = k
        · subst h2; simp [h]
        · simp [h, h2]
      · by_cases h2 : k' = k
        · subst h2; simp [h]
        · simp [h, h2]
    have eN : (if decide (k ∈ l) = true then l.length else l.length + 1) = (addS l k).length := by
      unfold addS
      by_cases h : k ∈ l <;> simp [h]
    rw [eS, eN] at hS
    have ex : ∃ u, h'.get? a = some u := by obtain ⟨o, _, _, _, z, _⟩ := hS; exact ⟨o, z⟩
    exact ⟨.non, _, I.write (e := a) (t' := s.toks + 1) (by rw [ha]; trivial) (.inl rfl) (fun b u hb hu => (sb.2 b hb).trans hu) ex (show ObjOk X.prog X.w _ h' a (setH (addS l k)) from hS), rfl, q⟩
theorem me_add {l : List Int} {k : Int} : MeJ X rAddS (.si l) [.int k] (addM l k) (fun _ => .non) (fun l' => .si l') := fun F H a o vs Q _ ha ow r f => by
  obtain ⟨v, e0, r1⟩ := r.one
  subst e0
  cases r1
  have ow : o = setH l := ow
  subst ow
  unfold addM chk at f
  by_cases h : l.length + 1 < scanBound
  · rw [if_pos h] at f
    exact ⟨a, k, l, rfl, rfl, ha, h, f .non _ rfl .non⟩
  · rw [if_neg h] at f; exact f.elim
theorem ty_si {l : List Int} : TyO X "set" (.si l) := fun F H a o ha ow => by
  have ow : o = setH l := ow
  subst ow
  exact .inr (.inr (.inr ⟨rfl, _, _, ha⟩))
end
end Z
set_option Elab.async false
set_option linter.all false
set_option maxRecDepth 100000
set_option maxHeartbeats 4000000
namespace Z
open PySem PySem.Spec L2
/-! ### sorted -/
def sortT (l : List (List Int)) : List (List Int) := l.mergeSort fun a b => !lxLt (fun x y => decide (x < y)) b a
abbrev encI (xs : List Int) : D := .tup (xs.map .int)
section
variable {X : Cx} {Γ Γx : List Sl} {e a b c o : Expr} {p pos pos' py p2 : Pos} {ρ ρ1 ρ2 ζ α β : Type}
theorem sortT_le : PySem.W.dataLe false (fun b : List Int => PyData.tuple (b.map .int)) = fun a b => !lxLt (fun x y => decide (x < y)) b a := by
  rw [PySem.W.dataLe_eq]
  funext a b
  show (!PySem.W.dataLt (.tuple (b.map .int)) (.tuple (a.map .int))) = _
  rw [PySem.W.dataLt_tuple]
  exact congrArg _ (row_lt oInt b a)
/-- sorted(xs), tuples of ints -/
def rSortTs (X : Cx) : List V → Hp → VK → Prop := fun vs H Q => ∃ (F : Hp) (a : Addr) (xs : List V) (l : List (List Int)), vs = [.ref a] ∧ Ex F H ∧ SqL X.K H a xs ∧ Reps (gx X) F xs (l.map encI) ∧ (l.length ≤ 1 ∨ ∀ n ∈ l, n ≠ []) ∧
  ∀ ys p, Reps (gx X) F ys ((sortT l).map encI) → H p = none → Q (.ref p) (L2.upd H p (.lst ys))
theorem each_of_reps {F : Hp} : ∀ {xs : List V} {us : List Value} {l : List (List Int)}, Vals xs us → Reps (gx X) F xs (l.map encI) → PySem.W.EachIs (fun u b => ∃ x, RelV x u ∧ Rep (gx X) F x (encI b)) us l
  | _, _, [], .nil, .nil => .nil
  | _, _, _ :: _, .cons r t, .cons q s => .cons ⟨_, r, q⟩ (each_of_reps t s)
theorem reps_of_each {F : Hp} : ∀ {us : List Value} {l : List (List Int)}, PySem.W.EachIs (fun u b => ∃ x, RelV x u ∧ Rep (gx X) F x (encI b)) us l → ∃ xs, Vals xs us ∧ Reps (gx X) F xs (l.map encI)
  | _, _, .nil => ⟨[], .nil, .nil⟩
  | _, _, .cons ⟨x, r, q⟩ t => by
    obtain ⟨xs, r2, q2⟩ := reps_of_each t
    exact ⟨x :: xs, .cons r r2, .cons q q2⟩
theorem cr_sortTs (hu : X.A.units + 64 < cLine) : CallR X (.builtin "sorted") (rSortTs X) := fun pins s σ H vs us Q I r ⟨F, a, xs, l, e, eF, hs, rs, hne, q⟩ => by
  subst e
  obtain ⟨its, rv, hl, hz⟩ := I.list hs
  rw [Vals.ref1 r]
  have hlen : xs.length = l.length := by rw [rs.length, List.length_map]
  have fin : ∀ out : List Value, out.length = l.length → PySem.W.EachIs (fun u b => ∃ x, RelV x u ∧ Rep (gx X) F x (encI b)) out (sortT l) → EP X pins σ Q (.ref (s.heap.objs.size + 1)) { s with heap := PyProof.Rows.sortedAll s.heap its (List.toArray out) } := fun out ho eo => by
    obtain ⟨ys, r2, q2⟩ := reps_of_each eo
    obtain ⟨ep, he'⟩ := PyProof.Rows.sortedAll_at s.heap its (List.toArray out)
    have hy : ys.length ≤ sizeLine := by rw [r2.length, ho, ← hlen]; exact hz
    exact ⟨.ref _, _, I.laid (t' := s.toks) (a := s.heap.objs.size + 1) (o := .lst ys) (fun _ _ => PyProof.Rows.sortedAll_old) (Nat.le_succ _) ⟨hy, out, ep, r2, he'⟩, rfl, q ys _ q2 (I.hok.fresh (Nat.le_succ _))⟩
  have each := each_of_reps rv rs
  by_cases h1 : l.length ≤ 1
  · refine SrtO.sorted_ord (ltv := fun _ _ => false) ⟨fun _ _ h => (by cases h), fun _ _ _ _ h => h⟩ hl.isList (by rw [← rv.length]; exact hz) (fun h2 => absurd h2 (by rw [← rv.length, hlen]; omega)) fun out h2 h3 => ?_
    have hp := h3.perm
    have : out = its := by
      have hn : its.length ≤ 1 := by rw [← rv.length, hlen]; exact h1
      revert hn hp
      match its with
      | [] => exact fun hp _ => List.Perm.eq_nil hp
      | [x] => exact fun hp _ => List.perm_singleton.mp hp
      | _ :: _ :: _ => exact fun _ hn => absurd hn (by simp)
    subst this
    have es : sortT l = l := by
      match l, h1 with
      | [], _ => simp [sortT]
      | [_], _ => simp [sortT, List.mergeSort]
      | _ :: _ :: _, h => simp at h
    exact fin out (by rw [← rv.length, hlen]) (by rw [es]; exact each)
  · have hne := hne.resolve_left h1
    have er : PySem.W.EachIs (fun v b => ∃ as, Reads s.heap v (PyData.tuple (b.map .int)) as) its l := each.mono fun u b ⟨x, r1, r2⟩ => Dp.reads I _ x u (oInt.toEqE.tup.dp (r2.mono eF)) r1
    have al : PySem.W.AllAlike (l.map fun b : List Int => PyData.tuple (b.map .int)) := PySem.W.AllAlike.of fun b b' => oInt.tup.al b b'
    have so : PySem.W.Sortable (l.map fun b : List Int => PyData.tuple (b.map .int)) := .inl fun d hd => by
      obtain ⟨b, hb, rfl⟩ := List.mem_map.mp hd
      cases b with
      | nil => exact absurd rfl (hne _ hb)
      | cons x r => exact ⟨.int x, r.map .int, rfl⟩
    have hd : ∀ b, b ∈ l → X.A.units + 2 + (PyData.tuple (b.map .int)).depth < cLine := fun b _ => by
      have q : (PyData.tuple (b.map .int)).depth ≤ 1 := oInt.toEqE.tup.dep b
      omega
    exact PySem.W.sorted_data (enc := fun b : List Int => PyData.tuple (b.map .int)) hl.isList each er al so (by rw [← hlen]; exact hz) hd fun out h2 h3 => fin out h2 (by rw [sortT_le] at h3; exact h3)
theorem ar_sortTs {l : List (List Int)} : ArJ (gx X) (rSortTs X) [.lst (l.map encI)] (chk (l.length ≤ 1 ∨ ∀ n ∈ l, n ≠ []) (sortT l)) (fun l' => .ow none (.lst (l'.map encI))) := fun F O H vs Q W σ e r q => by
  obtain ⟨v, e0, r1⟩ := r.one; subst e0
  obtain ⟨a, xs, rfl, sq, rs⟩ := r1.lst_of
  unfold chk at q
  by_cases h : l.length ≤ 1 ∨ ∀ n ∈ l, n ≠ []
  · rw [if_pos h] at q
    exact ⟨F, a, xs, l, rfl, e, SqL.of (e _ _ sq), rs, h, fun ys p r2 hp => q _ _ _ _ ((Grow.refl e).own hp _) ⟨p, _, rfl, rfl, ⟨ys, rfl, r2⟩, fun _ z => (by cases z)⟩⟩
  · rw [if_neg h] at q; exact q.elim
/-- ints, ascending -/
theorem le_sorted_unique : ∀ {l m : List Int}, l.Perm m → l.Pairwise (· ≤ ·) → m.Pairwise (· ≤ ·) → l = m := fun h h1 h2 => List.Perm.eq_of_pairwise (fun a b _ _ x y => Int.le_antisymm x y) h1 h2 h
def sortI (l : List Int) : List Int := l.mergeSort fun a b => decide (a ≤ b)
theorem sortI_perm (l : List Int) : (sortI l).Perm l := List.mergeSort_perm _ _
theorem sortI_le (l : List Int) : (sortI l).Pairwise (· ≤ ·) := by
  have := List.pairwise_mergeSort (le := fun a b : Int => decide (a ≤ b)) (fun a b c h1 h2 => by simp at *; omega) (fun a b => by simp; omega) l
  exact this.imp fun h => by simpa using h
theorem ar_sortI {l : List Int} : ArJ (gx X) (rSortedI X.K) [.lst (l.map .int)] (.ok (sortI l)) (fun l' => .ow none (.lst (l'.map .int))) := fun F O H vs Q W σ e r q => by
  obtain ⟨v, e0, r1⟩ := r.one; subst e0
  obtain ⟨a, xs, rfl, sq, rs⟩ := r1.lst_of
  have ew := reps_ints rs
  subst ew
  refine ⟨a, l, rfl, SqL.of (e _ _ sq), fun ns' p h1 h2 hp => ?_⟩
  have es : ns' = sortI l := le_sorted_unique (h1.trans (sortI_perm l).symm) h2 (sortI_le l)
  subst es
  exact q _ _ _ _ ((Grow.refl e).own hp _) ⟨p, _, rfl, rfl, ⟨_, rfl, ints_reps _⟩, fun _ z => (by cases z)⟩
/-! ### slices, sums of sequences -/
def cut {α : Type} (xs : List α) (lo hi : Option Int) : List α := (xs.drop (HT.sIx xs.length 0 lo)).take (HT.sIx xs.length xs.length hi - HT.sIx xs.length 0 lo)
theorem cut_map {α β : Type} (f : α → β) (xs : List α) (lo hi : Option Int) : cut (xs.map f) lo hi = (cut xs lo hi).map f := by
  unfold cut; rw [List.length_map, List.map_take, List.map_drop]
theorem reps_cut {g : Gx} {F : Hp} {vs : List V} {ds : List D} (r : Reps g F vs ds) (lo hi : Option Int) : Reps g F (cutV vs lo hi) (cut ds lo hi) := by
  unfold cutV cut
  rw [r.length]
  exact (r.drop _).take _
/-- t + u -/
theorem od_catT {enc : α → D} {xs ys : List α} : OpJ (gx X) (rCatA X.K) (.tup (xs.map enc)) (.tup (ys.map enc)) (chk (xs.length + ys.length ≤ sizeLine) (xs ++ ys)) (fun l => .va (.tup (l.map enc))) := fun F O H v u Q W σ e r1 r2 q => by
  obtain ⟨a, vs, rfl, s1, rs1⟩ := r1.tup_at
  obtain ⟨b, us, rfl, s2, rs2⟩ := r2.tup_at
  unfold chk at q
  by_cases h : xs.length + ys.length ≤ sizeLine
  · rw [if_pos h] at q
    refine ⟨a, b, vs, us, rfl, rfl, SqT.of (e _ _ s1), SqT.of (e _ _ s2), by rw [rs1.length, rs2.length, List.length_map, List.length_map]; exact h, fun h0 => ?_, fun _ h0 => ?_, fun _ _ l hl => ?_⟩
    · subst h0
      have : xs = [] := by cases xs with
        | nil => rfl
        | cons _ _ => cases rs1
      subst this
      exact q.done e ⟨rfl, _, rfl, .tup s2 rs2⟩
    · subst h0
      have : ys = [] := by cases ys with
        | nil => rfl
        | cons _ _ => cases rs2
      subst this
      exact q.done e ⟨rfl, _, rfl, by rw [List.append_nil]; exact .tup s1 rs1⟩
    · exact q _ emp _ _ ((Grow.refl e).fro hl _) ⟨rfl, _, rfl, .tup upd_same (by rw [List.map_append]; exact (rs1.append rs2).mono (ext_fro (Grow.refl e) hl _))⟩
  · rw [if_neg h] at q; exact q.elim
/-- xs + ys, lists -/
theorem od_catL {enc : α → D} {xs ys : List α} : OpJ (gx X) rCat (.lst (xs.map enc)) (.lst (ys.map enc)) (chk (xs.length + ys.length ≤ sizeLine) (xs ++ ys)) (fun l => .ow none (.lst (l.map enc))) := fun F O H v u Q W σ e r1 r2 q => by
  obtain ⟨a, vs, rfl, s1, rs1⟩ := r1.lst_of
  obtain ⟨b, us, rfl, s2, rs2⟩ := r2.lst_of
  unfold chk at q
  by_cases h : xs.length + ys.length ≤ sizeLine
  · rw [if_pos h] at q
    refine ⟨a, b, vs, us, rfl, rfl, e _ _ s1, e _ _ s2, by rw [rs1.length, rs2.length, List.length_map, List.length_map]; exact h, fun l hl => ?_⟩
    exact q _ _ _ _ ((Grow.refl e).own hl _) ⟨l, _, rfl, rfl, ⟨_, rfl, by rw [List.map_append]; exact rs1.append rs2⟩, fun _ z => (by cases z)⟩
  · rw [if_neg h] at q; exact q.elim
/-- [..] * n -/
def repL {α : Type} (xs : List α) (k : Int) : M (List α) := chk (-(2 ^ 63) ≤ k ∧ k < 2 ^ 63 ∧ xs.length * k.toNat ≤ sizeLine) (List.replicate k.toNat xs).flatten
theorem reps_rep {g : Gx} {F : Hp} {vs : List V} {ds : List D} (r : Reps g F vs ds) : ∀ k : Nat, Reps g F (List.replicate k vs).flatten (List.replicate k ds).flatten
  | 0 => .nil
  | k + 1 => by
    rw [List.replicate_succ, List.replicate_succ, List.flatten_cons, List.flatten_cons]
    exact r.append (reps_rep r k)
theorem map_rep {α β : Type} (f : α → β) (xs : List α) (k : Nat) : (List.replicate k (xs.map f)).flatten = ((List.replicate k xs).flatten).map f := by
  rw [List.map_flatten, List.map_replicate]
theorem od_repL {enc : α → D} {xs : List α} {k : Int} : OpJ (gx X) rRep (.lst (xs.map enc)) (.int k) (repL xs k) (fun l => .ow none (.lst (l.map enc))) := fun F O H v u Q W σ e r1 r2 q => by
  obtain ⟨a, vs, rfl, s1, rs1⟩ := r1.lst_of
  cases r2
  unfold repL chk at q
  by_cases h : -(2 ^ 63) ≤ k ∧ k < 2 ^ 63 ∧ xs.length * k.toNat ≤ sizeLine
  · rw [if_pos h] at q
    refine ⟨a, k, vs, rfl, rfl, e _ _ s1, h.1, h.2.1, by rw [rs1.length, List.length_map]; exact h.2.2, fun l hl => ?_⟩
    exact q _ _ _ _ ((Grow.refl e).own hl _) ⟨l, _, rfl, rfl, ⟨_, rfl, by rw [← map_rep]; exact reps_rep rs1 _⟩, fun _ z => (by cases z)⟩
  · rw [if_neg h] at q; exact q.elim
end
end Z
set_option Elab.async false
set_option linter.all false
set_option maxRecDepth 100000
set_option maxHeartbeats 4000000
namespace Z
open PySem PySem.Spec L2
def cutM {α : Type} (xs : List α) (lo hi : Option Int) : M (List α) := chk (¬ (HT.sIx xs.length 0 lo = 0 ∧ HT.sIx xs.length xs.length hi = xs.length)) (cut xs lo hi)
section
variable {X : Cx} {Γ Γx : List Sl} {e a b c o : Expr} {es : List Expr} {p pos pos' py p2 : Pos} {ρ ρ1 ρ2 ρA ζ α β : Type} {m1 : M ρ1} {m2 : ρ1 → M ρ2} {y : Str} {rest : List Stmt} {K : List (List Stmt)} {π : ζ → Out}
theorem slT_end {F O H : Hp} {W : WX} {σ : L2.St} {Q : VK} {enc : α → D} {xs : List α} {lo hi : Option Int} {v : V} (e : Ex F H) (r1 : Rep (gx X) F v (.tup (xs.map enc))) (q : Fi (gx X) F O H W σ (cutM xs lo hi) (fun l => .va (.tup (l.map enc))) Q) : rSlT X.K v lo hi H Q := by
  obtain ⟨a, vs, rfl, s1, rs1⟩ := r1.tup_at
  unfold cutM chk at q
  have hl : vs.length = xs.length := by rw [rs1.length, List.length_map]
  by_cases h : ¬ (HT.sIx xs.length 0 lo = 0 ∧ HT.sIx xs.length xs.length hi = xs.length)
  · rw [if_pos h] at q
    refine ⟨a, vs, rfl, SqT.of (e _ _ s1), by rw [hl]; exact h, fun l hl => ?_⟩
    refine q _ emp _ _ ((Grow.refl e).fro hl (.tup (cutV vs lo hi))) ⟨rfl, _, rfl, .tup upd_same ?_⟩
    rw [← cut_map]
    exact (reps_cut rs1 lo hi).mono (ext_fro (Grow.refl e) hl _)
  · rw [if_neg h] at q; exact q.elim
/-- e[lo:] -/
theorem jp_slLo {enc : α → D} {xs : ρ1 → List α} {z : ρ1 → ρ2 → Int} (h1 : JP X Γ e m1 (fun r => .va (.tup ((xs r).map enc)))) (h2 : ∀ r, JP X Γ a (m2 r) (fun s => .va (.int (z r s)))) : JP X Γ (.Subscript e (.Slice (some a) none none p2) pos) (bnd m1 fun r => bnd (m2 r) fun s => cutM (xs r) (some (z r s)) none) (fun l => .va (.tup (l.map enc))) := fun F O σ H Q W S tk f => by
  refine RE.of (pe_slice sl_tup peR (po_some peR) po_none) ?_
  have := two (rr := fun x y H Q => ∃ i, y = .int i ∧ rSlT X.K x (some i) none H Q) (k := fun r s => cutM (xs r) (some (z r s)) none) h1 h2 (fun r s F O H v u Q W σ e r1 r2 q => by
    cases r2
    exact ⟨_, rfl, slT_end e r1 q⟩) S tk f
  exact this
/-- e[:hi] -/
theorem jp_slHi {enc : α → D} {xs : ρ1 → List α} {z : ρ1 → ρ2 → Int} (h1 : JP X Γ e m1 (fun r => .va (.tup ((xs r).map enc)))) (h2 : ∀ r, JP X Γ a (m2 r) (fun s => .va (.int (z r s)))) : JP X Γ (.Subscript e (.Slice none (some a) none p2) pos) (bnd m1 fun r => bnd (m2 r) fun s => cutM (xs r) none (some (z r s))) (fun l => .va (.tup (l.map enc))) := fun F O σ H Q W S tk f => by
  refine RE.of (pe_slice sl_tup peR po_none (po_some peR)) ?_
  have := two (rr := fun x y H Q => ∃ i, y = .int i ∧ rSlT X.K x none (some i) H Q) (k := fun r s => cutM (xs r) none (some (z r s))) h1 h2 (fun r s F O H v u Q W σ e r1 r2 q => by
    cases r2
    exact ⟨_, rfl, slT_end e r1 q⟩) S tk f
  exact this
/-! ### raise where nothing is claimed -/
theorem js_stuck {sts : List (List Stmt)} : JG X Γx Γ sts (M.st : M ζ) π := fun F O σ H D W S tk f => f.elim
/-! ### a try whose body raises nothing -/
theorem noerS {g : Gx} {F O H : Hp} {W : WX} {D : Ends} {m : M ζ} (f : FiS g F O H W D Γx (noer m) π) : FiS g F O H (fun _ _ _ _ => False) D [] m π := by
  cases m with
  | st => exact f
  | er x => exact f.elim
  | ok r => exact f
theorem js_try {body : List Stmt} {h0 : ExceptHandler} {hs : List ExceptHandler} {m : M ζ} (h : JG X.nox [] Γ [body] m π) : JS X Γx Γ (.Try body (h0 :: hs) [] [] pos) (noer m) π := fun F O σ H D W S tk f =>
  RS.of (ps_try_thru0 pssR) (h F O σ H D (fun _ _ _ _ => False) S takesB (noerS f))
/-- the last statement, that returns -/
theorem js_last {st : Stmt} {m : M ζ} (h : JS X Γx Γ st m π) (hr : ∀ z, ∃ t q, π z = .rt t q := by exact fun _ => ⟨_, _, rfl⟩) : JG X Γx Γ [[st]] m π := fun F O σ H D W S tk f =>
  RB.of (pss_cons psR pss_nil) (h F O σ H _ W S tk (by
    revert f
    cases m with
    | st => exact id
    | er x => exact id
    | ok z =>
      intro f
      have f : OutOk (gx X) F O H D (π z) := f
      show OutOk (gx X) F O H _ (π z)
      obtain ⟨t, q, e⟩ := hr z
      rw [e] at f ⊢
      cases q <;> exact f))
/-! ### an object's fields -/
def putD (f : Str) (d : D) : List (Str × D) → List (Str × D)
  | [] => [(f, d)]
  | p :: r => if p.1 = f then (p.1, d) :: r else p :: putD f d r
theorem repf_put {g : Gx} {F : Hp} {f : Str} {v : V} {d : D} (r : Rep g F v d) : ∀ {fs : List (Str × V)} {gs : List (Str × D)}, Repf g F fs gs → Repf g F (putF f v fs) (putD f d gs)
  | _, _, .nil => .cons r .nil
  | _, _, .cons (n := n) a b => by
    unfold putF putD
    by_cases h : n = f
    · simp only [h, if_true]; exact .cons r b
    · simp only [h, if_false]; exact .cons a (repf_put r b)
/-- self.f = e -/
theorem js_fld (i : Nat) {f : Str} {C : Addr} {q : ρ1 → Option Addr} {gs : ρ1 → List (Str × D)} {d : ρ1 → D} {Γ1 : ρ1 → List Sl} {k : ρ1 → M ζ} (Γ2 : ρ1 → List Sl) (h : JE X Γ e m1 (fun r => .va (d r)) Γ1) (h2 : ∀ r, JG X Γx (Γ2 r) (rest :: K) (k r) π) (hc : Cls X.K C) (hn : NoAttr X.K C f) (h0 : ∀ r, (Γ1 r)[i]? = some (.ow (q r) (.ob C (gs r))) := by intro _; rfl) (hl : ∀ r, (gs r).length < 1000 := by intro _; exact of_decide_eq_true rfl)
    (hΓ : ∀ r, Γ2 r = (Γ1 r).set i (.ow (q r) (.ob C (putD f (d r) (gs r)))) := by intro _; rfl) (hN : X.N[i]? = some y := by rfl) (hv : Vis X.env.scope y := by first | exact Or.inl rfl | exact Or.inr (Or.inl rfl) | exact Or.inr (Or.inr rfl)) (hdb2 : (y == ("__debug__" : Str)) = false := by decide) (hcd : (y == ("__classdict__" : Str)) = false := by decide)
    (hs : swapsWith e (some (.Attribute (.Name y py) f pos')) pos.line X.env = pure false := by rfl) (hx : Sub Γx Γ := by exact Sub.nil) : JG X Γx Γ ((.Assign [.Attribute (.Name y py) f pos'] e pos :: rest) :: K) (bnd m1 k) π := fun F O σ H D W S tk fi => by
  refine RB.of (pss_cons (ps_fld (pe_var hN hv hdb2 hcd) peR hs) pssR) (h F O σ H _ W S tk (FiE.val ?_))
  revert fi
  cases m1 with
  | st => exact id
  | er x => exact fun fi => FerS.fer (x := x) fi (S.l.satV hx)
  | ok r =>
    intro fi F1 O1 v H1 S1 T1 r1
    have f1 : FiS (gx X) F O H W D Γx (k r) π := fi
    have f2 := FiS.step S.fh S1.fo f1 T1
    obtain ⟨a, o, e1, e2, e3, ow, _, up⟩ := S1.upd (h0 r)
    obtain ⟨dx, fs, eo, rf⟩ := ow
    subst eo
    obtain ⟨O2, S2, T2⟩ := up (.ins C dx (putF f v fs)) (.ob C (putD f (d r) (gs r))) ⟨dx, _, rfl, repf_put r1 rf⟩
    rw [← hΓ r] at S2
    exact ⟨_, e1, a, C, dx, fs, rfl, e2, hc, hn, by rw [rf.length]; exact hl r, h2 r F1 O2 σ _ D W S2 tk (FiS.step S1.fh S2.fo f2 T2)⟩
end
/-- a class of the text by its __init__ -/
structure DfC (g : Gx) (base : Heap) (k : Nat) (x : Str) (C : Addr) {A : Type} (ins : A → List D) {ρ : Type} (m : A → M ρ) (gs : ρ → List (Str × D)) : Prop where
  ex : ∃ f fd ps, FnOk g.P g.w g.K g.mg base (L2N.CX g.P g.w) k f fd ps (specO g (fun _ => .ob C []) ins m (fun _ => .va .non) (fun r => .ob C (gs r))) ∧ Mk g.K C f ∧ g.mg x = some (.ref C) ∧ Binds g.K fd ps []
/-- an __init__ that falls out at its end -/
theorem fn_JC {g : Gx} {base : Heap} {x qual : Str} {st : Stmt} {f C : Addr} {fd : FuncData} {N ps : List Str} {k : Nat} {A ρ : Type} {ins : A → List D} {m : A → M ρ} {gs : ρ → List (Str × D)} {Γr : ρ → List Sl} (F : Fun g.K "__init__" qual st f fd) (S : FnScope N ps (defScope st)) (hm : g.mg x = some (.ref C)) (hk : Mk g.K C f) (hlen : ∀ a, (ins a).length + 1 = ps.length)
    (hbind : ∀ (kV doc pm : Value) (an : Option Addr) (cdv ct : Value) (us : List Value), us.length = ps.length → bindArgs (PySem.W.fnOf "__init__" qual (defArgs st) (defBody st) (defScope st) .none kV doc pm an cdv ct) ⟨us, []⟩ = pure (ps.zip us))
    (hb : ∀ (cdv : Value) (Ar : Around) (outer : List Env) (s : Shared) (H : Hp) (E : XK) (a : A) (c : Addr), Room k (cx g base N qual (defScope st) f cdv Ar outer s H E).A →
      JG (cx g base N qual (defScope st) f cdv Ar outer s H E) [] (.ow (some c) (.ob C []) :: ((ins a).map Sl.va ++ List.replicate (N.length - ps.length) .un)) [defBody st] (m a) (fun r => .nx (.ow (some c) (.ob C (gs r)) :: Γr r))) : DfC g base (k + 1) x C ins m gs := by
  have B : Binds g.K fd ps [] := F.binds hbind
  obtain ⟨oc, od, kV, doc, pm, an, cdv, ct, osl, rfl, lk, hcd⟩ := F.ex
  refine ⟨f, _, ps, fn_of lk hcd S (fun vs H Q E ⟨a, F0, c, o, vr, ev, _, _, _, _, r, _⟩ => by rw [ev, List.length_cons, r.length, hlen a]) fun Ar outer s H vs Q E hr hsp => ⟨_, pssR, ?_⟩, hk, hm, B⟩
  obtain ⟨a, F0, c, o, vr, rfl, e0, hF, hH, ow, r, hq⟩ := hsp
  have hl : (V.ref c :: vr).length = ps.length := by rw [List.length_cons, r.length, hlen a]
  have S0 : Sat g F0 (.ow (some c) (.ob C []) :: ((ins a).map Sl.va ++ List.replicate (N.length - ps.length) .un)) (L2.start N (V.ref c :: vr)) (sg c o) H := by
    refine ⟨?_, e0, fun b u z => (by obtain ⟨z1, z2⟩ := of_sg z; rw [z1, z2]; exact hH), fun b => ?_⟩
    · unfold L2.start
      rw [hl]
      have := SatL.cons (g := g) (F := F0) (s := .ow (some c) (.ob C [])) (v := some (V.ref c)) (h := sg c o) ⟨c, o, rfl, rfl, ow, fun _ z => (by cases z; rfl)⟩ (sat_args (N.length - ps.length) r) (fun _ => .inr rfl)
      have e : uni (sg c o) emp = sg c o := by
        funext y; unfold uni emp; cases sg c o y <;> rfl
      rw [e] at this
      exact this
    · by_cases hb : b = c
      · subst hb; exact .inl hF
      · exact .inr (sg_ne hb)
  refine (hb cdv Ar outer s H E a c hr F0 (sg c o) _ H { nx := fun _ H' => Q .non H', rt := Q } _ S0 takes_cx ?_ :)
  revert hq
  cases m a with
  | st => exact id
  | ok r =>
    intro hq F' O' σ' H' S' T
    have hlen2 := S'.l.len
    cases σ' with
    | nil => simp at hlen2
    | cons v σ2 =>
      obtain ⟨h0, O1, k0, dd, eO, S2⟩ := S'.tail
      obtain ⟨c', o', ev, eh, ow', ea⟩ := k0
      have : c' = c := ea c rfl
      subst this; subst eh
      have less : ∀ x o, sg c' o' x = some o → O' x = some o := fun x o z => by rw [eO]; exact uni_l z
      exact hq F' emp .non o' H' (T.less less) S'.fh (fun x o z => S'.oh x o (less x o z)) (fun x => by
        cases z : sg c' o' x with
        | none => exact .inr (by rw [uni_emp]; exact z)
        | some u => exact .inl ((S'.fo x).resolve_right (ne_none (less x u z)))) (dis_emp _) ow' ⟨rfl, _, rfl, .non⟩
  | er x => exact fun hq F' H' cls d σ' T e r _ => hq F' H' cls d T e r
section
variable {X : Cx} {Γ Γx : List Sl} {e : Expr} {es : List Expr} {p pos : Pos} {ρ ρA : Type} {A : Type} {k : Nat} {x : Str} {C : Addr} {ma : M ρA} {ts : ρA → List D} {m : A → M ρ} {ins : A → List D} {gs : ρ → List (Str × D)}
theorem passF : Passes (L2N.CX X.prog X.w) X (fun _ _ _ => False) := fun pins σ H s e s' I ⟨_, _, _, _, _, _, _, _, _, _, _, _, z⟩ => z.elim
/-- C(es) -/
theorem jp_make (Fk : DfC (gx X) X.base k x C ins m gs) (hr : Room (k + 1) X.A) (aa : ρA → A) (ha : JA X Γ (e :: es) ma ts) (hts : ∀ q, ts q = ins (aa q) := by intro _; rfl) (hg : Gl X x := by rfl) (hdb : (x == ("__debug__" : Str)) = false := by decide)
    (he : starEach (e :: es) X.env = (false, eval e X.env) :: starEach es X.env := by rfl) (hpl : (backTo pos (starEach es X.env)).any (·.1) = false := by rfl) : JP X Γ (.Call (.Name x p) (e :: es) [] pos) (bnd ma fun q => noer (m (aa q))) (fun r => .ow none (.ob C (gs r))) := fun F O σ H Q W S tk f => by
  obtain ⟨fa, fd, ps, F1, hk, hm, hb⟩ := Fk.ex
  refine RE.of (pe_make hk F1 hr hg hm hb .nil passF paR hdb he hpl) (ha F O σ H _ W S tk ?_)
  have f1 := f.bndA S (t1 := ts)
  revert f1
  cases ma with
  | st => exact id
  | er x => exact id
  | ok q =>
    intro f1 F1 vs H1 G k1
    obtain ⟨q', F1, e, G, k1, S1, f2⟩ := f1 F1 vs H1 G k1
    cases e
    rw [hts q] at k1
    intro c dx hc hdx hne
    rw [List.append_nil]
    have hF : F1 c = none := by
      cases z : F1 c with
      | none => rfl
      | some u => rw [S1.fh c u z] at hc; cases hc
    have e1 : ∀ a u, H1 a = some u → L2.upd (L2.upd H1 dx (.own c)) c (.ins C dx []) a = some u := fun a u z => by
      rw [upd_ne (fun y => by subst y; rw [hc] at z; cases z), upd_ne (fun y => by subst y; rw [hdx] at z; cases z)]; exact z
    refine ⟨aa q, F1, c, .ins C dx [], vs, rfl, fun a u z => e1 a u (S1.fh a u z), hF, upd_same, ⟨dx, [], rfl, .nil⟩, k1, ?_⟩
    revert f2
    cases m (aa q) with
    | st => exact id
    | er x => exact fun f2 => f2.elim
    | ok r =>
      intro f2 F' h v o' H' T fh oh fo dd ow' kt
      obtain ⟨eh, rv⟩ := Sl.va_of kt
      subst eh
      cases rv
      refine ⟨rfl, f2 F' (sg c o') (.ref c) H' ⟨T.ff, fun a u z => T.keep a u (e1 a u z) (sg_ne fun y => by subst y; rw [hc] at z; cases z), fh, fun a u z => ?_, fun a z1 z2 => ?_⟩ ⟨c, o', rfl, rfl, ow', fun _ z => (by cases z)⟩⟩
      · obtain ⟨z1, z2⟩ := of_sg z
        subst z1; subst z2
        refine ⟨hc, oh _ _ (by rw [uni_emp]; exact sg_self), ?_⟩
        have := fo a
        rw [uni_emp] at this
        exact this.resolve_right (ne_none sg_self)
      · obtain ⟨u, hu⟩ := some_of z1
        exact (T.sep a (ne_none (e1 a u hu)) z2 (sg_ne fun y => by subst y; rw [hc] at hu; cases hu)).1
end
end Z
set_option Elab.async false
set_option linter.all false
set_option maxRecDepth 100000
set_option maxHeartbeats 4000000
namespace Z
open PySem PySem.Spec L2
/-! ### list comprehensions whose items change a slot's object -/
def lcE {α β S : Type} : List α → S → (S → α → M (β × S)) → M (List β × S)
  | [], s, _ => .ok ([], s)
  | a :: l, s, f => bnd (noer (f s a)) fun p => bnd (lcE l p.2 f) fun q => .ok (p.1 :: q.1, q.2)
def lcEM {ρ α β S : Type} (m : M ρ) (l : ρ → List α) (s0 : S) (me : S → α → M (β × S)) : M (List β × S) := bnd m fun r => bnd (chk ((l r).length ≤ sizeLine) ()) fun _ => lcE (l r) s0 me
section
variable {X : Cx} {Γx : List Sl} {elt tg iter c e : Expr} {scope : Scope} {own : List (Str × Nat)} {pos pos' py : Pos} {ρ ζ α β S : Type} {m : M ρ} {y : Str} {rest : List Stmt} {K : List (List Stmt)} {π : ζ → Out}
theorem wipe_wipe (σ : L2.St) (vs : List Nat) : wipe (wipe σ vs) vs = wipe σ vs := by
  apply List.ext_getElem?
  intro j
  by_cases hj : j ∈ vs
  · have hn : ∀ (τ : L2.St) (us : List Nat), j ∈ us → (wipe τ us)[j]? = if j < τ.length then some none else none := by
      intro τ us
      induction us with
      | nil => intro h; simp at h
      | cons v us ih =>
        intro h
        unfold wipe
        by_cases hjv : v = j
        · subst hjv
          rw [List.getElem?_set]
          simp [wipe_length]
        · rw [List.getElem?_set_ne hjv]
          rcases List.mem_cons.mp h with z | z
          · exact absurd z.symm hjv
          · exact ih z
    rw [hn _ _ hj, hn _ _ hj, wipe_length]
  · rw [wipe_get _ hj]
theorem noer_fiE {g : Gx} {F O H : Hp} {σ : L2.St} {ρ : Type} {m : M ρ} {t : ρ → Sl} {Γ' : ρ → List Sl} {Q : VK} (f : FiE g F O H (fun _ _ _ _ => False) σ (noer m) t Γ' Q) : FiE g F O H (fun _ _ _ _ => False) σ m t Γ' Q := by
  cases m with
  | st => exact f
  | er x => exact f.elim
  | ok r => exact f
theorem lcE_body (l : ρ → List α) (enc : α → D) (encB : β → D) (s0 : S) (ΓL : S → List Sl) (ΓT : S → α → List Sl) (me : S → α → M (β × S)) (Γe : S → α → β × S → List Sl) {g0 : TG} (hi : JI X (ΓL s0) tg iter m (fun r => (l r).map enc)) (hv : ∀ s, ∀ i ∈ own.map (·.2), (ΓL s)[i]? = some .un)
    (hT : ∀ s a, TgB (gx X) (own.map (·.2)) g0 (ΓL s) (enc a) (ΓT s a)) (he : ∀ s a s' H C cl fp, JE (blk X scope s' H C cl fp) (ΓT s a) elt (me s a) (fun b => .va (encB b.1)) (Γe s a)) (hw : ∀ s a p, Wk (Γe s a p) (ΓL p.2)) :
    ∃ wi, PI X tg iter wi ∧ ∀ (F O : Hp) (σ : L2.St) (H : Hp) (Q : VK) (W : WX), Sat (gx X) F (ΓL s0) σ O H → L2N.Takes X W → FiE (gx X) F O H W σ (lcEM m l s0 me) (fun q => .ow none (.lst (q.1.map encB))) (fun q => ΓL q.2) Q → tLc wi g0 tYes (REb X scope elt) (own.map (·.2)) σ H Q := by
  obtain ⟨wi, pi, hw0⟩ := hi
  refine ⟨wi, pi, fun F O σ H Q W S tk f => ?_⟩
  refine hw0 F O σ H _ W S tk ?_
  revert f
  unfold lcEM
  cases m with
  | st => exact id
  | er x => exact id
  | ok r =>
    intro f F1 J H1 G it D hD
    have S1 := S.grow G
    have f : FiE (gx X) F O H W σ (bnd (chk ((l r).length ≤ sizeLine) ()) fun _ => lcE (l r) s0 me) (fun q => .ow none (.lst (q.1.map encB))) (fun q => ΓL q.2) Q := f
    unfold chk at f
    by_cases hz : (l r).length ≤ sizeLine
    · rw [if_pos hz] at f
      have f1 : FiE (gx X) F1 O H1 W σ (bnd (lcE ((l r).drop 0) s0 me) fun q => .ok ([] ++ q.1, q.2)) (fun q => .ow none (.lst (q.1.map encB))) (fun q => ΓL q.2) Q := by
        have f2 : FiE (gx X) F1 O H1 W σ (lcE (l r) s0 me) (fun q => .ow none (.lst (q.1.map encB))) (fun q => ΓL q.2) Q := FiE.step S.fh S1.fo f (G.trnO S)
        rw [List.drop_zero]
        revert f2
        cases lcE (l r) s0 me with
        | st => exact id
        | er x => exact id
        | ok ys => exact id
      have nO : O D = none := by
        cases z : O D with
        | none => rfl
        | some u => rw [S1.oh D u z] at hD; cases hD
      have nF : F1 D = none := by
        cases z : F1 D with
        | none => rfl
        | some u => rw [S1.fh D u z] at hD; cases hD
      have eD : ∀ (H0 : Hp) (o : HO), Ex H1 H0 → (∀ a u, H0 a = some u → True) → True := fun _ _ _ _ => trivial
      refine ⟨fun i m H' => m = (l r).length - i ∧ i ≤ (l r).length ∧ ∃ s bs acc F' O', bs.length ≤ i ∧ Sat (gx X) F' (ΓL s) σ O' H' ∧ Trn F1 O H1 F' O' H' ∧ H' D = some (.lst acc) ∧ F' D = none ∧ O' D = none ∧ Reps (gx X) F' acc (bs.map encB) ∧
          FiE (gx X) F1 O H1 W σ (bnd (lcE ((l r).drop i) s me) fun q => .ok (bs ++ q.1, q.2)) (fun q => .ow none (.lst (q.1.map encB))) (fun q => ΓL q.2) Q,
        ⟨_, rfl, Nat.zero_le _, s0, [], [], F1, O, Nat.le_refl _, ⟨S1.l, S1.fh.trans (Ex.new hD), S1.oh.trans (Ex.new hD), S1.fo⟩, ⟨Ex.refl _, fun a o e _ => Ex.new hD a o e, fun a _ z1 z2 => ⟨z1, z2⟩⟩, upd_same, nF, nO, .nil, f1⟩, ?_⟩
      rintro i m' H' ⟨rfl, hi, s, bs, acc, F', O', hbl, S', T', hDa, hFD, hOD, ra, f'⟩
      by_cases hlt : i < (l r).length
      · obtain ⟨a, ha⟩ : ∃ a, (l r)[i]? = some a := ⟨_, List.getElem?_eq_getElem hlt⟩
        refine .inr ⟨it.go i H' (by rw [List.length_map]; exact hlt) (T'.ff.trans S'.fh), fun H2 => i + 1 ≤ (l r).length ∧ ∃ s bs acc F' O', bs.length ≤ i + 1 ∧ Sat (gx X) F' (ΓL s) σ O' H2 ∧ Trn F1 O H1 F' O' H2 ∧ H2 D = some (.lst acc) ∧ F' D = none ∧ O' D = none ∧ Reps (gx X) F' acc (bs.map encB) ∧
            FiE (gx X) F1 O H1 W σ (bnd (lcE ((l r).drop (i + 1)) s me) fun q => .ok (bs ++ q.1, q.2)) (fun q => .ow none (.lst (q.1.map encB))) (fun q => ΓL q.2) Q,
          fun H2 q => ⟨(l r).length - (i + 1), by omega, rfl, q.1, q.2⟩, fun x H2 yy => ?_⟩
        obtain ⟨F2, G2, rv⟩ := it.yld i F' H' x H2 (enc a) (by rw [List.getElem?_map, ha]; rfl) T'.ff S'.fh yy
        have S2 := (S'.grow G2).wiped (hv s)
        refine hT s a F2 O' (wipe σ (own.map (·.2))) H2 x _ S2 rv fun O3 σ3 S3 mm ew => ?_
        refine ⟨ew.trans (wipe_wipe σ _), ?_⟩
        rw [drop_cons ha] at f'
        have f' : FiE (gx X) F1 O H1 W σ (bnd (bnd (noer (me s a)) fun p => bnd (lcE ((l r).drop (i + 1)) p.2 me) fun q => .ok (p.1 :: q.1, q.2)) fun q => .ok (bs ++ q.1, q.2)) (fun q => .ow none (.lst (q.1.map encB))) (fun q => ΓL q.2) Q := f'
        unfold tYes
        simp only [if_true]
        intro s' H0 C cl fp
        have h2D : H2 D = some (.lst acc) := G2.hh D _ hDa
        have f2D : F2 D = none := G2.nf D (ne_none hDa) hFD
        have o3D : O3 D = none := by
          cases z : O3 D with
          | none => rfl
          | some u => rw [mm D u z] at hOD; cases hOD
        refine he s a s' H0 C cl fp F2 O3 σ3 H2 _ (fun _ _ _ _ => False) S3 takesB (noer_fiE (FiE.val ?_))
        revert f'
        cases hme : noer (me s a) with
        | st => exact id
        | er x => cases h : me s a <;> rw [h] at hme <;> cases hme
        | ok p =>
          intro f' F4 O4 v H4 S4 T4 rb
          have h4D := T4.keep D _ h2D o3D
          obtain ⟨f4D, o4D⟩ := T4.sep D (ne_none h2D) f2D o3D
          obtain ⟨O5, S5, m5⟩ := S4.weak (hw s a p)
          have o5D : O5 D = none := by
            cases z : O5 D with
            | none => rfl
            | some u => rw [m5 D u z] at o4D; cases o4D
          have S6 : Sat (gx X) F4 (ΓL p.2) σ O5 H4 := S5.unwipe (hv p.2) (ew.trans (wipe_wipe σ _))
          have TT : Trn F1 O H1 F4 O5 H4 := Trn.trans S1.fh S'.fo T' (Trn.trans S'.fh (S'.grow G2).fo (G2.trnO S') (Trn.trans S2.fh S3.fo (Trn.refl.less mm) (T4.less m5)))
          have up : ∀ b u, b ≠ D → H4 b = some u → L2.upd H4 D (.lst (acc ++ [v])) b = some u := fun b u hb e => by rw [upd_ne hb]; exact e
          refine ⟨acc, h4D, ?_, hlt, p.2, bs ++ [p.1], acc ++ [v], F4, O5, by rw [List.length_append, List.length_singleton]; omega, ⟨S6.l, fun b u e => up b u (fun z => by subst z; rw [f4D] at e; cases e) (S6.fh b u e), fun b u e => up b u (fun z => by subst z; rw [o5D] at e; cases e) (S6.oh b u e), S6.fo⟩,
            ⟨TT.ff, fun b u e1 e2 => up b u (fun z => by subst z; rw [hD] at e1; cases e1) (TT.keep b u e1 e2), TT.sep⟩, upd_same, f4D, o5D, ?_, ?_⟩
          · rw [ra.length, List.length_map]; omega
          · rw [List.map_append]; exact (ra.mono (G2.ff.trans T4.ff)).append (.cons rb .nil)
          · have f' : FiE (gx X) F1 O H1 W σ (bnd (bnd (lcE ((l r).drop (i + 1)) p.2 me) fun q => .ok (p.1 :: q.1, q.2)) fun q => .ok (bs ++ q.1, q.2)) (fun q => .ow none (.lst (q.1.map encB))) (fun q => ΓL q.2) Q := f'
            rw [bnd_assoc] at f'
            revert f'
            cases lcE ((l r).drop (i + 1)) p.2 me with
            | st => exact id
            | er x => exact id
            | ok ys =>
              show FiE _ _ _ _ _ _ (M.ok (bs ++ (p.1 :: ys.1), ys.2)) _ _ _ → FiE _ _ _ _ _ _ (M.ok ((bs ++ [p.1]) ++ ys.1, ys.2)) _ _ _
              rw [List.append_assoc]
              exact id
      · have e : i = (l r).length := by omega
        subst e
        refine .inl ⟨?_, ?_⟩
        · have := it.stop H' (T'.ff.trans S'.fh)
          rwa [List.length_map] at this
        · rw [List.drop_length] at f'
          have f' : FiE (gx X) F1 O H1 W σ (.ok (bs ++ [], s)) (fun q => .ow none (.lst (q.1.map encB))) (fun q => ΓL q.2) Q := f'
          rw [List.append_nil] at f'
          have sgo : ∀ b u, uni (sg D (.lst acc)) O' b = some u → (b = D ∧ u = .lst acc) ∨ O' b = some u := fun b u z => (of_uni z).imp_left of_sg
          refine f' F' (uni (sg D (.lst acc)) O') (.ref D) H' ⟨.cons ⟨D, _, rfl, rfl, ⟨acc, rfl, ra⟩, fun _ z => (by cases z)⟩ S'.l fun b => ?_, S'.fh, fun b u z => ?_, fun b => ?_⟩ ⟨T'.ff, fun b u e1 e2 => T'.keep b u e1 e2, fun b z1 z2 z3 => ?_⟩
          · by_cases hb : b = D
            · subst hb; exact .inr hOD
            · exact .inl (sg_ne hb)
          · rcases sgo b u z with ⟨z1, z2⟩ | z
            · subst z1; subst z2; exact hDa
            · exact S'.oh b u z
          · by_cases hb : b = D
            · subst hb; exact .inl hFD
            · rw [uni_r (sg_ne hb)]; exact S'.fo b
          · obtain ⟨w1, w2⟩ := T'.sep b z1 z2 z3
            have hb : b ≠ D := fun y => by subst y; exact z1 hD
            exact ⟨w1, by rw [uni_r (sg_ne hb)]; exact w2⟩
    · rw [if_neg hz] at f; exact f.elim
theorem je_lcE (l : ρ → List α) (enc : α → D) (encB : β → D) (s0 : S) (ΓL : S → List Sl) (ΓT : S → α → List Sl) (me : S → α → M (β × S)) (Γe : S → α → β × S → List Sl) {g0 : TG} (hi : JI X (ΓL s0) tg iter m (fun r => (l r).map enc)) (hv : ∀ s, ∀ i ∈ own.map (·.2), (ΓL s)[i]? = some .un)
    (hT : ∀ s a, TgB (gx X) (own.map (·.2)) g0 (ΓL s) (enc a) (ΓT s a)) (he : ∀ s a s' H C cl fp, JE (blk X scope s' H C cl fp) (ΓT s a) elt (me s a) (fun b => .va (encB b.1)) (Γe s a)) (hw : ∀ s a p, Wk (Γe s a p) (ΓL p.2))
    (hcm : X.calm = true) (hN : X.N.Nodup) (ok : BlkOk X.N X.env.scope scope own) (hg : ∀ (s : Shared) (H : Hp) (C : Addr) (cl : List (Str × Addr)) (fp : List Addr), PG (X.blk s H scope (compEnvC scope cl C X.env) fp) tg g0)
    (hs : ∀ x, foldedSetIterable iter X.env x = pure x := by intro _; rfl) : JE X (ΓL s0) (.ListComp elt [⟨tg, iter, [], 0⟩] scope pos) (lcEM m l s0 me) (fun q => .ow none (.lst (q.1.map encB))) (fun q => ΓL q.2) := fun F O σ H Q W S tk f => by
  obtain ⟨wi, pi, hw⟩ := lcE_body (own := own) (scope := scope) l enc encB s0 ΓL ΓT me Γe hi hv hT he hw
  exact RE.of (pe_lc hcm hN pi ok hg (fun _ _ _ _ _ => pts_nil) peRb hs) (hw F O σ H Q W S tk f)
theorem js_setLcE (i : Nat) (l : ρ → List α) (enc : α → D) (encB : β → D) (s0 : S) (ΓL : S → List Sl) (ΓT : S → α → List Sl) (me : S → α → M (β × S)) (Γe : S → α → β × S → List Sl) {g0 : TG} {k : List β × S → M ζ} (Γ2 : List β × S → List Sl) (hi : JI X (ΓL s0) tg iter m (fun r => (l r).map enc)) (hv : ∀ s, ∀ i ∈ own.map (·.2), (ΓL s)[i]? = some .un)
    (hT : ∀ s a, TgB (gx X) (own.map (·.2)) g0 (ΓL s) (enc a) (ΓT s a)) (he : ∀ s a s' H C cl fp, JE (blk X scope s' H C cl fp) (ΓT s a) elt (me s a) (fun b => .va (encB b.1)) (Γe s a)) (hw : ∀ s a p, Wk (Γe s a p) (ΓL p.2))
    (h2 : ∀ q, JG X Γx (Γ2 q) (rest :: K) (k q) π)
    (hcm : X.calm = true) (hN : X.N.Nodup) (ok : BlkOk X.N X.env.scope scope own) (hg : ∀ (s : Shared) (H : Hp) (C : Addr) (cl : List (Str × Addr)) (fp : List Addr), PG (X.blk s H scope (compEnvC scope cl C X.env) fp) tg g0)
    (hsw : swapsWith (.ListComp elt [⟨tg, iter, [], 0⟩] scope pos) (some (.Name y py)) pos'.line X.env = pure true) (hΓ : ∀ q, Γ2 q = (ΓL q.2).set i (.ow none (.lst (q.1.map encB))) := by intro _; rfl) (hy : X.N[i]? = some y := by rfl) (hyl : X.env.scope.names.lookup y = some .local := by rfl)
    (hs : ∀ x, foldedSetIterable iter X.env x = pure x := by intro _; rfl) (hx : Sub Γx (ΓL s0) := by exact Sub.nil) :
    JG X Γx (ΓL s0) ((.Assign [.Name y py] (.ListComp elt [⟨tg, iter, [], 0⟩] scope pos) pos' :: rest) :: K) (bnd (lcEM m l s0 me) k) π := fun F O σ H D W S tk f => by
  obtain ⟨wi, pi, hw⟩ := lcE_body (own := own) (scope := scope) l enc encB s0 ΓL ΓT me Γe hi hv hT he hw
  refine RB.of (pss_cons (ps_setLc (i := i) hcm hN hy hyl hsw pi ok hg (fun _ _ _ _ _ => pts_nil) peRb hs) pssR) (show tLc wi g0 tYes (REb X scope elt) (own.map (·.2)) σ H (fun x H1 => gName i x σ H1 (fun σ' H' => RB X rest { D with nx := fun σ' H' => RBs X K D σ' H' } σ' H')) from hw F O σ H _ W S tk ?_)
  revert f
  cases lcEM m l s0 me with
  | st => exact id
  | er x => exact fun f => FerS.fer (x := x) f (S.l.satV hx)
  | ok q =>
    intro f F1 O1 v H1 S1 T1
    obtain ⟨O2, S2, mm⟩ := satSet (i := i) S1
    rw [← hΓ q] at S2
    exact h2 q F1 O2 _ H1 D W S2 tk (FiS.step S.fh S2.fo f (T1.less mm))
end
end Z
set_option Elab.async false
set_option linter.all false
set_option maxRecDepth 100000
set_option maxHeartbeats 4000000
namespace Z
open PySem PySem.Spec L2
section
variable {X : Cx} {Γ Γx : List Sl} {e a b c tg iter : Expr} {es : List Expr} {p pos pos' py p2 tpos : Pos} {ρ ρ1 ρ2 ζ α β : Type} {m : M ρ} {kk : Nat} {elts : List Expr}
theorem ji_enT {enc : α → D} {l : ρ → List α} (h : JP X Γ e m (fun r => .va (.tup ((l r).map enc)))) (hm : X.mg "enumerate" = none) (hg : Gl X "enumerate" := by rfl) (hs : starEach [e] X.env = [(false, eval e X.env)] := by rfl) :
    JI X Γ (.Tuple elts kk tpos) (.Call (.Name "enumerate" p) [e] [] pos) m (fun r => (enumL (l r)).map (encP D.int enc)) :=
  (ji_enumT h hm hg hs).xs fun r => by rw [enumL_map, List.map_map]; rfl
theorem ji_enL {enc : α → D} {l : ρ → List α} (h : JP X Γ e m (fun r => .va (.lst ((l r).map enc)))) (hm : X.mg "enumerate" = none) (hg : Gl X "enumerate" := by rfl) (hs : starEach [e] X.env = [(false, eval e X.env)] := by rfl) :
    JI X Γ (.Tuple elts kk tpos) (.Call (.Name "enumerate" p) [e] [] pos) m (fun r => (enumL (l r)).map (encP D.int enc)) :=
  (ji_enumL h hm hg hs).xs fun r => by rw [enumL_map, List.map_map]; rfl
theorem jt_stuck : JT X Γ e .st := fun F O σ H Q W S tk f => f.elim
theorem jw_stuck : JW X Γ e .st := fun F O σ H Q W S tk f => f.elim
theorem jp_stuck {t : ρ → Sl} : JP X Γ e (.st : M ρ) t := fun F O σ H Q W S tk f => f.elim
theorem un1 {x : Str} {i : Nat} (h : Γ[i]? = some .un) : ∀ j ∈ [(x, i)].map (·.2), Γ[j]? = some .un := fun j hj => by
  have : j = i := by simpa using hj
  subst this; exact h
theorem un2 {x y : Str} {i k : Nat} (h : Γ[i]? = some .un) (h2 : Γ[k]? = some .un) : ∀ j ∈ [(x, i), (y, k)].map (·.2), Γ[j]? = some .un := fun j hj => by
  have : j = i ∨ j = k := by simpa using hj
  rcases this with q | q <;> subst q <;> assumption
theorem je_frzR {Γ1 : ρ → List Sl} {d : ρ → D} (h : JE X Γ e m (fun r => .ow none (d r)) Γ1) : JE X Γ e m (fun r => .va (d r)) Γ1 := fun F O σ H Q W S tk f => h F O σ H Q W S tk (by
  cases m with
  | st => exact f
  | er x => exact f
  | ok r =>
    intro F' O' v H' S' T
    obtain ⟨F2, O2, S2, T2, _⟩ := S'.frz (i := 0) rfl
    exact f F2 O2 v H' S2 (Trn.trans S.fh S'.fo T T2))
/-- an int as a test -/
theorem jt_int {z : ρ → Int} (h : JP X Γ e m (fun r => .va (.int (z r)))) (he : ∀ whole, isTrue e X.env whole = (do let v ← whole; standAt e.pos; holding [v] (truthy v)) := by intro _; rfl) : JT X Γ e (bnd m fun r => .ok (!decide (z r = 0))) := fun F O σ H Q W S tk f =>
  RT.of (pt_truth peR he) (h F O σ H _ W S tk (by
    revert f
    cases m with
    | st => exact id
    | er x => exact id
    | ok r =>
      intro f F1 hh v H1 G k
      obtain ⟨eh, rv⟩ := Sl.va_of k
      subst eh
      cases rv
      refine ⟨_, rfl, ?_⟩
      have q := f F1 H1 G
      have e : (z r != 0) = !decide (z r = 0) := by by_cases h : z r = 0 <;> simp [h]
      rw [e]; exact q))
end
end Z
set_option Elab.async false
set_option linter.all false
set_option maxRecDepth 100000
set_option maxHeartbeats 4000000
namespace Z
open PySem PySem.Spec L2
instance (a b : Int) : Decidable (RgOk a b) := by unfold RgOk; infer_instance
def lrg (a b : Int) : M (List Int) := chk (RgOk a b) (rangeL a b)
theorem rgV_eq (a b : Int) : rgV a b = (rangeL a b).map V.int := by unfold rgV rangeL; rw [List.map_map]; rfl
section
variable {X : Cx} {Γ Γx : List Sl} {e a b c tg iter : Expr} {es : List Expr} {p pos pos' py p2 tpos : Pos} {ρ ρ1 ρ2 ζ α β : Type} {m : M ρ} {m1 : M ρ1} {t : ρ → Sl} {t1 : ρ1 → Sl}
/-- list(range(a)) -/
theorem jp_listRg {z : ρ → Int} (h : JP X Γ a m (fun r => .va (.int (z r)))) (hcm : X.calm = true) (hml : X.mg "list" = none) (hm : X.mg "range" = none) (hgl : Gl X "list" := by rfl) (hg : Gl X "range" := by rfl) (na : starEach [a] X.env = (false, eval a X.env) :: starEach [] X.env := by rfl)
    (nl : starEach [.Call (.Name "range" p2) [a] [] pos'] X.env = (false, eval (.Call (.Name "range" p2) [a] [] pos') X.env) :: starEach [] X.env := by rfl) :
    JP X Γ (.Call (.Name "list" p) [.Call (.Name "range" p2) [a] [] pos'] [] pos) (bnd m fun r => lrg 0 (z r)) (fun l => .ow none (.lst (l.map .int))) := fun F O σ H Q W S tk f =>
  RE.of (pe_listRg hcm hgl hml (prg_1 hg hm peR na) nl) (h F O σ H _ W S tk (by
    have f1 := f.bnd S (t1 := fun r => .va (.int (z r)))
    revert f1
    cases m with
    | st => exact id
    | er x => exact id
    | ok r =>
      intro f1 F1 hh v H1 G k1
      obtain ⟨r', F1, h1', e, G, k1, S1, f2⟩ := f1 F1 hh v H1 G k1
      cases e
      obtain ⟨_, rv⟩ := Sl.va_of k1
      cases rv
      unfold lrg chk at f2
      by_cases h : RgOk 0 (z r)
      · rw [if_pos h] at f2
        refine ⟨z r, rfl, h, fun q hq => ?_⟩
        rw [rgV_eq]
        exact f2 _ _ _ _ ((Grow.refl S1.fh).own hq _) ⟨q, _, rfl, rfl, ⟨_, rfl, ints_reps _⟩, fun _ z => (by cases z)⟩
      · rw [if_neg h] at f2; exact f2.elim))
/-- the value in another form -/
theorem JP.cv (f : ρ1 → ρ) (h : JP X Γ e m1 t1) (ht : ∀ r, t1 r = t (f r) := by intro _; rfl) : JP X Γ e (bnd m1 fun r => .ok (f r)) t := fun F O σ H Q W S tk q => h F O σ H Q W S tk (by
  cases m1 with
  | st => exact q
  | er x => exact q
  | ok r => intro F' h' v H' G k; rw [ht r] at k; exact q F' h' v H' G k)
theorem JE.cv {Γ1 : ρ1 → List Sl} {Γ' : ρ → List Sl} (f : ρ1 → ρ) (h : JE X Γ e m1 t1 Γ1) (ht : ∀ r, t1 r = t (f r) := by intro _; rfl) (hΓ : ∀ r, Γ1 r = Γ' (f r) := by intro _; rfl) : JE X Γ e (bnd m1 fun r => .ok (f r)) t Γ' := fun F O σ H Q W S tk q => h F O σ H Q W S tk (by
  cases m1 with
  | st => exact q
  | er x => exact q
  | ok r => intro F' O' v H' S' T; rw [ht r, hΓ r] at S'; exact q F' O' v H' S' T)
/-- at a written place of a written tuple or list, the part as a value -/
theorem od_ixTv {ds : List D} {i : Int} (enc : α → D) (v : α) (h : atI ds i = some (enc v) := by rfl) : OpJ (gx X) (rIxT X.K) (.tup ds) (.int i) (.ok v) (fun a => .va (enc a)) := fun F O H u w Q W σ e r1 r2 q => by
  cases r2
  obtain ⟨a, vs, rfl, sq, rs⟩ := r1.tup_of
  obtain ⟨w, hw, rw'⟩ := rs.at_ h
  exact ⟨a, vs, i, w, rfl, rfl, e.sq sq, hw, q.done e ⟨rfl, _, rfl, rw'⟩⟩
theorem od_ixLv {ds : List D} {i : Int} (enc : α → D) (v : α) (h : atI ds i = some (enc v) := by rfl) : OpJ (gx X) (rIxL X.K) (.lst ds) (.int i) (.ok v) (fun a => .va (enc a)) := fun F O H u w Q W σ e r1 r2 q => by
  cases r2
  obtain ⟨a, vs, rfl, sq, rs⟩ := r1.lst_of
  obtain ⟨w, hw, rw'⟩ := rs.at_ h
  exact ⟨a, vs, i, w, rfl, rfl, SqL.of (e _ _ sq), hw, q.done e ⟨rfl, _, rfl, rw'⟩⟩
/-- o.f, the part as a value -/
theorem jp_fldv {f : Str} {C : Addr} {gs : ρ → List (Str × D)} (enc : α → D) (v : ρ → α) (h : JP X Γ e m (fun r => .va (.ob C (gs r)))) (hc : Cls X.K C) (hn : NoAttr X.K C f) (hl : ∀ r, (gs r).lookup f = some (enc (v r)) := by intro _; rfl) (hb : attributeBase e f X.env (eval e X.env) = eval e X.env := by rfl) :
    JP X Γ (.Attribute e f pos) (bnd m fun r => .ok (v r)) (fun a => .va (enc a)) := JP.cv v (jp_fld h hc hn hl hb)
theorem hu64 {k : Nat} {A : Around} (hr : Room k A) : A.units + 65 < cLine := by have := hr.un; omega
theorem hu1 {k : Nat} {A : Around} (hr : Room k A) : A.units + 1 < cLine := by have := hr.un; omega
theorem hu63 {k : Nat} {A : Around} (hr : Room k A) : A.units + 64 < cLine := by have := hr.un; omega
end
end Z
namespace Z
open PySem PySem.Spec L2
section
variable {X : Cx} {α : Type} {xs : List α} {enc : α → D}
theorem ar_lenT : ArJ (gx X) (fun vs H Q => ∃ x n, vs = [x] ∧ LenV X.K x H n ∧ Q (.int n) H) [.tup (xs.map enc)] (.ok (xs.length : Int)) vI := fun F O H vs Q W σ e r q => ar_len F O H vs Q W σ e r (by show Fi _ _ _ _ _ _ (M.ok ((xs.map enc).length : Int)) _ _; rw [List.length_map]; exact q)
theorem ar_lenL : ArJ (gx X) (fun vs H Q => ∃ x n, vs = [x] ∧ LenV X.K x H n ∧ Q (.int n) H) [.lst (xs.map enc)] (.ok (xs.length : Int)) vI := fun F O H vs Q W σ e r q => ar_len F O H vs Q W σ e r (by show Fi _ _ _ _ _ _ (M.ok ((xs.map enc).length : Int)) _ _; rw [List.length_map]; exact q)
theorem ar_lenR : ArJ (gx X) (fun vs H Q => ∃ x n, vs = [x] ∧ LenV X.K x H n ∧ Q (.int n) H) [.rol (xs.map enc)] (.ok (xs.length : Int)) vI := fun F O H vs Q W σ e r q => ar_len F O H vs Q W σ e r (by show Fi _ _ _ _ _ _ (M.ok ((xs.map enc).length : Int)) _ _; rw [List.length_map]; exact q)
abbrev rTupleOf (X : Cx) : List V → Hp → VK → Prop := fun vs H Q => ∃ p ys, vs = [.ref p] ∧ ((SqL X.K H p ys ∧ ∀ l, H l = none → Q (.ref l) (upd H l (.tup ys))) ∨ (SqT X.K H p ys ∧ Q (.ref p) H))
theorem ar_tupleT : ArJ (gx X) (rTupleOf X) [.tup (xs.map enc)] (.ok xs) (fun l => .va (.tup (l.map enc))) := fun F O H vs Q W σ e r q => ar_tuple F O H vs Q W σ e r q
theorem ar_tupleL : ArJ (gx X) (rTupleOf X) [.lst (xs.map enc)] (.ok xs) (fun l => .va (.tup (l.map enc))) := fun F O H vs Q W σ e r q => ar_tuple F O H vs Q W σ e r q
theorem ar_tupleR : ArJ (gx X) (rTupleOf X) [.rol (xs.map enc)] (.ok xs) (fun l => .va (.tup (l.map enc))) := fun F O H vs Q W σ e r q => ar_tuple F O H vs Q W σ e r q
abbrev rListOf (X : Cx) : List V → Hp → VK → Prop := fun vs H Q => ∃ p ys, vs = [.ref p] ∧ (SqL X.K H p ys ∨ SqT X.K H p ys) ∧ ∀ l, H l = none → Q (.ref l) (upd H l (.lst ys))
theorem ar_listT : ArJ (gx X) (rListOf X) [.tup (xs.map enc)] (.ok xs) (fun l => .ow none (.lst (l.map enc))) := fun F O H vs Q W σ e r q => ar_list F O H vs Q W σ e r q
theorem ar_listL : ArJ (gx X) (rListOf X) [.lst (xs.map enc)] (.ok xs) (fun l => .ow none (.lst (l.map enc))) := fun F O H vs Q W σ e r q => ar_list F O H vs Q W σ e r q
theorem ar_listR : ArJ (gx X) (rListOf X) [.rol (xs.map enc)] (.ok xs) (fun l => .ow none (.lst (l.map enc))) := fun F O H vs Q W σ e r q => ar_list F O H vs Q W σ e r q
theorem boot_bool : bootBuiltins "bool" = some (.type "bool") := by decide +kernel
theorem boot_str : bootBuiltins "str" = some (.type "str") := by decide +kernel
theorem boot_dict : bootBuiltins "dict" = some (.type "dict") := by decide +kernel
end
end Z
set_option Elab.async false
set_option linter.all false
set_option maxRecDepth 100000
set_option maxHeartbeats 4000000
namespace Z
open PySem PySem.Spec L2
/-! ### loops whose iterable changes a slot's object -/
section
variable {X : Cx} {Γ Γx : List Sl} {e tg iter : Expr} {pos : Pos} {ρ ζ ζd α β S : Type} {m : M ρ} {Γ1 : ρ → List Sl} {π : ζ → Out} {πd : ζd → Out}
def FiIE (g : Gx) (F O H : Hp) (W : WX) (σ : L2.St) (m : M ρ) (xs : ρ → List D) (Γ1 : ρ → List Sl) (R : It → Hp → Prop) : Prop := match m with
  | .st => False
  | .ok r => ∀ F' O' J H', Sat g F' (Γ1 r) σ O' H' → Trn F O H F' O' H' → ItOk g F' J (xs r) → R J H'
  | .er x => Fer g F O H W σ x
def JIE (X : Cx) (Γ : List Sl) (tg iter : Expr) {ρ : Type} (m : M ρ) (xs : ρ → List D) (Γ1 : ρ → List Sl) : Prop :=
  ∃ wi, PI X tg iter wi ∧ ∀ (F O : Hp) (σ : L2.St) (H : Hp) (R : It → Hp → Prop) (W : WX), Sat (gx X) F Γ σ O H → L2N.Takes X W → FiIE (gx X) F O H W σ m xs Γ1 R → wi σ H R
theorem fiIE_val {g : Gx} {F O H : Hp} {W : WX} {σ : L2.St} {xs : ρ → List D} {R : It → Hp → Prop} {d : ρ → D} {Q : VK} (f : FiIE g F O H W σ m xs Γ1 R)
    (h : ∀ r F1 O1 v H1, m = .ok r → Sat g F1 (Γ1 r) σ O1 H1 → Rep g F1 v (d r) → (∀ J, ItOk g F1 J (xs r) → R J H1) → Q v H1) : FiE g F O H W σ m (fun r => .va (d r)) Γ1 Q := FiE.val (by
  revert f h
  cases m with
  | st => exact fun f _ => f
  | er x => exact fun f _ => f
  | ok r => exact fun f h F1 O1 v H1 S1 T1 rv => h r F1 O1 v H1 rfl S1 rv fun J it => f F1 O1 J H1 S1 T1 it)
theorem jie_list {ds : ρ → List D} (h : JE X Γ iter m (fun r => .va (.lst (ds r))) Γ1) : JIE X Γ tg iter m ds Γ1 := ⟨_, pi_list peR, fun F O σ H R W S tk f => h F O σ H _ W S tk (fiIE_val f fun r F1 O1 v H1 _ S1 rv k => by
  obtain ⟨a, vs, ev, s, rs⟩ := rv.lst_of
  exact ⟨a, ev, ⟨vs, SqL.of (S1.fh _ _ s)⟩, k _ (it_seqL' (SqL.of s) rs)⟩)⟩
theorem jie_tup {ds : ρ → List D} (h : JE X Γ iter m (fun r => .va (.tup (ds r))) Γ1) : JIE X Γ tg iter m ds Γ1 := ⟨_, pi_tup peR, fun F O σ H R W S tk f => h F O σ H _ W S tk (fiIE_val f fun r F1 O1 v H1 _ S1 rv k => by
  obtain ⟨a, vs, ev, s, rs⟩ := rv.tup_of
  exact ⟨a, ev, ⟨vs, S1.fh.sq s⟩, k _ (it_seqT s rs)⟩)⟩
theorem for_goE {g0 : TG} {body : List Stmt} {xs : ρ → List D} (s0 : ρ → S) (ΓL : S → List Sl) (rem : ρ → Nat → S → M ζ) (hi : JIE X Γ tg iter m xs Γ1) (hg : PG X tg g0) (h0 : ∀ r, Wk (Γ1 r) (ΓL (s0 r))) (hp : PassesOwn (model X.prog X.w) X.A X.env X.xe) (hc : X.calm = true) (hx : Sub Γx Γ)
    (hend : ∀ r s F O σ H D W, m = .ok r → Sat (gx X) F (ΓL s) σ O H → FiS (gx X) F O H W D Γx (rem r (xs r).length s) π → D.nx σ H)
    (hbody : ∀ r i s F O σ H (D : Ends) W v d (N : L2.St → Hp → Prop), m = .ok r → (xs r)[i]? = some d → Sat (gx X) F (ΓL s) σ O H → L2N.Takes X W → Rep (gx X) F v d → FiS (gx X) F O H W D Γx (rem r i s) π →
      (∀ s' F' O' σ' H', Ex F F' → Sat (gx X) F' (ΓL s') σ' O' H' → FiS (gx X) F' O' H' W D Γx (rem r (i + 1) s') π → N σ' H') → g0 v σ H fun σ2 H2 => RB X body { D with nx := N, ct := N, bk := D.nx } σ2 H2)
    (hs : ∀ x, foldedSetIterable iter X.env x = pure x) : JS X Γx Γ (.For tg iter body [] pos) (bnd m fun r => rem r 0 (s0 r)) π := fun F O σ H D W S0 tk f => by
  obtain ⟨wi, pi, hw⟩ := hi
  refine RS.of (ps_for hp hc pi hg pssR hs) (hw F O σ H _ W S0 tk ?_)
  revert f hend hbody
  cases m with
  | st => exact fun _ _ z => z
  | er x => exact fun _ _ z => FerS.fer z (S0.l.satV hx)
  | ok r =>
    intro hend hbody f F1 O1 J H1 S1 T1 it
    have f1 : FiS (gx X) F1 O1 H1 W D Γx (rem r 0 (s0 r)) π := FiS.step S0.fh S1.fo f T1
    obtain ⟨O2, S2, mm⟩ := S1.weak (h0 r)
    have f2 := FiS.step S1.fh S2.fo f1 (Trn.refl.less mm)
    refine ⟨fun i m σ' H' => m = (xs r).length - i ∧ i ≤ (xs r).length ∧ ∃ s F' O', Ex F1 F' ∧ Sat (gx X) F' (ΓL s) σ' O' H' ∧ FiS (gx X) F' O' H' W D Γx (rem r i s) π, ⟨_, rfl, Nat.zero_le _, s0 r, F1, O2, Ex.refl _, S2, f2⟩, ?_⟩
    rintro i m' σ' H' ⟨rfl, hi, s, F', O', e', S', f'⟩
    by_cases hlt : i < (xs r).length
    · refine .inr ⟨it.go i H' hlt (e'.trans S'.fh), fun σ2 H2 => i + 1 ≤ (xs r).length ∧ ∃ s F' O', Ex F1 F' ∧ Sat (gx X) F' (ΓL s) σ2 O' H2 ∧ FiS (gx X) F' O' H2 W D Γx (rem r (i + 1) s) π, fun σ2 H2 q => ⟨(xs r).length - (i + 1), by omega, rfl, q.1, q.2⟩, fun x H2 y => ?_⟩
      obtain ⟨F2, G2, rv⟩ := it.yld i F' H' x H2 _ (List.getElem?_eq_getElem hlt) e' S'.fh y
      have S3 := S'.grow G2
      refine hbody r i s F2 O' σ' H2 D W x _ _ rfl (List.getElem?_eq_getElem hlt) S3 tk rv (FiS.step S'.fh S3.fo f' (G2.trnO S')) fun s' F3 O3 σ3 H3 e4 S4 f4 => ?_
      exact ⟨hlt, s', F3, O3, (e'.trans G2.ff).trans e4, S4, f4⟩
    · have e : i = (xs r).length := by omega
      subst e
      exact .inl ⟨it.stop H' (e'.trans S'.fh), hend r s F' O' σ' H' D W rfl S' f'⟩
theorem jl_forRE {g0 : TG} {body : List Stmt} (l : ρ → List α) (enc : α → D) (s0 : ρ → S) (ΓL : S → List Sl) (ΓT : S → α → List Sl) (mb : S → α → M (Lo S ζd)) (hi : JIE X Γ tg iter m (fun r => (l r).map enc) Γ1) (hg : PG X tg g0) (h0 : ∀ r, Wk (Γ1 r) (ΓL (s0 r)))
    (hT : ∀ s a, TgOk (gx X) g0 (ΓL s) (enc a) (ΓT s a)) (hb : ∀ s a, JG X Γx (ΓT s a) [body] (mb s a) (Lo.out ΓL πd)) (hr : ∀ z, ∃ t q, πd z = .rt t q := by exact fun _ => ⟨_, _, rfl⟩) (hp : PassesOwn (model X.prog X.w) X.A X.env X.xe) (hc : X.calm = true := by rfl) (hx : Sub Γx Γ := by exact Sub.nil)
    (hs : ∀ x, foldedSetIterable iter X.env x = pure x := by intro _; rfl) : JS X Γx Γ (.For tg iter body [] pos) (bnd m fun r => forR (l r) (s0 r) mb) (Pt.out ΓL πd) :=
  fun F O σ H D W S0 tk f => for_goE (ζ := Pt S ζd) (π := Pt.out ΓL πd) s0 ΓL (fun r i s => forR ((l r).drop i) s mb) hi hg h0 hp hc hx
    (fun r s F O σ H D W _ S1 f1 => by
      rw [List.length_map, List.drop_length] at f1
      exact f1 F O σ H S1 Trn.refl)
    (fun r i s F O σ H D W v d N _ hd S1 tk1 rv f1 hN => by
      rw [List.getElem?_map] at hd
      cases ha : (l r)[i]? with
      | none => rw [ha] at hd; cases hd
      | some a =>
        rw [ha] at hd
        have hd : enc a = d := Option.some.inj hd
        subst hd
        rw [drop_cons ha] at f1
        refine hT s a F O σ H v _ S1 rv fun O' σ' S2 mm => (hb s a F O' σ' H { D with nx := N, ct := N, bk := D.nx } W S2 tk1 ?_ :)
        have f2 := FiS.step S1.fh S2.fo f1 (Trn.refl.less mm)
        unfold forR at f2
        revert f2
        cases mb s a with
        | st => exact id
        | er x => exact id
        | ok o =>
          cases o with
          | go s' => exact fun f3 F' O2 σ2 H2 S3 T => have z := hN s' F' O2 σ2 H2 T.ff S3 (FiS.step S2.fh S3.fo f3 T); ⟨z, z⟩
          | br s' => exact fun f3 F' O2 σ2 H2 S3 T => f3 F' O2 σ2 H2 S3 T
          | dn z =>
            intro f3
            have f3 : OutOk (gx X) F O' H D (πd z) := f3
            show OutOk (gx X) F O' H _ (πd z)
            obtain ⟨t, q, e⟩ := hr z
            rw [e] at f3 ⊢
            cases q <;> exact f3)
    hs F O σ H D W S0 tk (by simpa using f)
end
end Z
set_option Elab.async false
set_option linter.all false
set_option maxRecDepth 100000
set_option maxHeartbeats 4000000
namespace Z
open PySem PySem.Spec L2
section
variable {X : Cx} {Γ Γx : List Sl} {kx vx tg iter c e : Expr} {scope : Scope} {own : List (Str × Nat)} {pos pos' py : Pos} {ρ ζ α β : Type} {m : M ρ} {rest : List Stmt} {K : List (List Stmt)} {π : ζ → Out} {y : Str}
theorem dt_body (l : ρ → List α) (enc : α → D) (encB : β → D) (ΓT : α → List Sl) (mk : α → M (List Int)) (mv : α → M β) {g0 : TG} (hi : JI X Γ tg iter m (fun r => (l r).map enc)) (hv : ∀ i ∈ own.map (·.2), Γ[i]? = some .un)
    (hT : ∀ a, TgB (gx X) (own.map (·.2)) g0 Γ (enc a) (ΓT a)) (hk : ∀ a s H C cl fp, JP (blk X scope s H C cl fp) (ΓT a) kx (mk a) (fun k => .va (.tup (k.map .int)))) (he : ∀ a s H C cl fp, JP (blk X scope s H C cl fp) (ΓT a) vx (mv a) (fun b => .va (encB b))) :
    ∃ wi, PI X tg iter wi ∧ ∀ (F O : Hp) (σ : L2.St) (H : Hp) (Q : VK) (W : WX), Sat (gx X) F Γ σ O H → L2N.Takes X W → Fi (gx X) F O H W σ (dcM m l mk mv) (fun ys => .ow none (encT encB ys)) Q → tDt wi g0 tYes (REb X scope kx) (REb X scope vx) (own.map (·.2)) σ H Q := by
  obtain ⟨wi, pi, hw⟩ := hi
  refine ⟨wi, pi, fun F O σ H Q W S tk f => ?_⟩
  refine hw F O σ H _ W S tk ?_
  unfold dcM at f
  revert f
  cases m with
  | st => exact id
  | er x => exact id
  | ok r =>
    intro f F1 J H1 G it D hD
    have S1 := S.grow G
    have f : Fi (gx X) F O H W σ (bnd (chk ((l r).length ≤ 1000000) ()) fun _ => dcP (l r) mk mv []) (fun ys => .ow none (encT encB ys)) Q := f
    unfold chk at f
    by_cases hz : (l r).length ≤ 1000000
    · rw [if_pos hz] at f
      have f1 : Fi (gx X) F1 O H1 W σ (dcP ((l r).drop 0) mk mv []) (fun ys => .ow none (encT encB ys)) Q := Fi.shift S f G
      refine ⟨fun i m H' => m = (l r).length - i ∧ i ≤ (l r).length ∧ ∃ bs acc F', bs.length ≤ i ∧ Grow F1 H1 F' (sg D (.dT acc)) H' ∧ Rept (gx X) F' acc (bs.map fun p => (p.1, encB p.2)) ∧ Fi (gx X) F1 O H1 W σ (dcP ((l r).drop i) mk mv bs) (fun ys => .ow none (encT encB ys)) Q,
        ⟨_, rfl, Nat.zero_le _, [], [], F1, Nat.le_refl _, (Grow.refl S1.fh).own hD _, .nil, f1⟩, ?_⟩
      rintro i m' H' ⟨rfl, hi, bs, acc, F', hbl, G', ra, f'⟩
      have S' := S1.grow G'
      by_cases hlt : i < (l r).length
      · obtain ⟨a, ha⟩ : ∃ a, (l r)[i]? = some a := ⟨_, List.getElem?_eq_getElem hlt⟩
        refine .inr ⟨it.go i H' (by rw [List.length_map]; exact hlt) (G'.ff.trans S'.fh), fun H2 => i + 1 ≤ (l r).length ∧ ∃ bs acc F', bs.length ≤ i + 1 ∧ Grow F1 H1 F' (sg D (.dT acc)) H2 ∧ Rept (gx X) F' acc (bs.map fun p => (p.1, encB p.2)) ∧ Fi (gx X) F1 O H1 W σ (dcP ((l r).drop (i + 1)) mk mv bs) (fun ys => .ow none (encT encB ys)) Q,
          fun H2 q => ⟨(l r).length - (i + 1), by omega, rfl, q.1, q.2⟩, fun x H2 yy => ?_⟩
        obtain ⟨F2, G2, rv⟩ := it.yld i F' H' x H2 (enc a) (by rw [List.getElem?_map, ha]; rfl) G'.ff S'.fh yy
        have S2 := (S'.grow G2).wiped hv
        refine hT a F2 O (wipe σ (own.map (·.2))) H2 x _ S2 rv fun O3 σ3 S3 mm ew => ?_
        refine ⟨?_, ?_⟩
        · rw [ew]
          apply List.ext_getElem?
          intro j
          by_cases hj : j ∈ own.map (·.2)
          · have hn : ∀ (τ : L2.St) (vs : List Nat), j ∈ vs → (wipe τ vs)[j]? = if j < τ.length then some none else none := by
              intro τ vs
              induction vs with
              | nil => intro h; simp at h
              | cons v vs ih =>
                intro h
                unfold wipe
                by_cases hjv : v = j
                · subst hjv
                  rw [List.getElem?_set]
                  simp [wipe_length]
                · rw [List.getElem?_set_ne hjv]
                  rcases List.mem_cons.mp h with z | z
                  · exact absurd z.symm hjv
                  · exact ih z
            rw [hn _ _ hj, hn _ _ hj, wipe_length]
          · rw [wipe_get _ hj]
        · rw [drop_cons ha] at f'
          have f' : Fi (gx X) F1 O H1 W σ (bnd (noer (mk a)) fun k => bnd (noer (mv a)) fun v => dcP ((l r).drop (i + 1)) mk mv (putT bs k v)) (fun ys => .ow none (encT encB ys)) Q := f'
          unfold tYes
          simp only [if_true]
          intro s H0 C cl fp
          refine hk a s H0 C cl fp F2 O3 σ3 H2 _ (fun _ _ _ _ => False) S3 takesB (noer_fi ?_)
          revert f'
          cases hmk : noer (mk a) with
          | st => exact id
          | er x => cases h : mk a <;> rw [h] at hmk <;> cases hmk
          | ok k =>
            intro f' F3 hh vk H3 G3 kk
            obtain ⟨eh, rk⟩ := Sl.va_of kk
            subst eh
            have f' : Fi (gx X) F1 O H1 W σ (bnd (noer (mv a)) fun v => dcP ((l r).drop (i + 1)) mk mv (putT bs k v)) (fun ys => .ow none (encT encB ys)) Q := f'
            have S4 := S3.grow G3
            intro s H0 C cl fp
            refine he a s H0 C cl fp F3 O3 σ3 H3 _ (fun _ _ _ _ => False) S4 takesB (noer_fi ?_)
            revert f'
            cases hmv : noer (mv a) with
            | st => exact id
            | er x => cases h : mv a <;> rw [h] at hmv <;> cases hmv
            | ok b =>
              intro f' F4 hh v H4 G4 kk
              obtain ⟨eh, rb⟩ := Sl.va_of kk
              subst eh
              have GG := Grow.acc (o' := .dT (putK acc (k.map Sum.inl) v)) G' ((G2.trans G3).trans G4)
              obtain ⟨ta, us, ek, tk1, rs⟩ := (rk.mono G4.ff).tup_at
              have eu := reps_ints rs
              subst ek; subst eu
              have ra' := ra.mono ((G2.ff.trans G3.ff).trans G4.ff)
              refine ⟨acc, k.map Sum.inl, ta, rfl, ?_, GG.1, ?_, hlt, putT bs k b, _, F4, ?_, GG.2, ?_, f'⟩
              · rw [kt_ints]; exact G4.fh _ _ tk1
              · rw [rept_len ra, List.length_map, sizeLine_eq]; omega
              · have := putT_len bs k b; omega
              · rw [putT_map]; exact rept_put ra' rb
      · have e : i = (l r).length := by omega
        subst e
        refine .inl ⟨?_, ?_⟩
        · have := it.stop H' (G'.ff.trans S'.fh)
          rwa [List.length_map] at this
        · rw [List.drop_length] at f'
          have f' : Fi (gx X) F1 O H1 W σ (.ok bs) (fun ys => .ow none (encT encB ys)) Q := f'
          exact f' F' _ _ H' G' ⟨D, _, rfl, rfl, ⟨acc, rfl, ra⟩, fun _ z => (by cases z)⟩
    · rw [if_neg hz] at f; exact f.elim
theorem ps_setDt {i : Nat} {tt : TT} {tk tv : TE} {wi : TI} {g : TG} {ifs : List Expr} {spos : Pos} (hu : X.A.units + 1 < cLine) (hc : X.calm = true) (hN : X.N.Nodup) (hy : X.N[i]? = some y) (hyl : X.env.scope.names.lookup y = some .local)
    (hsw : swapsWith (.DictComp kx vx [⟨tg, iter, ifs, 0⟩] scope pos) (some (.Name y py)) spos.line X.env = pure true) (hi : PI X tg iter wi) (ok : BlkOk X.N X.env.scope scope own) (hg : ∀ s H C cl fp, PG (blk X scope s H C cl fp) tg g) (ht : ∀ s H C cl fp, PTs (blk X scope s H C cl fp) ifs tt)
    (hk : ∀ s H C cl fp, PE (blk X scope s H C cl fp) kx tk) (he : ∀ s H C cl fp, PE (blk X scope s H C cl fp) vx tv) (hs : ∀ x, foldedSetIterable iter X.env x = pure x := by intro _; rfl) :
    PS X (.Assign [.Name y py] (.DictComp kx vx [⟨tg, iter, ifs, 0⟩] scope pos) spos) (tAsg (tDt wi g tt tk tv (own.map (·.2))) (gName i)) := ⟨fun pins s σ H D I h => by
  rw [exec_Assign_Name_used _ _ _ _ hsw]
  refine wpAny_bind (wpAny_standAt (wpAny_bind ?_))
  show wpAny _ X.A (do let _ ← comprehension (.DictComp kx vx [⟨tg, iter, ifs, 0⟩] scope pos) scope X.env (firstIterPos [⟨tg, iter, ifs, 0⟩] pos) newDict false (eval iter X.env) (some (assign (.Name y py) X.env))) _ _ s
  have h : tDt wi g tt tk tv (own.map (·.2)) σ H (fun x H1 => gName i x σ H1 D.nx) := h
  refine wpAny_bind (thn (dt_core (Qf := fun _ s' => SP X pins D .next s') hu hc hN I hi ok hg ht hk he hs h fun L C s' m H' I' q hn f => ?_) fun _ s' hq => wpAny_pure (wpAny_pure hq))
  show wpAny _ _ (assign (.Name y py) X.env (.ref L)) _ _ _
  refine wpAny_assign_Name (store_ok2 (v := V.ref L) I' hN hy (.inl hyl) rfl (fun s2 I2 ⟨a, sb, ha⟩ => ?_) (.inr hyl))
  obtain ⟨f0, f1, f2, f3, f4, f5⟩ := f
  have haC : C ≠ a := by
    rcases ha with z | z
    · rw [z]; exact f1
    · exact fun e => f4 y a z e.symm
  exact ⟨m, hn.sameBut sb haC, fun h3 sb3 => ⟨_, H', I2.turned (t' := s2.toks) (fun b o hb e => (sb3.2 b hb).trans e) f0 f1 f3 f4 f5, q⟩⟩⟩
theorem js_setDt (i : Nat) (l : ρ → List α) (enc : α → D) (encB : β → D) (ΓT : α → List Sl) (mk : α → M (List Int)) (mv : α → M β) {g0 : TG} {k : List (List Int × β) → M ζ} (Γ2 : List (List Int × β) → List Sl) (hi : JI X Γ tg iter m (fun r => (l r).map enc)) (hv : ∀ i ∈ own.map (·.2), Γ[i]? = some .un)
    (hT : ∀ a, TgB (gx X) (own.map (·.2)) g0 Γ (enc a) (ΓT a)) (hk : ∀ a s H C cl fp, JP (blk X scope s H C cl fp) (ΓT a) kx (mk a) (fun k => .va (.tup (k.map .int)))) (he : ∀ a s H C cl fp, JP (blk X scope s H C cl fp) (ΓT a) vx (mv a) (fun b => .va (encB b)))
    (h2 : ∀ ys, JG X Γx (Γ2 ys) (rest :: K) (k ys) π)
    (hu : X.A.units + 1 < cLine) (hcm : X.calm = true) (hN : X.N.Nodup) (ok : BlkOk X.N X.env.scope scope own) (hg : ∀ (s : Shared) (H : Hp) (C : Addr) (cl : List (Str × Addr)) (fp : List Addr), PG (blk X scope s H C cl fp) tg g0)
    (hsw : swapsWith (.DictComp kx vx [⟨tg, iter, [], 0⟩] scope pos) (some (.Name y py)) pos'.line X.env = pure true) (hΓ : ∀ ys, Γ2 ys = Γ.set i (.ow none (encT encB ys)) := by intro _; rfl) (hy : X.N[i]? = some y := by rfl) (hyl : X.env.scope.names.lookup y = some .local := by rfl)
    (hs : ∀ x, foldedSetIterable iter X.env x = pure x := by intro _; rfl) (hx : Sub Γx Γ := by exact Sub.nil) :
    JG X Γx Γ ((.Assign [.Name y py] (.DictComp kx vx [⟨tg, iter, [], 0⟩] scope pos) pos' :: rest) :: K) (bnd (dcM m l mk mv) k) π := fun F O σ H D W S tk f => by
  obtain ⟨wi, pi, hw⟩ := dt_body (own := own) (scope := scope) l enc encB ΓT mk mv hi hv hT hk he
  refine RB.of (pss_cons (ps_setDt (i := i) hu hcm hN hy hyl hsw pi ok hg (fun _ _ _ _ _ => pts_nil) peRb peRb hs) pssR) (show tDt wi g0 tYes (REb X scope kx) (REb X scope vx) (own.map (·.2)) σ H (fun x H1 => gName i x σ H1 (fun σ' H' => RB X rest { D with nx := fun σ' H' => RBs X K D σ' H' } σ' H')) from hw F O σ H _ W S tk ?_)
  revert f
  cases dcM m l mk mv with
  | st => exact id
  | er x => exact fun f => FerS.fer (x := x) f (S.l.satV hx)
  | ok ys =>
    intro f F1 h v H1 G kk
    obtain ⟨O2, S2, mm⟩ := satSet (i := i) (S.growT G kk)
    rw [← hΓ ys] at S2
    exact h2 ys F1 O2 _ H1 D W S2 tk (FiS.step S.fh S2.fo f ((G.trn S).less mm))
theorem sw_trueD {gs : List Comprehension} {py : Pos} {l : Nat} {env : Env} (hk : env.scope.kind = .function) (hy : env.scope.names.lookup y = some .local) (hl : (py.line == pos.line) = true)
    (ha : (scope.names.any fun (n, k) => n == y && (k == .local || k == .cell)) = false) : swapsWith (.DictComp kx vx gs scope pos) (some (.Name y py)) l env = pure true := by
  have ky : env.kindOf y = some .local := hy
  have hb : env.blockKind = .function := by unfold Env.blockKind; rw [hk]; rfl
  unfold swapsWith
  simp only [hb, ky, ha, Expr.pos, hl]
  rfl
end
end Z
set_option Elab.async false
set_option linter.all false
set_option maxRecDepth 100000
set_option maxHeartbeats 4000000
/-! Zx: the end: a law whose mirror says True. -/
namespace Z
open PySem PySem.Spec PyProof.Rows L2
theorem reps_int {g : Gx} {F : Hp} : ∀ ns : List Int, Reps g F (ns.map V.int) (ns.map D.int)
  | [] => .nil
  | n :: ns => .cons (.int n) (reps_int ns)
theorem fn_J0 {g : Gx} {base : Heap} {x qual : Str} {st : Stmt} {f : Addr} {fd : FuncData} {N ps : List Str} {k : Nat} {A ρ : Type} {ins : A → List D} {m : A → M ρ} {t : ρ → Sl} (F : Fun g.K x qual st f fd) (S : FnScope N ps (defScope st)) (hlen : ∀ a, (ins a).length = ps.length)
    (hb : ∀ (cdv : Value) (Ar : Around) (outer : List Env) (s : Shared) (H : Hp) (E : XK) (a : A), Room k (cx g base N qual (defScope st) f cdv Ar outer s H E).A →
      JG (cx g base N qual (defScope st) f cdv Ar outer s H E) [] ((ins a).map Sl.va ++ List.replicate (N.length - ps.length) .un) [defBody st] (m a) (fun r => .rt (t r) none)) :
    FnOk g.P g.w g.K g.mg base (L2N.CX g.P g.w) (k + 1) f fd ps (spec g ins m t) := by
  obtain ⟨oc, od, kV, doc, pm, an, cdv, ct, osl, rfl, lk, hcd⟩ := F.ex
  refine fn_of lk hcd S (fun vs H Q E ⟨a, F0, _, r, _⟩ => by rw [r.length, hlen a]) fun Ar outer s H vs Q E hr hsp => ⟨_, pssR, ?_⟩
  obtain ⟨a, F0, e0, r, hq⟩ := hsp
  have hl : vs.length = ps.length := by rw [r.length, hlen a]
  have S0 : Sat g F0 ((ins a).map Sl.va ++ List.replicate (N.length - ps.length) .un) (L2.start N vs) emp H := by
    refine ⟨?_, e0, fun _ _ z => (by cases z), fun _ => .inr rfl⟩
    unfold L2.start
    rw [hl]
    exact sat_args _ r
  refine (hb cdv Ar outer s H E a hr F0 emp _ H { nx := fun _ H' => Q .non H', rt := Q } _ S0 takes_cx ?_ :)
  revert hq
  cases m a with
  | st => exact id
  | ok r => exact fun hq F' h v H' k1 e1 e2 d T => hq F' h v H' (T.grow e0 e1 e2 d) k1
  | er x => exact fun hq F' H' cls d σ' T e r _ => hq F' H' cls d T e r
theorem walk_w {l : PySem.W.OpenLaw} {k : Nat} {q : Program} {loose : List Str} {XP : (Str → Option Value) → Heap → Prop} {YP : World → Heap → Prop} {d : DefRec} {m : List Int → M Bool} (hn : l.most = some 63)
    (hdf : d.params.defaults = []) (hr : Room k callerA) (hm : ∀ ns : List Int, ns.length ≤ 63 → m ns = .ok true)
    (F : ∀ (w : World) (mg : Str → Option Value) (fa : Addr) (h : Heap), YP w h → h.Ns mainGlobals mg → mg d.name = some (.ref fa) →
      ∃ (K : PySem.W.Frag) (fd : FuncData), K.In h ∧ (∀ (s : Shared) (u : Value), BindsTo s fd ⟨[u], []⟩ [("script", u)]) ∧
        ∀ base : Heap, FnOk l.prog w K mg base (L2N.CX l.prog w) k fa fd ["script"] (spec ⟨l.prog, w, K, mg⟩ (fun a : List Int => [.rol (a.map D.int)]) m fun r => .va (.bl r))) :
    PySem.W.WalkO q loose XP YP l.row.toRowW d [] (fun f vs => PySem.call f vs) := by
  refine Att.attach_call hn hdf fun w s0 s1 mg mb fa o pm cd doc a vs ns G Y ho hd hcd hmg hobj hints hlen hg => ?_
  obtain ⟨K, fd, KX, hb, hF⟩ := F w mg fa _ Y G.T.g hmg
  refine law_call KX G.T.g G.T.b G.T.builtins G.T.nolimit hg hobj hints (Nat.le_trans hlen (by decide)) hr (fun base _ _ => hF base) hb (fun H _ hS => ⟨ns, H, Ex.refl H, .cons (.rol hS (reps_int ns)) .nil, ?_⟩) fun H e s' z => ?_
  · rw [hm ns hlen]
    intro F' h v H' _ z
    obtain ⟨_, u, e, r⟩ := z
    cases e
    exact r.bl_of
  · obtain ⟨_, _, _, _, _, _, _, _, _, _, _, _, z⟩ := z
    exact z
theorem bind1 {K : PySem.W.Frag} {x qual p : Str} {st : Stmt} {f : Addr} {fd : FuncData} (F : Fun K x qual st f fd)
    (h : ∀ (kV doc pm : Value) (an : Option Addr) (cdv ct u : Value), bindArgs (PySem.W.fnOf x qual (defArgs st) (defBody st) (defScope st) .none kV doc pm an cdv ct) ⟨[u], []⟩ = pure [(p, u)]) (s : Shared) (u : Value) : BindsTo s fd ⟨[u], []⟩ [(p, u)] := by
  obtain ⟨oc, od, kV, doc, pm, an, cdv, ct, osl, rfl, lk, hcd⟩ := F.ex
  exact .of_eq (h kV doc pm an cdv ct u)
/-! ### facts by names -/
theorem fun_glo {fa : List He.Fa} {fn : List He.FnD} {K : PySem.W.Frag} {x : Str} {st : Stmt} (c : He.SaysE fa fn K) (i j : Nat) (h : fn[i]? = some ⟨(x, none), x, x, defArgs st, defBody st, defScope st⟩) (hk : fa[j]? = some (.keep x)) :
    ∃ fd : FuncData, Fun K x x st (He.ga K x) fd := by
  obtain ⟨oc, od, osl, kV, doc, pm, an, cdv, ct, l, c0⟩ := c.def_ i h
  exact ⟨_, fun_mk l c0 (He.keep_ok (c.fact j hk))⟩
theorem fun_ini {fa : List He.Fa} {fn : List He.FnD} {K : PySem.W.Frag} {x q : Str} {st : Stmt} (c : He.SaysE fa fn K) (i j : Nat) (h : fn[i]? = some ⟨(x, some "__init__"), "__init__", q, defArgs st, defBody st, defScope st⟩) (hk : fa[j]? = some (.meth x "__init__")) :
    ∃ fd : FuncData, Fun K "__init__" q st (He.ma K (He.ga K x) "__init__") fd := by
  obtain ⟨oc, od, osl, kV, doc, pm, an, cdv, ct, l, c0⟩ := c.def_ i h
  exact ⟨_, fun_mk l c0 (He.meth_ok (c.fact j hk)).kp⟩
end Z
set_option Elab.async false
set_option linter.all false
set_option maxRecDepth 100000
set_option maxHeartbeats 4000000
namespace Z
open PySem PySem.Spec L2
abbrev inB {α : Type} [DecidableEq α] (a : α) (l : List α) : Bool := decide (a ∈ l)
structure Tx (g : Gx) where
  fa__law_flow : Addr
  fd__law_flow : FuncData
  f__law_flow : Fun g.K "_law_flow" "_law_flow" s__law_flow fa__law_flow fd__law_flow
  m__law_flow : g.mg "_law_flow" = some (.ref fa__law_flow)
  fa__law_cell : Addr
  fd__law_cell : FuncData
  f__law_cell : Fun g.K "_law_cell" "_law_cell" s__law_cell fa__law_cell fd__law_cell
  m__law_cell : g.mg "_law_cell" = some (.ref fa__law_cell)
  fa__law_take : Addr
  fd__law_take : FuncData
  f__law_take : Fun g.K "_law_take" "_law_take" s__law_take fa__law_take fd__law_take
  m__law_take : g.mg "_law_take" = some (.ref fa__law_take)
  fa__law_chosen : Addr
  fd__law_chosen : FuncData
  f__law_chosen : Fun g.K "_law_chosen" "_law_chosen" s__law_chosen fa__law_chosen fd__law_chosen
  m__law_chosen : g.mg "_law_chosen" = some (.ref fa__law_chosen)
  fa__law_web : Addr
  fd__law_web : FuncData
  f__law_web : Fun g.K "_law_web" "_law_web" s__law_web fa__law_web fd__law_web
  m__law_web : g.mg "_law_web" = some (.ref fa__law_web)
  fa__law_shuffle : Addr
  fd__law_shuffle : FuncData
  f__law_shuffle : Fun g.K "_law_shuffle" "_law_shuffle" s__law_shuffle fa__law_shuffle fd__law_shuffle
  m__law_shuffle : g.mg "_law_shuffle" = some (.ref fa__law_shuffle)
  fa__law_rows : Addr
  fd__law_rows : FuncData
  f__law_rows : Fun g.K "_law_rows" "_law_rows" s__law_rows fa__law_rows fd__law_rows
  m__law_rows : g.mg "_law_rows" = some (.ref fa__law_rows)
  fa__law_drawn : Addr
  fd__law_drawn : FuncData
  f__law_drawn : Fun g.K "_law_drawn" "_law_drawn" s__law_drawn fa__law_drawn fd__law_drawn
  m__law_drawn : g.mg "_law_drawn" = some (.ref fa__law_drawn)
  fa_is_integer : Addr
  fd_is_integer : FuncData
  f_is_integer : Fun g.K "is_integer" "is_integer" s_is_integer fa_is_integer fd_is_integer
  m_is_integer : g.mg "is_integer" = some (.ref fa_is_integer)
  fa_is_between : Addr
  fd_is_between : FuncData
  f_is_between : Fun g.K "is_between" "is_between" s_is_between fa_is_between fd_is_between
  m_is_between : g.mg "is_between" = some (.ref fa_is_between)
  fa_is_bit : Addr
  fd_is_bit : FuncData
  f_is_bit : Fun g.K "is_bit" "is_bit" s_is_bit fa_is_bit fd_is_bit
  m_is_bit : g.mg "is_bit" = some (.ref fa_is_bit)
  fa_is_word : Addr
  fd_is_word : FuncData
  f_is_word : Fun g.K "is_word" "is_word" s_is_word fa_is_word fd_is_word
  m_is_word : g.mg "is_word" = some (.ref fa_is_word)
  fa_number_of_word : Addr
  fd_number_of_word : FuncData
  f_number_of_word : Fun g.K "number_of_word" "number_of_word" s_number_of_word fa_number_of_word fd_number_of_word
  m_number_of_word : g.mg "number_of_word" = some (.ref fa_number_of_word)
  fa_numbers_of : Addr
  fd_numbers_of : FuncData
  f_numbers_of : Fun g.K "numbers_of" "numbers_of" s_numbers_of fa_numbers_of fd_numbers_of
  m_numbers_of : g.mg "numbers_of" = some (.ref fa_numbers_of)
  fa_first_wrong : Addr
  fd_first_wrong : FuncData
  f_first_wrong : Fun g.K "first_wrong" "first_wrong" s_first_wrong fa_first_wrong fd_first_wrong
  m_first_wrong : g.mg "first_wrong" = some (.ref fa_first_wrong)
  fa_is_closed : Addr
  fd_is_closed : FuncData
  f_is_closed : Fun g.K "is_closed" "is_closed" s_is_closed fa_is_closed fd_is_closed
  m_is_closed : g.mg "is_closed" = some (.ref fa_is_closed)
  fa_letter_masks : Addr
  fd_letter_masks : FuncData
  f_letter_masks : Fun g.K "letter_masks" "letter_masks" s_letter_masks fa_letter_masks fd_letter_masks
  m_letter_masks : g.mg "letter_masks" = some (.ref fa_letter_masks)
  fa_kept_letters : Addr
  fd_kept_letters : FuncData
  f_kept_letters : Fun g.K "kept_letters" "kept_letters" s_kept_letters fa_kept_letters fd_kept_letters
  m_kept_letters : g.mg "kept_letters" = some (.ref fa_kept_letters)
  fa_is_reduced : Addr
  fd_is_reduced : FuncData
  f_is_reduced : Fun g.K "is_reduced" "is_reduced" s_is_reduced fa_is_reduced fd_is_reduced
  m_is_reduced : g.mg "is_reduced" = some (.ref fa_is_reduced)
  fa_look_at_words : Addr
  fd_look_at_words : FuncData
  f_look_at_words : Fun g.K "look_at_words" "look_at_words" s_look_at_words fa_look_at_words fd_look_at_words
  m_look_at_words : g.mg "look_at_words" = some (.ref fa_look_at_words)
  fa_literal_masks : Addr
  fd_literal_masks : FuncData
  f_literal_masks : Fun g.K "literal_masks" "literal_masks" s_literal_masks fa_literal_masks fd_literal_masks
  m_literal_masks : g.mg "literal_masks" = some (.ref fa_literal_masks)
  fa_pairs_with : Addr
  fd_pairs_with : FuncData
  f_pairs_with : Fun g.K "pairs_with" "pairs_with" s_pairs_with fa_pairs_with fd_pairs_with
  m_pairs_with : g.mg "pairs_with" = some (.ref fa_pairs_with)
  fa_is_literal : Addr
  fd_is_literal : FuncData
  f_is_literal : Fun g.K "is_literal" "is_literal" s_is_literal fa_is_literal fd_is_literal
  m_is_literal : g.mg "is_literal" = some (.ref fa_is_literal)
  fa_is_clause : Addr
  fd_is_clause : FuncData
  f_is_clause : Fun g.K "is_clause" "is_clause" s_is_clause fa_is_clause fd_is_clause
  m_is_clause : g.mg "is_clause" = some (.ref fa_is_clause)
  fa_words_clauses : Addr
  fd_words_clauses : FuncData
  f_words_clauses : Fun g.K "words_clauses" "words_clauses" s_words_clauses fa_words_clauses fd_words_clauses
  m_words_clauses : g.mg "words_clauses" = some (.ref fa_words_clauses)
  fa_is_true : Addr
  fd_is_true : FuncData
  f_is_true : Fun g.K "is_true" "is_true" s_is_true fa_is_true fd_is_true
  m_is_true : g.mg "is_true" = some (.ref fa_is_true)
  fa_turned : Addr
  fd_turned : FuncData
  f_turned : Fun g.K "turned" "turned" s_turned fa_turned fd_turned
  m_turned : g.mg "turned" = some (.ref fa_turned)
  fa_led_into : Addr
  fd_led_into : FuncData
  f_led_into : Fun g.K "led_into" "led_into" s_led_into fa_led_into fd_led_into
  m_led_into : g.mg "led_into" = some (.ref fa_led_into)
  fa_fold : Addr
  fd_fold : FuncData
  f_fold : Fun g.K "fold" "fold" s_fold fa_fold fd_fold
  m_fold : g.mg "fold" = some (.ref fa_fold)
  fa__law_unlike : Addr
  fd__law_unlike : FuncData
  f__law_unlike : Fun g.K "_law_unlike" "_law_unlike" s__law_unlike fa__law_unlike fd__law_unlike
  m__law_unlike : g.mg "_law_unlike" = some (.ref fa__law_unlike)
  fa__law_image : Addr
  fd__law_image : FuncData
  f__law_image : Fun g.K "_law_image" "_law_image" s__law_image fa__law_image fd__law_image
  m__law_image : g.mg "_law_image" = some (.ref fa__law_image)
  fa__law_places : Addr
  fd__law_places : FuncData
  f__law_places : Fun g.K "_law_places" "_law_places" s__law_places fa__law_places fd__law_places
  m__law_places : g.mg "_law_places" = some (.ref fa__law_places)
  fa__law_neighbours : Addr
  fd__law_neighbours : FuncData
  f__law_neighbours : Fun g.K "_law_neighbours" "_law_neighbours" s__law_neighbours fa__law_neighbours fd__law_neighbours
  m__law_neighbours : g.mg "_law_neighbours" = some (.ref fa__law_neighbours)
  fa__law_holds : Addr
  fd__law_holds : FuncData
  f__law_holds : Fun g.K "_law_holds" "_law_holds" s__law_holds fa__law_holds fd__law_holds
  m__law_holds : g.mg "_law_holds" = some (.ref fa__law_holds)
  fa_law : Addr
  fd_law : FuncData
  f_law : Fun g.K "law" "law" s_law fa_law fd_law
  m_law : g.mg "law" = some (.ref fa_law)
  cClauses : Addr
  fa_Clauses : Addr
  fd_Clauses : FuncData
  f_Clauses : Fun g.K "__init__" "Clauses.__init__" s_Clauses fa_Clauses fd_Clauses
  m_Clauses : g.mg "Clauses" = some (.ref cClauses)
  mk_Clauses : Mk g.K cClauses fa_Clauses
  lClauses : Cls g.K cClauses
  cWords : Addr
  fa_Words : Addr
  fd_Words : FuncData
  f_Words : Fun g.K "__init__" "Words.__init__" s_Words fa_Words fd_Words
  m_Words : g.mg "Words" = some (.ref cWords)
  mk_Words : Mk g.K cWords fa_Words
  lWords : Cls g.K cWords
  aClauses_clauses : NoAttr g.K cClauses "clauses"
  aClauses_letters : NoAttr g.K cClauses "letters"
  aWords_length : NoAttr g.K cWords "length"
  aWords_words : NoAttr g.K cWords "words"
  n_all : g.mg "all" = none
  n_any : g.mg "any" = none
  n_bool : g.mg "bool" = none
  n_enumerate : g.mg "enumerate" = none
  n_int : g.mg "int" = none
  n_isinstance : g.mg "isinstance" = none
  n_len : g.mg "len" = none
  n_list : g.mg "list" = none
  n_min : g.mg "min" = none
  n_range : g.mg "range" = none
  n_set : g.mg "set" = none
  n_sorted : g.mg "sorted" = none
  n_sum : g.mg "sum" = none
  n_tuple : g.mg "tuple" = none
  kMOST_LETTERS_clauses : ∃ u, g.mg "MOST_LETTERS_clauses" = some (.int 39 u)
  kMOST_LETTERS_words : ∃ u, g.mg "MOST_LETTERS_words" = some (.int 39 u)
  kMOST_WORDS : ∃ u, g.mg "MOST_WORDS" = some (.int 40 u)
def m__law_flow : (List Int) × Int → M (((List Int) × Int × Int × Int × Bool)) := fun (script_11, place_12) => (bnd (bnd (bnd (bnd (.ok ()) fun _ => (bnd (.ok ()) fun _ => .ok ((), ()))) fun _ => (.ok script_11)) fun r16 => (bnd (bnd (.ok ()) fun _ => (bnd (bnd (.ok ()) fun _ => (bnd (bnd (.ok ()) fun _ => (bnd (bnd (.ok ()) fun _ => (bnd (.ok ()) fun _ => .ok ((), ()))) fun _ => .ok ((), ((), ())))) fun _ => .ok ((), ((), ((), ()))))) fun _ => .ok ((), ((), ((), ((), ())))))) fun _ => .ok (r16, ((), ((), ((), ((), ()))))))) fun q26 => .ok (q26.1, place_12, 0, 0, false))
theorem sc__law_flow : FnScope ["script", "place"] ["script", "place"] (defScope s__law_flow) := ⟨rfl, rfl, rfl, by decide +kernel, rfl, by decide +kernel, by decide +kernel⟩
theorem J__law_flow {g : Gx} (T : Tx g) {base : Heap} : Df g base 1 "_law_flow" (A := (List Int) × Int) (ρ := ((List Int) × Int × Int × Int × Bool)) (fun a => match a with | (script_11, place_12) => [(.rol (script_11.map D.int)), (.int place_12)]) m__law_flow (fun r => .ow none (.lst [(.lst (r.1.map D.int)), (.int r.2.1), (.int r.2.2.1), (.int r.2.2.2.1), (.bl r.2.2.2.2)])) :=
  fn_J T.f__law_flow sc__law_flow T.m__law_flow (fun _ => rfl) (fun _ _ _ _ _ _ us hl => match us, hl with | [_, _], _ => rfl) fun cdv Ar outer s H E a hr => match a with
    | (script_11, place_12) => JG.cast (m' := m__law_flow (script_11, place_12)) (show JG _ [] [.va (.rol (script_11.map D.int)), .va (.int place_12)] _ _ _ from (js_ret (fun (q26 : ((List Int) × (Unit × (Unit × (Unit × (Unit × Unit)))))) => (q26.1, place_12, 0, 0, false)) (JP.je (jp_lst (ja_cons (jp_frz (jp_cty call_list_of T.n_list PyProof.Rows.boot_list (ja_cons (jp_var (d := (.rol (script_11.map D.int))) 0) (fun _ => ja_nil)) (fun _ => (ar_listR (xs := script_11) (enc := D.int))))) (fun r16 => (ja_cons (jp_var (d := (.int place_12)) 1) (fun _ => (ja_cons jp_int (fun _ => (ja_cons jp_int (fun _ => (ja_cons jp_bl (fun _ => ja_nil)))))))))))))) (by first | (dsimp only [m__law_flow]; done) | rfl)
def m__law_cell : (List Int) × Int → M (Int) := fun (script_51, place_52) => (bnd (bnd (.ok ()) fun _ => (bnd (bnd (bnd (.ok ()) fun _ => (bnd (.ok ()) fun _ => .ok ((), ()))) fun _ => (.ok (script_51.length : Int))) fun r57 => (.ok (decide (place_52 < r57))))) fun b58 => (if b58 = true then (bnd (bnd (.ok ()) fun _ => (bnd (.ok ()) fun _ => (gt script_51 place_52))) fun q61 => .ok q61) else (bnd (bnd (bnd (bnd (.ok ()) fun _ => (bnd (.ok ()) fun _ => .ok ((), ()))) fun _ => (.ok (script_51.length : Int))) fun r65 => (bnd (.ok ()) fun _ => (.ok (decide (r65 = 0))))) fun b67 => (if b67 = true then (bnd (bnd (bnd (.ok ()) fun _ => (bnd (.ok ()) fun _ => (mmul 17 place_52))) fun r70 => (bnd (.ok ()) fun _ => (.ok (r70 + 3)))) fun q72 => .ok q72) else (bnd (bnd (bnd (bnd (.ok ()) fun _ => (bnd (bnd (bnd (bnd (.ok ()) fun _ => (bnd (.ok ()) fun _ => .ok ((), ()))) fun _ => (.ok place_52)) fun r77 => (bnd (bnd (bnd (.ok ()) fun _ => (bnd (.ok ()) fun _ => .ok ((), ()))) fun _ => (.ok (script_51.length : Int))) fun r81 => (mmod r77 r81))) fun r82 => (gt script_51 r82))) fun r83 => (bnd (.ok ()) fun _ => (mdiv r83 7))) fun r85 => (bnd (bnd (.ok ()) fun _ => (bnd (.ok ()) fun _ => (mmul 31 place_52))) fun r88 => (.ok (r85 + r88)))) fun q89 => .ok q89)))))
theorem sc__law_cell : FnScope ["script", "place"] ["script", "place"] (defScope s__law_cell) := ⟨rfl, rfl, rfl, by decide +kernel, rfl, by decide +kernel, by decide +kernel⟩
theorem J__law_cell {g : Gx} (T : Tx g) {base : Heap} : Df g base 1 "_law_cell" (A := (List Int) × Int) (ρ := Int) (fun a => match a with | (script_51, place_52) => [(.lst (script_51.map D.int)), (.int place_52)]) m__law_cell (fun r => .va (.int r)) :=
  fn_J T.f__law_cell sc__law_cell T.m__law_cell (fun _ => rfl) (fun _ _ _ _ _ _ us hl => match us, hl with | [_, _], _ => rfl) fun cdv Ar outer s H E a hr => match a with
    | (script_51, place_52) => JG.cast (m' := m__law_cell (script_51, place_52)) (show JG _ [] [.va (.lst (script_51.map D.int)), .va (.int place_52)] _ _ _ from (js_if (JT.jte (jt_cmp op_lt (nomark _) (jp_var (d := (.int place_52)) 1) (fun _ => (jp_cb call_len T.n_len PySem.boot_len (ja_cons (jp_var (d := (.lst (script_51.map D.int))) 0) (fun _ => ja_nil)) (fun _ => (ar_lenL (xs := script_51) (enc := D.int))))) (fun _ r57 => od_lt))) (fun b58 => (js_ret (fun (q61 : Int) => q61) (JP.je (jp_ix ix_list (jp_var (d := (.lst (script_51.map D.int))) 0) (fun _ => (jp_var (d := (.int place_52)) 1)) (fun _ _ => (od_ixL (xs := script_51) D.int)))))) (fun b58 => (js_pop (js_if (JT.jte (jt_cmp op_eq (nomark _) (jp_cb call_len T.n_len PySem.boot_len (ja_cons (jp_var (d := (.lst (script_51.map D.int))) 0) (fun _ => ja_nil)) (fun _ => (ar_lenL (xs := script_51) (enc := D.int)))) (fun r65 => jp_int) (fun r65 _ => od_eqI))) (fun b67 => (js_ret (fun (q72 : Int) => q72) (JP.je (jp_op op_add (jp_op op_mul jp_int (fun _ => (jp_var (d := (.int place_52)) 1)) (fun _ _ => od_mul)) (fun r70 => jp_int) (fun r70 _ => od_add))))) (fun b67 => (js_pop (js_ret (fun (q89 : Int) => q89) (JP.je (jp_op op_add (jp_op op_fdiv (jp_ix ix_list (jp_var (d := (.lst (script_51.map D.int))) 0) (fun _ => (jp_op op_mod (jp_cty call_int1 T.n_int PyProof.Rows.boot_int (ja_cons (jp_var (d := (.int place_52)) 1) (fun _ => ja_nil)) (fun _ => ar_int)) (fun r77 => (jp_cb call_len T.n_len PySem.boot_len (ja_cons (jp_var (d := (.lst (script_51.map D.int))) 0) (fun _ => ja_nil)) (fun _ => (ar_lenL (xs := script_51) (enc := D.int))))) (fun r77 r81 => od_mod))) (fun _ r82 => (od_ixL (xs := script_51) D.int))) (fun r83 => jp_int) (fun r83 _ => od_fdiv)) (fun r85 => (jp_op op_mul jp_int (fun _ => (jp_var (d := (.int place_52)) 1)) (fun _ _ => od_mul))) (fun r85 r88 => od_add))))))))))) (by first | (dsimp only [m__law_cell]; done) | rfl)
def m__law_take : ((List Int) × Int × Int × Int × Bool) × Int → M (Int × ((List Int) × Int × Int × Int × Bool)) := fun (flow_31, many_32) => (bnd (bnd (bnd (bnd (bnd (bnd (.ok ()) fun _ => (bnd (.ok ()) fun _ => .ok ((), ()))) fun _ => (.ok flow_31.2.2.2.1)) fun r36 => (bnd (.ok ()) fun _ => (mmod r36 40))) fun r38 => (bnd (.ok ()) fun _ => (.ok (decide (r38 = 0))))) fun b40 => (if b40 = true then (bnd (bnd (bnd (.ok ()) fun _ => (bnd (bnd (bnd (.ok ()) fun _ => (bnd (bnd (.ok ()) fun _ => (bnd (.ok ()) fun _ => (mdiv flow_31.2.2.2.1 40))) fun r46 => (.ok (flow_31.2.1 + r46)))) fun r47 => (bnd (.ok ()) fun _ => .ok (r47, ()))) fun r49 => .ok ((), r49))) fun q50 => (m__law_cell (flow_31.1, q50.2.1))) fun q90 => (bnd (.ok ()) fun _ => (bnd (bnd (.ok ()) fun _ => (bnd (bnd (.ok ()) fun _ => (bnd (.ok ()) fun _ => (mpow 10 18))) fun r94 => (.ok (decide (r94 ≤ q90))))) fun q95 => (bnd (.ok ()) fun _ => (.ok (flow_31.1, flow_31.2.1, q90, flow_31.2.2.2.1, q95)))))) else (.ok flow_31))) fun s41 => (bnd (bnd (.ok ()) fun _ => (bnd (.ok ()) fun _ => (.ok (s41.2.2.2.1 + 1)))) fun q98 => (bnd (.ok ()) fun _ => (bnd (bnd (.ok ()) fun q99 => .ok s41.2.2.2.2) fun b100 => (if b100 = true then (bnd (bnd (bnd (bnd (.ok ()) fun _ => (bnd (.ok ()) fun _ => .ok ((), ()))) fun _ => (.ok s41.2.2.1)) fun r104 => (bnd (.ok ()) fun _ => (mmod r104 many_32))) fun q106 => (bnd (bnd (bnd (bnd (.ok ()) fun _ => (bnd (.ok ()) fun _ => .ok ((), ()))) fun _ => (.ok s41.2.2.1)) fun r110 => (bnd (.ok ()) fun _ => (mdiv r110 many_32))) fun q112 => (bnd (.ok ()) fun _ => (bnd (.ok ()) fun _ => .ok (q106, (s41.1, s41.2.1, q112, q98, s41.2.2.2.2)))))) else (bnd (bnd (bnd (bnd (bnd (bnd (bnd (.ok ()) fun _ => (bnd (.ok ()) fun _ => (mmul s41.2.2.1 48271))) fun r116 => (bnd (bnd (.ok ()) fun _ => (bnd (.ok ()) fun _ => (mmul q98 69621))) fun r119 => (.ok (r116 + r119)))) fun r120 => (bnd (.ok ()) fun _ => (.ok (r120 + 11)))) fun r122 => (bnd (.ok ()) fun _ => .ok (r122, ()))) fun q124 => (.ok q124.1)) fun r125 => (bnd (.ok ()) fun _ => (mmod r125 2147483647))) fun q127 => (bnd (.ok ()) fun _ => (bnd (bnd (bnd (bnd (bnd (bnd (bnd (bnd (bnd (bnd (.ok ()) fun _ => (bnd (.ok ()) fun _ => (mmul q127 q127))) fun r130 => (bnd (bnd (.ok ()) fun _ => (bnd (.ok ()) fun _ => (mmul q98 40692))) fun r133 => (.ok (r130 + r133)))) fun r134 => (bnd (bnd (.ok ()) fun _ => (bnd (.ok ()) fun _ => (mdiv q127 7))) fun r137 => (.ok (r134 + r137)))) fun r138 => (bnd (.ok ()) fun _ => .ok (r138, ()))) fun q140 => (.ok q140.1)) fun r141 => (bnd (.ok ()) fun _ => (mmod r141 68719476731))) fun r143 => (bnd (.ok ()) fun _ => .ok (r143, ()))) fun q145 => (.ok q145.1)) fun r146 => (bnd (.ok ()) fun _ => (mmod r146 many_32))) fun q148 => .ok (q148, (s41.1, s41.2.1, q127, q98, s41.2.2.2.2))))))))))
theorem sc__law_take : FnScope ["flow", "many", "told"] ["flow", "many"] (defScope s__law_take) := ⟨rfl, rfl, rfl, by decide +kernel, rfl, by decide +kernel, by decide +kernel⟩
theorem J__law_take {g : Gx} (T : Tx g) {base : Heap} : DfO g base 2 "_law_take" (A := ((List Int) × Int × Int × Int × Bool) × Int) (ρ := Int × ((List Int) × Int × Int × Int × Bool)) (fun a => match a with | (flow_31, many_32) => (.lst [(.lst (flow_31.1.map D.int)), (.int flow_31.2.1), (.int flow_31.2.2.1), (.int flow_31.2.2.2.1), (.bl flow_31.2.2.2.2)])) (fun a => match a with | (flow_31, many_32) => [(.int many_32)]) m__law_take (fun r => .va (.int r.1)) (fun r => (.lst [(.lst (r.2.1.map D.int)), (.int r.2.2.1), (.int r.2.2.2.1), (.int r.2.2.2.2.1), (.bl r.2.2.2.2.2)])) :=
  fn_JO T.f__law_take sc__law_take T.m__law_take (fun _ => rfl) (fun _ _ _ _ _ _ us hl => match us, hl with | [_, _], _ => rfl) fun cdv Ar outer s H E a c hr => match a with
    | (flow_31, many_32) => JG.cast (m' := m__law_take (flow_31, many_32)) (show JG _ [] [.ow (some c) (.lst [(.lst (flow_31.1.map D.int)), (.int flow_31.2.1), (.int flow_31.2.2.1), (.int flow_31.2.2.2.1), (.bl flow_31.2.2.2.2)]), .va (.int many_32), .un] _ _ _ from (js_cut1 (fun s41 : ((List Int) × Int × Int × Int × Bool) => [.ow (some c) (.lst [(.lst (s41.1.map D.int)), (.int s41.2.1), (.int s41.2.2.1), (.int s41.2.2.2.1), (.bl s41.2.2.2.2)]), .va (.int many_32), .un]) (js_ifj (JT.jte (jt_cmp op_eq (nomark _) (jp_op op_mod (jp_cty call_int1 T.n_int PyProof.Rows.boot_int (ja_cons (jp_ixOc 0 3 jp_int) (fun _ => ja_nil)) (fun _ => ar_int)) (fun r36 => jp_int) (fun r36 _ => od_mod)) (fun r38 => jp_int) (fun r38 _ => od_eqI))) (fun b40 => (js_setc 0 2 2 (fun (q90 : Int) => [.ow (some c) (.lst [(.lst (flow_31.1.map D.int)), (.int flow_31.2.1), (.int q90), (.int flow_31.2.2.2.1), (.bl flow_31.2.2.2.2)]), .va (.int many_32), .un]) (JP.je (jp_call (J__law_cell T) (by exact hr.mono (by decide)) (fun (q50 : (Unit × (Int × Unit))) => (flow_31.1, q50.2.1)) (ja_cons (jp_ixOc 0 0 jp_int) (fun _ => (ja_cons (jp_op op_add (jp_ixOc 0 1 jp_int) (fun _ => (jp_op op_fdiv (jp_ixOc 0 3 jp_int) (fun _ => jp_int) (fun _ _ => od_fdiv))) (fun _ r46 => od_add)) (fun r47 => ja_nil)))))) (fun (q90 : Int) => jp_int) (fun (q90 : Int) _ => (js_setc 0 4 4 (fun (q95 : Bool) => [.ow (some c) (.lst [(.lst (flow_31.1.map D.int)), (.int flow_31.2.1), (.int q90), (.int flow_31.2.2.2.1), (.bl q95)]), .va (.int many_32), .un]) (JP.je (jp_cmp op_ge (nomark _) (jp_ixOc 0 2 jp_int) (fun _ => (jp_op op_pow jp_int (fun _ => jp_int) (fun _ _ => od_pow))) (fun _ r94 => od_ge))) (fun (q95 : Bool) => jp_int) (fun (q95 : Bool) _ => (js_pop (js_end (z := (flow_31.1, flow_31.2.1, q90, flow_31.2.2.2.1, q95)) (.same (.same (.same .nil)))))))))) (fun b40 => (js_pop (js_end (z := flow_31) (.same (.same (.same .nil))))))) (fun s41 => (js_setc 0 3 3 (fun (q98 : Int) => [.ow (some c) (.lst [(.lst (s41.1.map D.int)), (.int s41.2.1), (.int s41.2.2.1), (.int q98), (.bl s41.2.2.2.2)]), .va (.int many_32), .un]) (JP.je (jp_op op_add (jp_ixOc 0 3 jp_int) (fun _ => jp_int) (fun _ _ => od_add))) (fun (q98 : Int) => jp_int) (fun (q98 : Int) _ => (js_if (JT.jte (jt_val (JP.cv (t := fun a => .va (D.bl a)) (fun q99 => s41.2.2.2.2) (jp_ixOc 0 4 jp_int)))) (fun b100 => (js_set 2 (fun (q106 : Int) => [.ow (some c) (.lst [(.lst (s41.1.map D.int)), (.int s41.2.1), (.int s41.2.2.1), (.int q98), (.bl s41.2.2.2.2)]), .va (.int many_32), .va (.int q106)]) (JP.je (jp_op op_mod (jp_cty call_int1 T.n_int PyProof.Rows.boot_int (ja_cons (jp_ixOc 0 2 jp_int) (fun _ => ja_nil)) (fun _ => ar_int)) (fun r104 => (jp_var (d := (.int many_32)) 1)) (fun r104 _ => od_mod))) (fun (q106 : Int) => (js_setc 0 2 2 (fun (q112 : Int) => [.ow (some c) (.lst [(.lst (s41.1.map D.int)), (.int s41.2.1), (.int q112), (.int q98), (.bl s41.2.2.2.2)]), .va (.int many_32), .va (.int q106)]) (JP.je (jp_op op_fdiv (jp_cty call_int1 T.n_int PyProof.Rows.boot_int (ja_cons (jp_ixOc 0 2 jp_int) (fun _ => ja_nil)) (fun _ => ar_int)) (fun r110 => (jp_var (d := (.int many_32)) 1)) (fun r110 _ => od_fdiv))) (fun (q112 : Int) => jp_int) (fun (q112 : Int) _ => (js_retO (fun _ => (q106, (s41.1, s41.2.1, q112, q98, s41.2.2.2.2))) (fun _ => .ow (some c) (.lst [(.lst (s41.1.map D.int)), (.int s41.2.1), (.int q112), (.int q98), (.bl s41.2.2.2.2)])) (JP.je (jp_var (d := (.int q106)) 2)))))) sc__law_take.nd)) (fun b100 => (js_pop (js_setc 0 2 2 (fun (q127 : Int) => [.ow (some c) (.lst [(.lst (s41.1.map D.int)), (.int s41.2.1), (.int q127), (.int q98), (.bl s41.2.2.2.2)]), .va (.int many_32), .un]) (JP.je (jp_op op_mod (jp_cty call_int1 T.n_int PyProof.Rows.boot_int (ja_cons (jp_op op_add (jp_op op_add (jp_op op_mul (jp_ixOc 0 2 jp_int) (fun _ => jp_int) (fun _ _ => od_mul)) (fun r116 => (jp_op op_mul (jp_ixOc 0 3 jp_int) (fun _ => jp_int) (fun _ _ => od_mul))) (fun r116 r119 => od_add)) (fun r120 => jp_int) (fun r120 _ => od_add)) (fun r122 => ja_nil)) (fun q124 => ar_int)) (fun r125 => jp_int) (fun r125 _ => od_mod))) (fun (q127 : Int) => jp_int) (fun (q127 : Int) _ => (js_retO (fun (q148 : Int) => (q148, (s41.1, s41.2.1, q127, q98, s41.2.2.2.2))) (fun (q148 : Int) => .ow (some c) (.lst [(.lst (s41.1.map D.int)), (.int s41.2.1), (.int q127), (.int q98), (.bl s41.2.2.2.2)])) (JP.je (jp_op op_mod (jp_cty call_int1 T.n_int PyProof.Rows.boot_int (ja_cons (jp_op op_mod (jp_cty call_int1 T.n_int PyProof.Rows.boot_int (ja_cons (jp_op op_add (jp_op op_add (jp_op op_mul (jp_ixOc 0 2 jp_int) (fun _ => (jp_ixOc 0 2 jp_int)) (fun _ _ => od_mul)) (fun r130 => (jp_op op_mul (jp_ixOc 0 3 jp_int) (fun _ => jp_int) (fun _ _ => od_mul))) (fun r130 r133 => od_add)) (fun r134 => (jp_op op_fdiv (jp_ixOc 0 2 jp_int) (fun _ => jp_int) (fun _ _ => od_fdiv))) (fun r134 r137 => od_add)) (fun r138 => ja_nil)) (fun q140 => ar_int)) (fun r141 => jp_int) (fun r141 _ => od_mod)) (fun r143 => ja_nil)) (fun q145 => ar_int)) (fun r146 => (jp_var (d := (.int many_32)) 1)) (fun r146 _ => od_mod)))))))))))))) (by first | (dsimp only [m__law_take]; done) | rfl)
def m__law_chosen : ((List Int) × Int × Int × Int × Bool) × (List Int) × Int × Int → M ((List Int) × ((List Int) × Int × Int × Int × Bool)) := fun (flow_184, masks_185, letters_186, most_187) => (bnd (bnd (.ok ()) fun _ => (bnd (bnd (bnd (bnd (bnd (.ok ()) fun _ => (bnd (.ok ()) fun _ => .ok ((), ()))) fun _ => (.ok (masks_185.length : Int))) fun r192 => (bnd (.ok ()) fun _ => .ok (r192, ()))) fun q194 => (m__law_take (flow_184, q194.1))) fun r195 => (bnd (gt masks_185 r195.1) fun z196 => .ok (z196, ((), r195))))) fun q197 => (bnd (bnd (bnd (.ok ()) fun _ => (bnd (.ok ()) fun _ => .ok ((), ()))) fun _ => (m__law_take (q197.2.2.2, 4))) fun q201 => (bnd (bnd (bnd (bnd (.ok ()) fun _ => (bnd (bnd (bnd (.ok ()) fun _ => (bnd (bnd (.ok ()) fun _ => (bnd (.ok ()) fun _ => .ok ((), ()))) fun _ => .ok ((), ((), ())))) fun _ => (.ok (if 20 < letters_186 then 20 else letters_186))) fun r208 => (mshl 1 r208))) fun r209 => (bnd (.ok ()) fun _ => .ok (r209, ()))) fun q211 => (m__law_take (q201.2, q211.1))) fun q212 => (bnd (bnd (bnd (.ok ()) fun _ => (bnd (.ok ()) fun _ => (.ok (decide (20 < letters_186))))) fun b215 => (if b215 = true then (bnd (bnd (.ok ()) fun _ => (bnd (bnd (bnd (bnd (bnd (.ok ()) fun _ => (bnd (bnd (.ok ()) fun _ => (bnd (.ok ()) fun _ => (.ok (letters_186 - 20)))) fun r221 => (mshl 1 r221))) fun r222 => (bnd (.ok ()) fun _ => .ok (r222, ()))) fun q224 => (m__law_take (q212.2, q224.1))) fun r225 => (bnd (.ok ()) fun _ => (bnd (mshl r225.1 20) fun z227 => .ok (z227, (r225, ()))))) fun r228 => (bnd (.ok (q212.1 + r228.1)) fun z229 => .ok (z229, ((), r228))))) fun q230 => (.ok (q230.2.2.2.1.2, q230.1))) else (.ok (q212.2, q212.1)))) fun s216 => (bnd (bnd (bnd (.ok ()) fun _ => (bnd (.ok ()) fun _ => (.ok (decide (q201.1 = 0))))) fun b233 => (if b233 = true then (bnd (bnd (bnd (.ok ()) fun _ => (bnd (.ok ()) fun _ => (mshl 1 letters_186))) fun r237 => (bnd (.ok ()) fun _ => (.ok (r237 - 1)))) fun q239 => (.ok q239)) else (.ok s216.2))) fun s234 => (bnd (bnd (bnd (.ok ()) fun _ => (bnd (.ok ()) fun _ => (.ok (decide (q201.1 = 1))))) fun b242 => (if b242 = true then (bnd (.ok ()) fun _ => (.ok 0)) else (.ok s234))) fun s243 => (bnd (bnd (bnd (.ok ()) fun _ => (bnd (.ok ()) fun _ => (.ok (decide (q201.1 = 2))))) fun b247 => (if b247 = true then (bnd (bnd (.ok ()) fun _ => (bnd (bnd (bnd (bnd (.ok ()) fun _ => (bnd (bnd (bnd (.ok ()) fun _ => (bnd (bnd (.ok ()) fun _ => (bnd (.ok ()) fun _ => .ok ((), ()))) fun _ => .ok ((), ((), ())))) fun _ => (.ok (if 20 < letters_186 then 20 else letters_186))) fun r256 => (mshl 1 r256))) fun r257 => (bnd (.ok ()) fun _ => .ok (r257, ()))) fun q259 => (m__law_take (s216.1, q259.1))) fun r260 => (bnd (.ok (bor s243 r260.1)) fun z261 => .ok (z261, ((), r260))))) fun q262 => (.ok (q262.2.2.2, q262.1))) else (.ok (s216.1, s243)))) fun s248 => (bnd (lcM (bnd (bnd (bnd (.ok ()) fun _ => (bnd (.ok ()) fun _ => .ok ((), ()))) fun _ => (.ok (masks_185.length : Int))) fun r266 => (rng 0 r266)) (fun r268 => r268) (fun a267 => (bnd (bnd (bnd (bnd (.ok ()) fun _ => (bnd (.ok ()) fun _ => (gt masks_185 a267))) fun r272 => (bnd (.ok ()) fun _ => (.ok (bxor r272 q197.1)))) fun r274 => (bnd (.ok ()) fun _ => (.ok (band r274 s248.2)))) fun r276 => (bnd (.ok ()) fun _ => (.ok (decide (r276 = 0)))))) (fun a267 => (bnd (.ok ()) fun q269 => .ok a267))) fun q278 => (bnd (bnd (bnd (bnd (bnd (bnd (.ok ()) fun _ => (bnd (.ok ()) fun _ => .ok ((), ()))) fun _ => (.ok (masks_185.length : Int))) fun r282 => (bnd (bnd (bnd (.ok ()) fun _ => (bnd (.ok ()) fun _ => .ok ((), ()))) fun _ => (.ok (q278.length : Int))) fun r286 => (.ok (r282 + r286)))) fun r287 => (bnd (.ok ()) fun _ => (.ok (decide (most_187 < r287))))) fun b289 => (if b289 = true then (bnd (lcM (bnd (bnd (bnd (.ok ()) fun _ => (bnd (.ok ()) fun _ => .ok ((), ()))) fun _ => (.ok (masks_185.length : Int))) fun r294 => (rng 0 r294)) (fun r296 => r296) (fun a295 => (bnd (bnd (.ok ()) fun _ => (bnd (.ok ()) fun _ => (gt masks_185 a295))) fun r300 => (bnd (.ok ()) fun _ => (.ok (decide (r300 = q197.1)))))) (fun a295 => (bnd (.ok ()) fun q297 => .ok a295))) fun q302 => (.ok q302)) else (.ok q278))) fun s290 => (bnd (.ok ()) fun _ => .ok (s290, s248.1)))))))))))
theorem sc__law_chosen : FnScope ["flow", "masks", "letters", "most", "base", "kind", "fixed", "chosen", "k"] ["flow", "masks", "letters", "most"] (defScope s__law_chosen) := ⟨rfl, rfl, rfl, by decide +kernel, rfl, by decide +kernel, by decide +kernel⟩
theorem J__law_chosen {g : Gx} (T : Tx g) {base : Heap} : DfO g base 3 "_law_chosen" (A := ((List Int) × Int × Int × Int × Bool) × (List Int) × Int × Int) (ρ := (List Int) × ((List Int) × Int × Int × Int × Bool)) (fun a => match a with | (flow_184, masks_185, letters_186, most_187) => (.lst [(.lst (flow_184.1.map D.int)), (.int flow_184.2.1), (.int flow_184.2.2.1), (.int flow_184.2.2.2.1), (.bl flow_184.2.2.2.2)])) (fun a => match a with | (flow_184, masks_185, letters_186, most_187) => [(.lst (masks_185.map D.int)), (.int letters_186), (.int most_187)]) m__law_chosen (fun r => .va (.lst (r.1.map D.int))) (fun r => (.lst [(.lst (r.2.1.map D.int)), (.int r.2.2.1), (.int r.2.2.2.1), (.int r.2.2.2.2.1), (.bl r.2.2.2.2.2)])) :=
  fn_JO T.f__law_chosen sc__law_chosen T.m__law_chosen (fun _ => rfl) (fun _ _ _ _ _ _ us hl => match us, hl with | [_, _, _, _], _ => rfl) fun cdv Ar outer s H E a c hr => match a with
    | (flow_184, masks_185, letters_186, most_187) => JG.cast (m' := m__law_chosen (flow_184, masks_185, letters_186, most_187)) (show JG _ [] [.ow (some c) (.lst [(.lst (flow_184.1.map D.int)), (.int flow_184.2.1), (.int flow_184.2.2.1), (.int flow_184.2.2.2.1), (.bl flow_184.2.2.2.2)]), .va (.lst (masks_185.map D.int)), .va (.int letters_186), .va (.int most_187), .un, .un, .un, .un, .un] _ _ _ from (js_set 4 (fun (q197 : (Int × (Unit × (Int × ((List Int) × Int × Int × Int × Bool))))) => [.ow (some c) (.lst [(.lst (q197.2.2.2.1.map D.int)), (.int q197.2.2.2.2.1), (.int q197.2.2.2.2.2.1), (.int q197.2.2.2.2.2.2.1), (.bl q197.2.2.2.2.2.2.2)]), .va (.lst (masks_185.map D.int)), .va (.int letters_186), .va (.int most_187), .va (.int q197.1), .un, .un, .un, .un]) (je_ix (d2 := fun _ (r195 : (Int × ((List Int) × Int × Int × Int × Bool))) => (.int r195.1)) ix_list (JP.je (jp_var (d := (.lst (masks_185.map D.int))) 1)) (fun _ => (je_callO 0 (J__law_take T) (by exact hr.mono (by decide)) (fun (q194 : (Int × Unit)) => (flow_184, q194.1)) (ja_cons (jp_cb call_len T.n_len PySem.boot_len (ja_cons (jp_var (d := (.lst (masks_185.map D.int))) 1) (fun _ => ja_nil)) (fun _ => (ar_lenL (xs := masks_185) (enc := D.int)))) (fun r192 => ja_nil)))) (fun _ (r195 : (Int × ((List Int) × Int × Int × Int × Bool))) => (od_ixL (xs := masks_185) D.int))) (fun (q197 : (Int × (Unit × (Int × ((List Int) × Int × Int × Int × Bool))))) => (js_set 5 (fun (q201 : (Int × ((List Int) × Int × Int × Int × Bool))) => [.ow (some c) (.lst [(.lst (q201.2.1.map D.int)), (.int q201.2.2.1), (.int q201.2.2.2.1), (.int q201.2.2.2.2.1), (.bl q201.2.2.2.2.2)]), .va (.lst (masks_185.map D.int)), .va (.int letters_186), .va (.int most_187), .va (.int q197.1), .va (.int q201.1), .un, .un, .un]) (je_callO 0 (J__law_take T) (by exact hr.mono (by decide)) (fun _ => (q197.2.2.2, 4)) (ja_cons jp_int (fun _ => ja_nil))) (fun (q201 : (Int × ((List Int) × Int × Int × Int × Bool))) => (js_set 6 (fun (q212 : (Int × ((List Int) × Int × Int × Int × Bool))) => [.ow (some c) (.lst [(.lst (q212.2.1.map D.int)), (.int q212.2.2.1), (.int q212.2.2.2.1), (.int q212.2.2.2.2.1), (.bl q212.2.2.2.2.2)]), .va (.lst (masks_185.map D.int)), .va (.int letters_186), .va (.int most_187), .va (.int q197.1), .va (.int q201.1), .va (.int q212.1), .un, .un]) (je_callO 0 (J__law_take T) (by exact hr.mono (by decide)) (fun (q211 : (Int × Unit)) => (q201.2, q211.1)) (ja_cons (jp_op op_shl jp_int (fun _ => (jp_cb (call_min2 rfl) T.n_min PyProof.Rows.boot_min (ja_cons (jp_var (d := (.int letters_186)) 2) (fun _ => (ja_cons jp_int (fun _ => ja_nil)))) (fun _ => ar_min2))) (fun _ r208 => od_shl)) (fun r209 => ja_nil))) (fun (q212 : (Int × ((List Int) × Int × Int × Int × Bool))) => (js_cut1 (fun s216 : (((List Int) × Int × Int × Int × Bool) × Int) => [.ow (some c) (.lst [(.lst (s216.1.1.map D.int)), (.int s216.1.2.1), (.int s216.1.2.2.1), (.int s216.1.2.2.2.1), (.bl s216.1.2.2.2.2)]), .va (.lst (masks_185.map D.int)), .va (.int letters_186), .va (.int most_187), .va (.int q197.1), .va (.int q201.1), .va (.int s216.2), .un, .un]) (js_ifj (JT.jte (jt_cmp op_gt (nomark _) (jp_var (d := (.int letters_186)) 2) (fun _ => jp_int) (fun _ _ => od_gt))) (fun b215 => (js_set 6 (fun (q230 : (Int × (Unit × (Int × ((Int × ((List Int) × Int × Int × Int × Bool)) × Unit))))) => [.ow (some c) (.lst [(.lst (q230.2.2.2.1.2.1.map D.int)), (.int q230.2.2.2.1.2.2.1), (.int q230.2.2.2.1.2.2.2.1), (.int q230.2.2.2.1.2.2.2.2.1), (.bl q230.2.2.2.1.2.2.2.2.2)]), .va (.lst (masks_185.map D.int)), .va (.int letters_186), .va (.int most_187), .va (.int q197.1), .va (.int q201.1), .va (.int q230.1), .un, .un]) (je_op (d2 := fun _ (r228 : (Int × ((Int × ((List Int) × Int × Int × Int × Bool)) × Unit))) => (.int r228.1)) op_add (JP.je (jp_var (d := (.int q212.1)) 6)) (fun _ => (je_op op_shl (je_callO 0 (J__law_take T) (by exact hr.mono (by decide)) (fun (q224 : (Int × Unit)) => (q212.2, q224.1)) (ja_cons (jp_op op_shl jp_int (fun _ => (jp_op op_sub (jp_var (d := (.int letters_186)) 2) (fun _ => jp_int) (fun _ _ => od_sub))) (fun _ r221 => od_shl)) (fun r222 => ja_nil))) (fun (r225 : (Int × ((List Int) × Int × Int × Int × Bool))) => (JP.je jp_int)) (fun (r225 : (Int × ((List Int) × Int × Int × Int × Bool))) _ => od_shl))) (fun _ (r228 : (Int × ((Int × ((List Int) × Int × Int × Int × Bool)) × Unit))) => od_add)) (fun (q230 : (Int × (Unit × (Int × ((Int × ((List Int) × Int × Int × Int × Bool)) × Unit))))) => (js_pop (js_end (z := (q230.2.2.2.1.2, q230.1)) (.same (.same (.same (.same (.same (.same (.same (.same (.same .nil)))))))))))) sc__law_chosen.nd)) (fun b215 => (js_pop (js_end (z := (q212.2, q212.1)) (.same (.same (.same (.same (.same (.same (.same (.same (.same .nil))))))))))))) (fun s216 => (js_cut1 (fun s234 : Int => [.ow (some c) (.lst [(.lst (s216.1.1.map D.int)), (.int s216.1.2.1), (.int s216.1.2.2.1), (.int s216.1.2.2.2.1), (.bl s216.1.2.2.2.2)]), .va (.lst (masks_185.map D.int)), .va (.int letters_186), .va (.int most_187), .va (.int q197.1), .va (.int q201.1), .va (.int s234), .un, .un]) (js_ifj (JT.jte (jt_cmp op_eq (nomark _) (jp_var (d := (.int q201.1)) 5) (fun _ => jp_int) (fun _ _ => od_eqI))) (fun b233 => (js_set 6 (fun (q239 : Int) => [.ow (some c) (.lst [(.lst (s216.1.1.map D.int)), (.int s216.1.2.1), (.int s216.1.2.2.1), (.int s216.1.2.2.2.1), (.bl s216.1.2.2.2.2)]), .va (.lst (masks_185.map D.int)), .va (.int letters_186), .va (.int most_187), .va (.int q197.1), .va (.int q201.1), .va (.int q239), .un, .un]) (JP.je (jp_op op_sub (jp_op op_shl jp_int (fun _ => (jp_var (d := (.int letters_186)) 2)) (fun _ _ => od_shl)) (fun r237 => jp_int) (fun r237 _ => od_sub))) (fun (q239 : Int) => (js_pop (js_end (z := q239) (.same (.same (.same (.same (.same (.same (.same (.same (.same .nil)))))))))))) sc__law_chosen.nd)) (fun b233 => (js_pop (js_end (z := s216.2) (.same (.same (.same (.same (.same (.same (.same (.same (.same .nil))))))))))))) (fun s234 => (js_cut1 (fun s243 : Int => [.ow (some c) (.lst [(.lst (s216.1.1.map D.int)), (.int s216.1.2.1), (.int s216.1.2.2.1), (.int s216.1.2.2.2.1), (.bl s216.1.2.2.2.2)]), .va (.lst (masks_185.map D.int)), .va (.int letters_186), .va (.int most_187), .va (.int q197.1), .va (.int q201.1), .va (.int s243), .un, .un]) (js_ifj (JT.jte (jt_cmp op_eq (nomark _) (jp_var (d := (.int q201.1)) 5) (fun _ => jp_int) (fun _ _ => od_eqI))) (fun b242 => (js_set 6 (fun _ => [.ow (some c) (.lst [(.lst (s216.1.1.map D.int)), (.int s216.1.2.1), (.int s216.1.2.2.1), (.int s216.1.2.2.2.1), (.bl s216.1.2.2.2.2)]), .va (.lst (masks_185.map D.int)), .va (.int letters_186), .va (.int most_187), .va (.int q197.1), .va (.int q201.1), .va (.int 0), .un, .un]) (JP.je jp_int) (fun _ => (js_pop (js_end (z := 0) (.same (.same (.same (.same (.same (.same (.same (.same (.same .nil)))))))))))) sc__law_chosen.nd)) (fun b242 => (js_pop (js_end (z := s234) (.same (.same (.same (.same (.same (.same (.same (.same (.same .nil))))))))))))) (fun s243 => (js_cut1 (fun s248 : (((List Int) × Int × Int × Int × Bool) × Int) => [.ow (some c) (.lst [(.lst (s248.1.1.map D.int)), (.int s248.1.2.1), (.int s248.1.2.2.1), (.int s248.1.2.2.2.1), (.bl s248.1.2.2.2.2)]), .va (.lst (masks_185.map D.int)), .va (.int letters_186), .va (.int most_187), .va (.int q197.1), .va (.int q201.1), .va (.int s248.2), .un, .un]) (js_ifj (JT.jte (jt_cmp op_eq (nomark _) (jp_var (d := (.int q201.1)) 5) (fun _ => jp_int) (fun _ _ => od_eqI))) (fun b247 => (js_set 6 (fun (q262 : (Int × (Unit × (Int × ((List Int) × Int × Int × Int × Bool))))) => [.ow (some c) (.lst [(.lst (q262.2.2.2.1.map D.int)), (.int q262.2.2.2.2.1), (.int q262.2.2.2.2.2.1), (.int q262.2.2.2.2.2.2.1), (.bl q262.2.2.2.2.2.2.2)]), .va (.lst (masks_185.map D.int)), .va (.int letters_186), .va (.int most_187), .va (.int q197.1), .va (.int q201.1), .va (.int q262.1), .un, .un]) (je_op (d2 := fun _ (r260 : (Int × ((List Int) × Int × Int × Int × Bool))) => (.int r260.1)) op_or (JP.je (jp_var (d := (.int s243)) 6)) (fun _ => (je_callO 0 (J__law_take T) (by exact hr.mono (by decide)) (fun (q259 : (Int × Unit)) => (s216.1, q259.1)) (ja_cons (jp_op op_shl jp_int (fun _ => (jp_cb (call_min2 rfl) T.n_min PyProof.Rows.boot_min (ja_cons (jp_var (d := (.int letters_186)) 2) (fun _ => (ja_cons jp_int (fun _ => ja_nil)))) (fun _ => ar_min2))) (fun _ r256 => od_shl)) (fun r257 => ja_nil)))) (fun _ (r260 : (Int × ((List Int) × Int × Int × Int × Bool))) => od_or)) (fun (q262 : (Int × (Unit × (Int × ((List Int) × Int × Int × Int × Bool))))) => (js_pop (js_end (z := (q262.2.2.2, q262.1)) (.same (.same (.same (.same (.same (.same (.same (.same (.same .nil)))))))))))) sc__law_chosen.nd)) (fun b247 => (js_pop (js_end (z := (s216.1, s243)) (.same (.same (.same (.same (.same (.same (.same (.same (.same .nil))))))))))))) (fun s248 => (js_setLc 7 (own := [("k", 8)]) (fun r268 => r268) D.int D.int (fun a267 => [.ow (some c) (.lst [(.lst (s248.1.1.map D.int)), (.int s248.1.2.1), (.int s248.1.2.2.1), (.int s248.1.2.2.2.1), (.bl s248.1.2.2.2.2)]), .va (.lst (masks_185.map D.int)), .va (.int letters_186), .va (.int most_187), .va (.int q197.1), .va (.int q201.1), .va (.int s248.2), .un, .va (.int a267)]) _ _  (fun q278 => [.ow (some c) (.lst [(.lst (s248.1.1.map D.int)), (.int s248.1.2.1), (.int s248.1.2.2.1), (.int s248.1.2.2.2.1), (.bl s248.1.2.2.2.2)]), .va (.lst (masks_185.map D.int)), .va (.int letters_186), .va (.int most_187), .va (.int q197.1), .va (.int q201.1), .va (.int s248.2), .ow none (.lst (q278.map D.int)), .un]) (ji_range1 (jp_cb call_len T.n_len PySem.boot_len (ja_cons (jp_var (d := (.lst (masks_185.map D.int))) 1) (fun _ => ja_nil)) (fun _ => (ar_lenL (xs := masks_185) (enc := D.int)))) T.n_range) (un1 rfl) (fun _ => (tgb_name (vs := [8]) _ 8)) (fun a267 _ _ _ _ _ => (jts_one (jt_cmp op_eq (nomark _) (jp_op op_and (jp_op op_xor (jp_ix ix_list (jp_var (d := (.lst (masks_185.map D.int))) 1) (fun _ => (jp_var (d := (.int a267)) 8)) (fun _ _ => (od_ixL (xs := masks_185) D.int))) (fun r272 => (jp_var (d := (.int q197.1)) 4)) (fun r272 _ => od_xor)) (fun r274 => (jp_var (d := (.int s248.2)) 6)) (fun r274 _ => od_and)) (fun r276 => jp_int) (fun r276 _ => od_eqI)))) (fun a267 _ _ _ _ _ => (JP.cv (t := fun a => .va (D.int a)) (fun q269 => a267) (jp_var (d := (.int a267)) 8))) (fun q278 => (js_frz 7 [.ow (some c) (.lst [(.lst (s248.1.1.map D.int)), (.int s248.1.2.1), (.int s248.1.2.2.1), (.int s248.1.2.2.2.1), (.bl s248.1.2.2.2.2)]), .va (.lst (masks_185.map D.int)), .va (.int letters_186), .va (.int most_187), .va (.int q197.1), .va (.int q201.1), .va (.int s248.2), .va (.lst (q278.map D.int)), .un] (js_cut1 (fun s290 : (List Int) => [.ow (some c) (.lst [(.lst (s248.1.1.map D.int)), (.int s248.1.2.1), (.int s248.1.2.2.1), (.int s248.1.2.2.2.1), (.bl s248.1.2.2.2.2)]), .va (.lst (masks_185.map D.int)), .va (.int letters_186), .va (.int most_187), .va (.int q197.1), .va (.int q201.1), .va (.int s248.2), .va (.lst (s290.map D.int)), .un]) (js_ifj (JT.jte (jt_cmp op_gt (nomark _) (jp_op op_add (jp_cb call_len T.n_len PySem.boot_len (ja_cons (jp_var (d := (.lst (masks_185.map D.int))) 1) (fun _ => ja_nil)) (fun _ => (ar_lenL (xs := masks_185) (enc := D.int)))) (fun r282 => (jp_cb call_len T.n_len PySem.boot_len (ja_cons (jp_var (d := (.lst (q278.map D.int))) 7) (fun _ => ja_nil)) (fun _ => (ar_lenL (xs := q278) (enc := D.int))))) (fun r282 r286 => od_add)) (fun r287 => (jp_var (d := (.int most_187)) 3)) (fun r287 _ => od_gt))) (fun b289 => (js_setLc 7 (own := [("k", 8)]) (fun r296 => r296) D.int D.int (fun a295 => [.ow (some c) (.lst [(.lst (s248.1.1.map D.int)), (.int s248.1.2.1), (.int s248.1.2.2.1), (.int s248.1.2.2.2.1), (.bl s248.1.2.2.2.2)]), .va (.lst (masks_185.map D.int)), .va (.int letters_186), .va (.int most_187), .va (.int q197.1), .va (.int q201.1), .va (.int s248.2), .va (.lst (q278.map D.int)), .va (.int a295)]) _ _  (fun q302 => [.ow (some c) (.lst [(.lst (s248.1.1.map D.int)), (.int s248.1.2.1), (.int s248.1.2.2.1), (.int s248.1.2.2.2.1), (.bl s248.1.2.2.2.2)]), .va (.lst (masks_185.map D.int)), .va (.int letters_186), .va (.int most_187), .va (.int q197.1), .va (.int q201.1), .va (.int s248.2), .ow none (.lst (q302.map D.int)), .un]) (ji_range1 (jp_cb call_len T.n_len PySem.boot_len (ja_cons (jp_var (d := (.lst (masks_185.map D.int))) 1) (fun _ => ja_nil)) (fun _ => (ar_lenL (xs := masks_185) (enc := D.int)))) T.n_range) (un1 rfl) (fun _ => (tgb_name (vs := [8]) _ 8)) (fun a295 _ _ _ _ _ => (jts_one (jt_cmp op_eq (nomark _) (jp_ix ix_list (jp_var (d := (.lst (masks_185.map D.int))) 1) (fun _ => (jp_var (d := (.int a295)) 8)) (fun _ _ => (od_ixL (xs := masks_185) D.int))) (fun r300 => (jp_var (d := (.int q197.1)) 4)) (fun r300 _ => od_eqI)))) (fun a295 _ _ _ _ _ => (JP.cv (t := fun a => .va (D.int a)) (fun q297 => a295) (jp_var (d := (.int a295)) 8))) (fun q302 => (js_frz 7 [.ow (some c) (.lst [(.lst (s248.1.1.map D.int)), (.int s248.1.2.1), (.int s248.1.2.2.1), (.int s248.1.2.2.2.1), (.bl s248.1.2.2.2.2)]), .va (.lst (masks_185.map D.int)), .va (.int letters_186), .va (.int most_187), .va (.int q197.1), .va (.int q201.1), .va (.int s248.2), .va (.lst (q302.map D.int)), .un] (js_pop (js_end (z := q302) (.same (.same (.same (.same (.same (.same (.same (.same (.same .nil))))))))))))) rfl sc__law_chosen.nd (blkOk_by (N := ["flow", "masks", "letters", "most", "base", "kind", "fixed", "chosen", "k"]) (sc := defScope s__law_chosen) (by decide +kernel)) (fun _ _ _ _ _ => (by first | exact pg_name (i := 8) sc__law_chosen.nd rfl (Or.inl rfl) | exact pg_name (i := 8) sc__law_chosen.nd rfl (Or.inr rfl))) (sw_true rfl rfl (by rfl) (by rfl)))) (fun b289 => (js_pop (js_end (z := q278) (.same (.same (.same (.same (.same (.same (.same (.same (.same .nil))))))))))))) (fun s290 => (js_retO (fun _ => (s290, s248.1)) (fun _ => .ow (some c) (.lst [(.lst (s248.1.1.map D.int)), (.int s248.1.2.1), (.int s248.1.2.2.1), (.int s248.1.2.2.2.1), (.bl s248.1.2.2.2.2)])) (JP.je (jp_var (d := (.lst (s290.map D.int))) 7))))))) rfl sc__law_chosen.nd (blkOk_by (N := ["flow", "masks", "letters", "most", "base", "kind", "fixed", "chosen", "k"]) (sc := defScope s__law_chosen) (by decide +kernel)) (fun _ _ _ _ _ => (by first | exact pg_name (i := 8) sc__law_chosen.nd rfl (Or.inl rfl) | exact pg_name (i := 8) sc__law_chosen.nd rfl (Or.inr rfl))) (sw_true rfl rfl (by rfl) (by rfl)))))))))))) sc__law_chosen.nd)) sc__law_chosen.nd)) sc__law_chosen.nd)) (by first | (dsimp only [m__law_chosen]; done) | rfl)
def m__law_web : ((List Int) × Int × Int × Int × Bool) × Int × Int → M (((List Int) × (List (List Int))) × ((List Int) × Int × Int × Int × Bool)) := fun (flow_161, steps_162, most_163) => (bnd (bnd (.ok ()) fun _ => (bnd (.ok ()) fun _ => .ok ((), ()))) fun _ => (bnd (.ok ()) fun _ => (bnd (bnd (bnd (.ok ()) fun _ => (rng 0 steps_162)) fun r169 => (forN r169 ((flow_161, ([0] : List Int), ([] : (List (List Int)))) : (((List Int) × Int × Int × Int × Bool) × (List Int) × (List (List Int)))) (fun s171 a170 => (bnd (bnd (bnd (bnd (.ok ()) fun _ => (bnd (.ok ()) fun _ => .ok ((), ()))) fun _ => (.ok (s171.2.1.length : Int))) fun r175 => (bnd (.ok ()) fun _ => (.ok (decide (r175 < most_163))))) fun b177 => (if b177 = true then (bnd (bnd (bnd (.ok ()) fun _ => (bnd (bnd (.ok ()) fun _ => (bnd (bnd (.ok ()) fun _ => (bnd (.ok ()) fun _ => .ok ((), ()))) fun _ => .ok ((), ((), ())))) fun _ => .ok ((), ((), ((), ()))))) fun _ => (m__law_chosen (s171.1, s171.2.1, a170, most_163))) fun q305 => (bnd (bnd (bnd (bnd (bnd (.ok ()) fun _ => (bnd (.ok ()) fun _ => .ok ((), ()))) fun _ => (.ok q305.1)) fun r309 => (bnd (.ok ()) fun _ => .ok (r309, ()))) fun q311 => (bnd (apd s171.2.2 q311.1) fun z312 => .ok (z312, q311))) fun q313 => (bnd (bnd (.ok ()) fun _ => (bnd (lcM (.ok ()) (fun r316 => q305.1) (fun a315 => (.ok true)) (fun a315 => (bnd (bnd (.ok ()) fun _ => (bnd (.ok ()) fun _ => (gt s171.2.1 a315))) fun r319 => (bnd (bnd (.ok ()) fun _ => (bnd (.ok ()) fun _ => (mshl 1 a170))) fun r322 => (.ok (bor r319 r322)))))) fun r323 => (chk (s171.2.1.length + r323.length ≤ sizeLine) (s171.2.1 ++ r323)))) fun q324 => (.ok (q305.2, q324, q313.1))))) else (.ok (s171.1, s171.2.1, s171.2.2))))))) fun s171 => (bnd (bnd (.ok ()) fun _ => (bnd (bnd (.ok ()) fun _ => (bnd (.ok ()) fun _ => .ok ((), ()))) fun _ => .ok ((), ((), ())))) fun _ => .ok ((s171.2.1, s171.2.2), s171.1)))))
theorem sc__law_web : FnScope ["flow", "steps", "most", "masks", "told", "letters", "chosen", "k"] ["flow", "steps", "most"] (defScope s__law_web) := ⟨rfl, rfl, rfl, by decide +kernel, rfl, by decide +kernel, by decide +kernel⟩
theorem J__law_web {g : Gx} (T : Tx g) {base : Heap} : DfO g base 4 "_law_web" (A := ((List Int) × Int × Int × Int × Bool) × Int × Int) (ρ := ((List Int) × (List (List Int))) × ((List Int) × Int × Int × Int × Bool)) (fun a => match a with | (flow_161, steps_162, most_163) => (.lst [(.lst (flow_161.1.map D.int)), (.int flow_161.2.1), (.int flow_161.2.2.1), (.int flow_161.2.2.2.1), (.bl flow_161.2.2.2.2)])) (fun a => match a with | (flow_161, steps_162, most_163) => [(.int steps_162), (.int most_163)]) m__law_web (fun r => .va (.lst [(.lst (r.1.1.map D.int)), (.lst (r.1.2.map encI))])) (fun r => (.lst [(.lst (r.2.1.map D.int)), (.int r.2.2.1), (.int r.2.2.2.1), (.int r.2.2.2.2.1), (.bl r.2.2.2.2.2)])) :=
  fn_JO T.f__law_web sc__law_web T.m__law_web (fun _ => rfl) (fun _ _ _ _ _ _ us hl => match us, hl with | [_, _, _], _ => rfl) fun cdv Ar outer s H E a c hr => match a with
    | (flow_161, steps_162, most_163) => JG.cast (m' := m__law_web (flow_161, steps_162, most_163)) (show JG _ [] [.ow (some c) (.lst [(.lst (flow_161.1.map D.int)), (.int flow_161.2.1), (.int flow_161.2.2.1), (.int flow_161.2.2.2.1), (.bl flow_161.2.2.2.2)]), .va (.int steps_162), .va (.int most_163), .un, .un, .un, .un, .un] _ _ _ from (js_set 3 (fun _ => [.ow (some c) (.lst [(.lst (flow_161.1.map D.int)), (.int flow_161.2.1), (.int flow_161.2.2.1), (.int flow_161.2.2.2.1), (.bl flow_161.2.2.2.2)]), .va (.int steps_162), .va (.int most_163), .va (.lst (([0] : List Int).map D.int)), .un, .un, .un, .un]) (JP.je (jp_frz (jp_lst (ja_cons jp_int (fun _ => ja_nil))))) (fun _ => (js_set 4 (fun _ => [.ow (some c) (.lst [(.lst (flow_161.1.map D.int)), (.int flow_161.2.1), (.int flow_161.2.2.1), (.int flow_161.2.2.2.1), (.bl flow_161.2.2.2.2)]), .va (.int steps_162), .va (.int most_163), .va (.lst (([0] : List Int).map D.int)), .ow none (.lst (([] : (List (List Int))).map encI)), .un, .un, .un]) (JP.je (jp_lst ja_nil)) (fun _ => (js_cut1 (fun s171 : (((List Int) × Int × Int × Int × Bool) × (List Int) × (List (List Int))) => [.ow (some c) (.lst [(.lst (s171.1.1.map D.int)), (.int s171.1.2.1), (.int s171.1.2.2.1), (.int s171.1.2.2.2.1), (.bl s171.1.2.2.2.2)]), .va (.int steps_162), .va (.int most_163), .va (.lst (s171.2.1.map D.int)), .ow none (.lst (s171.2.2.map encI)), .un, .un, .un]) (jl_for (fun r169 => r169) D.int ((flow_161, ([0] : List Int), ([] : (List (List Int)))) : (((List Int) × Int × Int × Int × Bool) × (List Int) × (List (List Int)))) (fun s171 : (((List Int) × Int × Int × Int × Bool) × (List Int) × (List (List Int))) => [.ow (some c) (.lst [(.lst (s171.1.1.map D.int)), (.int s171.1.2.1), (.int s171.1.2.2.1), (.int s171.1.2.2.2.1), (.bl s171.1.2.2.2.2)]), .va (.int steps_162), .va (.int most_163), .va (.lst (s171.2.1.map D.int)), .ow none (.lst (s171.2.2.map encI)), .un, .un, .un]) (fun s171 a170 => [.ow (some c) (.lst [(.lst (s171.1.1.map D.int)), (.int s171.1.2.1), (.int s171.1.2.2.1), (.int s171.1.2.2.2.1), (.bl s171.1.2.2.2.2)]), .va (.int steps_162), .va (.int most_163), .va (.lst (s171.2.1.map D.int)), .ow none (.lst (s171.2.2.map encI)), .va (.int a170), .un, .un]) _ (ji_range1 (jp_var (d := (.int steps_162)) 1) T.n_range) (by first | exact pg_name (i := 5) sc__law_web.nd rfl (Or.inl rfl) | exact pg_name (i := 5) sc__law_web.nd rfl (Or.inr rfl)) (.same (.same (.same (.same (.same (.same (.same (.same .nil)))))))) (fun _ _ => (tg_name _ 5)) (fun s171 a170 => (js_if (JT.jte (jt_cmp op_lt (nomark _) (jp_cb call_len T.n_len PySem.boot_len (ja_cons (jp_var (d := (.lst (s171.2.1.map D.int))) 3) (fun _ => ja_nil)) (fun _ => (ar_lenL (xs := s171.2.1) (enc := D.int)))) (fun r175 => (jp_var (d := (.int most_163)) 2)) (fun r175 _ => od_lt))) (fun b177 => (js_set 6 (fun (q305 : ((List Int) × ((List Int) × Int × Int × Int × Bool))) => [.ow (some c) (.lst [(.lst (q305.2.1.map D.int)), (.int q305.2.2.1), (.int q305.2.2.2.1), (.int q305.2.2.2.2.1), (.bl q305.2.2.2.2.2)]), .va (.int steps_162), .va (.int most_163), .va (.lst (s171.2.1.map D.int)), .ow none (.lst (s171.2.2.map encI)), .va (.int a170), .va (.lst (q305.1.map D.int)), .un]) (je_callO 0 (J__law_chosen T) (by exact hr.mono (by decide)) (fun _ => (s171.1, s171.2.1, a170, most_163)) (ja_cons (jp_var (d := (.lst (s171.2.1.map D.int))) 3) (fun _ => (ja_cons (jp_var (d := (.int a170)) 5) (fun _ => (ja_cons (jp_var (d := (.int most_163)) 2) (fun _ => ja_nil))))))) (fun (q305 : ((List Int) × ((List Int) × Int × Int × Int × Bool))) => (js_expr (je_me 4 PySem.F.plainAttrs_list PySem.F.slot_list_append PySem.F.type_list_append mt_append ty_lst (JA.jae (ja_cons (jp_cty call_tuple_of T.n_tuple PyProof.Rows.boot_tuple (ja_cons (jp_var (d := (.lst (q305.1.map D.int))) 6) (fun _ => ja_nil)) (fun _ => (ar_tupleL (xs := q305.1) (enc := D.int)))) (fun r309 => ja_nil))) (fun q311 => (me_append (enc := encI) (xs := s171.2.2) (x := q311.1))) (fun _ _ => by unfold apd chk; split <;> intro h <;> cases h)) (fun (q313 : ((List (List Int)) × ((List Int) × Unit))) => (js_set 3 (fun (q324 : (List Int)) => [.ow (some c) (.lst [(.lst (q305.2.1.map D.int)), (.int q305.2.2.1), (.int q305.2.2.2.1), (.int q305.2.2.2.2.1), (.bl q305.2.2.2.2.2)]), .va (.int steps_162), .va (.int most_163), .va (.lst (q324.map D.int)), .ow none (.lst (q313.1.map encI)), .va (.int a170), .va (.lst (q305.1.map D.int)), .un]) (JP.je (jp_frz (jp_op op_cat (jp_var (d := (.lst (s171.2.1.map D.int))) 3) (fun _ => (jp_frz (jp_lc (own := [("k", 7)]) (fun r316 => q305.1) D.int D.int (fun a315 => [.ow (some c) (.lst [(.lst (q305.2.1.map D.int)), (.int q305.2.2.1), (.int q305.2.2.2.1), (.int q305.2.2.2.2.1), (.bl q305.2.2.2.2.2)]), .va (.int steps_162), .va (.int most_163), .va (.lst (s171.2.1.map D.int)), .ow none (.lst (q313.1.map encI)), .va (.int a170), .va (.lst (q305.1.map D.int)), .va (.int a315)]) _ _  (ji_list (jp_var (d := (.lst (q305.1.map D.int))) 6)) (un1 rfl) (fun _ => (tgb_name (vs := [7]) _ 7)) (fun a315 _ _ _ _ _ => jts_nil) (fun a315 _ _ _ _ _ => (jp_op op_or (jp_ix ix_list (jp_var (d := (.lst (s171.2.1.map D.int))) 3) (fun _ => (jp_var (d := (.int a315)) 7)) (fun _ _ => (od_ixL (xs := s171.2.1) D.int))) (fun r319 => (jp_op op_shl jp_int (fun _ => (jp_var (d := (.int a170)) 5)) (fun _ _ => od_shl))) (fun r319 r322 => od_or))) rfl sc__law_web.nd (blkOk_by (N := ["flow", "steps", "most", "masks", "told", "letters", "chosen", "k"]) (sc := defScope s__law_web) (by decide +kernel)) (fun _ _ _ _ _ => (by first | exact pg_name (i := 7) sc__law_web.nd rfl (Or.inl rfl) | exact pg_name (i := 7) sc__law_web.nd rfl (Or.inr rfl)))))) (fun _ r323 => (od_catL (enc := D.int) (xs := s171.2.1) (ys := r323)))))) (fun (q324 : (List Int)) => (js_pop (js_pop (js_lp (z := (q305.2, q324, q313.1)) (.same (.same (.same (.same (.same (.un (.un (.same .nil)))))))))))) sc__law_web.nd)))) sc__law_web.nd)) (fun b177 => (js_pop (js_pop (js_lp (z := (s171.1, s171.2.1, s171.2.2)) (.same (.same (.same (.same (.same (.un (.same (.same .nil)))))))))))))) passes_cx) (fun s171 => (js_frz 4 [.ow (some c) (.lst [(.lst (s171.1.1.map D.int)), (.int s171.1.2.1), (.int s171.1.2.2.1), (.int s171.1.2.2.2.1), (.bl s171.1.2.2.2.2)]), .va (.int steps_162), .va (.int most_163), .va (.lst (s171.2.1.map D.int)), .va (.lst (s171.2.2.map encI)), .un, .un, .un] (js_retO (fun _ => ((s171.2.1, s171.2.2), s171.1)) (fun _ => .ow (some c) (.lst [(.lst (s171.1.1.map D.int)), (.int s171.1.2.1), (.int s171.1.2.2.1), (.int s171.1.2.2.2.1), (.bl s171.1.2.2.2.2)])) (JP.je (jp_frz (jp_lst (ja_cons (jp_var (d := (.lst (s171.2.1.map D.int))) 3) (fun _ => (ja_cons (jp_var (d := (.lst (s171.2.2.map encI))) 4) (fun _ => ja_nil)))))))))))) sc__law_web.nd)) sc__law_web.nd)) (by first | (dsimp only [m__law_web]; done) | rfl)
def m__law_shuffle : ((List Int) × Int × Int × Int × Bool) × Int → M ((List Int) × ((List Int) × Int × Int × Int × Bool)) := fun (flow_350, size_351) => (bnd (bnd (.ok ()) fun _ => (lrg 0 size_351)) fun q353 => (bnd (.ok ()) fun _ => (bnd (bnd (bnd (.ok ()) fun _ => (rng 0 size_351)) fun r356 => (forN r356 ((flow_350, q353, ([] : (List Int))) : (((List Int) × Int × Int × Int × Bool) × (List Int) × (List Int))) (fun s358 a357 => (bnd (bnd (bnd (bnd (bnd (bnd (bnd (bnd (.ok ()) fun _ => .ok (s358.2.1.length : Int)) fun r359 => (bnd (.ok ()) fun _ => .ok (r359, ()))) fun q361 => (m__law_take (s358.1, q361.1))) fun r362 => (bnd (.ok ()) fun _ => .ok (r362, ()))) fun q364 => (bnd (popI s358.2.1 q364.1.1) fun z365 => .ok (z365, q364))) fun r366 => (bnd (.ok ()) fun _ => .ok (r366, ()))) fun q368 => (bnd (apd s358.2.2 q368.1.1.1) fun z369 => .ok (z369, q368))) fun q370 => (.ok (q370.2.1.2.1.2, q370.2.1.1.2, q370.1)))))) fun s358 => (bnd (.ok ()) fun _ => .ok (s358.2.2, s358.1)))))
theorem sc__law_shuffle : FnScope ["flow", "size", "left", "order", "k"] ["flow", "size"] (defScope s__law_shuffle) := ⟨rfl, rfl, rfl, by decide +kernel, rfl, by decide +kernel, by decide +kernel⟩
theorem J__law_shuffle {g : Gx} (T : Tx g) {base : Heap} : DfO g base 3 "_law_shuffle" (A := ((List Int) × Int × Int × Int × Bool) × Int) (ρ := (List Int) × ((List Int) × Int × Int × Int × Bool)) (fun a => match a with | (flow_350, size_351) => (.lst [(.lst (flow_350.1.map D.int)), (.int flow_350.2.1), (.int flow_350.2.2.1), (.int flow_350.2.2.2.1), (.bl flow_350.2.2.2.2)])) (fun a => match a with | (flow_350, size_351) => [(.int size_351)]) m__law_shuffle (fun r => .va (.lst (r.1.map D.int))) (fun r => (.lst [(.lst (r.2.1.map D.int)), (.int r.2.2.1), (.int r.2.2.2.1), (.int r.2.2.2.2.1), (.bl r.2.2.2.2.2)])) :=
  fn_JO T.f__law_shuffle sc__law_shuffle T.m__law_shuffle (fun _ => rfl) (fun _ _ _ _ _ _ us hl => match us, hl with | [_, _], _ => rfl) fun cdv Ar outer s H E a c hr => match a with
    | (flow_350, size_351) => JG.cast (m' := m__law_shuffle (flow_350, size_351)) (show JG _ [] [.ow (some c) (.lst [(.lst (flow_350.1.map D.int)), (.int flow_350.2.1), (.int flow_350.2.2.1), (.int flow_350.2.2.2.1), (.bl flow_350.2.2.2.2)]), .va (.int size_351), .un, .un, .un] _ _ _ from (js_set 2 (fun (q353 : (List Int)) => [.ow (some c) (.lst [(.lst (flow_350.1.map D.int)), (.int flow_350.2.1), (.int flow_350.2.2.1), (.int flow_350.2.2.2.1), (.bl flow_350.2.2.2.2)]), .va (.int size_351), .ow none (.lst (q353.map D.int)), .un, .un]) (JP.je (jp_listRg (jp_var (d := (.int size_351)) 1) rfl T.n_list T.n_range)) (fun (q353 : (List Int)) => (js_set 3 (fun _ => [.ow (some c) (.lst [(.lst (flow_350.1.map D.int)), (.int flow_350.2.1), (.int flow_350.2.2.1), (.int flow_350.2.2.2.1), (.bl flow_350.2.2.2.2)]), .va (.int size_351), .ow none (.lst (q353.map D.int)), .ow none (.lst (([] : (List Int)).map D.int)), .un]) (JP.je (jp_lst ja_nil)) (fun _ => (js_cut1 (fun s358 : (((List Int) × Int × Int × Int × Bool) × (List Int) × (List Int)) => [.ow (some c) (.lst [(.lst (s358.1.1.map D.int)), (.int s358.1.2.1), (.int s358.1.2.2.1), (.int s358.1.2.2.2.1), (.bl s358.1.2.2.2.2)]), .va (.int size_351), .ow none (.lst (s358.2.1.map D.int)), .ow none (.lst (s358.2.2.map D.int)), .un]) (jl_for (fun r356 => r356) D.int ((flow_350, q353, ([] : (List Int))) : (((List Int) × Int × Int × Int × Bool) × (List Int) × (List Int))) (fun s358 : (((List Int) × Int × Int × Int × Bool) × (List Int) × (List Int)) => [.ow (some c) (.lst [(.lst (s358.1.1.map D.int)), (.int s358.1.2.1), (.int s358.1.2.2.1), (.int s358.1.2.2.2.1), (.bl s358.1.2.2.2.2)]), .va (.int size_351), .ow none (.lst (s358.2.1.map D.int)), .ow none (.lst (s358.2.2.map D.int)), .un]) (fun s358 a357 => [.ow (some c) (.lst [(.lst (s358.1.1.map D.int)), (.int s358.1.2.1), (.int s358.1.2.2.1), (.int s358.1.2.2.2.1), (.bl s358.1.2.2.2.2)]), .va (.int size_351), .ow none (.lst (s358.2.1.map D.int)), .ow none (.lst (s358.2.2.map D.int)), .va (.int a357)]) _ (ji_range1 (jp_var (d := (.int size_351)) 1) T.n_range) (by first | exact pg_name (i := 4) sc__law_shuffle.nd rfl (Or.inl rfl) | exact pg_name (i := 4) sc__law_shuffle.nd rfl (Or.inr rfl)) (.same (.same (.same (.same (.same .nil))))) (fun _ _ => (tg_name _ 4)) (fun s358 a357 => (js_expr (je_me 3 PySem.F.plainAttrs_list PySem.F.slot_list_append PySem.F.type_list_append mt_append ty_lst (jae_cons (je_me 2 PySem.F.plainAttrs_list PySem.F.slot_list_pop PySem.F.type_list_pop mt_popAt ty_lst (jae_cons (je_callO 0 (J__law_take T) (by exact hr.mono (by decide)) (fun (q361 : (Int × Unit)) => (s358.1, q361.1)) (ja_cons (JP.cv (t := fun a => .va (D.int a)) (fun _ => (s358.2.1.length : Int)) (jp_lenO 2 T.n_len) (by intro _; simp)) (fun r359 => ja_nil))) (fun (r362 : (Int × ((List Int) × Int × Int × Int × Bool))) => (JA.jae ja_nil))) (fun q364 => (me_popI (enc := D.int) (xs := s358.2.1) (i := q364.1.1))) (fun _ _ => by unfold popI chk; split <;> (try split) <;> (try split) <;> intro h <;> cases h)) (fun (r366 : ((Int × (List Int)) × ((Int × ((List Int) × Int × Int × Int × Bool)) × Unit))) => (JA.jae ja_nil))) (fun q368 => (me_append (enc := D.int) (xs := s358.2.2) (x := q368.1.1.1))) (fun _ _ => by unfold apd chk; split <;> intro h <;> cases h)) (fun (q370 : ((List Int) × (((Int × (List Int)) × ((Int × ((List Int) × Int × Int × Int × Bool)) × Unit)) × Unit))) => (js_pop (js_lp (z := (q370.2.1.2.1.2, q370.2.1.1.2, q370.1)) (.same (.same (.same (.same (.un .nil)))))))))) passes_cx) (fun s358 => (js_frz 3 [.ow (some c) (.lst [(.lst (s358.1.1.map D.int)), (.int s358.1.2.1), (.int s358.1.2.2.1), (.int s358.1.2.2.2.1), (.bl s358.1.2.2.2.2)]), .va (.int size_351), .ow none (.lst (s358.2.1.map D.int)), .va (.lst (s358.2.2.map D.int)), .un] (js_retO (fun _ => (s358.2.2, s358.1)) (fun _ => .ow (some c) (.lst [(.lst (s358.1.1.map D.int)), (.int s358.1.2.1), (.int s358.1.2.2.1), (.int s358.1.2.2.2.1), (.bl s358.1.2.2.2.2)])) (JP.je (jp_var (d := (.lst (s358.2.2.map D.int))) 3))))))) sc__law_shuffle.nd)) sc__law_shuffle.nd)) (by first | (dsimp only [m__law_shuffle]; done) | rfl)
def m__law_rows : ((List Int) × Int × Int × Int × Bool) × (List Int) × Int → M ((List (List Int)) × ((List Int) × Int × Int × Int × Bool)) := fun (flow_345, masks_346, letters_347) => (bnd (bnd (bnd (.ok ()) fun _ => (bnd (.ok ()) fun _ => .ok ((), ()))) fun _ => (m__law_shuffle (flow_345, letters_347))) fun q373 => (bnd (lcEM (bnd (.ok ()) fun _ => (rng 0 letters_347)) (fun r376 => r376) q373.2 (fun s380 a375 => (bnd (bnd (bnd (.ok ()) fun _ => (bnd (.ok ()) fun _ => .ok ((), ()))) fun _ => (m__law_take (s380, 2))) fun w384 => .ok (w384.1, w384.2)))) fun q385 => (bnd (.ok ()) fun _ => (bnd (bnd (.ok ()) fun _ => (forN masks_346 (([] : (List (List Int))) : (List (List Int))) (fun s389 a388 => (bnd (bnd (bnd (bnd (bnd (lcM (bnd (.ok ()) fun _ => (rng 0 letters_347)) (fun r392 => r392) (fun a391 => (.ok true)) (fun a391 => (bnd (bnd (bnd (.ok ()) fun _ => (bnd (bnd (.ok ()) fun _ => (bnd (.ok ()) fun _ => (gt q373.1 a391))) fun r396 => (mshr a388 r396))) fun r397 => (bnd (.ok ()) fun _ => (.ok (band r397 1)))) fun r399 => (bnd (bnd (.ok ()) fun _ => (bnd (.ok ()) fun _ => (gt q385.1 a391))) fun r402 => (.ok (bxor r399 r402)))))) fun r403 => (bnd (.ok ()) fun _ => .ok (r403, ()))) fun q405 => (.ok q405.1)) fun r406 => (bnd (.ok ()) fun _ => .ok (r406, ()))) fun q408 => (bnd (apd s389 q408.1) fun z409 => .ok (z409, q408))) fun q410 => (.ok q410.1))))) fun s389 => (bnd (bnd (bnd (.ok ()) fun _ => (bnd (.ok ()) fun _ => .ok ((), ()))) fun _ => (chk (s389.length ≤ 1 ∨ ∀ n ∈ s389, n ≠ []) (sortT s389))) fun q414 => .ok (q414, q385.2))))))
theorem sc__law_rows : FnScope ["flow", "masks", "letters", "order", "turned_v", "rows", "mask", "j"] ["flow", "masks", "letters"] (defScope s__law_rows) := ⟨rfl, rfl, rfl, by decide +kernel, rfl, by decide +kernel, by decide +kernel⟩
theorem J__law_rows {g : Gx} (T : Tx g) {base : Heap} : DfO g base 4 "_law_rows" (A := ((List Int) × Int × Int × Int × Bool) × (List Int) × Int) (ρ := (List (List Int)) × ((List Int) × Int × Int × Int × Bool)) (fun a => match a with | (flow_345, masks_346, letters_347) => (.lst [(.lst (flow_345.1.map D.int)), (.int flow_345.2.1), (.int flow_345.2.2.1), (.int flow_345.2.2.2.1), (.bl flow_345.2.2.2.2)])) (fun a => match a with | (flow_345, masks_346, letters_347) => [(.lst (masks_346.map D.int)), (.int letters_347)]) m__law_rows (fun r => .va (.lst (r.1.map encI))) (fun r => (.lst [(.lst (r.2.1.map D.int)), (.int r.2.2.1), (.int r.2.2.2.1), (.int r.2.2.2.2.1), (.bl r.2.2.2.2.2)])) :=
  fn_JO T.f__law_rows sc__law_rows T.m__law_rows (fun _ => rfl) (fun _ _ _ _ _ _ us hl => match us, hl with | [_, _, _], _ => rfl) fun cdv Ar outer s H E a c hr => match a with
    | (flow_345, masks_346, letters_347) => JG.cast (m' := m__law_rows (flow_345, masks_346, letters_347)) (show JG _ [] [.ow (some c) (.lst [(.lst (flow_345.1.map D.int)), (.int flow_345.2.1), (.int flow_345.2.2.1), (.int flow_345.2.2.2.1), (.bl flow_345.2.2.2.2)]), .va (.lst (masks_346.map D.int)), .va (.int letters_347), .un, .un, .un, .un, .un] _ _ _ from (js_set 3 (fun (q373 : ((List Int) × ((List Int) × Int × Int × Int × Bool))) => [.ow (some c) (.lst [(.lst (q373.2.1.map D.int)), (.int q373.2.2.1), (.int q373.2.2.2.1), (.int q373.2.2.2.2.1), (.bl q373.2.2.2.2.2)]), .va (.lst (masks_346.map D.int)), .va (.int letters_347), .va (.lst (q373.1.map D.int)), .un, .un, .un, .un]) (je_callO 0 (J__law_shuffle T) (by exact hr.mono (by decide)) (fun _ => (flow_345, letters_347)) (ja_cons (jp_var (d := (.int letters_347)) 2) (fun _ => ja_nil))) (fun (q373 : ((List Int) × ((List Int) × Int × Int × Int × Bool))) => (js_set 4 (fun (q385 : ((List Int) × ((List Int) × Int × Int × Int × Bool))) => [.ow (some c) (.lst [(.lst (q385.2.1.map D.int)), (.int q385.2.2.1), (.int q385.2.2.2.1), (.int q385.2.2.2.2.1), (.bl q385.2.2.2.2.2)]), .va (.lst (masks_346.map D.int)), .va (.int letters_347), .va (.lst (q373.1.map D.int)), .ow none (.lst (q385.1.map D.int)), .un, .un, .un]) (je_lcE (own := [("j", 7)]) (fun r376 => r376) D.int D.int q373.2 (fun s380 : ((List Int) × Int × Int × Int × Bool) => [.ow (some c) (.lst [(.lst (s380.1.map D.int)), (.int s380.2.1), (.int s380.2.2.1), (.int s380.2.2.2.1), (.bl s380.2.2.2.2)]), .va (.lst (masks_346.map D.int)), .va (.int letters_347), .va (.lst (q373.1.map D.int)), .un, .un, .un, .un]) (fun s380 a375 => [.ow (some c) (.lst [(.lst (s380.1.map D.int)), (.int s380.2.1), (.int s380.2.2.1), (.int s380.2.2.2.1), (.bl s380.2.2.2.2)]), .va (.lst (masks_346.map D.int)), .va (.int letters_347), .va (.lst (q373.1.map D.int)), .un, .un, .un, .va (.int a375)]) _ (fun _ a375 (w384 : Int × ((List Int) × Int × Int × Int × Bool)) => [.ow (some c) (.lst [(.lst (w384.2.1.map D.int)), (.int w384.2.2.1), (.int w384.2.2.2.1), (.int w384.2.2.2.2.1), (.bl w384.2.2.2.2.2)]), .va (.lst (masks_346.map D.int)), .va (.int letters_347), .va (.lst (q373.1.map D.int)), .un, .un, .un, .va (.int a375)])  (ji_range1 (jp_var (d := (.int letters_347)) 2) T.n_range) (fun _ => (un1 rfl)) (fun _ _ => (tgb_name (vs := [7]) _ 7)) (fun s380 a375 _ _ _ _ _ => (JE.cv (t := fun b => .va (D.int b.1)) (Γ' := fun (w384 : Int × ((List Int) × Int × Int × Int × Bool)) => [.ow (some c) (.lst [(.lst (w384.2.1.map D.int)), (.int w384.2.2.1), (.int w384.2.2.2.1), (.int w384.2.2.2.2.1), (.bl w384.2.2.2.2.2)]), .va (.lst (masks_346.map D.int)), .va (.int letters_347), .va (.lst (q373.1.map D.int)), .un, .un, .un, .va (.int a375)]) (fun (w384 : Int × ((List Int) × Int × Int × Int × Bool)) => (w384.1, w384.2)) (je_callO 0 (J__law_take T) (by exact hr.mono (by decide)) (fun _ => (s380, 2)) (ja_cons jp_int (fun _ => ja_nil))))) (fun _ _ _ => (.same (.same (.same (.same (.same (.same (.same (.un .nil))))))))) rfl sc__law_rows.nd (blkOk_by (N := ["flow", "masks", "letters", "order", "turned_v", "rows", "mask", "j"]) (sc := defScope s__law_rows) (by decide +kernel)) (fun _ _ _ _ _ => (by first | exact pg_name (i := 7) sc__law_rows.nd rfl (Or.inl rfl) | exact pg_name (i := 7) sc__law_rows.nd rfl (Or.inr rfl)))) (fun (q385 : ((List Int) × ((List Int) × Int × Int × Int × Bool))) => (js_frz 4 [.ow (some c) (.lst [(.lst (q385.2.1.map D.int)), (.int q385.2.2.1), (.int q385.2.2.2.1), (.int q385.2.2.2.2.1), (.bl q385.2.2.2.2.2)]), .va (.lst (masks_346.map D.int)), .va (.int letters_347), .va (.lst (q373.1.map D.int)), .va (.lst (q385.1.map D.int)), .un, .un, .un] (js_set 5 (fun _ => [.ow (some c) (.lst [(.lst (q385.2.1.map D.int)), (.int q385.2.2.1), (.int q385.2.2.2.1), (.int q385.2.2.2.2.1), (.bl q385.2.2.2.2.2)]), .va (.lst (masks_346.map D.int)), .va (.int letters_347), .va (.lst (q373.1.map D.int)), .va (.lst (q385.1.map D.int)), .ow none (.lst (([] : (List (List Int))).map encI)), .un, .un]) (JP.je (jp_lst ja_nil)) (fun _ => (js_cut1 (fun s389 : (List (List Int)) => [.ow (some c) (.lst [(.lst (q385.2.1.map D.int)), (.int q385.2.2.1), (.int q385.2.2.2.1), (.int q385.2.2.2.2.1), (.bl q385.2.2.2.2.2)]), .va (.lst (masks_346.map D.int)), .va (.int letters_347), .va (.lst (q373.1.map D.int)), .va (.lst (q385.1.map D.int)), .ow none (.lst (s389.map encI)), .un, .un]) (jl_for (fun _ => masks_346) D.int (([] : (List (List Int))) : (List (List Int))) (fun s389 : (List (List Int)) => [.ow (some c) (.lst [(.lst (q385.2.1.map D.int)), (.int q385.2.2.1), (.int q385.2.2.2.1), (.int q385.2.2.2.2.1), (.bl q385.2.2.2.2.2)]), .va (.lst (masks_346.map D.int)), .va (.int letters_347), .va (.lst (q373.1.map D.int)), .va (.lst (q385.1.map D.int)), .ow none (.lst (s389.map encI)), .un, .un]) (fun s389 a388 => [.ow (some c) (.lst [(.lst (q385.2.1.map D.int)), (.int q385.2.2.1), (.int q385.2.2.2.1), (.int q385.2.2.2.2.1), (.bl q385.2.2.2.2.2)]), .va (.lst (masks_346.map D.int)), .va (.int letters_347), .va (.lst (q373.1.map D.int)), .va (.lst (q385.1.map D.int)), .ow none (.lst (s389.map encI)), .va (.int a388), .un]) _ (ji_list (jp_var (d := (.lst (masks_346.map D.int))) 1)) (by first | exact pg_name (i := 6) sc__law_rows.nd rfl (Or.inl rfl) | exact pg_name (i := 6) sc__law_rows.nd rfl (Or.inr rfl)) (.same (.same (.same (.same (.same (.same (.same (.same .nil)))))))) (fun _ _ => (tg_name _ 6)) (fun s389 a388 => (js_expr (je_me 5 PySem.F.plainAttrs_list PySem.F.slot_list_append PySem.F.type_list_append mt_append ty_lst (JA.jae (ja_cons (jp_cty call_tuple_of T.n_tuple PyProof.Rows.boot_tuple (ja_cons (jp_frz (jp_lc (own := [("j", 7)]) (fun r392 => r392) D.int D.int (fun a391 => [.ow (some c) (.lst [(.lst (q385.2.1.map D.int)), (.int q385.2.2.1), (.int q385.2.2.2.1), (.int q385.2.2.2.2.1), (.bl q385.2.2.2.2.2)]), .va (.lst (masks_346.map D.int)), .va (.int letters_347), .va (.lst (q373.1.map D.int)), .va (.lst (q385.1.map D.int)), .ow none (.lst (s389.map encI)), .va (.int a388), .va (.int a391)]) _ _  (ji_range1 (jp_var (d := (.int letters_347)) 2) T.n_range) (un1 rfl) (fun _ => (tgb_name (vs := [7]) _ 7)) (fun a391 _ _ _ _ _ => jts_nil) (fun a391 _ _ _ _ _ => (jp_op op_xor (jp_op op_and (jp_op op_shr (jp_var (d := (.int a388)) 6) (fun _ => (jp_ix ix_list (jp_var (d := (.lst (q373.1.map D.int))) 3) (fun _ => (jp_var (d := (.int a391)) 7)) (fun _ _ => (od_ixL (xs := q373.1) D.int)))) (fun _ r396 => od_shr)) (fun r397 => jp_int) (fun r397 _ => od_and)) (fun r399 => (jp_ix ix_list (jp_var (d := (.lst (q385.1.map D.int))) 4) (fun _ => (jp_var (d := (.int a391)) 7)) (fun _ _ => (od_ixL (xs := q385.1) D.int)))) (fun r399 r402 => od_xor))) rfl sc__law_rows.nd (blkOk_by (N := ["flow", "masks", "letters", "order", "turned_v", "rows", "mask", "j"]) (sc := defScope s__law_rows) (by decide +kernel)) (fun _ _ _ _ _ => (by first | exact pg_name (i := 7) sc__law_rows.nd rfl (Or.inl rfl) | exact pg_name (i := 7) sc__law_rows.nd rfl (Or.inr rfl))))) (fun r403 => ja_nil)) (fun q405 => (ar_tupleL (xs := q405.1) (enc := D.int)))) (fun r406 => ja_nil))) (fun q408 => (me_append (enc := encI) (xs := s389) (x := q408.1))) (fun _ _ => by unfold apd chk; split <;> intro h <;> cases h)) (fun (q410 : ((List (List Int)) × ((List Int) × Unit))) => (js_pop (js_lp (z := q410.1) (.same (.same (.same (.same (.same (.same (.un (.same .nil))))))))))))) passes_cx) (fun s389 => (js_frz 5 [.ow (some c) (.lst [(.lst (q385.2.1.map D.int)), (.int q385.2.2.1), (.int q385.2.2.2.1), (.int q385.2.2.2.2.1), (.bl q385.2.2.2.2.2)]), .va (.lst (masks_346.map D.int)), .va (.int letters_347), .va (.lst (q373.1.map D.int)), .va (.lst (q385.1.map D.int)), .va (.lst (s389.map encI)), .un, .un] (js_retO (fun (q414 : (List (List Int))) => (q414, q385.2)) (fun (q414 : (List (List Int))) => .ow (some c) (.lst [(.lst (q385.2.1.map D.int)), (.int q385.2.2.1), (.int q385.2.2.2.1), (.int q385.2.2.2.2.1), (.bl q385.2.2.2.2.2)])) (JP.je (jp_frz (jp_cb (cr_sortTs (by exact hu63 hr)) T.n_sorted PyProof.Rows.boot_sorted (ja_cons (jp_var (d := (.lst (s389.map encI))) 5) (fun _ => ja_nil)) (fun _ => ar_sortTs))))))))) sc__law_rows.nd))) sc__law_rows.nd)) sc__law_rows.nd)) (by first | (dsimp only [m__law_rows]; done) | rfl)
def m__law_drawn : ((List Int) × Int × Int × Int × Bool) → M ((Int × (List (List Int))) × ((List Int) × Int × Int × Int × Bool)) := fun flow_28 => (bnd (bnd (bnd (bnd (.ok ()) fun _ => (bnd (.ok ()) fun _ => .ok ((), ()))) fun _ => (m__law_take (flow_28, 24))) fun r150 => (bnd (.ok ()) fun _ => (bnd (.ok (decide (r150.1 = 0))) fun z152 => .ok (z152, (r150, ()))))) fun q153 => (if q153.1 = true then (bnd (bnd (bnd (bnd (bnd (.ok ()) fun _ => (bnd (.ok ()) fun _ => .ok ((), ()))) fun _ => (m__law_take (q153.2.1.2, 40))) fun r157 => (bnd (bnd (.ok ()) fun _ => (bnd (.ok ()) fun _ => .ok ((), ()))) fun _ => .ok (r157, ((), ())))) fun q331 => (bnd (m__law_web (q331.1.2, q331.1.1, 40)) fun z332 => .ok (z332, q331))) fun q333 => (bnd (bnd (bnd (bnd (.ok ()) fun _ => (bnd (.ok ()) fun _ => .ok ((), ()))) fun _ => (.ok (q333.1.1.2.length : Int))) fun r337 => (bnd (bnd (bnd (bnd (.ok ()) fun _ => (bnd (bnd (bnd (bnd (.ok ()) fun _ => (bnd (.ok ()) fun _ => .ok ((), ()))) fun _ => (.ok (q333.1.1.2.length : Int))) fun r342 => (bnd (.ok ()) fun _ => .ok (r342, ()))) fun r344 => .ok ((), r344))) fun q415 => (m__law_rows (q333.1.2, q333.1.1.1, q415.2.1))) fun r416 => (bnd (.ok ()) fun _ => .ok (r416, ()))) fun r418 => .ok (r337, r418))) fun q419 => .ok ((q419.1, q419.2.1.1), q419.2.1.2))) else (bnd (bnd (bnd (bnd (bnd (.ok ()) fun _ => (bnd (.ok ()) fun _ => .ok ((), ()))) fun _ => (m__law_take (q153.2.1.2, 9))) fun r423 => (bnd (bnd (.ok ()) fun _ => (bnd (.ok ()) fun _ => .ok ((), ()))) fun _ => .ok (r423, ((), ())))) fun q427 => (bnd (m__law_web (q427.1.2, q427.1.1, 20)) fun z428 => .ok (z428, q427))) fun q429 => (bnd (bnd (bnd (bnd (.ok ()) fun _ => (bnd (.ok ()) fun _ => .ok ((), ()))) fun _ => (.ok (q429.1.1.2.length : Int))) fun r433 => (bnd (bnd (bnd (bnd (.ok ()) fun _ => (bnd (bnd (bnd (bnd (.ok ()) fun _ => (bnd (.ok ()) fun _ => .ok ((), ()))) fun _ => (.ok (q429.1.1.2.length : Int))) fun r438 => (bnd (.ok ()) fun _ => .ok (r438, ()))) fun r440 => .ok ((), r440))) fun q441 => (m__law_rows (q429.1.2, q429.1.1.1, q441.2.1))) fun r442 => (bnd (.ok ()) fun _ => .ok (r442, ()))) fun r444 => .ok (r433, r444))) fun q445 => .ok ((q445.1, q445.2.1.1), q445.2.1.2)))))
theorem sc__law_drawn : FnScope ["flow", "masks", "told"] ["flow"] (defScope s__law_drawn) := ⟨rfl, rfl, rfl, by decide +kernel, rfl, by decide +kernel, by decide +kernel⟩
theorem J__law_drawn {g : Gx} (T : Tx g) {base : Heap} : DfO g base 5 "_law_drawn" (A := ((List Int) × Int × Int × Int × Bool)) (ρ := (Int × (List (List Int))) × ((List Int) × Int × Int × Int × Bool)) (fun flow_28 => (.lst [(.lst (flow_28.1.map D.int)), (.int flow_28.2.1), (.int flow_28.2.2.1), (.int flow_28.2.2.2.1), (.bl flow_28.2.2.2.2)])) (fun flow_28 => []) m__law_drawn (fun r => .va (.lst [(.int r.1.1), (.lst (r.1.2.map encI))])) (fun r => (.lst [(.lst (r.2.1.map D.int)), (.int r.2.2.1), (.int r.2.2.2.1), (.int r.2.2.2.2.1), (.bl r.2.2.2.2.2)])) :=
  fn_JO T.f__law_drawn sc__law_drawn T.m__law_drawn (fun _ => rfl) (fun _ _ _ _ _ _ us hl => match us, hl with | [_], _ => rfl) fun cdv Ar outer s H E flow_28 c hr =>
    JG.cast (m' := m__law_drawn flow_28) (show JG _ [] [.ow (some c) (.lst [(.lst (flow_28.1.map D.int)), (.int flow_28.2.1), (.int flow_28.2.2.1), (.int flow_28.2.2.2.1), (.bl flow_28.2.2.2.2)]), .un, .un] _ _ _ from (js_if (jte_cmp op_eq (nomark _) (je_callO 0 (J__law_take T) (by exact hr.mono (by decide)) (fun _ => (flow_28, 24)) (ja_cons jp_int (fun _ => ja_nil))) (fun (r150 : (Int × ((List Int) × Int × Int × Int × Bool))) => (JP.je jp_int)) (fun (r150 : (Int × ((List Int) × Int × Int × Int × Bool))) _ => od_eqI)) (fun (q153 : (Bool × ((Int × ((List Int) × Int × Int × Int × Bool)) × Unit))) => (js_unp (je_callOE (t := fun r => .va (.lst [(.lst (r.1.1.map D.int)), (.lst (r.1.2.map encI))])) 0 (J__law_web T) (by exact hr.mono (by decide)) (fun (q331 : ((Int × ((List Int) × Int × Int × Int × Bool)) × (Unit × Unit))) => (q331.1.2, q331.1.1, 40)) (jae_cons (je_callO 0 (J__law_take T) (by exact hr.mono (by decide)) (fun _ => (q153.2.1.2, 40)) (ja_cons jp_int (fun _ => ja_nil))) (fun (r157 : (Int × ((List Int) × Int × Int × Int × Bool))) => (JA.jae (ja_cons jp_int (fun _ => ja_nil)))))) (pg_lst (n := 2) rfl (pgs_cons (by first | exact pg_name (i := 1) sc__law_drawn.nd rfl (Or.inl rfl) | exact pg_name (i := 1) sc__law_drawn.nd rfl (Or.inr rfl)) (pgs_cons (by first | exact pg_name (i := 2) sc__law_drawn.nd rfl (Or.inl rfl) | exact pg_name (i := 2) sc__law_drawn.nd rfl (Or.inr rfl)) pgs_nil))) (Γ2 := fun (q333 : ((((List Int) × (List (List Int))) × ((List Int) × Int × Int × Int × Bool)) × ((Int × ((List Int) × Int × Int × Int × Bool)) × (Unit × Unit)))) => [.ow (some c) (.lst [(.lst (q333.1.2.1.map D.int)), (.int q333.1.2.2.1), (.int q333.1.2.2.2.1), (.int q333.1.2.2.2.2.1), (.bl q333.1.2.2.2.2.2)]), .va (.lst (q333.1.1.1.map D.int)), .va (.lst (q333.1.1.2.map encI))]) (fun (q333 : ((((List Int) × (List (List Int))) × ((List Int) × Int × Int × Int × Bool)) × ((Int × ((List Int) × Int × Int × Int × Bool)) × (Unit × Unit)))) => (tg_lst (n := 2) _ (tgs_cons _ (tg_name _ 1) (tgs_cons _ (tg_name _ 2) (tgs_nil _))))) (fun (q333 : ((((List Int) × (List (List Int))) × ((List Int) × Int × Int × Int × Bool)) × ((Int × ((List Int) × Int × Int × Int × Bool)) × (Unit × Unit)))) => (js_pop (js_retO (fun (q419 : (Int × (((List (List Int)) × ((List Int) × Int × Int × Int × Bool)) × Unit))) => ((q419.1, q419.2.1.1), q419.2.1.2)) (fun (q419 : (Int × (((List (List Int)) × ((List Int) × Int × Int × Int × Bool)) × Unit))) => .ow (some c) (.lst [(.lst (q419.2.1.2.1.map D.int)), (.int q419.2.1.2.2.1), (.int q419.2.1.2.2.2.1), (.int q419.2.1.2.2.2.2.1), (.bl q419.2.1.2.2.2.2.2)])) (je_frzR (je_lst (jae_cons (JP.je (jp_cb call_len T.n_len PySem.boot_len (ja_cons (jp_var (d := (.lst (q333.1.1.2.map encI))) 2) (fun _ => ja_nil)) (fun _ => (ar_lenL (xs := q333.1.1.2) (enc := encI))))) (fun (r337 : Int) => (jae_cons (je_callO 0 (J__law_rows T) (by exact hr.mono (by decide)) (fun (q415 : (Unit × (Int × Unit))) => (q333.1.2, q333.1.1.1, q415.2.1)) (ja_cons (jp_var (d := (.lst (q333.1.1.1.map D.int))) 1) (fun _ => (ja_cons (jp_cb call_len T.n_len PySem.boot_len (ja_cons (jp_var (d := (.lst (q333.1.1.2.map encI))) 2) (fun _ => ja_nil)) (fun _ => (ar_lenL (xs := q333.1.1.2) (enc := encI)))) (fun r342 => ja_nil))))) (fun (r416 : ((List (List Int)) × ((List Int) × Int × Int × Int × Bool))) => (JA.jae ja_nil)))))))))))) (fun (q153 : (Bool × ((Int × ((List Int) × Int × Int × Int × Bool)) × Unit))) => (js_unp (je_callOE (t := fun r => .va (.lst [(.lst (r.1.1.map D.int)), (.lst (r.1.2.map encI))])) 0 (J__law_web T) (by exact hr.mono (by decide)) (fun (q427 : ((Int × ((List Int) × Int × Int × Int × Bool)) × (Unit × Unit))) => (q427.1.2, q427.1.1, 20)) (jae_cons (je_callO 0 (J__law_take T) (by exact hr.mono (by decide)) (fun _ => (q153.2.1.2, 9)) (ja_cons jp_int (fun _ => ja_nil))) (fun (r423 : (Int × ((List Int) × Int × Int × Int × Bool))) => (JA.jae (ja_cons jp_int (fun _ => ja_nil)))))) (pg_lst (n := 2) rfl (pgs_cons (by first | exact pg_name (i := 1) sc__law_drawn.nd rfl (Or.inl rfl) | exact pg_name (i := 1) sc__law_drawn.nd rfl (Or.inr rfl)) (pgs_cons (by first | exact pg_name (i := 2) sc__law_drawn.nd rfl (Or.inl rfl) | exact pg_name (i := 2) sc__law_drawn.nd rfl (Or.inr rfl)) pgs_nil))) (Γ2 := fun (q429 : ((((List Int) × (List (List Int))) × ((List Int) × Int × Int × Int × Bool)) × ((Int × ((List Int) × Int × Int × Int × Bool)) × (Unit × Unit)))) => [.ow (some c) (.lst [(.lst (q429.1.2.1.map D.int)), (.int q429.1.2.2.1), (.int q429.1.2.2.2.1), (.int q429.1.2.2.2.2.1), (.bl q429.1.2.2.2.2.2)]), .va (.lst (q429.1.1.1.map D.int)), .va (.lst (q429.1.1.2.map encI))]) (fun (q429 : ((((List Int) × (List (List Int))) × ((List Int) × Int × Int × Int × Bool)) × ((Int × ((List Int) × Int × Int × Int × Bool)) × (Unit × Unit)))) => (tg_lst (n := 2) _ (tgs_cons _ (tg_name _ 1) (tgs_cons _ (tg_name _ 2) (tgs_nil _))))) (fun (q429 : ((((List Int) × (List (List Int))) × ((List Int) × Int × Int × Int × Bool)) × ((Int × ((List Int) × Int × Int × Int × Bool)) × (Unit × Unit)))) => (js_pop (js_retO (fun (q445 : (Int × (((List (List Int)) × ((List Int) × Int × Int × Int × Bool)) × Unit))) => ((q445.1, q445.2.1.1), q445.2.1.2)) (fun (q445 : (Int × (((List (List Int)) × ((List Int) × Int × Int × Int × Bool)) × Unit))) => .ow (some c) (.lst [(.lst (q445.2.1.2.1.map D.int)), (.int q445.2.1.2.2.1), (.int q445.2.1.2.2.2.1), (.int q445.2.1.2.2.2.2.1), (.bl q445.2.1.2.2.2.2.2)])) (je_frzR (je_lst (jae_cons (JP.je (jp_cb call_len T.n_len PySem.boot_len (ja_cons (jp_var (d := (.lst (q429.1.1.2.map encI))) 2) (fun _ => ja_nil)) (fun _ => (ar_lenL (xs := q429.1.1.2) (enc := encI))))) (fun (r433 : Int) => (jae_cons (je_callO 0 (J__law_rows T) (by exact hr.mono (by decide)) (fun (q441 : (Unit × (Int × Unit))) => (q429.1.2, q429.1.1.1, q441.2.1)) (ja_cons (jp_var (d := (.lst (q429.1.1.1.map D.int))) 1) (fun _ => (ja_cons (jp_cb call_len T.n_len PySem.boot_len (ja_cons (jp_var (d := (.lst (q429.1.1.2.map encI))) 2) (fun _ => ja_nil)) (fun _ => (ar_lenL (xs := q429.1.1.2) (enc := encI)))) (fun r438 => ja_nil))))) (fun (r442 : ((List (List Int)) × ((List Int) × Int × Int × Int × Bool))) => (JA.jae ja_nil)))))))))))))) (by first | (dsimp only [m__law_drawn]; done) | rfl)
def m_is_integer : Int → M (Bool) := fun value_519 => (bnd (bnd (bnd (.ok ()) fun _ => .ok true) fun b521 => (if b521 = true then (bnd (bnd (.ok ()) fun _ => .ok false) fun r520 => .ok (!r520)) else .ok false)) fun q522 => .ok q522)
theorem sc_is_integer : FnScope ["value"] ["value"] (defScope s_is_integer) := ⟨rfl, rfl, rfl, by decide +kernel, rfl, by decide +kernel, by decide +kernel⟩
theorem J_is_integer {g : Gx} (T : Tx g) {base : Heap} : Df g base 1 "is_integer" (A := Int) (ρ := Bool) (fun value_519 => [(.int value_519)]) m_is_integer (fun r => .va (.bl r)) :=
  fn_J T.f_is_integer sc_is_integer T.m_is_integer (fun _ => rfl) (fun _ _ _ _ _ _ us hl => match us, hl with | [_], _ => rfl) fun cdv Ar outer s H E value_519 hr =>
    JG.cast (m' := m_is_integer value_519) (show JG _ [] [.va (.int value_519)] _ _ _ from (js_ret (fun (q522 : Bool) => q522) (JP.je (jp_and (jp_isi (T := "int") (bb := fun _ => true) (jp_var (d := (.int value_519)) 0) (fun _ => isi_ty (T := "int") (by rfl) (by decide +kernel)) T.n_isinstance T.n_int PyProof.Rows.boot_int) (jp_one (jp_not (jp_isi (T := "bool") (bb := fun _ => false) (jp_var (d := (.int value_519)) 0) (fun _ => isi_ty (T := "int") (by rfl) (by decide +kernel)) T.n_isinstance T.n_bool (boot_bool)))))))) (by first | (dsimp only [m_is_integer]; done) | rfl)
def m_is_between : Int × Int × Int → M (Bool) := fun (value_513, low_514, high_515) => (bnd (bnd (bnd (bnd (.ok ()) fun _ => (bnd (.ok ()) fun _ => .ok ((), ()))) fun _ => (m_is_integer value_513)) fun b524 => (if b524 = true then (bnd (.ok ()) fun _ => (bnd (.ok ()) fun _ => (bnd (.ok (decide (low_514 ≤ value_513))) fun b523 => (if b523 = true then (bnd (.ok ()) fun _ => .ok (decide (value_513 ≤ high_515))) else .ok false)))) else .ok false)) fun q525 => .ok q525)
theorem sc_is_between : FnScope ["value", "low", "high"] ["value", "low", "high"] (defScope s_is_between) := ⟨rfl, rfl, rfl, by decide +kernel, rfl, by decide +kernel, by decide +kernel⟩
theorem J_is_between {g : Gx} (T : Tx g) {base : Heap} : Df g base 2 "is_between" (A := Int × Int × Int) (ρ := Bool) (fun a => match a with | (value_513, low_514, high_515) => [(.int value_513), (.int low_514), (.int high_515)]) m_is_between (fun r => .va (.bl r)) :=
  fn_J T.f_is_between sc_is_between T.m_is_between (fun _ => rfl) (fun _ _ _ _ _ _ us hl => match us, hl with | [_, _, _], _ => rfl) fun cdv Ar outer s H E a hr => match a with
    | (value_513, low_514, high_515) => JG.cast (m' := m_is_between (value_513, low_514, high_515)) (show JG _ [] [.va (.int value_513), .va (.int low_514), .va (.int high_515)] _ _ _ from (js_ret (fun (q525 : Bool) => q525) (JP.je (jp_and (jp_call (J_is_integer T) (by exact hr.mono (by decide)) (fun _ => value_513) (ja_cons (jp_var (d := (.int value_513)) 0) (fun _ => ja_nil))) (jp_one (jp_chain op_le op_le (jp_var (d := (.int low_514)) 1) (fun _ => (jp_var (d := (.int value_513)) 0)) (fun _ _ => od_le) (fun _ _ => (jp_var (d := (.int high_515)) 2)) (fun _ _ _ => od_le))))))) (by first | (dsimp only [m_is_between]; done) | rfl)
def m_is_bit : Int → M (Bool) := fun value_559 => (bnd (bnd (bnd (.ok ()) fun _ => (bnd (bnd (.ok ()) fun _ => (bnd (bnd (.ok ()) fun _ => (bnd (.ok ()) fun _ => .ok ((), ()))) fun _ => .ok ((), ((), ())))) fun _ => .ok ((), ((), ((), ()))))) fun _ => (m_is_between (value_559, 0, 1))) fun q567 => .ok q567)
theorem sc_is_bit : FnScope ["value"] ["value"] (defScope s_is_bit) := ⟨rfl, rfl, rfl, by decide +kernel, rfl, by decide +kernel, by decide +kernel⟩
theorem J_is_bit {g : Gx} (T : Tx g) {base : Heap} : Df g base 3 "is_bit" (A := Int) (ρ := Bool) (fun value_559 => [(.int value_559)]) m_is_bit (fun r => .va (.bl r)) :=
  fn_J T.f_is_bit sc_is_bit T.m_is_bit (fun _ => rfl) (fun _ _ _ _ _ _ us hl => match us, hl with | [_], _ => rfl) fun cdv Ar outer s H E value_559 hr =>
    JG.cast (m' := m_is_bit value_559) (show JG _ [] [.va (.int value_559)] _ _ _ from (js_ret (fun (q567 : Bool) => q567) (JP.je (jp_call (J_is_between T) (by exact hr.mono (by decide)) (fun _ => (value_559, 0, 1)) (ja_cons (jp_var (d := (.int value_559)) 0) (fun _ => (ja_cons jp_int (fun _ => (ja_cons jp_int (fun _ => ja_nil)))))))))) (by first | (dsimp only [m_is_bit]; done) | rfl)
def m_is_word : (List Int) × Int → M (Bool) := fun (value_547, length_548) => (bnd (bnd (bnd (.ok ()) fun _ => .ok true) fun b572 => (if b572 = true then (bnd (bnd (bnd (bnd (.ok ()) fun _ => (bnd (.ok ()) fun _ => .ok ((), ()))) fun _ => (.ok (value_547.length : Int))) fun r552 => (bnd (.ok ()) fun _ => (.ok (decide (r552 = length_548))))) fun b571 => (if b571 = true then (bnd (bnd (lcM (.ok ()) (fun r555 => value_547) (fun a554 => (.ok true)) (fun a554 => (bnd (bnd (.ok ()) fun _ => (bnd (.ok ()) fun _ => .ok ((), ()))) fun _ => (m_is_bit a554)))) fun r568 => (bnd (.ok ()) fun _ => .ok (r568, ()))) fun q570 => (.ok (q570.1.all id))) else .ok false)) else .ok false)) fun q573 => .ok q573)
theorem sc_is_word : FnScope ["value", "length", "letter"] ["value", "length"] (defScope s_is_word) := ⟨rfl, rfl, rfl, by decide +kernel, rfl, by decide +kernel, by decide +kernel⟩
theorem J_is_word {g : Gx} (T : Tx g) {base : Heap} : Df g base 4 "is_word" (A := (List Int) × Int) (ρ := Bool) (fun a => match a with | (value_547, length_548) => [(.tup (value_547.map D.int)), (.int length_548)]) m_is_word (fun r => .va (.bl r)) :=
  fn_J T.f_is_word sc_is_word T.m_is_word (fun _ => rfl) (fun _ _ _ _ _ _ us hl => match us, hl with | [_, _], _ => rfl) fun cdv Ar outer s H E a hr => match a with
    | (value_547, length_548) => JG.cast (m' := m_is_word (value_547, length_548)) (show JG _ [] [.va (.tup (value_547.map D.int)), .va (.int length_548), .un] _ _ _ from (js_ret (fun (q573 : Bool) => q573) (JP.je (jp_and (jp_isi (T := "tuple") (bb := fun _ => true) (jp_var (d := (.tup (value_547.map D.int))) 0) (fun _ => isi_ty (T := "tuple") (by rfl) (by decide +kernel)) T.n_isinstance T.n_tuple PyProof.Rows.boot_tuple) (jp_and (jp_cmp op_eq (nomark _) (jp_cb call_len T.n_len PySem.boot_len (ja_cons (jp_var (d := (.tup (value_547.map D.int))) 0) (fun _ => ja_nil)) (fun _ => (ar_lenT (xs := value_547) (enc := D.int)))) (fun r552 => (jp_var (d := (.int length_548)) 1)) (fun r552 _ => od_eqI)) (jp_one (jp_cb (cr_all rfl) T.n_all PyProof.Rows.boot_all (ja_cons (jp_frz (jp_lc (own := [("letter", 2)]) (fun r555 => value_547) D.int D.bl (fun a554 => [.va (.tup (value_547.map D.int)), .va (.int length_548), .va (.int a554)]) _ _  (ji_tup (jp_var (d := (.tup (value_547.map D.int))) 0)) (un1 rfl) (fun _ => (tgb_name (vs := [2]) _ 2)) (fun a554 _ _ _ _ _ => jts_nil) (fun a554 _ _ _ _ _ => (jp_call (J_is_bit T) (by exact hr.mono (by decide)) (fun _ => a554) (ja_cons (jp_var (d := (.int a554)) 2) (fun _ => ja_nil)))) rfl sc_is_word.nd (blkOk_by (N := ["value", "length", "letter"]) (sc := defScope s_is_word) (by decide +kernel)) (fun _ _ _ _ _ => (by first | exact pg_name (i := 2) sc_is_word.nd rfl (Or.inl rfl) | exact pg_name (i := 2) sc_is_word.nd rfl (Or.inr rfl))))) (fun r568 => ja_nil)) (fun q570 => ar_all)))))))) (by first | (dsimp only [m_is_word]; done) | rfl)
def m_Words : Int × (List (List Int)) → M ((Int × (List (List Int)))) := fun (length_504, words_505) => (bnd (bnd (bnd (bnd (.ok ()) fun _ => (bnd (bnd (.ok ()) fun _ => (bnd (bnd (.ok ()) fun _ => (bnd (.ok ()) fun _ => .ok ((), ()))) fun _ => .ok ((), ((), ())))) fun _ => .ok ((), ((), ((), ()))))) fun _ => (m_is_between (length_504, 0, 39))) fun b526 => .ok (!b526)) fun b527 => (if b527 = true then .st else (bnd (bnd (bnd (bnd (.ok ()) fun _ => .ok (false || true)) fun b528 => .ok (!b528)) fun b534 => (if b534 = true then .ok true else (bnd (bnd (bnd (.ok ()) fun _ => (bnd (.ok ()) fun _ => .ok ((), ()))) fun _ => (.ok (words_505.length : Int))) fun r532 => (bnd (.ok ()) fun _ => (.ok (decide (r532 = 0))))))) fun b535 => (if b535 = true then .st else (bnd (bnd (.ok ()) fun _ => (forN (enumL words_505) (() : Unit) (fun _ a538 => (bnd (bnd (bnd (.ok ()) fun _ => (bnd (.ok ()) fun _ => (.ok (decide (a538.1 = 40))))) fun b575 => (if b575 = true then .ok true else (bnd (bnd (bnd (.ok ()) fun _ => (bnd (bnd (.ok ()) fun _ => (bnd (.ok ()) fun _ => .ok ((), ()))) fun _ => .ok ((), ((), ())))) fun _ => (m_is_word (a538.2, length_504))) fun b574 => .ok (!b574)))) fun b576 => (if b576 = true then .st else (bnd (bnd (bnd (.ok ()) fun _ => (bnd (.ok ()) fun _ => (.ok (decide (0 < a538.1))))) fun b585 => (if b585 = true then (bnd (.ok ()) fun _ => (bnd (bnd (.ok ()) fun _ => (bnd (bnd (.ok ()) fun _ => (bnd (.ok ()) fun _ => (.ok (a538.1 - 1)))) fun r583 => (gt words_505 r583))) fun r584 => (.ok (!((oInt).tup).lt r584 a538.2)))) else .ok false)) fun b586 => (if b586 = true then .st else (.ok ())))))))) fun _ => (bnd (.ok ()) fun _ => (bnd (bnd (bnd (.ok ()) fun _ => (bnd (.ok ()) fun _ => .ok ((), ()))) fun _ => (.ok words_505)) fun q591 => (.ok (length_504, q591)))))))))
theorem sc_Words : FnScope ["self", "length", "words", "place", "word"] ["self", "length", "words"] (defScope s_Words) := ⟨rfl, rfl, rfl, by decide +kernel, rfl, by decide +kernel, by decide +kernel⟩
theorem J_Words {g : Gx} (T : Tx g) {base : Heap} : DfC g base 5 "Words" T.cWords (A := Int × (List (List Int))) (fun a => match a with | (length_504, words_505) => [(.int length_504), (.tup (words_505.map encI))]) (ρ := (Int × (List (List Int)))) m_Words (fun r => [("length", (.int r.1)), ("words", (.tup (r.2.map encI)))]) :=
  fn_JC (Γr := fun _ => [.un, .un, .un, .un]) T.f_Words sc_Words T.m_Words T.mk_Words (fun _ => rfl) (fun _ _ _ _ _ _ us hl => match us, hl with | [_, _, _], _ => rfl) fun cdv Ar outer s H E a c hr => match a with
    | (length_504, words_505) => JG.cast (m' := m_Words (length_504, words_505)) (show JG _ [] [.ow (some c) (.ob T.cWords []), .va (.int length_504), .va (.tup (words_505.map encI)), .un, .un] _ _ _ from (js_if (JT.jte (jt_not (jt_val (jp_call (J_is_between T) (by exact hr.mono (by decide)) (fun _ => (length_504, 0, 39)) (ja_cons (jp_var (d := (.int length_504)) 1) (fun _ => (ja_cons jp_int (fun _ => (ja_cons (jp_gint (i := 39) T.kMOST_LETTERS_words) (fun _ => ja_nil)))))))))) (fun b527 => js_stuck) (fun b527 => (js_pop (js_if (JT.jte (jt_w (jw_or (jt_not (jt_val (jp_isi2 (T1 := "list") (T2 := "tuple") (bb := fun _ => (false || true)) (jp_var (d := (.tup (words_505.map encI))) 2) (fun _ => isi_any2 (T := "tuple") (by rfl) (by decide +kernel) (by decide +kernel)) T.n_isinstance T.n_list T.n_tuple PyProof.Rows.boot_list PyProof.Rows.boot_tuple))) (jw_or1 (jt_cmp op_eq (nomark _) (jp_cb call_len T.n_len PySem.boot_len (ja_cons (jp_var (d := (.tup (words_505.map encI))) 2) (fun _ => ja_nil)) (fun _ => (ar_lenT (xs := words_505) (enc := encI)))) (fun r532 => jp_int) (fun r532 _ => od_eqI)))))) (fun b535 => js_stuck) (fun b535 => (js_pop (js_cut1 (fun _ : Unit => [.ow (some c) (.ob T.cWords []), .va (.int length_504), .va (.tup (words_505.map encI)), .un, .un]) (jl_for (fun _ => (enumL words_505)) (encP D.int encI) (() : Unit) (fun _ : Unit => [.ow (some c) (.ob T.cWords []), .va (.int length_504), .va (.tup (words_505.map encI)), .un, .un]) (fun _ a538 => [.ow (some c) (.ob T.cWords []), .va (.int length_504), .va (.tup (words_505.map encI)), .va (.int a538.1), .va (.tup (a538.2.map D.int))]) _ (ji_enT (enc := encI) (l := fun r536 => words_505) (jp_var (d := (.tup (words_505.map encI))) 2) T.n_enumerate) (pg_tup (n := 2) rfl (pgs_cons (by first | exact pg_name (i := 3) sc_Words.nd rfl (Or.inl rfl) | exact pg_name (i := 3) sc_Words.nd rfl (Or.inr rfl)) (pgs_cons (by first | exact pg_name (i := 4) sc_Words.nd rfl (Or.inl rfl) | exact pg_name (i := 4) sc_Words.nd rfl (Or.inr rfl)) pgs_nil))) (.same (.same (.same (.same (.same .nil))))) (fun _ _ => (tg_tup (n := 2) _ (tgs_cons _ (tg_name _ 3) (tgs_cons _ (tg_name _ 4) (tgs_nil _))))) (fun _ a538 => (js_if (JT.jte (jt_w (jw_or (jt_cmp op_eq (nomark _) (jp_var (d := (.int a538.1)) 3) (fun _ => (jp_gint (i := 40) T.kMOST_WORDS)) (fun _ _ => od_eqI)) (jw_or1 (jt_not (jt_val (jp_call (J_is_word T) (by exact hr.mono (by decide)) (fun _ => (a538.2, length_504)) (ja_cons (jp_var (d := (.tup (a538.2.map D.int))) 4) (fun _ => (ja_cons (jp_var (d := (.int length_504)) 1) (fun _ => ja_nil))))))))))) (fun b576 => js_stuck) (fun b576 => (js_pop (js_if (JT.jte (jt_w (jw_and (jt_cmp op_gt (nomark _) (jp_var (d := (.int a538.1)) 3) (fun _ => jp_int) (fun _ _ => od_gt)) (jw_and1 (jt_cmp (op_leD (by exact hu63 hr)) (nomark _) (jp_var (d := (.tup (a538.2.map D.int))) 4) (fun _ => (jp_ix ix_tup (jp_var (d := (.tup (words_505.map encI))) 2) (fun _ => (jp_op op_sub (jp_var (d := (.int a538.1)) 3) (fun _ => jp_int) (fun _ _ => od_sub))) (fun _ r583 => (od_ixT (xs := words_505) encI)))) (fun _ r584 => (od_leE (enc := encI) (x := a538.2) (y := r584) ((oInt).tup)))))))) (fun b586 => js_stuck) (fun b586 => (js_pop (js_pop (js_lp (z := ()) (.same (.same (.same (.un (.un .nil)))))))))))))) passes_cx) (fun _ => (js_fld 0 (fun _ => [.ow (some c) (.ob T.cWords [("length", (.int length_504))]), .va (.int length_504), .va (.tup (words_505.map encI)), .un, .un]) (JP.je (jp_var (d := (.int length_504)) 1)) (fun _ => (js_fld 0 (fun q591 => [.ow (some c) (.ob T.cWords [("length", (.int length_504)), ("words", (.tup (q591.map encI)))]), .va (.int length_504), .va (.tup (words_505.map encI)), .un, .un]) (JP.je (jp_cty call_tuple_of T.n_tuple PyProof.Rows.boot_tuple (ja_cons (jp_var (d := (.tup (words_505.map encI))) 2) (fun _ => ja_nil)) (fun _ => (ar_tupleT (xs := words_505) (enc := encI))))) (fun q591 => (js_pop (js_end (z := (length_504, q591)) (.same (.un (.un (.same (.same .nil)))))))) T.lWords T.aWords_words)) T.lWords T.aWords_length)))))))))) (by first | (dsimp only [m_Words]; done) | rfl)
def m_number_of_word : (List Int) → M (Int) := fun word_628 => (bnd (.ok ()) fun _ => (bnd (bnd (.ok ()) fun _ => (forN word_628 (0 : Int) (fun s632 a631 => (bnd (bnd (bnd (.ok ()) fun _ => (bnd (.ok ()) fun _ => (mmul 2 s632))) fun r635 => (bnd (.ok ()) fun _ => (.ok (r635 + a631)))) fun q637 => (.ok q637))))) fun s632 => (bnd (.ok ()) fun _ => .ok s632)))
theorem sc_number_of_word : FnScope ["word", "number", "letter"] ["word"] (defScope s_number_of_word) := ⟨rfl, rfl, rfl, by decide +kernel, rfl, by decide +kernel, by decide +kernel⟩
theorem J_number_of_word {g : Gx} (T : Tx g) {base : Heap} : Df g base 1 "number_of_word" (A := (List Int)) (ρ := Int) (fun word_628 => [(.tup (word_628.map D.int))]) m_number_of_word (fun r => .va (.int r)) :=
  fn_J T.f_number_of_word sc_number_of_word T.m_number_of_word (fun _ => rfl) (fun _ _ _ _ _ _ us hl => match us, hl with | [_], _ => rfl) fun cdv Ar outer s H E word_628 hr =>
    JG.cast (m' := m_number_of_word word_628) (show JG _ [] [.va (.tup (word_628.map D.int)), .un, .un] _ _ _ from (js_set 1 (fun _ => [.va (.tup (word_628.map D.int)), .va (.int 0), .un]) (JP.je jp_int) (fun _ => (js_cut1 (fun s632 : Int => [.va (.tup (word_628.map D.int)), .va (.int s632), .un]) (jl_for (fun _ => word_628) D.int (0 : Int) (fun s632 : Int => [.va (.tup (word_628.map D.int)), .va (.int s632), .un]) (fun s632 a631 => [.va (.tup (word_628.map D.int)), .va (.int s632), .va (.int a631)]) _ (ji_tup (jp_var (d := (.tup (word_628.map D.int))) 0)) (by first | exact pg_name (i := 2) sc_number_of_word.nd rfl (Or.inl rfl) | exact pg_name (i := 2) sc_number_of_word.nd rfl (Or.inr rfl)) (.same (.same (.same .nil))) (fun _ _ => (tg_name _ 2)) (fun s632 a631 => (js_set 1 (fun (q637 : Int) => [.va (.tup (word_628.map D.int)), .va (.int q637), .va (.int a631)]) (JP.je (jp_op op_add (jp_op op_mul jp_int (fun _ => (jp_var (d := (.int s632)) 1)) (fun _ _ => od_mul)) (fun r635 => (jp_var (d := (.int a631)) 2)) (fun r635 _ => od_add))) (fun (q637 : Int) => (js_pop (js_lp (z := q637) (.same (.same (.un .nil)))))) sc_number_of_word.nd)) passes_cx) (fun s632 => (js_ret (fun _ => s632) (JP.je (jp_var (d := (.int s632)) 1)))))) sc_number_of_word.nd)) (by first | (dsimp only [m_number_of_word]; done) | rfl)
def m_numbers_of : (Int × (List (List Int))) → M ((List Int)) := fun words_621 => (bnd (lcM (.ok ()) (fun r624 => words_621.2) (fun a623 => (.ok true)) (fun a623 => (bnd (bnd (.ok ()) fun _ => (bnd (.ok ()) fun _ => .ok ((), ()))) fun _ => (m_number_of_word a623)))) fun q639 => .ok q639)
theorem sc_numbers_of : FnScope ["words", "word"] ["words"] (defScope s_numbers_of) := ⟨rfl, rfl, rfl, by decide +kernel, rfl, by decide +kernel, by decide +kernel⟩
theorem J_numbers_of {g : Gx} (T : Tx g) {base : Heap} : Df g base 2 "numbers_of" (A := (Int × (List (List Int)))) (ρ := (List Int)) (fun words_621 => [(.ob T.cWords [("length", (.int words_621.1)), ("words", (.tup (words_621.2.map encI)))])]) m_numbers_of (fun r => .va (.lst (r.map D.int))) :=
  fn_J T.f_numbers_of sc_numbers_of T.m_numbers_of (fun _ => rfl) (fun _ _ _ _ _ _ us hl => match us, hl with | [_], _ => rfl) fun cdv Ar outer s H E words_621 hr =>
    JG.cast (m' := m_numbers_of words_621) (show JG _ [] [.va (.ob T.cWords [("length", (.int words_621.1)), ("words", (.tup (words_621.2.map encI)))]), .un] _ _ _ from (js_ret (fun (q639 : (List Int)) => q639) (JP.je (jp_frz (jp_lc (own := [("word", 1)]) (fun r624 => words_621.2) encI D.int (fun a623 => [.va (.ob T.cWords [("length", (.int words_621.1)), ("words", (.tup (words_621.2.map encI)))]), .va (.tup (a623.map D.int))]) _ _  (ji_tup (jp_fld (d := fun _ => (.tup (words_621.2.map encI))) (jp_var (d := (.ob T.cWords [("length", (.int words_621.1)), ("words", (.tup (words_621.2.map encI)))])) 0) T.lWords T.aWords_words)) (un1 rfl) (fun _ => (tgb_name (vs := [1]) _ 1)) (fun a623 _ _ _ _ _ => jts_nil) (fun a623 _ _ _ _ _ => (jp_call (J_number_of_word T) (by exact hr.mono (by decide)) (fun _ => a623) (ja_cons (jp_var (d := (.tup (a623.map D.int))) 1) (fun _ => ja_nil)))) rfl sc_numbers_of.nd (blkOk_by (N := ["words", "word"]) (sc := defScope s_numbers_of) (by decide +kernel)) (fun _ _ _ _ _ => (by first | exact pg_name (i := 1) sc_numbers_of.nd rfl (Or.inl rfl) | exact pg_name (i := 1) sc_numbers_of.nd rfl (Or.inr rfl)))))))) (by first | (dsimp only [m_numbers_of]; done) | rfl)
def m_first_wrong : (List Int) → M ((Option (Int × Int × Int))) := fun numbers_643 => (bnd (bnd (bnd (.ok ()) fun _ => (bnd (.ok ()) fun _ => .ok ((), ()))) fun _ => (chk (numbers_643.length + 1 < scanBound) (setOf numbers_643))) fun q647 => (bnd (bnd (bnd (.ok ()) fun _ => (bnd (.ok ()) fun _ => .ok ((), ()))) fun _ => (.ok (numbers_643.length : Int))) fun q651 => (bnd (bnd (bnd (.ok ()) fun _ => (rng 0 q651)) fun r653 => (forR r653 (() : Unit) (fun _ a654 => (bnd (bnd (bnd (bnd (.ok ()) fun _ => (bnd (.ok ()) fun _ => (.ok (a654 + 1)))) fun r658 => (bnd (.ok ()) fun _ => (rng r658 q651))) fun r660 => (forR r660 (() : Unit) (fun _ a661 => (bnd (bnd (bnd (.ok ()) fun _ => (bnd (.ok ()) fun _ => (gt numbers_643 a654))) fun r665 => (bnd (bnd (.ok ()) fun _ => (bnd (.ok ()) fun _ => (gt numbers_643 a661))) fun r668 => (.ok (band r665 r668)))) fun q669 => (bnd (bnd (bnd (.ok ()) fun _ => (bnd (.ok ()) fun _ => (gt numbers_643 a654))) fun r672 => (bnd (bnd (.ok ()) fun _ => (bnd (.ok ()) fun _ => (gt numbers_643 a661))) fun r675 => (.ok (bor r672 r675)))) fun q676 => (bnd (bnd (bnd (bnd (.ok ()) fun _ => (bnd (.ok ()) fun _ => (.ok (a661 + 1)))) fun r679 => (bnd (.ok ()) fun _ => (rng r679 q651))) fun r681 => (forR r681 (() : Unit) (fun _ a682 => (bnd (bnd (bnd (.ok ()) fun _ => (bnd (bnd (.ok ()) fun _ => (bnd (bnd (.ok ()) fun _ => (bnd (.ok ()) fun _ => (gt numbers_643 a682))) fun r688 => (.ok (band q676 r688)))) fun r689 => (.ok (bor q669 r689)))) fun r690 => (bnd (.ok ()) fun _ => (.ok (!decide (r690 ∈ q647))))) fun b692 => (if b692 = true then (bnd (bnd (.ok ()) fun _ => (bnd (bnd (.ok ()) fun _ => (bnd (bnd (.ok ()) fun _ => (bnd (.ok ()) fun _ => .ok ((), ()))) fun _ => .ok ((), ((), ())))) fun _ => .ok ((), ((), ((), ()))))) fun _ => .ok (.dn (some (a654, a661, a682)))) else (.ok (Lo.go ()))))))) (Pt.to (fun z => .dn z) fun _ => (.ok (Lo.go ()))))))))) (Pt.to (fun z => .dn z) fun _ => (.ok (Lo.go ()))))))) (Pt.to (fun z => z) fun _ => (bnd (.ok ()) fun _ => .ok (none : (Option (Int × Int × Int))))))))
theorem sc_first_wrong : FnScope ["numbers", "known", "many", "i", "j", "both", "either", "k"] ["numbers"] (defScope s_first_wrong) := ⟨rfl, rfl, rfl, by decide +kernel, rfl, by decide +kernel, by decide +kernel⟩
theorem J_first_wrong {g : Gx} (T : Tx g) {base : Heap} : Df g base 1 "first_wrong" (A := (List Int)) (ρ := (Option (Int × Int × Int))) (fun numbers_643 => [(.lst (numbers_643.map D.int))]) m_first_wrong (fun r => .va (encO (fun x : (Int × Int × Int) => (.tup [(.int x.1), (.int x.2.1), (.int x.2.2)])) r)) :=
  fn_J T.f_first_wrong sc_first_wrong T.m_first_wrong (fun _ => rfl) (fun _ _ _ _ _ _ us hl => match us, hl with | [_], _ => rfl) fun cdv Ar outer s H E numbers_643 hr =>
    JG.cast (m' := m_first_wrong numbers_643) (show JG _ [] [.va (.lst (numbers_643.map D.int)), .un, .un, .un, .un, .un, .un, .un] _ _ _ from (js_set 1 (fun (q647 : (List Int)) => [.va (.lst (numbers_643.map D.int)), .va (.si q647), .un, .un, .un, .un, .un, .un]) (JP.je (jp_frz (jp_cty (cr_setL rfl) T.n_set PyProof.Rows.boot_set (ja_cons (jp_var (d := (.lst (numbers_643.map D.int))) 0) (fun _ => ja_nil)) (fun _ => ar_setL)))) (fun (q647 : (List Int)) => (js_set 2 (fun (q651 : Int) => [.va (.lst (numbers_643.map D.int)), .va (.si q647), .va (.int q651), .un, .un, .un, .un, .un]) (JP.je (jp_cb call_len T.n_len PySem.boot_len (ja_cons (jp_var (d := (.lst (numbers_643.map D.int))) 0) (fun _ => ja_nil)) (fun _ => (ar_lenL (xs := numbers_643) (enc := D.int))))) (fun (q651 : Int) => (js_cut (fun z => z) (fun _ : Unit => [.va (.lst (numbers_643.map D.int)), .va (.si q647), .va (.int q651), .un, .un, .un, .un, .un]) (jl_forR (πd := (fun z : (Option (Int × Int × Int)) => .rt (.va (encO (fun x : (Int × Int × Int) => (.tup [(.int x.1), (.int x.2.1), (.int x.2.2)])) z)) none)) (fun r653 => r653) D.int (() : Unit) (fun _ : Unit => [.va (.lst (numbers_643.map D.int)), .va (.si q647), .va (.int q651), .un, .un, .un, .un, .un]) (fun _ a654 => [.va (.lst (numbers_643.map D.int)), .va (.si q647), .va (.int q651), .va (.int a654), .un, .un, .un, .un]) _ (ji_range1 (jp_var (d := (.int q651)) 2) T.n_range) (by first | exact pg_name (i := 3) sc_first_wrong.nd rfl (Or.inl rfl) | exact pg_name (i := 3) sc_first_wrong.nd rfl (Or.inr rfl)) (.same (.same (.same (.same (.same (.same (.same (.same .nil)))))))) (fun _ _ => (tg_name _ 3)) (fun _ a654 => (js_cut (fun z => .dn z) (fun _ : Unit => [.va (.lst (numbers_643.map D.int)), .va (.si q647), .va (.int q651), .va (.int a654), .un, .un, .un, .un]) (jl_forR (πd := (fun z : (Option (Int × Int × Int)) => .rt (.va (encO (fun x : (Int × Int × Int) => (.tup [(.int x.1), (.int x.2.1), (.int x.2.2)])) z)) none)) (fun r660 => r660) D.int (() : Unit) (fun _ : Unit => [.va (.lst (numbers_643.map D.int)), .va (.si q647), .va (.int q651), .va (.int a654), .un, .un, .un, .un]) (fun _ a661 => [.va (.lst (numbers_643.map D.int)), .va (.si q647), .va (.int q651), .va (.int a654), .va (.int a661), .un, .un, .un]) _ (ji_range2 (jp_op op_add (jp_var (d := (.int a654)) 3) (fun _ => jp_int) (fun _ _ => od_add)) (fun _ => (jp_var (d := (.int q651)) 2)) T.n_range) (by first | exact pg_name (i := 4) sc_first_wrong.nd rfl (Or.inl rfl) | exact pg_name (i := 4) sc_first_wrong.nd rfl (Or.inr rfl)) (.same (.same (.same (.same (.same (.same (.same (.same .nil)))))))) (fun _ _ => (tg_name _ 4)) (fun _ a661 => (js_set 5 (fun (q669 : Int) => [.va (.lst (numbers_643.map D.int)), .va (.si q647), .va (.int q651), .va (.int a654), .va (.int a661), .va (.int q669), .un, .un]) (JP.je (jp_op op_and (jp_ix ix_list (jp_var (d := (.lst (numbers_643.map D.int))) 0) (fun _ => (jp_var (d := (.int a654)) 3)) (fun _ _ => (od_ixL (xs := numbers_643) D.int))) (fun r665 => (jp_ix ix_list (jp_var (d := (.lst (numbers_643.map D.int))) 0) (fun _ => (jp_var (d := (.int a661)) 4)) (fun _ _ => (od_ixL (xs := numbers_643) D.int)))) (fun r665 r668 => od_and))) (fun (q669 : Int) => (js_set 6 (fun (q676 : Int) => [.va (.lst (numbers_643.map D.int)), .va (.si q647), .va (.int q651), .va (.int a654), .va (.int a661), .va (.int q669), .va (.int q676), .un]) (JP.je (jp_op op_or (jp_ix ix_list (jp_var (d := (.lst (numbers_643.map D.int))) 0) (fun _ => (jp_var (d := (.int a654)) 3)) (fun _ _ => (od_ixL (xs := numbers_643) D.int))) (fun r672 => (jp_ix ix_list (jp_var (d := (.lst (numbers_643.map D.int))) 0) (fun _ => (jp_var (d := (.int a661)) 4)) (fun _ _ => (od_ixL (xs := numbers_643) D.int)))) (fun r672 r675 => od_or))) (fun (q676 : Int) => (js_cut (fun z => .dn z) (fun _ : Unit => [.va (.lst (numbers_643.map D.int)), .va (.si q647), .va (.int q651), .va (.int a654), .va (.int a661), .va (.int q669), .va (.int q676), .un]) (jl_forR (πd := (fun z : (Option (Int × Int × Int)) => .rt (.va (encO (fun x : (Int × Int × Int) => (.tup [(.int x.1), (.int x.2.1), (.int x.2.2)])) z)) none)) (fun r681 => r681) D.int (() : Unit) (fun _ : Unit => [.va (.lst (numbers_643.map D.int)), .va (.si q647), .va (.int q651), .va (.int a654), .va (.int a661), .va (.int q669), .va (.int q676), .un]) (fun _ a682 => [.va (.lst (numbers_643.map D.int)), .va (.si q647), .va (.int q651), .va (.int a654), .va (.int a661), .va (.int q669), .va (.int q676), .va (.int a682)]) _ (ji_range2 (jp_op op_add (jp_var (d := (.int a661)) 4) (fun _ => jp_int) (fun _ _ => od_add)) (fun _ => (jp_var (d := (.int q651)) 2)) T.n_range) (by first | exact pg_name (i := 7) sc_first_wrong.nd rfl (Or.inl rfl) | exact pg_name (i := 7) sc_first_wrong.nd rfl (Or.inr rfl)) (.same (.same (.same (.same (.same (.same (.same (.same .nil)))))))) (fun _ _ => (tg_name _ 7)) (fun _ a682 => (js_if (JT.jte (jt_cmp op_niSet (by rfl) (jp_op op_or (jp_var (d := (.int q669)) 5) (fun _ => (jp_op op_and (jp_var (d := (.int q676)) 6) (fun _ => (jp_ix ix_list (jp_var (d := (.lst (numbers_643.map D.int))) 0) (fun _ => (jp_var (d := (.int a682)) 7)) (fun _ _ => (od_ixL (xs := numbers_643) D.int)))) (fun _ r688 => od_and))) (fun _ r689 => od_or)) (fun r690 => (jp_var (d := (.si q647)) 1)) (fun r690 _ => od_niS))) (fun b692 => (js_ret (fun _ => (.dn (some (a654, a661, a682)))) (JP.je (jp_tup (ja_cons (jp_var (d := (.int a654)) 3) (fun _ => (ja_cons (jp_var (d := (.int a661)) 4) (fun _ => (ja_cons (jp_var (d := (.int a682)) 7) (fun _ => ja_nil)))))))))) (fun b692 => (js_pop (js_pop (js_lp (z := (Lo.go ())) (.same (.same (.same (.same (.same (.same (.same (.un .nil)))))))))))))) (hp := passes_cx)) (fun _ => (js_pop (js_lp (z := (Lo.go ())) (.same (.same (.same (.same (.un (.un (.un (.same .nil))))))))))))) sc_first_wrong.nd)) sc_first_wrong.nd)) (hp := passes_cx)) (fun _ => (js_pop (js_lp (z := (Lo.go ())) (.same (.same (.same (.un (.same (.same (.same (.same .nil))))))))))))) (hp := passes_cx)) (fun _ => (js_ret (fun _ => (none : (Option (Int × Int × Int)))) (JP.je jp_non))))) sc_first_wrong.nd)) sc_first_wrong.nd)) (by first | (dsimp only [m_first_wrong]; done) | rfl)
def m_is_closed : (Int × (List (List Int))) → M (Bool) := fun words_617 => (bnd (bnd (bnd (bnd (bnd (bnd (.ok ()) fun _ => (bnd (.ok ()) fun _ => .ok ((), ()))) fun _ => (m_numbers_of words_617)) fun r640 => (bnd (.ok ()) fun _ => .ok (r640, ()))) fun q642 => (m_first_wrong q642.1)) fun r701 => (bnd (.ok ()) fun _ => (.ok (isN (encO (fun x : (Int × Int × Int) => (.tup [(.int x.1), (.int x.2.1), (.int x.2.2)])) r701))))) fun q703 => .ok q703)
theorem sc_is_closed : FnScope ["words"] ["words"] (defScope s_is_closed) := ⟨rfl, rfl, rfl, by decide +kernel, rfl, by decide +kernel, by decide +kernel⟩
theorem J_is_closed {g : Gx} (T : Tx g) {base : Heap} : Df g base 3 "is_closed" (A := (Int × (List (List Int)))) (ρ := Bool) (fun words_617 => [(.ob T.cWords [("length", (.int words_617.1)), ("words", (.tup (words_617.2.map encI)))])]) m_is_closed (fun r => .va (.bl r)) :=
  fn_J T.f_is_closed sc_is_closed T.m_is_closed (fun _ => rfl) (fun _ _ _ _ _ _ us hl => match us, hl with | [_], _ => rfl) fun cdv Ar outer s H E words_617 hr =>
    JG.cast (m' := m_is_closed words_617) (show JG _ [] [.va (.ob T.cWords [("length", (.int words_617.1)), ("words", (.tup (words_617.2.map encI)))])] _ _ _ from (js_ret (fun (q703 : Bool) => q703) (JP.je (jp_cmp op_isN (nomark _) (jp_call (J_first_wrong T) (by exact hr.mono (by decide)) (fun (q642 : ((List Int) × Unit)) => q642.1) (ja_cons (jp_call (J_numbers_of T) (by exact hr.mono (by decide)) (fun _ => words_617) (ja_cons (jp_var (d := (.ob T.cWords [("length", (.int words_617.1)), ("words", (.tup (words_617.2.map encI)))])) 0) (fun _ => ja_nil))) (fun r640 => ja_nil))) (fun r701 => jp_non) (fun r701 _ => od_isN))))) (by first | (dsimp only [m_is_closed]; done) | rfl)
def m_letter_masks : (Int × (List (List Int))) → M ((List Int)) := fun words_718 => (bnd (bnd (.ok ()) fun _ => (bnd (.ok ()) fun _ => (gt words_718.2 0))) fun q722 => (bnd (.ok ()) fun _ => (bnd (bnd (bnd (.ok ()) fun _ => (rng 0 words_718.1)) fun r726 => (forN r726 (([] : (List Int)) : (List Int)) (fun s728 a727 => (bnd (.ok ()) fun _ => (bnd (bnd (.ok ()) fun _ => (forN (enumL words_718.2) (0 : Int) (fun s734 a733 => (bnd (bnd (bnd (.ok ()) fun _ => (bnd (.ok ()) fun _ => (gt a733.2 a727))) fun r737 => (bnd (bnd (.ok ()) fun _ => (bnd (.ok ()) fun _ => (gt q722 a727))) fun r740 => (.ok (!decide (r737 = r740))))) fun b741 => (if b741 = true then (bnd (bnd (.ok ()) fun _ => (bnd (.ok ()) fun _ => (mshl 1 a733.1))) fun q745 => (bnd (.ok (bor s734 q745)) fun z744 => (.ok z744))) else (.ok s734)))))) fun s734 => (bnd (bnd (bnd (.ok ()) fun _ => (bnd (.ok ()) fun _ => .ok ((), ()))) fun _ => (bnd (apd s728 s734) fun z749 => .ok (z749, ((), ())))) fun q750 => (.ok q750.1))))))) fun s728 => (bnd (.ok ()) fun _ => .ok s728))))
theorem sc_letter_masks : FnScope ["words", "first", "masks", "letter", "mask", "place", "word"] ["words"] (defScope s_letter_masks) := ⟨rfl, rfl, rfl, by decide +kernel, rfl, by decide +kernel, by decide +kernel⟩
theorem J_letter_masks {g : Gx} (T : Tx g) {base : Heap} : Df g base 1 "letter_masks" (A := (Int × (List (List Int)))) (ρ := (List Int)) (fun words_718 => [(.ob T.cWords [("length", (.int words_718.1)), ("words", (.tup (words_718.2.map encI)))])]) m_letter_masks (fun r => .va (.lst (r.map D.int))) :=
  fn_J T.f_letter_masks sc_letter_masks T.m_letter_masks (fun _ => rfl) (fun _ _ _ _ _ _ us hl => match us, hl with | [_], _ => rfl) fun cdv Ar outer s H E words_718 hr =>
    JG.cast (m' := m_letter_masks words_718) (show JG _ [] [.va (.ob T.cWords [("length", (.int words_718.1)), ("words", (.tup (words_718.2.map encI)))]), .un, .un, .un, .un, .un, .un] _ _ _ from (js_set 1 (fun (q722 : (List Int)) => [.va (.ob T.cWords [("length", (.int words_718.1)), ("words", (.tup (words_718.2.map encI)))]), .va (.tup (q722.map D.int)), .un, .un, .un, .un, .un]) (JP.je (jp_ix ix_tup (jp_fld (d := fun _ => (.tup (words_718.2.map encI))) (jp_var (d := (.ob T.cWords [("length", (.int words_718.1)), ("words", (.tup (words_718.2.map encI)))])) 0) T.lWords T.aWords_words) (fun _ => jp_int) (fun _ _ => (od_ixT (xs := words_718.2) encI)))) (fun (q722 : (List Int)) => (js_set 2 (fun _ => [.va (.ob T.cWords [("length", (.int words_718.1)), ("words", (.tup (words_718.2.map encI)))]), .va (.tup (q722.map D.int)), .ow none (.lst (([] : (List Int)).map D.int)), .un, .un, .un, .un]) (JP.je (jp_lst ja_nil)) (fun _ => (js_cut1 (fun s728 : (List Int) => [.va (.ob T.cWords [("length", (.int words_718.1)), ("words", (.tup (words_718.2.map encI)))]), .va (.tup (q722.map D.int)), .ow none (.lst (s728.map D.int)), .un, .un, .un, .un]) (jl_for (fun r726 => r726) D.int (([] : (List Int)) : (List Int)) (fun s728 : (List Int) => [.va (.ob T.cWords [("length", (.int words_718.1)), ("words", (.tup (words_718.2.map encI)))]), .va (.tup (q722.map D.int)), .ow none (.lst (s728.map D.int)), .un, .un, .un, .un]) (fun s728 a727 => [.va (.ob T.cWords [("length", (.int words_718.1)), ("words", (.tup (words_718.2.map encI)))]), .va (.tup (q722.map D.int)), .ow none (.lst (s728.map D.int)), .va (.int a727), .un, .un, .un]) _ (ji_range1 (jp_fld (d := fun _ => (.int words_718.1)) (jp_var (d := (.ob T.cWords [("length", (.int words_718.1)), ("words", (.tup (words_718.2.map encI)))])) 0) T.lWords T.aWords_length) T.n_range) (by first | exact pg_name (i := 3) sc_letter_masks.nd rfl (Or.inl rfl) | exact pg_name (i := 3) sc_letter_masks.nd rfl (Or.inr rfl)) (.same (.same (.same (.same (.same (.same (.same .nil))))))) (fun _ _ => (tg_name _ 3)) (fun s728 a727 => (js_set 4 (fun _ => [.va (.ob T.cWords [("length", (.int words_718.1)), ("words", (.tup (words_718.2.map encI)))]), .va (.tup (q722.map D.int)), .ow none (.lst (s728.map D.int)), .va (.int a727), .va (.int 0), .un, .un]) (JP.je jp_int) (fun _ => (js_cut1 (fun s734 : Int => [.va (.ob T.cWords [("length", (.int words_718.1)), ("words", (.tup (words_718.2.map encI)))]), .va (.tup (q722.map D.int)), .ow none (.lst (s728.map D.int)), .va (.int a727), .va (.int s734), .un, .un]) (jl_for (fun _ => (enumL words_718.2)) (encP D.int encI) (0 : Int) (fun s734 : Int => [.va (.ob T.cWords [("length", (.int words_718.1)), ("words", (.tup (words_718.2.map encI)))]), .va (.tup (q722.map D.int)), .ow none (.lst (s728.map D.int)), .va (.int a727), .va (.int s734), .un, .un]) (fun s734 a733 => [.va (.ob T.cWords [("length", (.int words_718.1)), ("words", (.tup (words_718.2.map encI)))]), .va (.tup (q722.map D.int)), .ow none (.lst (s728.map D.int)), .va (.int a727), .va (.int s734), .va (.int a733.1), .va (.tup (a733.2.map D.int))]) _ (ji_enT (enc := encI) (l := fun r731 => words_718.2) (jp_fld (d := fun _ => (.tup (words_718.2.map encI))) (jp_var (d := (.ob T.cWords [("length", (.int words_718.1)), ("words", (.tup (words_718.2.map encI)))])) 0) T.lWords T.aWords_words) T.n_enumerate) (pg_tup (n := 2) rfl (pgs_cons (by first | exact pg_name (i := 5) sc_letter_masks.nd rfl (Or.inl rfl) | exact pg_name (i := 5) sc_letter_masks.nd rfl (Or.inr rfl)) (pgs_cons (by first | exact pg_name (i := 6) sc_letter_masks.nd rfl (Or.inl rfl) | exact pg_name (i := 6) sc_letter_masks.nd rfl (Or.inr rfl)) pgs_nil))) (.same (.same (.same (.same (.same (.same (.same .nil))))))) (fun _ _ => (tg_tup (n := 2) _ (tgs_cons _ (tg_name _ 5) (tgs_cons _ (tg_name _ 6) (tgs_nil _))))) (fun s734 a733 => (js_if (JT.jte (jt_cmp op_ne (nomark _) (jp_ix ix_tup (jp_var (d := (.tup (a733.2.map D.int))) 6) (fun _ => (jp_var (d := (.int a727)) 3)) (fun _ _ => (od_ixT (xs := a733.2) D.int))) (fun r737 => (jp_ix ix_tup (jp_var (d := (.tup (q722.map D.int))) 1) (fun _ => (jp_var (d := (.int a727)) 3)) (fun _ _ => (od_ixT (xs := q722) D.int)))) (fun r737 r740 => od_neI))) (fun b741 => (js_aug 4 (fun q745 z744 => [.va (.ob T.cWords [("length", (.int words_718.1)), ("words", (.tup (words_718.2.map encI)))]), .va (.tup (q722.map D.int)), .ow none (.lst (s728.map D.int)), .va (.int a727), .va (.int z744), .va (.int a733.1), .va (.tup (a733.2.map D.int))]) iop_or (JP.je (jp_op op_shl jp_int (fun _ => (jp_var (d := (.int a733.1)) 5)) (fun _ _ => od_shl))) (fun _ => od_or) (fun q745 z744 => (js_pop (js_pop (js_lp (z := z744) (.same (.same (.same (.same (.same (.un (.un .nil))))))))))) sc_letter_masks.nd)) (fun b741 => (js_pop (js_pop (js_lp (z := s734) (.same (.same (.same (.same (.same (.un (.un .nil))))))))))))) passes_cx) (fun s734 => (js_expr (je_me 2 PySem.F.plainAttrs_list PySem.F.slot_list_append PySem.F.type_list_append mt_append ty_lst (JA.jae (ja_cons (jp_var (d := (.int s734)) 4) (fun _ => ja_nil))) (fun _ => (me_append (enc := D.int) (xs := s728) (x := s734))) (fun _ _ => by unfold apd chk; split <;> intro h <;> cases h)) (fun (q750 : ((List Int) × (Unit × Unit))) => (js_pop (js_lp (z := q750.1) (.same (.same (.same (.un (.un (.same (.same .nil)))))))))))))) sc_letter_masks.nd)) passes_cx) (fun s728 => (js_frz 2 [.va (.ob T.cWords [("length", (.int words_718.1)), ("words", (.tup (words_718.2.map encI)))]), .va (.tup (q722.map D.int)), .va (.lst (s728.map D.int)), .un, .un, .un, .un] (js_ret (fun _ => s728) (JP.je (jp_var (d := (.lst (s728.map D.int))) 2))))))) sc_letter_masks.nd)) sc_letter_masks.nd)) (by first | (dsimp only [m_letter_masks]; done) | rfl)
def m_kept_letters : (Int × (List (List Int))) → M ((List Int)) := fun words_712 => (bnd (.ok ()) fun _ => (bnd (.ok ()) fun _ => (bnd (bnd (bnd (bnd (.ok ()) fun _ => (bnd (.ok ()) fun _ => .ok ((), ()))) fun _ => (m_letter_masks words_712)) fun r753 => (forN (enumL r753) ((([] : (List Int)), ([] : List Int)) : ((List Int) × (List Int))) (fun s755 a754 => (bnd (bnd (bnd (.ok ()) fun _ => (bnd (.ok ()) fun _ => (.ok (!decide (a754.2 = 0))))) fun b759 => (if b759 = true then (bnd (.ok ()) fun _ => .ok (!decide (a754.2 ∈ s755.2))) else .ok false)) fun b760 => (if b760 = true then (bnd (bnd (bnd (.ok ()) fun _ => (bnd (.ok ()) fun _ => .ok ((), ()))) fun _ => (bnd (addM s755.2 a754.2) fun z764 => .ok (z764, ((), ())))) fun q765 => (bnd (bnd (bnd (.ok ()) fun _ => (bnd (.ok ()) fun _ => .ok ((), ()))) fun _ => (bnd (apd s755.1 a754.1) fun z769 => .ok (z769, ((), ())))) fun q770 => (.ok (q770.1, q765.1)))) else (.ok (s755.1, s755.2))))))) fun s755 => (bnd (bnd (bnd (.ok ()) fun _ => (bnd (.ok ()) fun _ => .ok ((), ()))) fun _ => (.ok s755.1)) fun q774 => .ok q774))))
theorem sc_kept_letters : FnScope ["words", "kept", "seen", "letter", "mask"] ["words"] (defScope s_kept_letters) := ⟨rfl, rfl, rfl, by decide +kernel, rfl, by decide +kernel, by decide +kernel⟩
theorem J_kept_letters {g : Gx} (T : Tx g) {base : Heap} : Df g base 2 "kept_letters" (A := (Int × (List (List Int)))) (ρ := (List Int)) (fun words_712 => [(.ob T.cWords [("length", (.int words_712.1)), ("words", (.tup (words_712.2.map encI)))])]) m_kept_letters (fun r => .va (.tup (r.map D.int))) :=
  fn_J T.f_kept_letters sc_kept_letters T.m_kept_letters (fun _ => rfl) (fun _ _ _ _ _ _ us hl => match us, hl with | [_], _ => rfl) fun cdv Ar outer s H E words_712 hr =>
    JG.cast (m' := m_kept_letters words_712) (show JG _ [] [.va (.ob T.cWords [("length", (.int words_712.1)), ("words", (.tup (words_712.2.map encI)))]), .un, .un, .un, .un] _ _ _ from (js_set 1 (fun _ => [.va (.ob T.cWords [("length", (.int words_712.1)), ("words", (.tup (words_712.2.map encI)))]), .ow none (.lst (([] : (List Int)).map D.int)), .un, .un, .un]) (JP.je (jp_lst ja_nil)) (fun _ => (js_set 2 (fun _ => [.va (.ob T.cWords [("length", (.int words_712.1)), ("words", (.tup (words_712.2.map encI)))]), .ow none (.lst (([] : (List Int)).map D.int)), .ow none (.si ([] : List Int)), .un, .un]) (JP.je (jp_set0 T.n_set)) (fun _ => (js_cut1 (fun s755 : ((List Int) × (List Int)) => [.va (.ob T.cWords [("length", (.int words_712.1)), ("words", (.tup (words_712.2.map encI)))]), .ow none (.lst (s755.1.map D.int)), .ow none (.si s755.2), .un, .un]) (jl_for (fun r753 => (enumL r753)) (encP D.int D.int) ((([] : (List Int)), ([] : List Int)) : ((List Int) × (List Int))) (fun s755 : ((List Int) × (List Int)) => [.va (.ob T.cWords [("length", (.int words_712.1)), ("words", (.tup (words_712.2.map encI)))]), .ow none (.lst (s755.1.map D.int)), .ow none (.si s755.2), .un, .un]) (fun s755 a754 => [.va (.ob T.cWords [("length", (.int words_712.1)), ("words", (.tup (words_712.2.map encI)))]), .ow none (.lst (s755.1.map D.int)), .ow none (.si s755.2), .va (.int a754.1), .va (.int a754.2)]) _ (ji_enL (enc := D.int) (l := fun r752 => r752) (jp_call (J_letter_masks T) (by exact hr.mono (by decide)) (fun _ => words_712) (ja_cons (jp_var (d := (.ob T.cWords [("length", (.int words_712.1)), ("words", (.tup (words_712.2.map encI)))])) 0) (fun _ => ja_nil))) T.n_enumerate) (pg_tup (n := 2) rfl (pgs_cons (by first | exact pg_name (i := 3) sc_kept_letters.nd rfl (Or.inl rfl) | exact pg_name (i := 3) sc_kept_letters.nd rfl (Or.inr rfl)) (pgs_cons (by first | exact pg_name (i := 4) sc_kept_letters.nd rfl (Or.inl rfl) | exact pg_name (i := 4) sc_kept_letters.nd rfl (Or.inr rfl)) pgs_nil))) (.same (.same (.same (.same (.same .nil))))) (fun _ _ => (tg_tup (n := 2) _ (tgs_cons _ (tg_name _ 3) (tgs_cons _ (tg_name _ 4) (tgs_nil _))))) (fun s755 a754 => (js_if (JT.jte (jt_w (jw_and (jt_cmp op_ne (nomark _) (jp_var (d := (.int a754.2)) 4) (fun _ => jp_int) (fun _ _ => od_neI)) (jw_and1 (jt_cmpO 2 op_niSet (by rfl) (jp_var (d := (.int a754.2)) 4) (fun _ => od_niS)))))) (fun b760 => (js_expr (je_me 2 PySem.F.plainAttrs_set PySem.F.slot_set_add PySem.F.type_set_add mt_addS ty_si (JA.jae (ja_cons (jp_var (d := (.int a754.2)) 4) (fun _ => ja_nil))) (fun _ => (me_add (l := s755.2) (k := a754.2))) (fun _ _ => by unfold addM chk; split <;> intro h <;> cases h)) (fun (q765 : ((List Int) × (Unit × Unit))) => (js_expr (je_me 1 PySem.F.plainAttrs_list PySem.F.slot_list_append PySem.F.type_list_append mt_append ty_lst (JA.jae (ja_cons (jp_var (d := (.int a754.1)) 3) (fun _ => ja_nil))) (fun _ => (me_append (enc := D.int) (xs := s755.1) (x := a754.1))) (fun _ _ => by unfold apd chk; split <;> intro h <;> cases h)) (fun (q770 : ((List Int) × (Unit × Unit))) => (js_pop (js_pop (js_lp (z := (q770.1, q765.1)) (.same (.same (.same (.un (.un .nil))))))))))))) (fun b760 => (js_pop (js_pop (js_lp (z := (s755.1, s755.2)) (.same (.same (.same (.un (.un .nil))))))))))) passes_cx) (fun s755 => (js_frz 1 [.va (.ob T.cWords [("length", (.int words_712.1)), ("words", (.tup (words_712.2.map encI)))]), .va (.lst (s755.1.map D.int)), .ow none (.si s755.2), .un, .un] (js_ret (fun (q774 : (List Int)) => q774) (JP.je (jp_cty call_tuple_of T.n_tuple PyProof.Rows.boot_tuple (ja_cons (jp_var (d := (.lst (s755.1.map D.int))) 1) (fun _ => ja_nil)) (fun _ => (ar_tupleL (xs := s755.1) (enc := D.int)))))))))) sc_kept_letters.nd)) sc_kept_letters.nd)) (by first | (dsimp only [m_kept_letters]; done) | rfl)
def m_is_reduced : (Int × (List (List Int))) → M (Bool) := fun words_708 => (bnd (bnd (bnd (bnd (bnd (bnd (.ok ()) fun _ => (bnd (.ok ()) fun _ => .ok ((), ()))) fun _ => (m_kept_letters words_708)) fun r775 => (bnd (.ok ()) fun _ => .ok (r775, ()))) fun q777 => (.ok (q777.1.length : Int))) fun r778 => (bnd (.ok ()) fun _ => (.ok (decide (r778 = words_708.1))))) fun q781 => .ok q781)
theorem sc_is_reduced : FnScope ["words"] ["words"] (defScope s_is_reduced) := ⟨rfl, rfl, rfl, by decide +kernel, rfl, by decide +kernel, by decide +kernel⟩
theorem J_is_reduced {g : Gx} (T : Tx g) {base : Heap} : Df g base 3 "is_reduced" (A := (Int × (List (List Int)))) (ρ := Bool) (fun words_708 => [(.ob T.cWords [("length", (.int words_708.1)), ("words", (.tup (words_708.2.map encI)))])]) m_is_reduced (fun r => .va (.bl r)) :=
  fn_J T.f_is_reduced sc_is_reduced T.m_is_reduced (fun _ => rfl) (fun _ _ _ _ _ _ us hl => match us, hl with | [_], _ => rfl) fun cdv Ar outer s H E words_708 hr =>
    JG.cast (m' := m_is_reduced words_708) (show JG _ [] [.va (.ob T.cWords [("length", (.int words_708.1)), ("words", (.tup (words_708.2.map encI)))])] _ _ _ from (js_ret (fun (q781 : Bool) => q781) (JP.je (jp_cmp op_eq (nomark _) (jp_cb call_len T.n_len PySem.boot_len (ja_cons (jp_call (J_kept_letters T) (by exact hr.mono (by decide)) (fun _ => words_708) (ja_cons (jp_var (d := (.ob T.cWords [("length", (.int words_708.1)), ("words", (.tup (words_708.2.map encI)))])) 0) (fun _ => ja_nil))) (fun r775 => ja_nil)) (fun q777 => (ar_lenT (xs := q777.1) (enc := D.int)))) (fun r778 => (jp_fld (d := fun _ => (.int words_708.1)) (jp_var (d := (.ob T.cWords [("length", (.int words_708.1)), ("words", (.tup (words_708.2.map encI)))])) 0) T.lWords T.aWords_length)) (fun r778 _ => od_eqI))))) (by first | (dsimp only [m_is_reduced]; done) | rfl)
def m_look_at_words : (Int × (List (List Int))) → M (Unit) := fun words_613 => (bnd (bnd (bnd (bnd (bnd (.ok ()) fun _ => (bnd (.ok ()) fun _ => .ok ((), ()))) fun _ => (m_is_closed words_613)) fun b704 => .ok (!b704)) fun b783 => (if b783 = true then .ok true else (bnd (bnd (bnd (.ok ()) fun _ => (bnd (.ok ()) fun _ => .ok ((), ()))) fun _ => (m_is_reduced words_613)) fun b782 => .ok (!b782)))) fun b784 => (if b784 = true then .st else (.ok ())))
theorem sc_look_at_words : FnScope ["words"] ["words"] (defScope s_look_at_words) := ⟨rfl, rfl, rfl, by decide +kernel, rfl, by decide +kernel, by decide +kernel⟩
theorem J_look_at_words {g : Gx} (T : Tx g) {base : Heap} : Df g base 4 "look_at_words" (A := (Int × (List (List Int)))) (ρ := Unit) (fun words_613 => [(.ob T.cWords [("length", (.int words_613.1)), ("words", (.tup (words_613.2.map encI)))])]) m_look_at_words (fun r => .va .non) :=
  fn_JN (Γe := fun _ => [.un]) T.f_look_at_words sc_look_at_words T.m_look_at_words (fun _ => rfl) (fun _ _ _ _ _ _ us hl => match us, hl with | [_], _ => rfl) fun cdv Ar outer s H E words_613 hr =>
    JG.cast (m' := m_look_at_words words_613) (show JG _ [] [.va (.ob T.cWords [("length", (.int words_613.1)), ("words", (.tup (words_613.2.map encI)))])] _ _ _ from (js_if (JT.jte (jt_w (jw_or (jt_not (jt_val (jp_call (J_is_closed T) (by exact hr.mono (by decide)) (fun _ => words_613) (ja_cons (jp_var (d := (.ob T.cWords [("length", (.int words_613.1)), ("words", (.tup (words_613.2.map encI)))])) 0) (fun _ => ja_nil))))) (jw_or1 (jt_not (jt_val (jp_call (J_is_reduced T) (by exact hr.mono (by decide)) (fun _ => words_613) (ja_cons (jp_var (d := (.ob T.cWords [("length", (.int words_613.1)), ("words", (.tup (words_613.2.map encI)))])) 0) (fun _ => ja_nil))))))))) (fun b784 => js_stuck) (fun b784 => (js_pop (js_pop (js_end (z := ()) (.un .nil))))))) (by first | (dsimp only [m_look_at_words]; done) | rfl)
def m_literal_masks : (Int × (List (List Int))) → M ((List (Int × Int))) := fun words_810 => (bnd (bnd (bnd (.ok ()) fun _ => (bnd (bnd (bnd (.ok ()) fun _ => (bnd (.ok ()) fun _ => .ok ((), ()))) fun _ => (.ok (words_810.2.length : Int))) fun r816 => (mshl 1 r816))) fun r817 => (bnd (.ok ()) fun _ => (.ok (r817 - 1)))) fun q819 => (bnd (.ok ()) fun _ => (bnd (bnd (bnd (.ok ()) fun _ => (rng 0 words_810.1)) fun r823 => (forN r823 (([] : (List (Int × Int))) : (List (Int × Int))) (fun s825 a824 => (bnd (bnd (bnd (lcM (.ok ()) (fun r829 => (enumL words_810.2)) (fun a828 => (bnd (bnd (.ok ()) fun _ => (bnd (.ok ()) fun _ => (gt a828.2 a824))) fun r834 => (bnd (.ok ()) fun _ => (.ok (decide (r834 = 1)))))) (fun a828 => (bnd (.ok ()) fun _ => (bnd (.ok ()) fun _ => (mshl 1 a828.1))))) fun r836 => (bnd (.ok ()) fun _ => .ok (r836, ()))) fun q838 => (.ok (q838.1.sum))) fun q839 => (bnd (bnd (bnd (bnd (bnd (.ok ()) fun _ => (bnd (.ok ()) fun _ => (.ok (bxor q819 q839)))) fun r842 => (bnd (bnd (.ok ()) fun _ => (bnd (.ok ()) fun _ => .ok ((), ()))) fun _ => .ok (r842, ((), ())))) fun r846 => (bnd (.ok ()) fun _ => .ok (r846, ()))) fun q848 => (bnd (apd s825 (q848.1.1, q839)) fun z849 => .ok (z849, q848))) fun q850 => (.ok q850.1)))))) fun s825 => (bnd (.ok ()) fun _ => .ok s825))))
theorem sc_literal_masks : FnScope ["words", "every", "masks", "letter", "ones", "place", "word"] ["words"] (defScope s_literal_masks) := ⟨rfl, rfl, rfl, by decide +kernel, rfl, by decide +kernel, by decide +kernel⟩
theorem J_literal_masks {g : Gx} (T : Tx g) {base : Heap} : Df g base 1 "literal_masks" (A := (Int × (List (List Int)))) (ρ := (List (Int × Int))) (fun words_810 => [(.ob T.cWords [("length", (.int words_810.1)), ("words", (.tup (words_810.2.map encI)))])]) m_literal_masks (fun r => .va (.lst (r.map (encP D.int D.int)))) :=
  fn_J T.f_literal_masks sc_literal_masks T.m_literal_masks (fun _ => rfl) (fun _ _ _ _ _ _ us hl => match us, hl with | [_], _ => rfl) fun cdv Ar outer s H E words_810 hr =>
    JG.cast (m' := m_literal_masks words_810) (show JG _ [] [.va (.ob T.cWords [("length", (.int words_810.1)), ("words", (.tup (words_810.2.map encI)))]), .un, .un, .un, .un, .un, .un] _ _ _ from (js_set 1 (fun (q819 : Int) => [.va (.ob T.cWords [("length", (.int words_810.1)), ("words", (.tup (words_810.2.map encI)))]), .va (.int q819), .un, .un, .un, .un, .un]) (JP.je (jp_op op_sub (jp_op op_shl jp_int (fun _ => (jp_cb call_len T.n_len PySem.boot_len (ja_cons (jp_fld (d := fun _ => (.tup (words_810.2.map encI))) (jp_var (d := (.ob T.cWords [("length", (.int words_810.1)), ("words", (.tup (words_810.2.map encI)))])) 0) T.lWords T.aWords_words) (fun _ => ja_nil)) (fun _ => (ar_lenT (xs := words_810.2) (enc := encI))))) (fun _ r816 => od_shl)) (fun r817 => jp_int) (fun r817 _ => od_sub))) (fun (q819 : Int) => (js_set 2 (fun _ => [.va (.ob T.cWords [("length", (.int words_810.1)), ("words", (.tup (words_810.2.map encI)))]), .va (.int q819), .ow none (.lst (([] : (List (Int × Int))).map (encP D.int D.int))), .un, .un, .un, .un]) (JP.je (jp_lst ja_nil)) (fun _ => (js_cut1 (fun s825 : (List (Int × Int)) => [.va (.ob T.cWords [("length", (.int words_810.1)), ("words", (.tup (words_810.2.map encI)))]), .va (.int q819), .ow none (.lst (s825.map (encP D.int D.int))), .un, .un, .un, .un]) (jl_for (fun r823 => r823) D.int (([] : (List (Int × Int))) : (List (Int × Int))) (fun s825 : (List (Int × Int)) => [.va (.ob T.cWords [("length", (.int words_810.1)), ("words", (.tup (words_810.2.map encI)))]), .va (.int q819), .ow none (.lst (s825.map (encP D.int D.int))), .un, .un, .un, .un]) (fun s825 a824 => [.va (.ob T.cWords [("length", (.int words_810.1)), ("words", (.tup (words_810.2.map encI)))]), .va (.int q819), .ow none (.lst (s825.map (encP D.int D.int))), .va (.int a824), .un, .un, .un]) _ (ji_range1 (jp_fld (d := fun _ => (.int words_810.1)) (jp_var (d := (.ob T.cWords [("length", (.int words_810.1)), ("words", (.tup (words_810.2.map encI)))])) 0) T.lWords T.aWords_length) T.n_range) (by first | exact pg_name (i := 3) sc_literal_masks.nd rfl (Or.inl rfl) | exact pg_name (i := 3) sc_literal_masks.nd rfl (Or.inr rfl)) (.same (.same (.same (.same (.same (.same (.same .nil))))))) (fun _ _ => (tg_name _ 3)) (fun s825 a824 => (js_set 4 (fun (q839 : Int) => [.va (.ob T.cWords [("length", (.int words_810.1)), ("words", (.tup (words_810.2.map encI)))]), .va (.int q819), .ow none (.lst (s825.map (encP D.int D.int))), .va (.int a824), .va (.int q839), .un, .un]) (JP.je (jp_cb (cr_sum rfl) T.n_sum PyProof.Rows.boot_sum (ja_cons (jp_frz (jp_lc (own := [("place", 5), ("word", 6)]) (fun r829 => (enumL words_810.2)) (encP D.int encI) D.int (fun a828 => [.va (.ob T.cWords [("length", (.int words_810.1)), ("words", (.tup (words_810.2.map encI)))]), .va (.int q819), .ow none (.lst (s825.map (encP D.int D.int))), .va (.int a824), .un, .va (.int a828.1), .va (.tup (a828.2.map D.int))]) _ _  (ji_enT (enc := encI) (l := fun r827 => words_810.2) (jp_fld (d := fun _ => (.tup (words_810.2.map encI))) (jp_var (d := (.ob T.cWords [("length", (.int words_810.1)), ("words", (.tup (words_810.2.map encI)))])) 0) T.lWords T.aWords_words) T.n_enumerate) (un2 rfl rfl) (fun _ => (tgb_tup (n := 2) _ (tgsb_cons _ (tgb_name (vs := [5, 6]) _ 5) (tgsb_cons _ (tgb_name (vs := [5, 6]) _ 6) (tgsb_nil _))))) (fun a828 _ _ _ _ _ => (jts_one (jt_cmp op_eq (nomark _) (jp_ix ix_tup (jp_var (d := (.tup (a828.2.map D.int))) 6) (fun _ => (jp_var (d := (.int a824)) 3)) (fun _ _ => (od_ixT (xs := a828.2) D.int))) (fun r834 => jp_int) (fun r834 _ => od_eqI)))) (fun a828 _ _ _ _ _ => (jp_op op_shl jp_int (fun _ => (jp_var (d := (.int a828.1)) 5)) (fun _ _ => od_shl))) rfl sc_literal_masks.nd (blkOk_by (N := ["words", "every", "masks", "letter", "ones", "place", "word"]) (sc := defScope s_literal_masks) (by decide +kernel)) (fun _ _ _ _ _ => (pg_tup (n := 2) rfl (pgs_cons (by first | exact pg_name (i := 5) sc_literal_masks.nd rfl (Or.inl rfl) | exact pg_name (i := 5) sc_literal_masks.nd rfl (Or.inr rfl)) (pgs_cons (by first | exact pg_name (i := 6) sc_literal_masks.nd rfl (Or.inl rfl) | exact pg_name (i := 6) sc_literal_masks.nd rfl (Or.inr rfl)) pgs_nil)))))) (fun r836 => ja_nil)) (fun q838 => ar_sum))) (fun (q839 : Int) => (js_expr (je_me 2 PySem.F.plainAttrs_list PySem.F.slot_list_append PySem.F.type_list_append mt_append ty_lst (JA.jae (ja_cons (jp_tup (ja_cons (jp_op op_xor (jp_var (d := (.int q819)) 1) (fun _ => (jp_var (d := (.int q839)) 4)) (fun _ _ => od_xor)) (fun r842 => (ja_cons (jp_var (d := (.int q839)) 4) (fun _ => ja_nil))))) (fun r846 => ja_nil))) (fun q848 => (me_append (enc := (encP D.int D.int)) (xs := s825) (x := (q848.1.1, q839)))) (fun _ _ => by unfold apd chk; split <;> intro h <;> cases h)) (fun (q850 : ((List (Int × Int)) × ((Int × (Unit × Unit)) × Unit))) => (js_pop (js_lp (z := q850.1) (.same (.same (.same (.un (.un (.same (.same .nil)))))))))))) sc_literal_masks.nd)) passes_cx) (fun s825 => (js_frz 2 [.va (.ob T.cWords [("length", (.int words_810.1)), ("words", (.tup (words_810.2.map encI)))]), .va (.int q819), .va (.lst (s825.map (encP D.int D.int))), .un, .un, .un, .un] (js_ret (fun _ => s825) (JP.je (jp_var (d := (.lst (s825.map (encP D.int D.int)))) 2))))))) sc_literal_masks.nd)) sc_literal_masks.nd)) (by first | (dsimp only [m_literal_masks]; done) | rfl)
def m_pairs_with : (List (Int × Int)) × Int × Int → M ((List (List (Int × Int)))) := fun (masks_893, letter_894, bit_895) => (bnd (bnd (bnd (.ok ()) fun _ => (bnd (.ok ()) fun _ => (gt masks_893 letter_894))) fun r898 => (bnd (bnd (.ok ()) fun _ => (bnd (.ok ()) fun _ => (.ok (1 - bit_895)))) fun r901 => (gt ([r898.1, r898.2] : List Int) r901))) fun q902 => (bnd (.ok ()) fun _ => (bnd (bnd (bnd (bnd (.ok ()) fun _ => (bnd (.ok ()) fun _ => (.ok (letter_894 + 1)))) fun r909 => (bnd (bnd (bnd (.ok ()) fun _ => (bnd (.ok ()) fun _ => .ok ((), ()))) fun _ => (.ok (masks_893.length : Int))) fun r910 => (rng r909 r910))) fun r911 => (forN r911 (([] : (List (List (Int × Int)))) : (List (List (Int × Int)))) (fun s913 a912 => (bnd (bnd (bnd (.ok ()) fun _ => (bnd (bnd (.ok ()) fun _ => (bnd (.ok ()) fun _ => .ok ((), ()))) fun _ => .ok ((), ((), ())))) fun _ => (forN ([0, 1] : List Int) (s913 : (List (List (Int × Int)))) (fun s920 a919 => (bnd (bnd (bnd (.ok ()) fun _ => (bnd (.ok ()) fun _ => (gt masks_893 a912))) fun r923 => (bnd (bnd (.ok ()) fun _ => (bnd (.ok ()) fun _ => (.ok (1 - a919)))) fun r926 => (gt ([r923.1, r923.2] : List Int) r926))) fun q927 => (bnd (bnd (bnd (.ok ()) fun _ => (bnd (.ok ()) fun _ => (.ok (!decide (q927 = 0))))) fun b934 => (if b934 = true then (bnd (bnd (.ok ()) fun _ => (bnd (.ok ()) fun _ => (.ok (band q902 q927)))) fun r932 => (bnd (.ok ()) fun _ => (.ok (decide (r932 = 0))))) else .ok false)) fun b935 => (if b935 = true then (bnd (bnd (bnd (bnd (bnd (.ok ()) fun _ => (bnd (bnd (.ok ()) fun _ => (bnd (.ok ()) fun _ => .ok ((), ()))) fun _ => .ok ((), ((), ())))) fun _ => (bnd (bnd (bnd (.ok ()) fun _ => (bnd (bnd (.ok ()) fun _ => (bnd (.ok ()) fun _ => .ok ((), ()))) fun _ => .ok ((), ((), ())))) fun _ => (bnd (.ok ()) fun _ => .ok (((), ((), ())), ()))) fun _ => .ok (((), ((), ())), (((), ((), ())), ())))) fun _ => (bnd (.ok ()) fun _ => .ok ((((), ((), ())), (((), ((), ())), ())), ()))) fun _ => (bnd (apd s920 ([(letter_894, bit_895), (a912, a919)] : List (Int × Int))) fun z951 => .ok (z951, ((((), ((), ())), (((), ((), ())), ())), ())))) fun q952 => (.ok q952.1)) else (.ok s920))))))) fun s920 => (.ok s920))))) fun s913 => (bnd (.ok ()) fun _ => .ok s913))))
theorem sc_pairs_with : FnScope ["masks", "letter", "bit", "false_there", "found", "later", "other", "false_later"] ["masks", "letter", "bit"] (defScope s_pairs_with) := ⟨rfl, rfl, rfl, by decide +kernel, rfl, by decide +kernel, by decide +kernel⟩
theorem J_pairs_with {g : Gx} (T : Tx g) {base : Heap} : Df g base 1 "pairs_with" (A := (List (Int × Int)) × Int × Int) (ρ := (List (List (Int × Int)))) (fun a => match a with | (masks_893, letter_894, bit_895) => [(.lst (masks_893.map (encP D.int D.int))), (.int letter_894), (.int bit_895)]) m_pairs_with (fun r => .va (.lst (r.map (fun xs : (List (Int × Int)) => D.tup (xs.map (encP D.int D.int)))))) :=
  fn_J T.f_pairs_with sc_pairs_with T.m_pairs_with (fun _ => rfl) (fun _ _ _ _ _ _ us hl => match us, hl with | [_, _, _], _ => rfl) fun cdv Ar outer s H E a hr => match a with
    | (masks_893, letter_894, bit_895) => JG.cast (m' := m_pairs_with (masks_893, letter_894, bit_895)) (show JG _ [] [.va (.lst (masks_893.map (encP D.int D.int))), .va (.int letter_894), .va (.int bit_895), .un, .un, .un, .un, .un] _ _ _ from (js_set 3 (fun (q902 : Int) => [.va (.lst (masks_893.map (encP D.int D.int))), .va (.int letter_894), .va (.int bit_895), .va (.int q902), .un, .un, .un, .un]) (JP.je (jp_ix ix_tup (jp_ix ix_list (jp_var (d := (.lst (masks_893.map (encP D.int D.int)))) 0) (fun _ => (jp_var (d := (.int letter_894)) 1)) (fun _ _ => (od_ixL (xs := masks_893) (encP D.int D.int)))) (fun r898 => (jp_op op_sub jp_int (fun _ => (jp_var (d := (.int bit_895)) 2)) (fun _ _ => od_sub))) (fun r898 r901 => (od_ixT (xs := ([r898.1, r898.2] : List Int)) D.int)))) (fun (q902 : Int) => (js_set 4 (fun _ => [.va (.lst (masks_893.map (encP D.int D.int))), .va (.int letter_894), .va (.int bit_895), .va (.int q902), .ow none (.lst (([] : (List (List (Int × Int)))).map (fun xs : (List (Int × Int)) => D.tup (xs.map (encP D.int D.int))))), .un, .un, .un]) (JP.je (jp_lst ja_nil)) (fun _ => (js_cut1 (fun s913 : (List (List (Int × Int))) => [.va (.lst (masks_893.map (encP D.int D.int))), .va (.int letter_894), .va (.int bit_895), .va (.int q902), .ow none (.lst (s913.map (fun xs : (List (Int × Int)) => D.tup (xs.map (encP D.int D.int))))), .un, .un, .un]) (jl_for (fun r911 => r911) D.int (([] : (List (List (Int × Int)))) : (List (List (Int × Int)))) (fun s913 : (List (List (Int × Int))) => [.va (.lst (masks_893.map (encP D.int D.int))), .va (.int letter_894), .va (.int bit_895), .va (.int q902), .ow none (.lst (s913.map (fun xs : (List (Int × Int)) => D.tup (xs.map (encP D.int D.int))))), .un, .un, .un]) (fun s913 a912 => [.va (.lst (masks_893.map (encP D.int D.int))), .va (.int letter_894), .va (.int bit_895), .va (.int q902), .ow none (.lst (s913.map (fun xs : (List (Int × Int)) => D.tup (xs.map (encP D.int D.int))))), .va (.int a912), .un, .un]) _ (ji_range2 (jp_op op_add (jp_var (d := (.int letter_894)) 1) (fun _ => jp_int) (fun _ _ => od_add)) (fun _ => (jp_cb call_len T.n_len PySem.boot_len (ja_cons (jp_var (d := (.lst (masks_893.map (encP D.int D.int)))) 0) (fun _ => ja_nil)) (fun _ => (ar_lenL (xs := masks_893) (enc := (encP D.int D.int)))))) T.n_range) (by first | exact pg_name (i := 5) sc_pairs_with.nd rfl (Or.inl rfl) | exact pg_name (i := 5) sc_pairs_with.nd rfl (Or.inr rfl)) (.same (.same (.same (.same (.same (.same (.same (.same .nil)))))))) (fun _ _ => (tg_name _ 5)) (fun s913 a912 => (js_cut1 (fun s920 : (List (List (Int × Int))) => [.va (.lst (masks_893.map (encP D.int D.int))), .va (.int letter_894), .va (.int bit_895), .va (.int q902), .ow none (.lst (s920.map (fun xs : (List (Int × Int)) => D.tup (xs.map (encP D.int D.int))))), .va (.int a912), .un, .un]) (jl_for (fun _ => ([0, 1] : List Int)) D.int (s913 : (List (List (Int × Int)))) (fun s920 : (List (List (Int × Int))) => [.va (.lst (masks_893.map (encP D.int D.int))), .va (.int letter_894), .va (.int bit_895), .va (.int q902), .ow none (.lst (s920.map (fun xs : (List (Int × Int)) => D.tup (xs.map (encP D.int D.int))))), .va (.int a912), .un, .un]) (fun s920 a919 => [.va (.lst (masks_893.map (encP D.int D.int))), .va (.int letter_894), .va (.int bit_895), .va (.int q902), .ow none (.lst (s920.map (fun xs : (List (Int × Int)) => D.tup (xs.map (encP D.int D.int))))), .va (.int a912), .va (.int a919), .un]) _ (ji_tup (jp_tup (ja_cons jp_int (fun _ => (ja_cons jp_int (fun _ => ja_nil)))))) (by first | exact pg_name (i := 6) sc_pairs_with.nd rfl (Or.inl rfl) | exact pg_name (i := 6) sc_pairs_with.nd rfl (Or.inr rfl)) (.same (.same (.same (.same (.same (.same (.same (.same .nil)))))))) (fun _ _ => (tg_name _ 6)) (fun s920 a919 => (js_set 7 (fun (q927 : Int) => [.va (.lst (masks_893.map (encP D.int D.int))), .va (.int letter_894), .va (.int bit_895), .va (.int q902), .ow none (.lst (s920.map (fun xs : (List (Int × Int)) => D.tup (xs.map (encP D.int D.int))))), .va (.int a912), .va (.int a919), .va (.int q927)]) (JP.je (jp_ix ix_tup (jp_ix ix_list (jp_var (d := (.lst (masks_893.map (encP D.int D.int)))) 0) (fun _ => (jp_var (d := (.int a912)) 5)) (fun _ _ => (od_ixL (xs := masks_893) (encP D.int D.int)))) (fun r923 => (jp_op op_sub jp_int (fun _ => (jp_var (d := (.int a919)) 6)) (fun _ _ => od_sub))) (fun r923 r926 => (od_ixT (xs := ([r923.1, r923.2] : List Int)) D.int)))) (fun (q927 : Int) => (js_if (JT.jte (jt_w (jw_and (jt_cmp op_ne (nomark _) (jp_var (d := (.int q927)) 7) (fun _ => jp_int) (fun _ _ => od_neI)) (jw_and1 (jt_cmp op_eq (nomark _) (jp_op op_and (jp_var (d := (.int q902)) 3) (fun _ => (jp_var (d := (.int q927)) 7)) (fun _ _ => od_and)) (fun r932 => jp_int) (fun r932 _ => od_eqI)))))) (fun b935 => (js_expr (je_me 4 PySem.F.plainAttrs_list PySem.F.slot_list_append PySem.F.type_list_append mt_append ty_lst (JA.jae (ja_cons (jp_tup (ja_cons (jp_tup (ja_cons (jp_var (d := (.int letter_894)) 1) (fun _ => (ja_cons (jp_var (d := (.int bit_895)) 2) (fun _ => ja_nil))))) (fun _ => (ja_cons (jp_tup (ja_cons (jp_var (d := (.int a912)) 5) (fun _ => (ja_cons (jp_var (d := (.int a919)) 6) (fun _ => ja_nil))))) (fun _ => ja_nil))))) (fun _ => ja_nil))) (fun _ => (me_append (enc := (fun xs : (List (Int × Int)) => D.tup (xs.map (encP D.int D.int)))) (xs := s920) (x := ([(letter_894, bit_895), (a912, a919)] : List (Int × Int))))) (fun _ _ => by unfold apd chk; split <;> intro h <;> cases h)) (fun (q952 : ((List (List (Int × Int))) × (((Unit × (Unit × Unit)) × ((Unit × (Unit × Unit)) × Unit)) × Unit))) => (js_pop (js_pop (js_lp (z := q952.1) (.same (.same (.same (.same (.same (.same (.un (.un .nil)))))))))))))) (fun b935 => (js_pop (js_pop (js_lp (z := s920) (.same (.same (.same (.same (.same (.same (.un (.un .nil)))))))))))))) sc_pairs_with.nd)) passes_cx) (fun s920 => (js_pop (js_lp (z := s920) (.same (.same (.same (.same (.same (.un (.same (.same .nil))))))))))))) passes_cx) (fun s913 => (js_frz 4 [.va (.lst (masks_893.map (encP D.int D.int))), .va (.int letter_894), .va (.int bit_895), .va (.int q902), .va (.lst (s913.map (fun xs : (List (Int × Int)) => D.tup (xs.map (encP D.int D.int))))), .un, .un, .un] (js_ret (fun _ => s913) (JP.je (jp_var (d := (.lst (s913.map (fun xs : (List (Int × Int)) => D.tup (xs.map (encP D.int D.int)))))) 4))))))) sc_pairs_with.nd)) sc_pairs_with.nd)) (by first | (dsimp only [m_pairs_with]; done) | rfl)
def m_is_literal : (Int × Int) × Int → M (Bool) := fun (value_1010, letters_1011) => (bnd (bnd (bnd (.ok ()) fun _ => .ok true) fun b1035 => (if b1035 = true then (bnd (bnd (bnd (bnd (.ok ()) fun _ => (bnd (.ok ()) fun _ => .ok ((), ()))) fun _ => (.ok (2 : Int))) fun r1015 => (bnd (.ok ()) fun _ => (.ok (decide (r1015 = 2))))) fun b1034 => (if b1034 = true then (bnd (bnd (bnd (bnd (.ok ()) fun _ => (bnd (.ok ()) fun _ => (.ok value_1010.1))) fun r1019 => (bnd (bnd (.ok ()) fun _ => (bnd (bnd (bnd (.ok ()) fun _ => (bnd (.ok ()) fun _ => (.ok (letters_1011 - 1)))) fun r1023 => (bnd (.ok ()) fun _ => .ok (r1023, ()))) fun r1025 => .ok ((), r1025))) fun r1026 => .ok (r1019, r1026))) fun q1027 => (m_is_between (q1027.1, 0, q1027.2.2.1))) fun b1033 => (if b1033 = true then (bnd (bnd (bnd (.ok ()) fun _ => (bnd (.ok ()) fun _ => (.ok value_1010.2))) fun r1030 => (bnd (.ok ()) fun _ => .ok (r1030, ()))) fun q1032 => (m_is_bit q1032.1)) else .ok false)) else .ok false)) else .ok false)) fun q1036 => .ok q1036)
theorem sc_is_literal : FnScope ["value", "letters"] ["value", "letters"] (defScope s_is_literal) := ⟨rfl, rfl, rfl, by decide +kernel, rfl, by decide +kernel, by decide +kernel⟩
theorem J_is_literal {g : Gx} (T : Tx g) {base : Heap} : Df g base 4 "is_literal" (A := (Int × Int) × Int) (ρ := Bool) (fun a => match a with | (value_1010, letters_1011) => [(.tup [(.int value_1010.1), (.int value_1010.2)]), (.int letters_1011)]) m_is_literal (fun r => .va (.bl r)) :=
  fn_J T.f_is_literal sc_is_literal T.m_is_literal (fun _ => rfl) (fun _ _ _ _ _ _ us hl => match us, hl with | [_, _], _ => rfl) fun cdv Ar outer s H E a hr => match a with
    | (value_1010, letters_1011) => JG.cast (m' := m_is_literal (value_1010, letters_1011)) (show JG _ [] [.va (.tup [(.int value_1010.1), (.int value_1010.2)]), .va (.int letters_1011)] _ _ _ from (js_ret (fun (q1036 : Bool) => q1036) (JP.je (jp_and (jp_isi (T := "tuple") (bb := fun _ => true) (jp_var (d := (.tup [(.int value_1010.1), (.int value_1010.2)])) 0) (fun _ => isi_ty (T := "tuple") (by rfl) (by decide +kernel)) T.n_isinstance T.n_tuple PyProof.Rows.boot_tuple) (jp_and (jp_cmp op_eq (nomark _) (jp_cb call_len T.n_len PySem.boot_len (ja_cons (jp_var (d := (.tup [(.int value_1010.1), (.int value_1010.2)])) 0) (fun _ => ja_nil)) (fun _ => ar_len)) (fun r1015 => jp_int) (fun r1015 _ => od_eqI)) (jp_and (jp_call (J_is_between T) (by exact hr.mono (by decide)) (fun (q1027 : (Int × (Unit × (Int × Unit)))) => (q1027.1, 0, q1027.2.2.1)) (ja_cons (jp_ix ix_tup (jp_var (d := (.tup [(.int value_1010.1), (.int value_1010.2)])) 0) (fun _ => jp_int) (fun _ _ => (od_ixTv D.int value_1010.1))) (fun r1019 => (ja_cons jp_int (fun _ => (ja_cons (jp_op op_sub (jp_var (d := (.int letters_1011)) 1) (fun _ => jp_int) (fun _ _ => od_sub)) (fun r1023 => ja_nil))))))) (jp_one (jp_call (J_is_bit T) (by exact hr.mono (by decide)) (fun (q1032 : (Int × Unit)) => q1032.1) (ja_cons (jp_ix ix_tup (jp_var (d := (.tup [(.int value_1010.1), (.int value_1010.2)])) 0) (fun _ => jp_int) (fun _ _ => (od_ixTv D.int value_1010.2))) (fun r1030 => ja_nil)))))))))) (by first | (dsimp only [m_is_literal]; done) | rfl)
def m_is_clause : (List (Int × Int)) × Int → M (Bool) := fun (value_987, letters_988) => (bnd (bnd (bnd (bnd (.ok ()) fun _ => .ok true) fun b989 => .ok (!b989)) fun b999 => (if b999 = true then .ok true else (bnd (bnd (bnd (.ok ()) fun _ => (bnd (.ok ()) fun _ => .ok ((), ()))) fun _ => (.ok (value_987.length : Int))) fun r993 => (bnd (bnd (.ok ()) fun _ => (bnd (bnd (.ok ()) fun _ => (bnd (.ok ()) fun _ => .ok ((), ()))) fun _ => .ok ((), ((), ())))) fun _ => (.ok (!inB (r993) (([1, 2] : List Int)))))))) fun b1000 => (if b1000 = true then (bnd (.ok ()) fun _ => .ok false) else (bnd (bnd (.ok ()) fun _ => (forR value_987 (() : Unit) (fun _ a1003 => (bnd (bnd (bnd (bnd (.ok ()) fun _ => (bnd (bnd (.ok ()) fun _ => (bnd (.ok ()) fun _ => .ok ((), ()))) fun _ => .ok ((), ((), ())))) fun _ => (m_is_literal (a1003, letters_988))) fun b1037 => .ok (!b1037)) fun b1038 => (if b1038 = true then (bnd (.ok ()) fun _ => .ok (.dn false)) else (.ok (Lo.go ()))))))) (Pt.to (fun z => z) fun _ => (bnd (bnd (bnd (bnd (bnd (.ok ()) fun _ => (bnd (.ok ()) fun _ => .ok ((), ()))) fun _ => (.ok (value_987.length : Int))) fun r1043 => (bnd (.ok ()) fun _ => (.ok (decide (r1043 = 1))))) fun b1055 => (if b1055 = true then .ok true else (bnd (bnd (bnd (.ok ()) fun _ => (bnd (.ok ()) fun _ => (gt value_987 0))) fun r1047 => (bnd (.ok ()) fun _ => (.ok r1047.1))) fun r1049 => (bnd (bnd (bnd (.ok ()) fun _ => (bnd (.ok ()) fun _ => (gt value_987 1))) fun r1052 => (bnd (.ok ()) fun _ => (.ok r1052.1))) fun r1054 => (.ok (decide (r1049 < r1054))))))) fun q1056 => .ok q1056)))))
theorem sc_is_clause : FnScope ["value", "letters", "literal"] ["value", "letters"] (defScope s_is_clause) := ⟨rfl, rfl, rfl, by decide +kernel, rfl, by decide +kernel, by decide +kernel⟩
theorem J_is_clause {g : Gx} (T : Tx g) {base : Heap} : Df g base 5 "is_clause" (A := (List (Int × Int)) × Int) (ρ := Bool) (fun a => match a with | (value_987, letters_988) => [(.tup (value_987.map (encP D.int D.int))), (.int letters_988)]) m_is_clause (fun r => .va (.bl r)) :=
  fn_J T.f_is_clause sc_is_clause T.m_is_clause (fun _ => rfl) (fun _ _ _ _ _ _ us hl => match us, hl with | [_, _], _ => rfl) fun cdv Ar outer s H E a hr => match a with
    | (value_987, letters_988) => JG.cast (m' := m_is_clause (value_987, letters_988)) (show JG _ [] [.va (.tup (value_987.map (encP D.int D.int))), .va (.int letters_988), .un] _ _ _ from (js_if (JT.jte (jt_w (jw_or (jt_not (jt_val (jp_isi (T := "tuple") (bb := fun _ => true) (jp_var (d := (.tup (value_987.map (encP D.int D.int)))) 0) (fun _ => isi_ty (T := "tuple") (by rfl) (by decide +kernel)) T.n_isinstance T.n_tuple PyProof.Rows.boot_tuple))) (jw_or1 (jt_cmp (op_notInQ (by exact hu64 hr)) (by rfl) (jp_cb call_len T.n_len PySem.boot_len (ja_cons (jp_var (d := (.tup (value_987.map (encP D.int D.int)))) 0) (fun _ => ja_nil)) (fun _ => (ar_lenT (xs := value_987) (enc := (encP D.int D.int))))) (fun r993 => (jp_tup (ja_cons jp_int (fun _ => (ja_cons jp_int (fun _ => ja_nil)))))) (fun r993 _ => (od_niT (enc := D.int) (x := r993) (oInt.toEqE) (xs := ([1, 2] : List Int))))))))) (fun b1000 => (js_ret (fun _ => false) (JP.je jp_bl))) (fun b1000 => (js_pop (js_cut (fun z => z) (fun _ : Unit => [.va (.tup (value_987.map (encP D.int D.int))), .va (.int letters_988), .un]) (jl_forR (πd := (fun z : Bool => .rt (.va (.bl z)) none)) (fun _ => value_987) (encP D.int D.int) (() : Unit) (fun _ : Unit => [.va (.tup (value_987.map (encP D.int D.int))), .va (.int letters_988), .un]) (fun _ a1003 => [.va (.tup (value_987.map (encP D.int D.int))), .va (.int letters_988), .va (.tup [(.int a1003.1), (.int a1003.2)])]) _ (ji_tup (jp_var (d := (.tup (value_987.map (encP D.int D.int)))) 0)) (by first | exact pg_name (i := 2) sc_is_clause.nd rfl (Or.inl rfl) | exact pg_name (i := 2) sc_is_clause.nd rfl (Or.inr rfl)) (.same (.same (.same .nil))) (fun _ _ => (tg_name _ 2)) (fun _ a1003 => (js_if (JT.jte (jt_not (jt_val (jp_call (J_is_literal T) (by exact hr.mono (by decide)) (fun _ => (a1003, letters_988)) (ja_cons (jp_var (d := (.tup [(.int a1003.1), (.int a1003.2)])) 2) (fun _ => (ja_cons (jp_var (d := (.int letters_988)) 1) (fun _ => ja_nil)))))))) (fun b1038 => (js_ret (fun _ => (.dn false)) (JP.je jp_bl))) (fun b1038 => (js_pop (js_pop (js_lp (z := (Lo.go ())) (.same (.same (.un .nil))))))))) (hp := passes_cx)) (fun _ => (js_ret (fun (q1056 : Bool) => q1056) (JP.je (jp_or (jp_cmp op_eq (nomark _) (jp_cb call_len T.n_len PySem.boot_len (ja_cons (jp_var (d := (.tup (value_987.map (encP D.int D.int)))) 0) (fun _ => ja_nil)) (fun _ => (ar_lenT (xs := value_987) (enc := (encP D.int D.int))))) (fun r1043 => jp_int) (fun r1043 _ => od_eqI)) (jp_one (jp_cmp op_lt (nomark _) (jp_ix ix_tup (jp_ix ix_tup (jp_var (d := (.tup (value_987.map (encP D.int D.int)))) 0) (fun _ => jp_int) (fun _ _ => (od_ixT (xs := value_987) (encP D.int D.int)))) (fun r1047 => jp_int) (fun r1047 _ => (od_ixTv D.int r1047.1))) (fun r1049 => (jp_ix ix_tup (jp_ix ix_tup (jp_var (d := (.tup (value_987.map (encP D.int D.int)))) 0) (fun _ => jp_int) (fun _ _ => (od_ixT (xs := value_987) (encP D.int D.int)))) (fun r1052 => jp_int) (fun r1052 _ => (od_ixTv D.int r1052.1)))) (fun r1049 r1054 => od_lt)))))))))))) (by first | (dsimp only [m_is_clause]; done) | rfl)
def m_Clauses : Int × (List (List (Int × Int))) → M ((Int × (List (List (Int × Int))))) := fun (letters_965, clauses_966) => (bnd (bnd (bnd (bnd (.ok ()) fun _ => (bnd (bnd (.ok ()) fun _ => (bnd (bnd (.ok ()) fun _ => (bnd (.ok ()) fun _ => .ok ((), ()))) fun _ => .ok ((), ((), ())))) fun _ => .ok ((), ((), ((), ()))))) fun _ => (m_is_between (letters_965, 0, 39))) fun b974 => .ok (!b974)) fun b975 => (if b975 = true then .st else (bnd (bnd (bnd (.ok ()) fun _ => .ok (true || false)) fun b976 => .ok (!b976)) fun b977 => (if b977 = true then .st else (bnd (bnd (.ok ()) fun _ => (forN (enumL clauses_966) (() : Unit) (fun _ a980 => (bnd (bnd (bnd (bnd (.ok ()) fun _ => (bnd (bnd (.ok ()) fun _ => (bnd (.ok ()) fun _ => .ok ((), ()))) fun _ => .ok ((), ((), ())))) fun _ => (m_is_clause (a980.2, letters_965))) fun b1057 => .ok (!b1057)) fun b1058 => (if b1058 = true then .st else (bnd (bnd (bnd (.ok ()) fun _ => (bnd (.ok ()) fun _ => (.ok (decide (0 < a980.1))))) fun b1067 => (if b1067 = true then (bnd (.ok ()) fun _ => (bnd (bnd (.ok ()) fun _ => (bnd (bnd (.ok ()) fun _ => (bnd (.ok ()) fun _ => (.ok (a980.1 - 1)))) fun r1065 => (gt clauses_966 r1065))) fun r1066 => (.ok (!(((oInt).pr (oInt)).tup).lt r1066 a980.2)))) else .ok false)) fun b1068 => (if b1068 = true then .st else (.ok ())))))))) fun _ => (bnd (.ok ()) fun _ => (bnd (bnd (bnd (.ok ()) fun _ => (bnd (.ok ()) fun _ => .ok ((), ()))) fun _ => (.ok clauses_966)) fun q1073 => (.ok (letters_965, q1073)))))))))
theorem sc_Clauses : FnScope ["self", "letters", "clauses", "place", "clause"] ["self", "letters", "clauses"] (defScope s_Clauses) := ⟨rfl, rfl, rfl, by decide +kernel, rfl, by decide +kernel, by decide +kernel⟩
theorem J_Clauses {g : Gx} (T : Tx g) {base : Heap} : DfC g base 6 "Clauses" T.cClauses (A := Int × (List (List (Int × Int)))) (fun a => match a with | (letters_965, clauses_966) => [(.int letters_965), (.lst (clauses_966.map (fun xs : (List (Int × Int)) => D.tup (xs.map (encP D.int D.int)))))]) (ρ := (Int × (List (List (Int × Int))))) m_Clauses (fun r => [("letters", (.int r.1)), ("clauses", (.tup (r.2.map (fun xs : (List (Int × Int)) => D.tup (xs.map (encP D.int D.int))))))]) :=
  fn_JC (Γr := fun _ => [.un, .un, .un, .un]) T.f_Clauses sc_Clauses T.m_Clauses T.mk_Clauses (fun _ => rfl) (fun _ _ _ _ _ _ us hl => match us, hl with | [_, _, _], _ => rfl) fun cdv Ar outer s H E a c hr => match a with
    | (letters_965, clauses_966) => JG.cast (m' := m_Clauses (letters_965, clauses_966)) (show JG _ [] [.ow (some c) (.ob T.cClauses []), .va (.int letters_965), .va (.lst (clauses_966.map (fun xs : (List (Int × Int)) => D.tup (xs.map (encP D.int D.int))))), .un, .un] _ _ _ from (js_if (JT.jte (jt_not (jt_val (jp_call (J_is_between T) (by exact hr.mono (by decide)) (fun _ => (letters_965, 0, 39)) (ja_cons (jp_var (d := (.int letters_965)) 1) (fun _ => (ja_cons jp_int (fun _ => (ja_cons (jp_gint (i := 39) T.kMOST_LETTERS_clauses) (fun _ => ja_nil)))))))))) (fun b975 => js_stuck) (fun b975 => (js_pop (js_if (JT.jte (jt_not (jt_val (jp_isi2 (T1 := "list") (T2 := "tuple") (bb := fun _ => (true || false)) (jp_var (d := (.lst (clauses_966.map (fun xs : (List (Int × Int)) => D.tup (xs.map (encP D.int D.int)))))) 2) (fun _ => isi_any2 (T := "list") (by rfl) (by decide +kernel) (by decide +kernel)) T.n_isinstance T.n_list T.n_tuple PyProof.Rows.boot_list PyProof.Rows.boot_tuple)))) (fun b977 => js_stuck) (fun b977 => (js_pop (js_cut1 (fun _ : Unit => [.ow (some c) (.ob T.cClauses []), .va (.int letters_965), .va (.lst (clauses_966.map (fun xs : (List (Int × Int)) => D.tup (xs.map (encP D.int D.int))))), .un, .un]) (jl_for (fun _ => (enumL clauses_966)) (encP D.int (fun xs : (List (Int × Int)) => D.tup (xs.map (encP D.int D.int)))) (() : Unit) (fun _ : Unit => [.ow (some c) (.ob T.cClauses []), .va (.int letters_965), .va (.lst (clauses_966.map (fun xs : (List (Int × Int)) => D.tup (xs.map (encP D.int D.int))))), .un, .un]) (fun _ a980 => [.ow (some c) (.ob T.cClauses []), .va (.int letters_965), .va (.lst (clauses_966.map (fun xs : (List (Int × Int)) => D.tup (xs.map (encP D.int D.int))))), .va (.int a980.1), .va (.tup (a980.2.map (encP D.int D.int)))]) _ (ji_enL (enc := (fun xs : (List (Int × Int)) => D.tup (xs.map (encP D.int D.int)))) (l := fun r978 => clauses_966) (jp_var (d := (.lst (clauses_966.map (fun xs : (List (Int × Int)) => D.tup (xs.map (encP D.int D.int)))))) 2) T.n_enumerate) (pg_tup (n := 2) rfl (pgs_cons (by first | exact pg_name (i := 3) sc_Clauses.nd rfl (Or.inl rfl) | exact pg_name (i := 3) sc_Clauses.nd rfl (Or.inr rfl)) (pgs_cons (by first | exact pg_name (i := 4) sc_Clauses.nd rfl (Or.inl rfl) | exact pg_name (i := 4) sc_Clauses.nd rfl (Or.inr rfl)) pgs_nil))) (.same (.same (.same (.same (.same .nil))))) (fun _ _ => (tg_tup (n := 2) _ (tgs_cons _ (tg_name _ 3) (tgs_cons _ (tg_name _ 4) (tgs_nil _))))) (fun _ a980 => (js_if (JT.jte (jt_not (jt_val (jp_call (J_is_clause T) (by exact hr.mono (by decide)) (fun _ => (a980.2, letters_965)) (ja_cons (jp_var (d := (.tup (a980.2.map (encP D.int D.int)))) 4) (fun _ => (ja_cons (jp_var (d := (.int letters_965)) 1) (fun _ => ja_nil)))))))) (fun b1058 => js_stuck) (fun b1058 => (js_pop (js_if (JT.jte (jt_w (jw_and (jt_cmp op_gt (nomark _) (jp_var (d := (.int a980.1)) 3) (fun _ => jp_int) (fun _ _ => od_gt)) (jw_and1 (jt_cmp (op_leD (by exact hu63 hr)) (nomark _) (jp_var (d := (.tup (a980.2.map (encP D.int D.int)))) 4) (fun _ => (jp_ix ix_list (jp_var (d := (.lst (clauses_966.map (fun xs : (List (Int × Int)) => D.tup (xs.map (encP D.int D.int)))))) 2) (fun _ => (jp_op op_sub (jp_var (d := (.int a980.1)) 3) (fun _ => jp_int) (fun _ _ => od_sub))) (fun _ r1065 => (od_ixL (xs := clauses_966) (fun xs : (List (Int × Int)) => D.tup (xs.map (encP D.int D.int))))))) (fun _ r1066 => (od_leE (enc := (fun xs : (List (Int × Int)) => D.tup (xs.map (encP D.int D.int)))) (x := a980.2) (y := r1066) (((oInt).pr (oInt)).tup)))))))) (fun b1068 => js_stuck) (fun b1068 => (js_pop (js_pop (js_lp (z := ()) (.same (.same (.same (.un (.un .nil)))))))))))))) passes_cx) (fun _ => (js_fld 0 (fun _ => [.ow (some c) (.ob T.cClauses [("letters", (.int letters_965))]), .va (.int letters_965), .va (.lst (clauses_966.map (fun xs : (List (Int × Int)) => D.tup (xs.map (encP D.int D.int))))), .un, .un]) (JP.je (jp_var (d := (.int letters_965)) 1)) (fun _ => (js_fld 0 (fun q1073 => [.ow (some c) (.ob T.cClauses [("letters", (.int letters_965)), ("clauses", (.tup (q1073.map (fun xs : (List (Int × Int)) => D.tup (xs.map (encP D.int D.int))))))]), .va (.int letters_965), .va (.lst (clauses_966.map (fun xs : (List (Int × Int)) => D.tup (xs.map (encP D.int D.int))))), .un, .un]) (JP.je (jp_cty call_tuple_of T.n_tuple PyProof.Rows.boot_tuple (ja_cons (jp_var (d := (.lst (clauses_966.map (fun xs : (List (Int × Int)) => D.tup (xs.map (encP D.int D.int)))))) 2) (fun _ => ja_nil)) (fun _ => (ar_tupleL (xs := clauses_966) (enc := (fun xs : (List (Int × Int)) => D.tup (xs.map (encP D.int D.int)))))))) (fun q1073 => (js_pop (js_end (z := (letters_965, q1073)) (.same (.un (.un (.same (.same .nil)))))))) T.lClauses T.aClauses_clauses)) T.lClauses T.aClauses_letters)))))))))) (by first | (dsimp only [m_Clauses]; done) | rfl)
def m_words_clauses : (Int × (List (List Int))) → M ((Int × (List (List (Int × Int))))) := fun words_804 => (bnd (.ok ()) fun _ => (bnd (bnd (bnd (.ok ()) fun _ => (bnd (.ok ()) fun _ => .ok ((), ()))) fun _ => (m_literal_masks words_804)) fun q852 => (bnd (.ok ()) fun _ => (bnd (bnd (bnd (.ok ()) fun _ => (rng 0 words_804.1)) fun r855 => (forN r855 (([] : (List (List (Int × Int)))) : (List (List (Int × Int)))) (fun s857 a856 => (bnd (bnd (bnd (.ok ()) fun _ => (bnd (bnd (.ok ()) fun _ => (bnd (.ok ()) fun _ => .ok ((), ()))) fun _ => .ok ((), ((), ())))) fun _ => (forN ([0, 1] : List Int) (s857 : (List (List (Int × Int)))) (fun s864 a863 => (bnd (bnd (bnd (.ok ()) fun _ => (bnd (.ok ()) fun _ => (gt q852 a856))) fun r867 => (bnd (bnd (.ok ()) fun _ => (bnd (.ok ()) fun _ => (.ok (1 - a863)))) fun r870 => (gt ([r867.1, r867.2] : List Int) r870))) fun q871 => (bnd (bnd (.ok ()) fun _ => (bnd (.ok ()) fun _ => (.ok (decide (q871 = 0))))) fun b874 => (if b874 = true then (bnd (bnd (bnd (bnd (bnd (.ok ()) fun _ => (bnd (bnd (.ok ()) fun _ => (bnd (.ok ()) fun _ => .ok ((), ()))) fun _ => .ok ((), ((), ())))) fun _ => (bnd (.ok ()) fun _ => .ok (((), ((), ())), ()))) fun _ => (bnd (.ok ()) fun _ => .ok ((((), ((), ())), ()), ()))) fun _ => (bnd (apd s864 ([(a856, a863)] : List (Int × Int))) fun z884 => .ok (z884, ((((), ((), ())), ()), ())))) fun q885 => (.ok q885.1)) else (bnd (bnd (bnd (bnd (bnd (.ok ()) fun _ => (bnd (bnd (.ok ()) fun _ => (bnd (bnd (.ok ()) fun _ => (bnd (.ok ()) fun _ => .ok ((), ()))) fun _ => .ok ((), ((), ())))) fun _ => .ok ((), ((), ((), ()))))) fun _ => (m_pairs_with (q852, a856, a863))) fun r954 => (bnd (.ok ()) fun _ => .ok (r954, ()))) fun q956 => (bnd (ext s864 q956.1) fun z957 => .ok (z957, q956))) fun q958 => (.ok q958.1)))))))) fun s864 => (.ok s864))))) fun s857 => (bnd (bnd (bnd (.ok ()) fun _ => (bnd (bnd (.ok ()) fun _ => (bnd (.ok ()) fun _ => .ok ((), ()))) fun _ => .ok ((), ((), ())))) fun _ => (noer (m_Clauses (words_804.1, s857)))) fun q1074 => .ok q1074)))))
theorem sc_words_clauses : FnScope ["words", "length", "masks", "found", "letter", "bit", "false_there"] ["words"] (defScope s_words_clauses) := ⟨rfl, rfl, rfl, by decide +kernel, rfl, by decide +kernel, by decide +kernel⟩
theorem J_words_clauses {g : Gx} (T : Tx g) {base : Heap} : Df g base 8 "words_clauses" (A := (Int × (List (List Int)))) (ρ := (Int × (List (List (Int × Int))))) (fun words_804 => [(.ob T.cWords [("length", (.int words_804.1)), ("words", (.tup (words_804.2.map encI)))])]) m_words_clauses (fun r => .va (.ob T.cClauses [("letters", (.int r.1)), ("clauses", (.tup (r.2.map (fun xs : (List (Int × Int)) => D.tup (xs.map (encP D.int D.int))))))])) :=
  fn_J T.f_words_clauses sc_words_clauses T.m_words_clauses (fun _ => rfl) (fun _ _ _ _ _ _ us hl => match us, hl with | [_], _ => rfl) fun cdv Ar outer s H E words_804 hr =>
    JG.cast (m' := m_words_clauses words_804) (show JG _ [] [.va (.ob T.cWords [("length", (.int words_804.1)), ("words", (.tup (words_804.2.map encI)))]), .un, .un, .un, .un, .un, .un] _ _ _ from (js_set 1 (fun _ => [.va (.ob T.cWords [("length", (.int words_804.1)), ("words", (.tup (words_804.2.map encI)))]), .va (.int words_804.1), .un, .un, .un, .un, .un]) (JP.je (jp_fld (d := fun _ => (.int words_804.1)) (jp_var (d := (.ob T.cWords [("length", (.int words_804.1)), ("words", (.tup (words_804.2.map encI)))])) 0) T.lWords T.aWords_length)) (fun _ => (js_set 2 (fun (q852 : (List (Int × Int))) => [.va (.ob T.cWords [("length", (.int words_804.1)), ("words", (.tup (words_804.2.map encI)))]), .va (.int words_804.1), .va (.lst (q852.map (encP D.int D.int))), .un, .un, .un, .un]) (JP.je (jp_call (J_literal_masks T) (by exact hr.mono (by decide)) (fun _ => words_804) (ja_cons (jp_var (d := (.ob T.cWords [("length", (.int words_804.1)), ("words", (.tup (words_804.2.map encI)))])) 0) (fun _ => ja_nil)))) (fun (q852 : (List (Int × Int))) => (js_set 3 (fun _ => [.va (.ob T.cWords [("length", (.int words_804.1)), ("words", (.tup (words_804.2.map encI)))]), .va (.int words_804.1), .va (.lst (q852.map (encP D.int D.int))), .ow none (.lst (([] : (List (List (Int × Int)))).map (fun xs : (List (Int × Int)) => D.tup (xs.map (encP D.int D.int))))), .un, .un, .un]) (JP.je (jp_lst ja_nil)) (fun _ => (js_cut1 (fun s857 : (List (List (Int × Int))) => [.va (.ob T.cWords [("length", (.int words_804.1)), ("words", (.tup (words_804.2.map encI)))]), .va (.int words_804.1), .va (.lst (q852.map (encP D.int D.int))), .ow none (.lst (s857.map (fun xs : (List (Int × Int)) => D.tup (xs.map (encP D.int D.int))))), .un, .un, .un]) (jl_for (fun r855 => r855) D.int (([] : (List (List (Int × Int)))) : (List (List (Int × Int)))) (fun s857 : (List (List (Int × Int))) => [.va (.ob T.cWords [("length", (.int words_804.1)), ("words", (.tup (words_804.2.map encI)))]), .va (.int words_804.1), .va (.lst (q852.map (encP D.int D.int))), .ow none (.lst (s857.map (fun xs : (List (Int × Int)) => D.tup (xs.map (encP D.int D.int))))), .un, .un, .un]) (fun s857 a856 => [.va (.ob T.cWords [("length", (.int words_804.1)), ("words", (.tup (words_804.2.map encI)))]), .va (.int words_804.1), .va (.lst (q852.map (encP D.int D.int))), .ow none (.lst (s857.map (fun xs : (List (Int × Int)) => D.tup (xs.map (encP D.int D.int))))), .va (.int a856), .un, .un]) _ (ji_range1 (jp_var (d := (.int words_804.1)) 1) T.n_range) (by first | exact pg_name (i := 4) sc_words_clauses.nd rfl (Or.inl rfl) | exact pg_name (i := 4) sc_words_clauses.nd rfl (Or.inr rfl)) (.same (.same (.same (.same (.same (.same (.same .nil))))))) (fun _ _ => (tg_name _ 4)) (fun s857 a856 => (js_cut1 (fun s864 : (List (List (Int × Int))) => [.va (.ob T.cWords [("length", (.int words_804.1)), ("words", (.tup (words_804.2.map encI)))]), .va (.int words_804.1), .va (.lst (q852.map (encP D.int D.int))), .ow none (.lst (s864.map (fun xs : (List (Int × Int)) => D.tup (xs.map (encP D.int D.int))))), .va (.int a856), .un, .un]) (jl_for (fun _ => ([0, 1] : List Int)) D.int (s857 : (List (List (Int × Int)))) (fun s864 : (List (List (Int × Int))) => [.va (.ob T.cWords [("length", (.int words_804.1)), ("words", (.tup (words_804.2.map encI)))]), .va (.int words_804.1), .va (.lst (q852.map (encP D.int D.int))), .ow none (.lst (s864.map (fun xs : (List (Int × Int)) => D.tup (xs.map (encP D.int D.int))))), .va (.int a856), .un, .un]) (fun s864 a863 => [.va (.ob T.cWords [("length", (.int words_804.1)), ("words", (.tup (words_804.2.map encI)))]), .va (.int words_804.1), .va (.lst (q852.map (encP D.int D.int))), .ow none (.lst (s864.map (fun xs : (List (Int × Int)) => D.tup (xs.map (encP D.int D.int))))), .va (.int a856), .va (.int a863), .un]) _ (ji_tup (jp_tup (ja_cons jp_int (fun _ => (ja_cons jp_int (fun _ => ja_nil)))))) (by first | exact pg_name (i := 5) sc_words_clauses.nd rfl (Or.inl rfl) | exact pg_name (i := 5) sc_words_clauses.nd rfl (Or.inr rfl)) (.same (.same (.same (.same (.same (.same (.same .nil))))))) (fun _ _ => (tg_name _ 5)) (fun s864 a863 => (js_set 6 (fun (q871 : Int) => [.va (.ob T.cWords [("length", (.int words_804.1)), ("words", (.tup (words_804.2.map encI)))]), .va (.int words_804.1), .va (.lst (q852.map (encP D.int D.int))), .ow none (.lst (s864.map (fun xs : (List (Int × Int)) => D.tup (xs.map (encP D.int D.int))))), .va (.int a856), .va (.int a863), .va (.int q871)]) (JP.je (jp_ix ix_tup (jp_ix ix_list (jp_var (d := (.lst (q852.map (encP D.int D.int)))) 2) (fun _ => (jp_var (d := (.int a856)) 4)) (fun _ _ => (od_ixL (xs := q852) (encP D.int D.int)))) (fun r867 => (jp_op op_sub jp_int (fun _ => (jp_var (d := (.int a863)) 5)) (fun _ _ => od_sub))) (fun r867 r870 => (od_ixT (xs := ([r867.1, r867.2] : List Int)) D.int)))) (fun (q871 : Int) => (js_if (JT.jte (jt_cmp op_eq (nomark _) (jp_var (d := (.int q871)) 6) (fun _ => jp_int) (fun _ _ => od_eqI))) (fun b874 => (js_expr (je_me 3 PySem.F.plainAttrs_list PySem.F.slot_list_append PySem.F.type_list_append mt_append ty_lst (JA.jae (ja_cons (jp_tup (ja_cons (jp_tup (ja_cons (jp_var (d := (.int a856)) 4) (fun _ => (ja_cons (jp_var (d := (.int a863)) 5) (fun _ => ja_nil))))) (fun _ => ja_nil))) (fun _ => ja_nil))) (fun _ => (me_append (enc := (fun xs : (List (Int × Int)) => D.tup (xs.map (encP D.int D.int)))) (xs := s864) (x := ([(a856, a863)] : List (Int × Int))))) (fun _ _ => by unfold apd chk; split <;> intro h <;> cases h)) (fun (q885 : ((List (List (Int × Int))) × (((Unit × (Unit × Unit)) × Unit) × Unit))) => (js_pop (js_pop (js_lp (z := q885.1) (.same (.same (.same (.same (.same (.un (.un .nil))))))))))))) (fun b874 => (js_expr (je_me 3 PySem.F.plainAttrs_list PySem.F.slot_list_extend PySem.F.type_list_extend mt_extend ty_lst (JA.jae (ja_cons (jp_call (J_pairs_with T) (by exact hr.mono (by decide)) (fun _ => (q852, a856, a863)) (ja_cons (jp_var (d := (.lst (q852.map (encP D.int D.int)))) 2) (fun _ => (ja_cons (jp_var (d := (.int a856)) 4) (fun _ => (ja_cons (jp_var (d := (.int a863)) 5) (fun _ => ja_nil))))))) (fun r954 => ja_nil))) (fun q956 => (me_extend (enc := (fun xs : (List (Int × Int)) => D.tup (xs.map (encP D.int D.int)))) (xs := s864) (ys := q956.1))) (fun _ _ => by unfold ext chk; split <;> intro h <;> cases h)) (fun (q958 : ((List (List (Int × Int))) × ((List (List (Int × Int))) × Unit))) => (js_pop (js_pop (js_lp (z := q958.1) (.same (.same (.same (.same (.same (.un (.un .nil))))))))))))))) sc_words_clauses.nd)) passes_cx) (fun s864 => (js_pop (js_lp (z := s864) (.same (.same (.same (.same (.un (.same (.same .nil)))))))))))) passes_cx) (fun s857 => (js_frz 3 [.va (.ob T.cWords [("length", (.int words_804.1)), ("words", (.tup (words_804.2.map encI)))]), .va (.int words_804.1), .va (.lst (q852.map (encP D.int D.int))), .va (.lst (s857.map (fun xs : (List (Int × Int)) => D.tup (xs.map (encP D.int D.int))))), .un, .un, .un] (js_ret (fun (q1074 : (Int × (List (List (Int × Int))))) => q1074) (JP.je (jp_frz (jp_make (J_Clauses T) (by exact hr.mono (by decide)) (fun _ => (words_804.1, s857)) (ja_cons (jp_var (d := (.int words_804.1)) 1) (fun _ => (ja_cons (jp_var (d := (.lst (s857.map (fun xs : (List (Int × Int)) => D.tup (xs.map (encP D.int D.int)))))) 3) (fun _ => ja_nil)))))))))))) sc_words_clauses.nd)) sc_words_clauses.nd)) sc_words_clauses.nd)) (by first | (dsimp only [m_words_clauses]; done) | rfl)
def m_is_true : (Int × Int) × (List Int) → M (Bool) := fun (literal_1098, word_1099) => (bnd (bnd (bnd (.ok ()) fun _ => (bnd (bnd (.ok ()) fun _ => (bnd (.ok ()) fun _ => (.ok literal_1098.1))) fun r1103 => (gt word_1099 r1103))) fun r1104 => (bnd (bnd (.ok ()) fun _ => (bnd (.ok ()) fun _ => (.ok literal_1098.2))) fun r1107 => (.ok (decide (r1104 = r1107))))) fun q1108 => .ok q1108)
theorem sc_is_true : FnScope ["literal", "word"] ["literal", "word"] (defScope s_is_true) := ⟨rfl, rfl, rfl, by decide +kernel, rfl, by decide +kernel, by decide +kernel⟩
theorem J_is_true {g : Gx} (T : Tx g) {base : Heap} : Df g base 1 "is_true" (A := (Int × Int) × (List Int)) (ρ := Bool) (fun a => match a with | (literal_1098, word_1099) => [(.tup [(.int literal_1098.1), (.int literal_1098.2)]), (.tup (word_1099.map D.int))]) m_is_true (fun r => .va (.bl r)) :=
  fn_J T.f_is_true sc_is_true T.m_is_true (fun _ => rfl) (fun _ _ _ _ _ _ us hl => match us, hl with | [_, _], _ => rfl) fun cdv Ar outer s H E a hr => match a with
    | (literal_1098, word_1099) => JG.cast (m' := m_is_true (literal_1098, word_1099)) (show JG _ [] [.va (.tup [(.int literal_1098.1), (.int literal_1098.2)]), .va (.tup (word_1099.map D.int))] _ _ _ from (js_ret (fun (q1108 : Bool) => q1108) (JP.je (jp_cmp op_eq (nomark _) (jp_ix ix_tup (jp_var (d := (.tup (word_1099.map D.int))) 1) (fun _ => (jp_ix ix_tup (jp_var (d := (.tup [(.int literal_1098.1), (.int literal_1098.2)])) 0) (fun _ => jp_int) (fun _ _ => (od_ixTv D.int literal_1098.1)))) (fun _ r1103 => (od_ixT (xs := word_1099) D.int))) (fun r1104 => (jp_ix ix_tup (jp_var (d := (.tup [(.int literal_1098.1), (.int literal_1098.2)])) 0) (fun _ => jp_int) (fun _ _ => (od_ixTv D.int literal_1098.2)))) (fun r1104 r1107 => od_eqI))))) (by first | (dsimp only [m_is_true]; done) | rfl)
def m_turned : (List Int) × (List (Int × Int)) → M ((List Int)) := fun (word_1119, clause_1120) => (bnd (lcM (.ok ()) (fun r1122 => clause_1120) (fun a1121 => (.ok true)) (fun a1121 => (bnd (.ok ()) fun _ => (bnd (.ok ()) fun _ => (.ok a1121.1))))) fun q1125 => (bnd (bnd (bnd (lcM (.ok ()) (fun r1128 => (enumL word_1119)) (fun a1127 => (.ok true)) (fun a1127 => (bnd (bnd (.ok ()) fun _ => (bnd (.ok ()) fun _ => (.ok (inB (a1127.1) (q1125))))) fun b1134 => (if b1134 = true then (bnd (.ok ()) fun _ => (bnd (.ok ()) fun _ => (.ok (1 - a1127.2)))) else (bnd (.ok ()) fun q1133 => .ok a1127.2))))) fun r1135 => (bnd (.ok ()) fun _ => .ok (r1135, ()))) fun q1137 => (.ok q1137.1)) fun q1138 => .ok q1138))
theorem sc_turned : FnScope ["word", "clause", "places", "literal", "k", "bit"] ["word", "clause"] (defScope s_turned) := ⟨rfl, rfl, rfl, by decide +kernel, rfl, by decide +kernel, by decide +kernel⟩
theorem J_turned {g : Gx} (T : Tx g) {base : Heap} : Df g base 1 "turned" (A := (List Int) × (List (Int × Int))) (ρ := (List Int)) (fun a => match a with | (word_1119, clause_1120) => [(.tup (word_1119.map D.int)), (.tup (clause_1120.map (encP D.int D.int)))]) m_turned (fun r => .va (.tup (r.map D.int))) :=
  fn_J T.f_turned sc_turned T.m_turned (fun _ => rfl) (fun _ _ _ _ _ _ us hl => match us, hl with | [_, _], _ => rfl) fun cdv Ar outer s H E a hr => match a with
    | (word_1119, clause_1120) => JG.cast (m' := m_turned (word_1119, clause_1120)) (show JG _ [] [.va (.tup (word_1119.map D.int)), .va (.tup (clause_1120.map (encP D.int D.int))), .un, .un, .un, .un] _ _ _ from (js_set 2 (fun (q1125 : (List Int)) => [.va (.tup (word_1119.map D.int)), .va (.tup (clause_1120.map (encP D.int D.int))), .va (.lst (q1125.map D.int)), .un, .un, .un]) (JP.je (jp_frz (jp_lc (own := [("literal", 3)]) (fun r1122 => clause_1120) (encP D.int D.int) D.int (fun a1121 => [.va (.tup (word_1119.map D.int)), .va (.tup (clause_1120.map (encP D.int D.int))), .un, .va (.tup [(.int a1121.1), (.int a1121.2)]), .un, .un]) _ _  (ji_tup (jp_var (d := (.tup (clause_1120.map (encP D.int D.int)))) 1)) (un1 rfl) (fun _ => (tgb_name (vs := [3]) _ 3)) (fun a1121 _ _ _ _ _ => jts_nil) (fun a1121 _ _ _ _ _ => (jp_ix ix_tup (jp_var (d := (.tup [(.int a1121.1), (.int a1121.2)])) 3) (fun _ => jp_int) (fun _ _ => (od_ixTv D.int a1121.1)))) rfl sc_turned.nd (blkOk_by (N := ["word", "clause", "places", "literal", "k", "bit"]) (sc := defScope s_turned) (by decide +kernel)) (fun _ _ _ _ _ => (by first | exact pg_name (i := 3) sc_turned.nd rfl (Or.inl rfl) | exact pg_name (i := 3) sc_turned.nd rfl (Or.inr rfl)))))) (fun (q1125 : (List Int)) => (js_ret (fun (q1138 : (List Int)) => q1138) (JP.je (jp_cty call_tuple_of T.n_tuple PyProof.Rows.boot_tuple (ja_cons (jp_frz (jp_lc (own := [("k", 4), ("bit", 5)]) (fun r1128 => (enumL word_1119)) (encP D.int D.int) D.int (fun a1127 => [.va (.tup (word_1119.map D.int)), .va (.tup (clause_1120.map (encP D.int D.int))), .va (.lst (q1125.map D.int)), .un, .va (.int a1127.1), .va (.int a1127.2)]) _ _  (ji_enT (enc := D.int) (l := fun r1126 => word_1119) (jp_var (d := (.tup (word_1119.map D.int))) 0) T.n_enumerate) (un2 rfl rfl) (fun _ => (tgb_tup (n := 2) _ (tgsb_cons _ (tgb_name (vs := [4, 5]) _ 4) (tgsb_cons _ (tgb_name (vs := [4, 5]) _ 5) (tgsb_nil _))))) (fun a1127 _ _ _ _ _ => jts_nil) (fun a1127 _ _ _ _ _ => (jp_ifx (jt_cmp (op_inQ (by exact hu64 hr)) (by rfl) (jp_var (d := (.int a1127.1)) 4) (fun _ => (jp_var (d := (.lst (q1125.map D.int))) 2)) (fun _ _ => (od_inL (enc := D.int) (x := a1127.1) (oInt.toEqE) (xs := q1125)))) (jp_op op_sub jp_int (fun _ => (jp_var (d := (.int a1127.2)) 5)) (fun _ _ => od_sub)) (JP.cv (t := fun a => .va (D.int a)) (fun q1133 => a1127.2) (jp_var (d := (.int a1127.2)) 5)))) rfl sc_turned.nd (blkOk_by (N := ["word", "clause", "places", "literal", "k", "bit"]) (sc := defScope s_turned) (by decide +kernel)) (fun _ _ _ _ _ => (pg_tup (n := 2) rfl (pgs_cons (by first | exact pg_name (i := 4) sc_turned.nd rfl (Or.inl rfl) | exact pg_name (i := 4) sc_turned.nd rfl (Or.inr rfl)) (pgs_cons (by first | exact pg_name (i := 5) sc_turned.nd rfl (Or.inl rfl) | exact pg_name (i := 5) sc_turned.nd rfl (Or.inr rfl)) pgs_nil)))))) (fun r1135 => ja_nil)) (fun q1137 => (ar_tupleL (xs := q1137.1) (enc := D.int))))))) sc_turned.nd)) (by first | (dsimp only [m_turned]; done) | rfl)
def m_led_into : (List (List Int × Bool)) × (List (List (Int × Int))) × (List Int) → M ((List Int)) := fun (known_1082, clauses_1083, word_1084) => (bnd (whileN 2000 (word_1084 : (List Int)) (fun s1085 => (bnd (.ok ()) fun _ => (bnd (.ok ()) fun _ => (.ok (!decide (s1085 ∈ known_1082.map (·.1))))))) (fun s1085 => (bnd (bnd (.ok ()) fun _ => (forN clauses_1083 (s1085 : (List Int)) (fun s1090 a1089 => (bnd (bnd (bnd (bnd (lcM (.ok ()) (fun r1092 => a1089) (fun a1091 => (.ok true)) (fun a1091 => (bnd (bnd (.ok ()) fun _ => (bnd (bnd (.ok ()) fun _ => (bnd (.ok ()) fun _ => .ok ((), ()))) fun _ => .ok ((), ((), ())))) fun _ => (m_is_true (a1091, s1090))))) fun r1109 => (bnd (.ok ()) fun _ => .ok (r1109, ()))) fun q1111 => (.ok (q1111.1.any id))) fun b1112 => .ok (!b1112)) fun b1113 => (if b1113 = true then (bnd (bnd (bnd (.ok ()) fun _ => (bnd (bnd (.ok ()) fun _ => (bnd (.ok ()) fun _ => .ok ((), ()))) fun _ => .ok ((), ((), ())))) fun _ => (m_turned (s1090, a1089))) fun q1139 => (.ok q1139)) else (.ok s1090)))))) fun s1090 => (.ok s1090)))) fun s1085 => (bnd (.ok ()) fun _ => .ok s1085))
theorem sc_led_into : FnScope ["known", "clauses", "word", "clause", "literal"] ["known", "clauses", "word"] (defScope s_led_into) := ⟨rfl, rfl, rfl, by decide +kernel, rfl, by decide +kernel, by decide +kernel⟩
theorem J_led_into {g : Gx} (T : Tx g) {base : Heap} : Df g base 2 "led_into" (A := (List (List Int × Bool)) × (List (List (Int × Int))) × (List Int)) (ρ := (List Int)) (fun a => match a with | (known_1082, clauses_1083, word_1084) => [(encT D.bl known_1082), (.tup (clauses_1083.map (fun xs : (List (Int × Int)) => D.tup (xs.map (encP D.int D.int))))), (.tup (word_1084.map D.int))]) m_led_into (fun r => .va (.tup (r.map D.int))) :=
  fn_J T.f_led_into sc_led_into T.m_led_into (fun _ => rfl) (fun _ _ _ _ _ _ us hl => match us, hl with | [_, _, _], _ => rfl) fun cdv Ar outer s H E a hr => match a with
    | (known_1082, clauses_1083, word_1084) => JG.cast (m' := m_led_into (known_1082, clauses_1083, word_1084)) (show JG _ [] [.va (encT D.bl known_1082), .va (.tup (clauses_1083.map (fun xs : (List (Int × Int)) => D.tup (xs.map (encP D.int D.int))))), .va (.tup (word_1084.map D.int)), .un, .un] _ _ _ from (js_cut1 (fun s1085 : (List Int) => [.va (encT D.bl known_1082), .va (.tup (clauses_1083.map (fun xs : (List (Int × Int)) => D.tup (xs.map (encP D.int D.int))))), .va (.tup (s1085.map D.int)), .un, .un]) (jl_while 2000 (word_1084 : (List Int)) (fun s1085 : (List Int) => [.va (encT D.bl known_1082), .va (.tup (clauses_1083.map (fun xs : (List (Int × Int)) => D.tup (xs.map (encP D.int D.int))))), .va (.tup (s1085.map D.int)), .un, .un]) _ _ (.same (.same (.same (.same (.same .nil))))) (fun s1085 => (jt_cmp (op_niDct (by exact hu1 hr)) (by rfl) (jp_var (d := (.tup (s1085.map D.int))) 2) (fun _ => (jp_var (d := (encT D.bl known_1082)) 0)) (fun _ _ => od_niDt))) (fun s1085 => (js_cut1 (fun s1090 : (List Int) => [.va (encT D.bl known_1082), .va (.tup (clauses_1083.map (fun xs : (List (Int × Int)) => D.tup (xs.map (encP D.int D.int))))), .va (.tup (s1090.map D.int)), .un, .un]) (jl_for (fun _ => clauses_1083) (fun xs : (List (Int × Int)) => D.tup (xs.map (encP D.int D.int))) (s1085 : (List Int)) (fun s1090 : (List Int) => [.va (encT D.bl known_1082), .va (.tup (clauses_1083.map (fun xs : (List (Int × Int)) => D.tup (xs.map (encP D.int D.int))))), .va (.tup (s1090.map D.int)), .un, .un]) (fun s1090 a1089 => [.va (encT D.bl known_1082), .va (.tup (clauses_1083.map (fun xs : (List (Int × Int)) => D.tup (xs.map (encP D.int D.int))))), .va (.tup (s1090.map D.int)), .va (.tup (a1089.map (encP D.int D.int))), .un]) _ (ji_tup (jp_var (d := (.tup (clauses_1083.map (fun xs : (List (Int × Int)) => D.tup (xs.map (encP D.int D.int)))))) 1)) (by first | exact pg_name (i := 3) sc_led_into.nd rfl (Or.inl rfl) | exact pg_name (i := 3) sc_led_into.nd rfl (Or.inr rfl)) (.same (.same (.same (.same (.same .nil))))) (fun _ _ => (tg_name _ 3)) (fun s1090 a1089 => (js_if (JT.jte (jt_not (jt_val (jp_cb (cr_any rfl) T.n_any PyProof.Rows.boot_any (ja_cons (jp_frz (jp_lc (own := [("literal", 4)]) (fun r1092 => a1089) (encP D.int D.int) D.bl (fun a1091 => [.va (encT D.bl known_1082), .va (.tup (clauses_1083.map (fun xs : (List (Int × Int)) => D.tup (xs.map (encP D.int D.int))))), .va (.tup (s1090.map D.int)), .va (.tup (a1089.map (encP D.int D.int))), .va (.tup [(.int a1091.1), (.int a1091.2)])]) _ _  (ji_tup (jp_var (d := (.tup (a1089.map (encP D.int D.int)))) 3)) (un1 rfl) (fun _ => (tgb_name (vs := [4]) _ 4)) (fun a1091 _ _ _ _ _ => jts_nil) (fun a1091 _ _ _ _ _ => (jp_call (J_is_true T) (by exact hr.mono (by decide)) (fun _ => (a1091, s1090)) (ja_cons (jp_var (d := (.tup [(.int a1091.1), (.int a1091.2)])) 4) (fun _ => (ja_cons (jp_var (d := (.tup (s1090.map D.int))) 2) (fun _ => ja_nil)))))) rfl sc_led_into.nd (blkOk_by (N := ["known", "clauses", "word", "clause", "literal"]) (sc := defScope s_led_into) (by decide +kernel)) (fun _ _ _ _ _ => (by first | exact pg_name (i := 4) sc_led_into.nd rfl (Or.inl rfl) | exact pg_name (i := 4) sc_led_into.nd rfl (Or.inr rfl))))) (fun r1109 => ja_nil)) (fun q1111 => ar_any))))) (fun b1113 => (js_set 2 (fun (q1139 : (List Int)) => [.va (encT D.bl known_1082), .va (.tup (clauses_1083.map (fun xs : (List (Int × Int)) => D.tup (xs.map (encP D.int D.int))))), .va (.tup (q1139.map D.int)), .va (.tup (a1089.map (encP D.int D.int))), .un]) (JP.je (jp_call (J_turned T) (by exact hr.mono (by decide)) (fun _ => (s1090, a1089)) (ja_cons (jp_var (d := (.tup (s1090.map D.int))) 2) (fun _ => (ja_cons (jp_var (d := (.tup (a1089.map (encP D.int D.int)))) 3) (fun _ => ja_nil)))))) (fun (q1139 : (List Int)) => (js_pop (js_pop (js_lp (z := q1139) (.same (.same (.same (.un (.same .nil))))))))) sc_led_into.nd)) (fun b1113 => (js_pop (js_pop (js_lp (z := s1090) (.same (.same (.same (.un (.same .nil))))))))))) passes_cx) (fun s1090 => (js_pop (js_lp (z := s1090) (.same (.same (.same (.same (.same .nil)))))))))) passes_cx) (fun s1085 => (js_ret (fun _ => s1085) (JP.je (jp_var (d := (.tup (s1085.map D.int))) 2)))))) (by first | (dsimp only [m_led_into]; done) | rfl)
def m_fold : (Int × (List (List Int))) × (List Int) → M ((List Int)) := fun (words_608, word_609) => (bnd (bnd (bnd (.ok ()) fun _ => (bnd (.ok ()) fun _ => .ok ((), ()))) fun _ => (m_look_at_words words_608)) fun q785 => (bnd (bnd (bnd (bnd (.ok ()) fun _ => (bnd (bnd (.ok ()) fun _ => (bnd (.ok ()) fun _ => .ok ((), ()))) fun _ => .ok ((), ((), ())))) fun _ => (m_is_word (word_609, words_608.1))) fun b792 => .ok (!b792)) fun b793 => (if b793 = true then .st else (bnd (dcM (.ok ()) (fun r796 => words_608.2) (fun a795 => (bnd (.ok ()) fun q797 => .ok a795)) (fun a795 => (bnd (.ok ()) fun q798 => .ok true))) fun q799 => (bnd (bnd (bnd (.ok ()) fun _ => (bnd (bnd (bnd (bnd (bnd (.ok ()) fun _ => (bnd (.ok ()) fun _ => .ok ((), ()))) fun _ => (m_words_clauses words_608)) fun r1075 => .ok r1075.2) fun r1076 => (bnd (bnd (.ok ()) fun _ => (bnd (.ok ()) fun _ => .ok ((), ()))) fun _ => .ok (r1076, ((), ())))) fun r1080 => .ok ((), r1080))) fun q1081 => (m_led_into (q799, q1081.2.1, word_609))) fun q1141 => .ok q1141)))))
theorem sc_fold : FnScope ["words", "word", "known", "one"] ["words", "word"] (defScope s_fold) := ⟨rfl, rfl, rfl, by decide +kernel, rfl, by decide +kernel, by decide +kernel⟩
theorem J_fold {g : Gx} (T : Tx g) {base : Heap} : Df g base 9 "fold" (A := (Int × (List (List Int))) × (List Int)) (ρ := (List Int)) (fun a => match a with | (words_608, word_609) => [(.ob T.cWords [("length", (.int words_608.1)), ("words", (.tup (words_608.2.map encI)))]), (.tup (word_609.map D.int))]) m_fold (fun r => .va (.tup (r.map D.int))) :=
  fn_J T.f_fold sc_fold T.m_fold (fun _ => rfl) (fun _ _ _ _ _ _ us hl => match us, hl with | [_, _], _ => rfl) fun cdv Ar outer s H E a hr => match a with
    | (words_608, word_609) => JG.cast (m' := m_fold (words_608, word_609)) (show JG _ [] [.va (.ob T.cWords [("length", (.int words_608.1)), ("words", (.tup (words_608.2.map encI)))]), .va (.tup (word_609.map D.int)), .un, .un] _ _ _ from (js_expr (JP.je (jp_call (J_look_at_words T) (by exact hr.mono (by decide)) (fun _ => words_608) (ja_cons (jp_var (d := (.ob T.cWords [("length", (.int words_608.1)), ("words", (.tup (words_608.2.map encI)))])) 0) (fun _ => ja_nil)))) (fun (q785 : Unit) => (js_if (JT.jte (jt_not (jt_val (jp_call (J_is_word T) (by exact hr.mono (by decide)) (fun _ => (word_609, words_608.1)) (ja_cons (jp_var (d := (.tup (word_609.map D.int))) 1) (fun _ => (ja_cons (jp_fld (d := fun _ => (.int words_608.1)) (jp_var (d := (.ob T.cWords [("length", (.int words_608.1)), ("words", (.tup (words_608.2.map encI)))])) 0) T.lWords T.aWords_length) (fun _ => ja_nil)))))))) (fun b793 => js_stuck) (fun b793 => (js_pop (js_setDt 2 (own := [("one", 3)]) (fun r796 => words_608.2) encI D.bl (fun a795 => [.va (.ob T.cWords [("length", (.int words_608.1)), ("words", (.tup (words_608.2.map encI)))]), .va (.tup (word_609.map D.int)), .un, .va (.tup (a795.map D.int))]) _ _  (fun q799 => [.va (.ob T.cWords [("length", (.int words_608.1)), ("words", (.tup (words_608.2.map encI)))]), .va (.tup (word_609.map D.int)), .ow none (encT D.bl q799), .un]) (ji_tup (jp_fld (d := fun _ => (.tup (words_608.2.map encI))) (jp_var (d := (.ob T.cWords [("length", (.int words_608.1)), ("words", (.tup (words_608.2.map encI)))])) 0) T.lWords T.aWords_words)) (un1 rfl) (fun _ => (tgb_name (vs := [3]) _ 3)) (fun a795 _ _ _ _ _ => (JP.cv (t := fun a => .va (encI a)) (fun q797 => a795) (jp_var (d := (.tup (a795.map D.int))) 3))) (fun a795 _ _ _ _ _ => (JP.cv (t := fun a => .va (D.bl a)) (fun q798 => true) jp_bl)) (fun q799 => (js_frz 2 [.va (.ob T.cWords [("length", (.int words_608.1)), ("words", (.tup (words_608.2.map encI)))]), .va (.tup (word_609.map D.int)), .va (encT D.bl q799), .un] (js_ret (fun (q1141 : (List Int)) => q1141) (JP.je (jp_call (J_led_into T) (by exact hr.mono (by decide)) (fun (q1081 : (Unit × ((List (List (Int × Int))) × (Unit × Unit)))) => (q799, q1081.2.1, word_609)) (ja_cons (jp_var (d := (encT D.bl q799)) 2) (fun _ => (ja_cons (jp_fldv (fun xs : (List (List (Int × Int))) => D.tup (xs.map (fun xs : (List (Int × Int)) => D.tup (xs.map (encP D.int D.int))))) (fun r1075 => r1075.2) (jp_call (J_words_clauses T) (by exact hr.mono (by decide)) (fun _ => words_608) (ja_cons (jp_var (d := (.ob T.cWords [("length", (.int words_608.1)), ("words", (.tup (words_608.2.map encI)))])) 0) (fun _ => ja_nil))) T.lClauses T.aClauses_clauses) (fun r1076 => (ja_cons (jp_var (d := (.tup (word_609.map D.int))) 1) (fun _ => ja_nil)))))))))))  (by exact hu1 hr) rfl sc_fold.nd (blkOk_by (N := ["words", "word", "known", "one"]) (sc := defScope s_fold) (by decide +kernel)) (fun _ _ _ _ _ => (by first | exact pg_name (i := 3) sc_fold.nd rfl (Or.inl rfl) | exact pg_name (i := 3) sc_fold.nd rfl (Or.inr rfl))) (sw_trueD rfl rfl (by rfl) (by rfl))))))))) (by first | (dsimp only [m_fold]; done) | rfl)
def m__law_unlike : (List Int) × (List Int) → M (Int) := fun (one_1169, other_1170) => (bnd (.ok ()) fun _ => (bnd (bnd (bnd (bnd (bnd (.ok ()) fun _ => (bnd (.ok ()) fun _ => .ok ((), ()))) fun _ => (.ok (one_1169.length : Int))) fun r1175 => (rng 0 r1175)) fun r1176 => (forN r1176 (0 : Int) (fun s1178 a1177 => (bnd (bnd (bnd (.ok ()) fun _ => (bnd (.ok ()) fun _ => (gt one_1169 a1177))) fun r1181 => (bnd (bnd (.ok ()) fun _ => (bnd (.ok ()) fun _ => (gt other_1170 a1177))) fun r1184 => (.ok (!decide (r1181 = r1184))))) fun b1185 => (if b1185 = true then (bnd (bnd (.ok ()) fun _ => (bnd (.ok ()) fun _ => (.ok (s1178 + 1)))) fun q1188 => (.ok q1188)) else (.ok s1178)))))) fun s1178 => (bnd (.ok ()) fun _ => .ok s1178)))
theorem sc__law_unlike : FnScope ["one", "other", "many", "k"] ["one", "other"] (defScope s__law_unlike) := ⟨rfl, rfl, rfl, by decide +kernel, rfl, by decide +kernel, by decide +kernel⟩
theorem J__law_unlike {g : Gx} (T : Tx g) {base : Heap} : Df g base 1 "_law_unlike" (A := (List Int) × (List Int)) (ρ := Int) (fun a => match a with | (one_1169, other_1170) => [(.tup (one_1169.map D.int)), (.tup (other_1170.map D.int))]) m__law_unlike (fun r => .va (.int r)) :=
  fn_J T.f__law_unlike sc__law_unlike T.m__law_unlike (fun _ => rfl) (fun _ _ _ _ _ _ us hl => match us, hl with | [_, _], _ => rfl) fun cdv Ar outer s H E a hr => match a with
    | (one_1169, other_1170) => JG.cast (m' := m__law_unlike (one_1169, other_1170)) (show JG _ [] [.va (.tup (one_1169.map D.int)), .va (.tup (other_1170.map D.int)), .un, .un] _ _ _ from (js_set 2 (fun _ => [.va (.tup (one_1169.map D.int)), .va (.tup (other_1170.map D.int)), .va (.int 0), .un]) (JP.je jp_int) (fun _ => (js_cut1 (fun s1178 : Int => [.va (.tup (one_1169.map D.int)), .va (.tup (other_1170.map D.int)), .va (.int s1178), .un]) (jl_for (fun r1176 => r1176) D.int (0 : Int) (fun s1178 : Int => [.va (.tup (one_1169.map D.int)), .va (.tup (other_1170.map D.int)), .va (.int s1178), .un]) (fun s1178 a1177 => [.va (.tup (one_1169.map D.int)), .va (.tup (other_1170.map D.int)), .va (.int s1178), .va (.int a1177)]) _ (ji_range1 (jp_cb call_len T.n_len PySem.boot_len (ja_cons (jp_var (d := (.tup (one_1169.map D.int))) 0) (fun _ => ja_nil)) (fun _ => (ar_lenT (xs := one_1169) (enc := D.int)))) T.n_range) (by first | exact pg_name (i := 3) sc__law_unlike.nd rfl (Or.inl rfl) | exact pg_name (i := 3) sc__law_unlike.nd rfl (Or.inr rfl)) (.same (.same (.same (.same .nil)))) (fun _ _ => (tg_name _ 3)) (fun s1178 a1177 => (js_if (JT.jte (jt_cmp op_ne (nomark _) (jp_ix ix_tup (jp_var (d := (.tup (one_1169.map D.int))) 0) (fun _ => (jp_var (d := (.int a1177)) 3)) (fun _ _ => (od_ixT (xs := one_1169) D.int))) (fun r1181 => (jp_ix ix_tup (jp_var (d := (.tup (other_1170.map D.int))) 1) (fun _ => (jp_var (d := (.int a1177)) 3)) (fun _ _ => (od_ixT (xs := other_1170) D.int)))) (fun r1181 r1184 => od_neI))) (fun b1185 => (js_set 2 (fun (q1188 : Int) => [.va (.tup (one_1169.map D.int)), .va (.tup (other_1170.map D.int)), .va (.int q1188), .va (.int a1177)]) (JP.je (jp_op op_add (jp_var (d := (.int s1178)) 2) (fun _ => jp_int) (fun _ _ => od_add))) (fun (q1188 : Int) => (js_pop (js_pop (js_lp (z := q1188) (.same (.same (.same (.un .nil)))))))) sc__law_unlike.nd)) (fun b1185 => (js_pop (js_pop (js_lp (z := s1178) (.same (.same (.same (.un .nil)))))))))) passes_cx) (fun s1178 => (js_ret (fun _ => s1178) (JP.je (jp_var (d := (.int s1178)) 2)))))) sc__law_unlike.nd)) (by first | (dsimp only [m__law_unlike]; done) | rfl)
def m__law_image : (Int × (List (List Int))) × (List (List Int)) × (List Int) → M ((Option (List Int))) := fun (words_drawn_600, rows_601, word_602) => (bnd (bnd (bnd (.ok ()) fun _ => (bnd (bnd (.ok ()) fun _ => (bnd (.ok ()) fun _ => .ok ((), ()))) fun _ => .ok ((), ((), ())))) fun _ => (m_fold (words_drawn_600, word_602))) fun q1142 => (bnd (bnd (bnd (bnd (.ok ()) fun _ => .ok true) fun b1143 => .ok (!b1143)) fun b1152 => (if b1152 = true then .ok true else (bnd (bnd (bnd (.ok ()) fun _ => (bnd (.ok ()) fun _ => .ok ((), ()))) fun _ => (.ok (q1142.length : Int))) fun r1147 => (bnd (bnd (bnd (.ok ()) fun _ => (bnd (.ok ()) fun _ => .ok ((), ()))) fun _ => (.ok (word_602.length : Int))) fun r1151 => (.ok (!decide (r1147 = r1151))))))) fun b1153 => (if b1153 = true then (bnd (.ok ()) fun _ => .ok (none : (Option (List Int)))) else (bnd (bnd (.ok ()) fun _ => (forR q1142 (() : Unit) (fun _ a1156 => (bnd (bnd (bnd (bnd (.ok ()) fun _ => .ok true) fun b1158 => .ok (!b1158)) fun b1159 => (if b1159 = true then .ok true else (bnd (.ok ()) fun _ => .ok false))) fun b1160 => (if b1160 = true then (bnd (.ok ()) fun _ => .ok (.dn (none : (Option (List Int))))) else (.ok (Lo.go ()))))))) (Pt.to (fun z => z) fun _ => (bnd (bnd (bnd (.ok ()) fun _ => (bnd (.ok ()) fun _ => (.ok (!inB (q1142) (rows_601))))) fun b1194 => (if b1194 = true then .ok true else (bnd (bnd (bnd (bnd (.ok ()) fun _ => (bnd (bnd (.ok ()) fun _ => (bnd (.ok ()) fun _ => .ok ((), ()))) fun _ => .ok ((), ((), ())))) fun _ => (m__law_unlike (q1142, word_602))) fun r1190 => (bnd (.ok ()) fun _ => (.ok (band r1190 1)))) fun r1192 => (bnd (.ok ()) fun _ => (.ok (decide (r1192 = 1))))))) fun b1195 => (if b1195 = true then (bnd (.ok ()) fun _ => .ok (none : (Option (List Int)))) else (bnd (.ok ()) fun _ => .ok (some q1142)))))))))
theorem sc__law_image : FnScope ["words_drawn", "rows", "word", "image", "bit"] ["words_drawn", "rows", "word"] (defScope s__law_image) := ⟨rfl, rfl, rfl, by decide +kernel, rfl, by decide +kernel, by decide +kernel⟩
theorem J__law_image {g : Gx} (T : Tx g) {base : Heap} : Df g base 10 "_law_image" (A := (Int × (List (List Int))) × (List (List Int)) × (List Int)) (ρ := (Option (List Int))) (fun a => match a with | (words_drawn_600, rows_601, word_602) => [(.ob T.cWords [("length", (.int words_drawn_600.1)), ("words", (.tup (words_drawn_600.2.map encI)))]), (.lst (rows_601.map encI)), (.tup (word_602.map D.int))]) m__law_image (fun r => .va (encO encI r)) :=
  fn_J T.f__law_image sc__law_image T.m__law_image (fun _ => rfl) (fun _ _ _ _ _ _ us hl => match us, hl with | [_, _, _], _ => rfl) fun cdv Ar outer s H E a hr => match a with
    | (words_drawn_600, rows_601, word_602) => JG.cast (m' := m__law_image (words_drawn_600, rows_601, word_602)) (show JG _ [] [.va (.ob T.cWords [("length", (.int words_drawn_600.1)), ("words", (.tup (words_drawn_600.2.map encI)))]), .va (.lst (rows_601.map encI)), .va (.tup (word_602.map D.int)), .un, .un] _ _ _ from (js_set 3 (fun (q1142 : (List Int)) => [.va (.ob T.cWords [("length", (.int words_drawn_600.1)), ("words", (.tup (words_drawn_600.2.map encI)))]), .va (.lst (rows_601.map encI)), .va (.tup (word_602.map D.int)), .va (.tup (q1142.map D.int)), .un]) (JP.je (jp_call (J_fold T) (by exact hr.mono (by decide)) (fun _ => (words_drawn_600, word_602)) (ja_cons (jp_var (d := (.ob T.cWords [("length", (.int words_drawn_600.1)), ("words", (.tup (words_drawn_600.2.map encI)))])) 0) (fun _ => (ja_cons (jp_var (d := (.tup (word_602.map D.int))) 2) (fun _ => ja_nil)))))) (fun (q1142 : (List Int)) => (js_if (JT.jte (jt_w (jw_or (jt_not (jt_val (jp_isi (T := "tuple") (bb := fun _ => true) (jp_var (d := (.tup (q1142.map D.int))) 3) (fun _ => isi_ty (T := "tuple") (by rfl) (by decide +kernel)) T.n_isinstance T.n_tuple PyProof.Rows.boot_tuple))) (jw_or1 (jt_cmp op_ne (nomark _) (jp_cb call_len T.n_len PySem.boot_len (ja_cons (jp_var (d := (.tup (q1142.map D.int))) 3) (fun _ => ja_nil)) (fun _ => (ar_lenT (xs := q1142) (enc := D.int)))) (fun r1147 => (jp_cb call_len T.n_len PySem.boot_len (ja_cons (jp_var (d := (.tup (word_602.map D.int))) 2) (fun _ => ja_nil)) (fun _ => (ar_lenT (xs := word_602) (enc := D.int))))) (fun r1147 r1151 => od_neI)))))) (fun b1153 => (js_ret (fun _ => (none : (Option (List Int)))) (JP.je jp_non))) (fun b1153 => (js_pop (js_cut (fun z => z) (fun _ : Unit => [.va (.ob T.cWords [("length", (.int words_drawn_600.1)), ("words", (.tup (words_drawn_600.2.map encI)))]), .va (.lst (rows_601.map encI)), .va (.tup (word_602.map D.int)), .va (.tup (q1142.map D.int)), .un]) (jl_forR (πd := (fun z : (Option (List Int)) => .rt (.va (encO encI z)) none)) (fun _ => q1142) D.int (() : Unit) (fun _ : Unit => [.va (.ob T.cWords [("length", (.int words_drawn_600.1)), ("words", (.tup (words_drawn_600.2.map encI)))]), .va (.lst (rows_601.map encI)), .va (.tup (word_602.map D.int)), .va (.tup (q1142.map D.int)), .un]) (fun _ a1156 => [.va (.ob T.cWords [("length", (.int words_drawn_600.1)), ("words", (.tup (words_drawn_600.2.map encI)))]), .va (.lst (rows_601.map encI)), .va (.tup (word_602.map D.int)), .va (.tup (q1142.map D.int)), .va (.int a1156)]) _ (ji_tup (jp_var (d := (.tup (q1142.map D.int))) 3)) (by first | exact pg_name (i := 4) sc__law_image.nd rfl (Or.inl rfl) | exact pg_name (i := 4) sc__law_image.nd rfl (Or.inr rfl)) (.same (.same (.same (.same (.same .nil))))) (fun _ _ => (tg_name _ 4)) (fun _ a1156 => (js_if (JT.jte (jt_w (jw_or (jt_not (jt_val (jp_isi (T := "int") (bb := fun _ => true) (jp_var (d := (.int a1156)) 4) (fun _ => isi_ty (T := "int") (by rfl) (by decide +kernel)) T.n_isinstance T.n_int PyProof.Rows.boot_int))) (jw_or1 (jt_val (jp_isi (T := "bool") (bb := fun _ => false) (jp_var (d := (.int a1156)) 4) (fun _ => isi_ty (T := "int") (by rfl) (by decide +kernel)) T.n_isinstance T.n_bool (boot_bool))))))) (fun b1160 => (js_ret (fun _ => (.dn (none : (Option (List Int))))) (JP.je jp_non))) (fun b1160 => (js_pop (js_pop (js_lp (z := (Lo.go ())) (.same (.same (.same (.same (.un .nil))))))))))) (hp := passes_cx)) (fun _ => (js_if (JT.jte (jt_w (jw_or (jt_cmp (op_notInQ (by exact hu64 hr)) (by rfl) (jp_var (d := (.tup (q1142.map D.int))) 3) (fun _ => (jp_var (d := (.lst (rows_601.map encI))) 1)) (fun _ _ => (od_niL (enc := encI) (x := q1142) ((oInt.toEqE).tup) (xs := rows_601)))) (jw_or1 (jt_cmp op_eq (nomark _) (jp_op op_and (jp_call (J__law_unlike T) (by exact hr.mono (by decide)) (fun _ => (q1142, word_602)) (ja_cons (jp_var (d := (.tup (q1142.map D.int))) 3) (fun _ => (ja_cons (jp_var (d := (.tup (word_602.map D.int))) 2) (fun _ => ja_nil))))) (fun r1190 => jp_int) (fun r1190 _ => od_and)) (fun r1192 => jp_int) (fun r1192 _ => od_eqI)))))) (fun b1195 => (js_ret (fun _ => (none : (Option (List Int)))) (JP.je jp_non))) (fun b1195 => (js_pop (js_ret (fun _ => (some q1142)) (JP.je (jp_var (d := (.tup (q1142.map D.int))) 3)))))))))))) sc__law_image.nd)) (by first | (dsimp only [m__law_image]; done) | rfl)
def m__law_places : ((List Int) × Int × Int × Int × Bool) × Int → M ((List Int) × ((List Int) × Int × Int × Int × Bool)) := fun (flow_1284, letters_1285) => (bnd (bnd (.ok ()) fun _ => (bnd (.ok ()) fun _ => (.ok (decide (letters_1285 ≤ 8))))) fun b1288 => (if b1288 = true then (bnd (bnd (.ok ()) fun _ => (lrg 0 letters_1285)) fun q1290 => .ok (q1290, flow_1284)) else (bnd (bnd (bnd (bnd (.ok ()) fun _ => (bnd (.ok ()) fun _ => .ok ((), ()))) fun _ => (m__law_take (flow_1284, letters_1285))) fun r1294 => (bnd (bnd (bnd (bnd (.ok ()) fun _ => (bnd (.ok ()) fun _ => .ok ((), ()))) fun _ => (m__law_take (r1294.2, letters_1285))) fun r1298 => (bnd (.ok ()) fun _ => .ok (r1298, ()))) fun r1300 => .ok (r1294, r1300))) fun q1301 => .ok (([q1301.1.1, q1301.2.1.1] : List Int), q1301.2.1.2))))
theorem sc__law_places : FnScope ["flow", "letters"] ["flow", "letters"] (defScope s__law_places) := ⟨rfl, rfl, rfl, by decide +kernel, rfl, by decide +kernel, by decide +kernel⟩
theorem J__law_places {g : Gx} (T : Tx g) {base : Heap} : DfO g base 3 "_law_places" (A := ((List Int) × Int × Int × Int × Bool) × Int) (ρ := (List Int) × ((List Int) × Int × Int × Int × Bool)) (fun a => match a with | (flow_1284, letters_1285) => (.lst [(.lst (flow_1284.1.map D.int)), (.int flow_1284.2.1), (.int flow_1284.2.2.1), (.int flow_1284.2.2.2.1), (.bl flow_1284.2.2.2.2)])) (fun a => match a with | (flow_1284, letters_1285) => [(.int letters_1285)]) m__law_places (fun r => .va (.lst (r.1.map D.int))) (fun r => (.lst [(.lst (r.2.1.map D.int)), (.int r.2.2.1), (.int r.2.2.2.1), (.int r.2.2.2.2.1), (.bl r.2.2.2.2.2)])) :=
  fn_JO T.f__law_places sc__law_places T.m__law_places (fun _ => rfl) (fun _ _ _ _ _ _ us hl => match us, hl with | [_, _], _ => rfl) fun cdv Ar outer s H E a c hr => match a with
    | (flow_1284, letters_1285) => JG.cast (m' := m__law_places (flow_1284, letters_1285)) (show JG _ [] [.ow (some c) (.lst [(.lst (flow_1284.1.map D.int)), (.int flow_1284.2.1), (.int flow_1284.2.2.1), (.int flow_1284.2.2.2.1), (.bl flow_1284.2.2.2.2)]), .va (.int letters_1285)] _ _ _ from (js_if (JT.jte (jt_cmp op_le (nomark _) (jp_var (d := (.int letters_1285)) 1) (fun _ => jp_int) (fun _ _ => od_le))) (fun b1288 => (js_retO (fun (q1290 : (List Int)) => (q1290, flow_1284)) (fun (q1290 : (List Int)) => .ow (some c) (.lst [(.lst (flow_1284.1.map D.int)), (.int flow_1284.2.1), (.int flow_1284.2.2.1), (.int flow_1284.2.2.2.1), (.bl flow_1284.2.2.2.2)])) (JP.je (jp_frz (jp_listRg (jp_var (d := (.int letters_1285)) 1) rfl T.n_list T.n_range))))) (fun b1288 => (js_pop (js_retO (fun (q1301 : ((Int × ((List Int) × Int × Int × Int × Bool)) × ((Int × ((List Int) × Int × Int × Int × Bool)) × Unit))) => (([q1301.1.1, q1301.2.1.1] : List Int), q1301.2.1.2)) (fun (q1301 : ((Int × ((List Int) × Int × Int × Int × Bool)) × ((Int × ((List Int) × Int × Int × Int × Bool)) × Unit))) => .ow (some c) (.lst [(.lst (q1301.2.1.2.1.map D.int)), (.int q1301.2.1.2.2.1), (.int q1301.2.1.2.2.2.1), (.int q1301.2.1.2.2.2.2.1), (.bl q1301.2.1.2.2.2.2.2)])) (je_frzR (je_lst (jae_cons (je_callO 0 (J__law_take T) (by exact hr.mono (by decide)) (fun _ => (flow_1284, letters_1285)) (ja_cons (jp_var (d := (.int letters_1285)) 1) (fun _ => ja_nil))) (fun (r1294 : (Int × ((List Int) × Int × Int × Int × Bool))) => (jae_cons (je_callO 0 (J__law_take T) (by exact hr.mono (by decide)) (fun _ => (r1294.2, letters_1285)) (ja_cons (jp_var (d := (.int letters_1285)) 1) (fun _ => ja_nil))) (fun (r1298 : (Int × ((List Int) × Int × Int × Int × Bool))) => (JA.jae ja_nil)))))))))))) (by first | (dsimp only [m__law_places]; done) | rfl)
def m__law_neighbours : ((List Int) × Int × Int × Int × Bool) × (Int × (List (List Int))) × (List (List Int)) × (List Int) × (List Int) → M (Bool × ((List Int) × Int × Int × Int × Bool)) := fun (flow_1274, words_drawn_1275, rows_1276, word_1277, image_1278) => (bnd (bnd (bnd (bnd (bnd (bnd (.ok ()) fun _ => (bnd (.ok ()) fun _ => .ok ((), ()))) fun _ => (.ok (word_1277.length : Int))) fun r1282 => (bnd (.ok ()) fun _ => .ok (r1282, ()))) fun q1302 => (m__law_places (flow_1274, q1302.1))) fun r1303 => (forR r1303.1 (r1303.2 : ((List Int) × Int × Int × Int × Bool)) (fun s1305 a1304 => (bnd (bnd (bnd (bnd (.ok ()) fun _ => (bnd (.ok ()) fun _ => (cutM word_1277 none (some a1304)))) fun r1308 => (bnd (bnd (bnd (.ok ()) fun _ => (bnd (bnd (.ok ()) fun _ => (bnd (.ok ()) fun _ => (gt word_1277 a1304))) fun r1312 => (.ok (1 - r1312)))) fun r1313 => (bnd (.ok ()) fun _ => .ok (r1313, ()))) fun r1315 => (chk (r1308.length + ([r1315.1] : List Int).length ≤ sizeLine) (r1308 ++ ([r1315.1] : List Int))))) fun r1316 => (bnd (bnd (.ok ()) fun _ => (bnd (bnd (.ok ()) fun _ => (bnd (.ok ()) fun _ => (.ok (a1304 + 1)))) fun r1320 => (cutM word_1277 (some r1320) none))) fun r1321 => (chk (r1316.length + r1321.length ≤ sizeLine) (r1316 ++ r1321)))) fun q1322 => (bnd (bnd (bnd (.ok ()) fun _ => (bnd (bnd (.ok ()) fun _ => (bnd (bnd (.ok ()) fun _ => (bnd (.ok ()) fun _ => .ok ((), ()))) fun _ => .ok ((), ((), ())))) fun _ => .ok ((), ((), ((), ()))))) fun _ => (m__law_image (words_drawn_1275, rows_1276, q1322))) fun q1330 => (bnd (bnd (bnd (.ok ()) fun _ => (bnd (.ok ()) fun _ => (.ok (isN (encO encI q1330))))) fun b1341 => (if b1341 = true then .ok true else (match q1330 with | none => .st | some found_1333 => (bnd (bnd (bnd (.ok ()) fun _ => (bnd (bnd (.ok ()) fun _ => (bnd (.ok ()) fun _ => .ok ((), ()))) fun _ => .ok ((), ((), ())))) fun _ => (m__law_unlike (found_1333, image_1278))) fun r1339 => (bnd (.ok ()) fun _ => (.ok (!decide (r1339 = 1)))))))) fun b1342 => (if b1342 = true then (bnd (.ok ()) fun _ => .ok (.dn (false, s1305))) else (match q1330 with | none => .st | some found_1344 => (.ok (Lo.go s1305)))))))))) (Pt.to (fun z => z) fun s1305 => (bnd (.ok ()) fun _ => .ok (true, s1305))))
theorem sc__law_neighbours : FnScope ["flow", "words_drawn", "rows", "word", "image", "k", "near", "found"] ["flow", "words_drawn", "rows", "word", "image"] (defScope s__law_neighbours) := ⟨rfl, rfl, rfl, by decide +kernel, rfl, by decide +kernel, by decide +kernel⟩
theorem J__law_neighbours {g : Gx} (T : Tx g) {base : Heap} : DfO g base 11 "_law_neighbours" (A := ((List Int) × Int × Int × Int × Bool) × (Int × (List (List Int))) × (List (List Int)) × (List Int) × (List Int)) (ρ := Bool × ((List Int) × Int × Int × Int × Bool)) (fun a => match a with | (flow_1274, words_drawn_1275, rows_1276, word_1277, image_1278) => (.lst [(.lst (flow_1274.1.map D.int)), (.int flow_1274.2.1), (.int flow_1274.2.2.1), (.int flow_1274.2.2.2.1), (.bl flow_1274.2.2.2.2)])) (fun a => match a with | (flow_1274, words_drawn_1275, rows_1276, word_1277, image_1278) => [(.ob T.cWords [("length", (.int words_drawn_1275.1)), ("words", (.tup (words_drawn_1275.2.map encI)))]), (.lst (rows_1276.map encI)), (.tup (word_1277.map D.int)), (.tup (image_1278.map D.int))]) m__law_neighbours (fun r => .va (.bl r.1)) (fun r => (.lst [(.lst (r.2.1.map D.int)), (.int r.2.2.1), (.int r.2.2.2.1), (.int r.2.2.2.2.1), (.bl r.2.2.2.2.2)])) :=
  fn_JO T.f__law_neighbours sc__law_neighbours T.m__law_neighbours (fun _ => rfl) (fun _ _ _ _ _ _ us hl => match us, hl with | [_, _, _, _, _], _ => rfl) fun cdv Ar outer s H E a c hr => match a with
    | (flow_1274, words_drawn_1275, rows_1276, word_1277, image_1278) => JG.cast (m' := m__law_neighbours (flow_1274, words_drawn_1275, rows_1276, word_1277, image_1278)) (show JG _ [] [.ow (some c) (.lst [(.lst (flow_1274.1.map D.int)), (.int flow_1274.2.1), (.int flow_1274.2.2.1), (.int flow_1274.2.2.2.1), (.bl flow_1274.2.2.2.2)]), .va (.ob T.cWords [("length", (.int words_drawn_1275.1)), ("words", (.tup (words_drawn_1275.2.map encI)))]), .va (.lst (rows_1276.map encI)), .va (.tup (word_1277.map D.int)), .va (.tup (image_1278.map D.int)), .un, .un, .un] _ _ _ from (js_cut (fun z => z) (fun s1305 : ((List Int) × Int × Int × Int × Bool) => [.ow (some c) (.lst [(.lst (s1305.1.map D.int)), (.int s1305.2.1), (.int s1305.2.2.1), (.int s1305.2.2.2.1), (.bl s1305.2.2.2.2)]), .va (.ob T.cWords [("length", (.int words_drawn_1275.1)), ("words", (.tup (words_drawn_1275.2.map encI)))]), .va (.lst (rows_1276.map encI)), .va (.tup (word_1277.map D.int)), .va (.tup (image_1278.map D.int)), .un, .un, .un]) (jl_forRE (πd := (fun z : Bool × ((List Int) × Int × Int × Int × Bool) => .rt (.va (.bl z.1)) (some (.ow (some c) (.lst [(.lst (z.2.1.map D.int)), (.int z.2.2.1), (.int z.2.2.2.1), (.int z.2.2.2.2.1), (.bl z.2.2.2.2.2)]))))) (fun (r1303 : _ × ((List Int) × Int × Int × Int × Bool)) => r1303.1) D.int (fun (r1303 : _ × ((List Int) × Int × Int × Int × Bool)) => (r1303.2 : ((List Int) × Int × Int × Int × Bool))) (fun s1305 : ((List Int) × Int × Int × Int × Bool) => [.ow (some c) (.lst [(.lst (s1305.1.map D.int)), (.int s1305.2.1), (.int s1305.2.2.1), (.int s1305.2.2.2.1), (.bl s1305.2.2.2.2)]), .va (.ob T.cWords [("length", (.int words_drawn_1275.1)), ("words", (.tup (words_drawn_1275.2.map encI)))]), .va (.lst (rows_1276.map encI)), .va (.tup (word_1277.map D.int)), .va (.tup (image_1278.map D.int)), .un, .un, .un]) (fun s1305 a1304 => [.ow (some c) (.lst [(.lst (s1305.1.map D.int)), (.int s1305.2.1), (.int s1305.2.2.1), (.int s1305.2.2.2.1), (.bl s1305.2.2.2.2)]), .va (.ob T.cWords [("length", (.int words_drawn_1275.1)), ("words", (.tup (words_drawn_1275.2.map encI)))]), .va (.lst (rows_1276.map encI)), .va (.tup (word_1277.map D.int)), .va (.tup (image_1278.map D.int)), .va (.int a1304), .un, .un]) _ (jie_list (je_callO 0 (J__law_places T) (by exact hr.mono (by decide)) (fun (q1302 : (Int × Unit)) => (flow_1274, q1302.1)) (ja_cons (jp_cb call_len T.n_len PySem.boot_len (ja_cons (jp_var (d := (.tup (word_1277.map D.int))) 3) (fun _ => ja_nil)) (fun _ => (ar_lenT (xs := word_1277) (enc := D.int)))) (fun r1282 => ja_nil)))) (by first | exact pg_name (i := 5) sc__law_neighbours.nd rfl (Or.inl rfl) | exact pg_name (i := 5) sc__law_neighbours.nd rfl (Or.inr rfl)) (fun (r1303 : _ × ((List Int) × Int × Int × Int × Bool)) => (.same (.same (.same (.same (.same (.same (.same (.same .nil))))))))) (fun _ _ => (tg_name _ 5)) (fun s1305 a1304 => (js_set 6 (fun (q1322 : (List Int)) => [.ow (some c) (.lst [(.lst (s1305.1.map D.int)), (.int s1305.2.1), (.int s1305.2.2.1), (.int s1305.2.2.2.1), (.bl s1305.2.2.2.2)]), .va (.ob T.cWords [("length", (.int words_drawn_1275.1)), ("words", (.tup (words_drawn_1275.2.map encI)))]), .va (.lst (rows_1276.map encI)), .va (.tup (word_1277.map D.int)), .va (.tup (image_1278.map D.int)), .va (.int a1304), .va (.tup (q1322.map D.int)), .un]) (JP.je (jp_op op_catA (jp_op op_catA (jp_slHi (jp_var (d := (.tup (word_1277.map D.int))) 3) (fun _ => (jp_var (d := (.int a1304)) 5))) (fun r1308 => (jp_tup (ja_cons (jp_op op_sub jp_int (fun _ => (jp_ix ix_tup (jp_var (d := (.tup (word_1277.map D.int))) 3) (fun _ => (jp_var (d := (.int a1304)) 5)) (fun _ _ => (od_ixT (xs := word_1277) D.int)))) (fun _ r1312 => od_sub)) (fun r1313 => ja_nil)))) (fun r1308 r1315 => (od_catT (enc := D.int) (xs := r1308) (ys := ([r1315.1] : List Int))))) (fun r1316 => (jp_slLo (jp_var (d := (.tup (word_1277.map D.int))) 3) (fun _ => (jp_op op_add (jp_var (d := (.int a1304)) 5) (fun _ => jp_int) (fun _ _ => od_add))))) (fun r1316 r1321 => (od_catT (enc := D.int) (xs := r1316) (ys := r1321))))) (fun (q1322 : (List Int)) => (js_set 7 (fun (q1330 : (Option (List Int))) => [.ow (some c) (.lst [(.lst (s1305.1.map D.int)), (.int s1305.2.1), (.int s1305.2.2.1), (.int s1305.2.2.2.1), (.bl s1305.2.2.2.2)]), .va (.ob T.cWords [("length", (.int words_drawn_1275.1)), ("words", (.tup (words_drawn_1275.2.map encI)))]), .va (.lst (rows_1276.map encI)), .va (.tup (word_1277.map D.int)), .va (.tup (image_1278.map D.int)), .va (.int a1304), .va (.tup (q1322.map D.int)), .va (encO encI q1330)]) (JP.je (jp_call (J__law_image T) (by exact hr.mono (by decide)) (fun _ => (words_drawn_1275, rows_1276, q1322)) (ja_cons (jp_var (d := (.ob T.cWords [("length", (.int words_drawn_1275.1)), ("words", (.tup (words_drawn_1275.2.map encI)))])) 1) (fun _ => (ja_cons (jp_var (d := (.lst (rows_1276.map encI))) 2) (fun _ => (ja_cons (jp_var (d := (.tup (q1322.map D.int))) 6) (fun _ => ja_nil)))))))) (fun (q1330 : (Option (List Int))) => (js_if (JT.jte (jt_w (jw_or (jt_cmp op_isN (nomark _) (jp_var (d := (encO encI q1330)) 7) (fun _ => jp_non) (fun _ _ => od_isN)) (show JW _ _ _ (match q1330 with | none => .st | some found_1333 => (bnd (bnd (bnd (.ok ()) fun _ => (bnd (bnd (.ok ()) fun _ => (bnd (.ok ()) fun _ => .ok ((), ()))) fun _ => .ok ((), ((), ())))) fun _ => (m__law_unlike (found_1333, image_1278))) fun r1339 => (bnd (.ok ()) fun _ => (.ok (!decide (r1339 = 1)))))) from match q1330 with | none => jw_stuck | some found_1333 => (jw_or1 (jt_cmp op_ne (nomark _) (jp_call (J__law_unlike T) (by exact hr.mono (by decide)) (fun _ => (found_1333, image_1278)) (ja_cons (jp_var (d := (.tup (found_1333.map D.int))) 7) (fun _ => (ja_cons (jp_var (d := (.tup (image_1278.map D.int))) 4) (fun _ => ja_nil))))) (fun r1339 => jp_int) (fun r1339 _ => od_neI))))))) (fun b1342 => (js_retO (fun _ => (.dn (false, s1305))) (fun _ => .ow (some c) (.lst [(.lst (s1305.1.map D.int)), (.int s1305.2.1), (.int s1305.2.2.1), (.int s1305.2.2.2.1), (.bl s1305.2.2.2.2)])) (JP.je jp_bl))) (fun b1342 => (show JG _ _ _ _ (match q1330 with | none => .st | some found_1344 => (.ok (Lo.go s1305))) _ from match q1330 with | none => js_stuck | some found_1344 => (js_pop (js_pop (js_lp (z := (Lo.go s1305)) (.same (.same (.same (.same (.same (.un (.un (.un .nil))))))))))))))) sc__law_neighbours.nd)) sc__law_neighbours.nd)) (hp := passes_cx)) (fun s1305 => (js_retO (fun _ => (true, s1305)) (fun _ => .ow (some c) (.lst [(.lst (s1305.1.map D.int)), (.int s1305.2.1), (.int s1305.2.2.1), (.int s1305.2.2.2.1), (.bl s1305.2.2.2.2)])) (JP.je jp_bl))))) (by first | (dsimp only [m__law_neighbours]; done) | rfl)
def m__law_holds : (List Int) → M (Bool) := fun script_5 => (bnd (bnd (bnd (.ok ()) fun _ => (bnd (bnd (.ok ()) fun _ => (bnd (.ok ()) fun _ => .ok ((), ()))) fun _ => .ok ((), ((), ())))) fun _ => (m__law_flow (script_5, 0))) fun q27 => (bnd (bnd (.ok ()) fun _ => (m__law_drawn q27)) fun q447 => (bnd (bnd (bnd (.ok ()) fun _ => (bnd (bnd (.ok ()) fun _ => (bnd (.ok ()) fun _ => .ok ((), ()))) fun _ => .ok ((), ((), ())))) fun _ => (m__law_flow (script_5, 20))) fun q453 => (bnd (bnd (bnd (lcEM (bnd (.ok ()) fun _ => (rng 0 q447.1.1)) (fun r456 => r456) q453 (fun s460 a455 => (bnd (bnd (bnd (.ok ()) fun _ => (bnd (.ok ()) fun _ => .ok ((), ()))) fun _ => (m__law_take (s460, 2))) fun w464 => .ok (w464.1, w464.2)))) fun r465 => (bnd (.ok ()) fun _ => .ok (r465, ()))) fun q467 => (bnd (.ok q467.1.1) fun z468 => .ok (z468, q467))) fun q469 => (bnd (bnd (bnd (lcEM (bnd (.ok ()) fun _ => (rng 0 q447.1.1)) (fun r472 => r472) q469.2.1.2 (fun s476 a471 => (bnd (bnd (bnd (.ok ()) fun _ => (bnd (.ok ()) fun _ => .ok ((), ()))) fun _ => (m__law_take (s476, 2))) fun w480 => .ok (w480.1, w480.2)))) fun r481 => (bnd (.ok ()) fun _ => .ok (r481, ()))) fun q483 => (bnd (.ok q483.1.1) fun z484 => .ok (z484, q483))) fun q485 => (bnd (bnd (.ok ()) fun _ => (bnd (bnd (bnd (bnd (bnd (.ok ()) fun _ => (bnd (.ok ()) fun _ => .ok ((), ()))) fun _ => (.ok (q447.1.2.length : Int))) fun r490 => (bnd (.ok ()) fun _ => .ok (r490, ()))) fun q492 => (m__law_take (q485.2.1.2, q492.1))) fun r493 => (bnd (gt q447.1.2 r493.1) fun z494 => .ok (z494, ((), r493))))) fun q495 => (bnd (bnd (bnd (.ok ()) fun _ => (bnd (bnd (bnd (bnd (.ok ()) fun _ => (bnd (.ok ()) fun _ => .ok ((), ()))) fun _ => (.ok q447.1.2)) fun r500 => (bnd (.ok ()) fun _ => .ok (r500, ()))) fun r502 => .ok ((), r502))) fun q503 => (noer (m_Words (q447.1.1, q503.2.1)))) fun q592 => (bnd (bnd (bnd (.ok ()) fun _ => (bnd (bnd (.ok ()) fun _ => (bnd (bnd (.ok ()) fun _ => (bnd (.ok ()) fun _ => .ok ((), ()))) fun _ => .ok ((), ((), ())))) fun _ => .ok ((), ((), ((), ()))))) fun _ => (m__law_image (q592, q447.1.2, q469.1))) fun q1198 => (bnd (bnd (bnd (.ok ()) fun _ => (bnd (bnd (.ok ()) fun _ => (bnd (bnd (.ok ()) fun _ => (bnd (.ok ()) fun _ => .ok ((), ()))) fun _ => .ok ((), ((), ())))) fun _ => .ok ((), ((), ((), ()))))) fun _ => (m__law_image (q592, q447.1.2, q485.1))) fun q1206 => (bnd (bnd (bnd (.ok ()) fun _ => (bnd (.ok ()) fun _ => (.ok (isN (encO encI q1198))))) fun b1212 => (if b1212 = true then .ok true else (match q1198 with | none => .st | some image_1209 => (bnd (.ok ()) fun _ => (bnd (.ok ()) fun _ => (.ok (isN (encO encI q1206)))))))) fun b1213 => (if b1213 = true then (bnd (.ok ()) fun _ => .ok false) else (match q1198 with | none => .st | some image_1215 => (match q1206 with | none => .st | some image_other_1216 => (bnd (bnd (bnd (bnd (.ok ()) fun _ => (bnd (bnd (.ok ()) fun _ => (bnd (.ok ()) fun _ => .ok ((), ()))) fun _ => .ok ((), ((), ())))) fun _ => (m__law_unlike (image_1215, image_other_1216))) fun r1222 => (bnd (bnd (bnd (.ok ()) fun _ => (bnd (bnd (.ok ()) fun _ => (bnd (.ok ()) fun _ => .ok ((), ()))) fun _ => .ok ((), ((), ())))) fun _ => (m__law_unlike (q469.1, q485.1))) fun r1228 => (.ok (decide (r1228 < r1222))))) fun b1229 => (if b1229 = true then (bnd (.ok ()) fun _ => .ok false) else (bnd (bnd (bnd (bnd (.ok ()) fun _ => (bnd (bnd (.ok ()) fun _ => (bnd (.ok ()) fun _ => .ok ((), ()))) fun _ => .ok ((), ((), ())))) fun _ => (m__law_unlike (image_1215, q495.1))) fun r1236 => (bnd (bnd (bnd (.ok ()) fun _ => (bnd (bnd (.ok ()) fun _ => (bnd (.ok ()) fun _ => .ok ((), ()))) fun _ => .ok ((), ((), ())))) fun _ => (m__law_unlike (q469.1, q495.1))) fun r1242 => (.ok (decide (r1242 < r1236))))) fun b1243 => (if b1243 = true then (bnd (.ok ()) fun _ => .ok false) else (bnd (bnd (bnd (bnd (bnd (.ok ()) fun _ => (bnd (bnd (.ok ()) fun _ => (bnd (bnd (.ok ()) fun _ => (bnd (.ok ()) fun _ => .ok ((), ()))) fun _ => .ok ((), ((), ())))) fun _ => .ok ((), ((), ((), ()))))) fun _ => (m__law_image (q592, q447.1.2, image_1215))) fun r1252 => (bnd (.ok ()) fun _ => (.ok (!decide (r1252 = (some image_1215)))))) fun b1263 => (if b1263 = true then .ok true else (bnd (bnd (bnd (.ok ()) fun _ => (bnd (bnd (.ok ()) fun _ => (bnd (bnd (.ok ()) fun _ => (bnd (.ok ()) fun _ => .ok ((), ()))) fun _ => .ok ((), ((), ())))) fun _ => .ok ((), ((), ((), ()))))) fun _ => (m__law_image (q592, q447.1.2, q495.1))) fun r1261 => (bnd (.ok ()) fun _ => (.ok (!decide (r1261 = (some q495.1)))))))) fun b1264 => (if b1264 = true then (bnd (.ok ()) fun _ => .ok false) else (bnd (bnd (bnd (.ok ()) fun _ => (bnd (bnd (.ok ()) fun _ => (bnd (bnd (.ok ()) fun _ => (bnd (bnd (.ok ()) fun _ => (bnd (.ok ()) fun _ => .ok ((), ()))) fun _ => .ok ((), ((), ())))) fun _ => .ok ((), ((), ((), ()))))) fun _ => .ok ((), ((), ((), ((), ())))))) fun _ => (m__law_neighbours (q495.2.2.2, q592, q447.1.2, q469.1, image_1215))) fun q1347 => .ok q1347.1))))))))))))))))))))
theorem sc__law_holds : FnScope ["script", "flow", "word", "other", "kept", "words_drawn", "image", "image_other", "letters", "rows", "j"] ["script"] (defScope s__law_holds) := ⟨rfl, rfl, rfl, by decide +kernel, rfl, by decide +kernel, by decide +kernel⟩
theorem J__law_holds {g : Gx} (T : Tx g) {base : Heap} : Df g base 12 "_law_holds" (A := (List Int)) (ρ := Bool) (fun script_5 => [(.rol (script_5.map D.int))]) m__law_holds (fun r => .va (.bl r)) :=
  fn_J T.f__law_holds sc__law_holds T.m__law_holds (fun _ => rfl) (fun _ _ _ _ _ _ us hl => match us, hl with | [_], _ => rfl) fun cdv Ar outer s H E script_5 hr =>
    JG.cast (m' := m__law_holds script_5) (show JG _ [] [.va (.rol (script_5.map D.int)), .un, .un, .un, .un, .un, .un, .un, .un, .un, .un] _ _ _ from (js_set 1 (fun (q27 : ((List Int) × Int × Int × Int × Bool)) => [.va (.rol (script_5.map D.int)), .ow none (.lst [(.lst (q27.1.map D.int)), (.int q27.2.1), (.int q27.2.2.1), (.int q27.2.2.2.1), (.bl q27.2.2.2.2)]), .un, .un, .un, .un, .un, .un, .un, .un, .un]) (JP.je (jp_call (J__law_flow T) (by exact hr.mono (by decide)) (fun _ => (script_5, 0)) (ja_cons (jp_var (d := (.rol (script_5.map D.int))) 0) (fun _ => (ja_cons jp_int (fun _ => ja_nil)))))) (fun (q27 : ((List Int) × Int × Int × Int × Bool)) => (js_unp (je_callO 1 (J__law_drawn T) (by exact hr.mono (by decide)) (fun _ => q27) ja_nil) (pg_lst (n := 2) rfl (pgs_cons (by first | exact pg_name (i := 8) sc__law_holds.nd rfl (Or.inl rfl) | exact pg_name (i := 8) sc__law_holds.nd rfl (Or.inr rfl)) (pgs_cons (by first | exact pg_name (i := 9) sc__law_holds.nd rfl (Or.inl rfl) | exact pg_name (i := 9) sc__law_holds.nd rfl (Or.inr rfl)) pgs_nil))) (Γ2 := fun (q447 : ((Int × (List (List Int))) × ((List Int) × Int × Int × Int × Bool))) => [.va (.rol (script_5.map D.int)), .ow none (.lst [(.lst (q447.2.1.map D.int)), (.int q447.2.2.1), (.int q447.2.2.2.1), (.int q447.2.2.2.2.1), (.bl q447.2.2.2.2.2)]), .un, .un, .un, .un, .un, .un, .va (.int q447.1.1), .va (.lst (q447.1.2.map encI)), .un]) (fun (q447 : ((Int × (List (List Int))) × ((List Int) × Int × Int × Int × Bool))) => (tg_lst (n := 2) _ (tgs_cons _ (tg_name _ 8) (tgs_cons _ (tg_name _ 9) (tgs_nil _))))) (fun (q447 : ((Int × (List (List Int))) × ((List Int) × Int × Int × Int × Bool))) => (js_set 1 (fun (q453 : ((List Int) × Int × Int × Int × Bool)) => [.va (.rol (script_5.map D.int)), .ow none (.lst [(.lst (q453.1.map D.int)), (.int q453.2.1), (.int q453.2.2.1), (.int q453.2.2.2.1), (.bl q453.2.2.2.2)]), .un, .un, .un, .un, .un, .un, .va (.int q447.1.1), .va (.lst (q447.1.2.map encI)), .un]) (JP.je (jp_call (J__law_flow T) (by exact hr.mono (by decide)) (fun _ => (script_5, 20)) (ja_cons (jp_var (d := (.rol (script_5.map D.int))) 0) (fun _ => (ja_cons jp_int (fun _ => ja_nil)))))) (fun (q453 : ((List Int) × Int × Int × Int × Bool)) => (js_set 2 (fun (q469 : ((List Int) × (((List Int) × ((List Int) × Int × Int × Int × Bool)) × Unit))) => [.va (.rol (script_5.map D.int)), .ow none (.lst [(.lst (q469.2.1.2.1.map D.int)), (.int q469.2.1.2.2.1), (.int q469.2.1.2.2.2.1), (.int q469.2.1.2.2.2.2.1), (.bl q469.2.1.2.2.2.2.2)]), .va (.tup (q469.1.map D.int)), .un, .un, .un, .un, .un, .va (.int q447.1.1), .va (.lst (q447.1.2.map encI)), .un]) (je_cty call_tuple_of T.n_tuple PyProof.Rows.boot_tuple (jae_cons (je_frzR (je_lcE (own := [("j", 10)]) (fun r456 => r456) D.int D.int q453 (fun s460 : ((List Int) × Int × Int × Int × Bool) => [.va (.rol (script_5.map D.int)), .ow none (.lst [(.lst (s460.1.map D.int)), (.int s460.2.1), (.int s460.2.2.1), (.int s460.2.2.2.1), (.bl s460.2.2.2.2)]), .un, .un, .un, .un, .un, .un, .va (.int q447.1.1), .va (.lst (q447.1.2.map encI)), .un]) (fun s460 a455 => [.va (.rol (script_5.map D.int)), .ow none (.lst [(.lst (s460.1.map D.int)), (.int s460.2.1), (.int s460.2.2.1), (.int s460.2.2.2.1), (.bl s460.2.2.2.2)]), .un, .un, .un, .un, .un, .un, .va (.int q447.1.1), .va (.lst (q447.1.2.map encI)), .va (.int a455)]) _ (fun _ a455 (w464 : Int × ((List Int) × Int × Int × Int × Bool)) => [.va (.rol (script_5.map D.int)), .ow none (.lst [(.lst (w464.2.1.map D.int)), (.int w464.2.2.1), (.int w464.2.2.2.1), (.int w464.2.2.2.2.1), (.bl w464.2.2.2.2.2)]), .un, .un, .un, .un, .un, .un, .va (.int q447.1.1), .va (.lst (q447.1.2.map encI)), .va (.int a455)])  (ji_range1 (jp_var (d := (.int q447.1.1)) 8) T.n_range) (fun _ => (un1 rfl)) (fun _ _ => (tgb_name (vs := [10]) _ 10)) (fun s460 a455 _ _ _ _ _ => (JE.cv (t := fun b => .va (D.int b.1)) (Γ' := fun (w464 : Int × ((List Int) × Int × Int × Int × Bool)) => [.va (.rol (script_5.map D.int)), .ow none (.lst [(.lst (w464.2.1.map D.int)), (.int w464.2.2.1), (.int w464.2.2.2.1), (.int w464.2.2.2.2.1), (.bl w464.2.2.2.2.2)]), .un, .un, .un, .un, .un, .un, .va (.int q447.1.1), .va (.lst (q447.1.2.map encI)), .va (.int a455)]) (fun (w464 : Int × ((List Int) × Int × Int × Int × Bool)) => (w464.1, w464.2)) (je_callO 1 (J__law_take T) (by exact hr.mono (by decide)) (fun _ => (s460, 2)) (ja_cons jp_int (fun _ => ja_nil))))) (fun _ _ _ => (.same (.same (.same (.same (.same (.same (.same (.same (.same (.same (.un .nil)))))))))))) rfl sc__law_holds.nd (blkOk_by (N := ["script", "flow", "word", "other", "kept", "words_drawn", "image", "image_other", "letters", "rows", "j"]) (sc := defScope s__law_holds) (by decide +kernel)) (fun _ _ _ _ _ => (by first | exact pg_name (i := 10) sc__law_holds.nd rfl (Or.inl rfl) | exact pg_name (i := 10) sc__law_holds.nd rfl (Or.inr rfl))))) (fun (r465 : ((List Int) × ((List Int) × Int × Int × Int × Bool))) => (JA.jae ja_nil))) (fun (q467 : (((List Int) × ((List Int) × Int × Int × Int × Bool)) × Unit)) => (ar_tupleL (xs := q467.1.1) (enc := D.int)))) (fun (q469 : ((List Int) × (((List Int) × ((List Int) × Int × Int × Int × Bool)) × Unit))) => (js_set 3 (fun (q485 : ((List Int) × (((List Int) × ((List Int) × Int × Int × Int × Bool)) × Unit))) => [.va (.rol (script_5.map D.int)), .ow none (.lst [(.lst (q485.2.1.2.1.map D.int)), (.int q485.2.1.2.2.1), (.int q485.2.1.2.2.2.1), (.int q485.2.1.2.2.2.2.1), (.bl q485.2.1.2.2.2.2.2)]), .va (.tup (q469.1.map D.int)), .va (.tup (q485.1.map D.int)), .un, .un, .un, .un, .va (.int q447.1.1), .va (.lst (q447.1.2.map encI)), .un]) (je_cty call_tuple_of T.n_tuple PyProof.Rows.boot_tuple (jae_cons (je_frzR (je_lcE (own := [("j", 10)]) (fun r472 => r472) D.int D.int q469.2.1.2 (fun s476 : ((List Int) × Int × Int × Int × Bool) => [.va (.rol (script_5.map D.int)), .ow none (.lst [(.lst (s476.1.map D.int)), (.int s476.2.1), (.int s476.2.2.1), (.int s476.2.2.2.1), (.bl s476.2.2.2.2)]), .va (.tup (q469.1.map D.int)), .un, .un, .un, .un, .un, .va (.int q447.1.1), .va (.lst (q447.1.2.map encI)), .un]) (fun s476 a471 => [.va (.rol (script_5.map D.int)), .ow none (.lst [(.lst (s476.1.map D.int)), (.int s476.2.1), (.int s476.2.2.1), (.int s476.2.2.2.1), (.bl s476.2.2.2.2)]), .va (.tup (q469.1.map D.int)), .un, .un, .un, .un, .un, .va (.int q447.1.1), .va (.lst (q447.1.2.map encI)), .va (.int a471)]) _ (fun _ a471 (w480 : Int × ((List Int) × Int × Int × Int × Bool)) => [.va (.rol (script_5.map D.int)), .ow none (.lst [(.lst (w480.2.1.map D.int)), (.int w480.2.2.1), (.int w480.2.2.2.1), (.int w480.2.2.2.2.1), (.bl w480.2.2.2.2.2)]), .va (.tup (q469.1.map D.int)), .un, .un, .un, .un, .un, .va (.int q447.1.1), .va (.lst (q447.1.2.map encI)), .va (.int a471)])  (ji_range1 (jp_var (d := (.int q447.1.1)) 8) T.n_range) (fun _ => (un1 rfl)) (fun _ _ => (tgb_name (vs := [10]) _ 10)) (fun s476 a471 _ _ _ _ _ => (JE.cv (t := fun b => .va (D.int b.1)) (Γ' := fun (w480 : Int × ((List Int) × Int × Int × Int × Bool)) => [.va (.rol (script_5.map D.int)), .ow none (.lst [(.lst (w480.2.1.map D.int)), (.int w480.2.2.1), (.int w480.2.2.2.1), (.int w480.2.2.2.2.1), (.bl w480.2.2.2.2.2)]), .va (.tup (q469.1.map D.int)), .un, .un, .un, .un, .un, .va (.int q447.1.1), .va (.lst (q447.1.2.map encI)), .va (.int a471)]) (fun (w480 : Int × ((List Int) × Int × Int × Int × Bool)) => (w480.1, w480.2)) (je_callO 1 (J__law_take T) (by exact hr.mono (by decide)) (fun _ => (s476, 2)) (ja_cons jp_int (fun _ => ja_nil))))) (fun _ _ _ => (.same (.same (.same (.same (.same (.same (.same (.same (.same (.same (.un .nil)))))))))))) rfl sc__law_holds.nd (blkOk_by (N := ["script", "flow", "word", "other", "kept", "words_drawn", "image", "image_other", "letters", "rows", "j"]) (sc := defScope s__law_holds) (by decide +kernel)) (fun _ _ _ _ _ => (by first | exact pg_name (i := 10) sc__law_holds.nd rfl (Or.inl rfl) | exact pg_name (i := 10) sc__law_holds.nd rfl (Or.inr rfl))))) (fun (r481 : ((List Int) × ((List Int) × Int × Int × Int × Bool))) => (JA.jae ja_nil))) (fun (q483 : (((List Int) × ((List Int) × Int × Int × Int × Bool)) × Unit)) => (ar_tupleL (xs := q483.1.1) (enc := D.int)))) (fun (q485 : ((List Int) × (((List Int) × ((List Int) × Int × Int × Int × Bool)) × Unit))) => (js_set 4 (fun (q495 : ((List Int) × (Unit × (Int × ((List Int) × Int × Int × Int × Bool))))) => [.va (.rol (script_5.map D.int)), .ow none (.lst [(.lst (q495.2.2.2.1.map D.int)), (.int q495.2.2.2.2.1), (.int q495.2.2.2.2.2.1), (.int q495.2.2.2.2.2.2.1), (.bl q495.2.2.2.2.2.2.2)]), .va (.tup (q469.1.map D.int)), .va (.tup (q485.1.map D.int)), .va (.tup (q495.1.map D.int)), .un, .un, .un, .va (.int q447.1.1), .va (.lst (q447.1.2.map encI)), .un]) (je_ix (d2 := fun _ (r493 : (Int × ((List Int) × Int × Int × Int × Bool))) => (.int r493.1)) ix_list (JP.je (jp_var (d := (.lst (q447.1.2.map encI))) 9)) (fun _ => (je_callO 1 (J__law_take T) (by exact hr.mono (by decide)) (fun (q492 : (Int × Unit)) => (q485.2.1.2, q492.1)) (ja_cons (jp_cb call_len T.n_len PySem.boot_len (ja_cons (jp_var (d := (.lst (q447.1.2.map encI))) 9) (fun _ => ja_nil)) (fun _ => (ar_lenL (xs := q447.1.2) (enc := encI)))) (fun r490 => ja_nil)))) (fun _ (r493 : (Int × ((List Int) × Int × Int × Int × Bool))) => (od_ixL (xs := q447.1.2) encI))) (fun (q495 : ((List Int) × (Unit × (Int × ((List Int) × Int × Int × Int × Bool))))) => (js_set 5 (fun (q592 : (Int × (List (List Int)))) => [.va (.rol (script_5.map D.int)), .ow none (.lst [(.lst (q495.2.2.2.1.map D.int)), (.int q495.2.2.2.2.1), (.int q495.2.2.2.2.2.1), (.int q495.2.2.2.2.2.2.1), (.bl q495.2.2.2.2.2.2.2)]), .va (.tup (q469.1.map D.int)), .va (.tup (q485.1.map D.int)), .va (.tup (q495.1.map D.int)), .va (.ob T.cWords [("length", (.int q592.1)), ("words", (.tup (q592.2.map encI)))]), .un, .un, .va (.int q447.1.1), .va (.lst (q447.1.2.map encI)), .un]) (JP.je (jp_frz (jp_make (J_Words T) (by exact hr.mono (by decide)) (fun (q503 : (Unit × ((List (List Int)) × Unit))) => (q447.1.1, q503.2.1)) (ja_cons (jp_var (d := (.int q447.1.1)) 8) (fun _ => (ja_cons (jp_cty call_tuple_of T.n_tuple PyProof.Rows.boot_tuple (ja_cons (jp_var (d := (.lst (q447.1.2.map encI))) 9) (fun _ => ja_nil)) (fun _ => (ar_tupleL (xs := q447.1.2) (enc := encI)))) (fun r500 => ja_nil))))))) (fun (q592 : (Int × (List (List Int)))) => (js_set 6 (fun (q1198 : (Option (List Int))) => [.va (.rol (script_5.map D.int)), .ow none (.lst [(.lst (q495.2.2.2.1.map D.int)), (.int q495.2.2.2.2.1), (.int q495.2.2.2.2.2.1), (.int q495.2.2.2.2.2.2.1), (.bl q495.2.2.2.2.2.2.2)]), .va (.tup (q469.1.map D.int)), .va (.tup (q485.1.map D.int)), .va (.tup (q495.1.map D.int)), .va (.ob T.cWords [("length", (.int q592.1)), ("words", (.tup (q592.2.map encI)))]), .va (encO encI q1198), .un, .va (.int q447.1.1), .va (.lst (q447.1.2.map encI)), .un]) (JP.je (jp_call (J__law_image T) (by exact hr.mono (by decide)) (fun _ => (q592, q447.1.2, q469.1)) (ja_cons (jp_var (d := (.ob T.cWords [("length", (.int q592.1)), ("words", (.tup (q592.2.map encI)))])) 5) (fun _ => (ja_cons (jp_var (d := (.lst (q447.1.2.map encI))) 9) (fun _ => (ja_cons (jp_var (d := (.tup (q469.1.map D.int))) 2) (fun _ => ja_nil)))))))) (fun (q1198 : (Option (List Int))) => (js_set 7 (fun (q1206 : (Option (List Int))) => [.va (.rol (script_5.map D.int)), .ow none (.lst [(.lst (q495.2.2.2.1.map D.int)), (.int q495.2.2.2.2.1), (.int q495.2.2.2.2.2.1), (.int q495.2.2.2.2.2.2.1), (.bl q495.2.2.2.2.2.2.2)]), .va (.tup (q469.1.map D.int)), .va (.tup (q485.1.map D.int)), .va (.tup (q495.1.map D.int)), .va (.ob T.cWords [("length", (.int q592.1)), ("words", (.tup (q592.2.map encI)))]), .va (encO encI q1198), .va (encO encI q1206), .va (.int q447.1.1), .va (.lst (q447.1.2.map encI)), .un]) (JP.je (jp_call (J__law_image T) (by exact hr.mono (by decide)) (fun _ => (q592, q447.1.2, q485.1)) (ja_cons (jp_var (d := (.ob T.cWords [("length", (.int q592.1)), ("words", (.tup (q592.2.map encI)))])) 5) (fun _ => (ja_cons (jp_var (d := (.lst (q447.1.2.map encI))) 9) (fun _ => (ja_cons (jp_var (d := (.tup (q485.1.map D.int))) 3) (fun _ => ja_nil)))))))) (fun (q1206 : (Option (List Int))) => (js_if (JT.jte (jt_w (jw_or (jt_cmp op_isN (nomark _) (jp_var (d := (encO encI q1198)) 6) (fun _ => jp_non) (fun _ _ => od_isN)) (show JW _ _ _ (match q1198 with | none => .st | some image_1209 => (bnd (.ok ()) fun _ => (bnd (.ok ()) fun _ => (.ok (isN (encO encI q1206)))))) from match q1198 with | none => jw_stuck | some image_1209 => (jw_or1 (jt_cmp op_isN (nomark _) (jp_var (d := (encO encI q1206)) 7) (fun _ => jp_non) (fun _ _ => od_isN))))))) (fun b1213 => (js_ret (fun _ => false) (JP.je jp_bl))) (fun b1213 => (show JG _ _ _ _ (match q1198 with | none => .st | some image_1215 => (match q1206 with | none => .st | some image_other_1216 => (bnd (bnd (bnd (bnd (.ok ()) fun _ => (bnd (bnd (.ok ()) fun _ => (bnd (.ok ()) fun _ => .ok ((), ()))) fun _ => .ok ((), ((), ())))) fun _ => (m__law_unlike (image_1215, image_other_1216))) fun r1222 => (bnd (bnd (bnd (.ok ()) fun _ => (bnd (bnd (.ok ()) fun _ => (bnd (.ok ()) fun _ => .ok ((), ()))) fun _ => .ok ((), ((), ())))) fun _ => (m__law_unlike (q469.1, q485.1))) fun r1228 => (.ok (decide (r1228 < r1222))))) fun b1229 => (if b1229 = true then (bnd (.ok ()) fun _ => .ok false) else (bnd (bnd (bnd (bnd (.ok ()) fun _ => (bnd (bnd (.ok ()) fun _ => (bnd (.ok ()) fun _ => .ok ((), ()))) fun _ => .ok ((), ((), ())))) fun _ => (m__law_unlike (image_1215, q495.1))) fun r1236 => (bnd (bnd (bnd (.ok ()) fun _ => (bnd (bnd (.ok ()) fun _ => (bnd (.ok ()) fun _ => .ok ((), ()))) fun _ => .ok ((), ((), ())))) fun _ => (m__law_unlike (q469.1, q495.1))) fun r1242 => (.ok (decide (r1242 < r1236))))) fun b1243 => (if b1243 = true then (bnd (.ok ()) fun _ => .ok false) else (bnd (bnd (bnd (bnd (bnd (.ok ()) fun _ => (bnd (bnd (.ok ()) fun _ => (bnd (bnd (.ok ()) fun _ => (bnd (.ok ()) fun _ => .ok ((), ()))) fun _ => .ok ((), ((), ())))) fun _ => .ok ((), ((), ((), ()))))) fun _ => (m__law_image (q592, q447.1.2, image_1215))) fun r1252 => (bnd (.ok ()) fun _ => (.ok (!decide (r1252 = (some image_1215)))))) fun b1263 => (if b1263 = true then .ok true else (bnd (bnd (bnd (.ok ()) fun _ => (bnd (bnd (.ok ()) fun _ => (bnd (bnd (.ok ()) fun _ => (bnd (.ok ()) fun _ => .ok ((), ()))) fun _ => .ok ((), ((), ())))) fun _ => .ok ((), ((), ((), ()))))) fun _ => (m__law_image (q592, q447.1.2, q495.1))) fun r1261 => (bnd (.ok ()) fun _ => (.ok (!decide (r1261 = (some q495.1)))))))) fun b1264 => (if b1264 = true then (bnd (.ok ()) fun _ => .ok false) else (bnd (bnd (bnd (.ok ()) fun _ => (bnd (bnd (.ok ()) fun _ => (bnd (bnd (.ok ()) fun _ => (bnd (bnd (.ok ()) fun _ => (bnd (.ok ()) fun _ => .ok ((), ()))) fun _ => .ok ((), ((), ())))) fun _ => .ok ((), ((), ((), ()))))) fun _ => .ok ((), ((), ((), ((), ())))))) fun _ => (m__law_neighbours (q495.2.2.2, q592, q447.1.2, q469.1, image_1215))) fun q1347 => .ok q1347.1))))))))) _ from match q1198 with | none => js_stuck | some image_1215 => (show JG _ _ _ _ (match q1206 with | none => .st | some image_other_1216 => (bnd (bnd (bnd (bnd (.ok ()) fun _ => (bnd (bnd (.ok ()) fun _ => (bnd (.ok ()) fun _ => .ok ((), ()))) fun _ => .ok ((), ((), ())))) fun _ => (m__law_unlike (image_1215, image_other_1216))) fun r1222 => (bnd (bnd (bnd (.ok ()) fun _ => (bnd (bnd (.ok ()) fun _ => (bnd (.ok ()) fun _ => .ok ((), ()))) fun _ => .ok ((), ((), ())))) fun _ => (m__law_unlike (q469.1, q485.1))) fun r1228 => (.ok (decide (r1228 < r1222))))) fun b1229 => (if b1229 = true then (bnd (.ok ()) fun _ => .ok false) else (bnd (bnd (bnd (bnd (.ok ()) fun _ => (bnd (bnd (.ok ()) fun _ => (bnd (.ok ()) fun _ => .ok ((), ()))) fun _ => .ok ((), ((), ())))) fun _ => (m__law_unlike (image_1215, q495.1))) fun r1236 => (bnd (bnd (bnd (.ok ()) fun _ => (bnd (bnd (.ok ()) fun _ => (bnd (.ok ()) fun _ => .ok ((), ()))) fun _ => .ok ((), ((), ())))) fun _ => (m__law_unlike (q469.1, q495.1))) fun r1242 => (.ok (decide (r1242 < r1236))))) fun b1243 => (if b1243 = true then (bnd (.ok ()) fun _ => .ok false) else (bnd (bnd (bnd (bnd (bnd (.ok ()) fun _ => (bnd (bnd (.ok ()) fun _ => (bnd (bnd (.ok ()) fun _ => (bnd (.ok ()) fun _ => .ok ((), ()))) fun _ => .ok ((), ((), ())))) fun _ => .ok ((), ((), ((), ()))))) fun _ => (m__law_image (q592, q447.1.2, image_1215))) fun r1252 => (bnd (.ok ()) fun _ => (.ok (!decide (r1252 = (some image_1215)))))) fun b1263 => (if b1263 = true then .ok true else (bnd (bnd (bnd (.ok ()) fun _ => (bnd (bnd (.ok ()) fun _ => (bnd (bnd (.ok ()) fun _ => (bnd (.ok ()) fun _ => .ok ((), ()))) fun _ => .ok ((), ((), ())))) fun _ => .ok ((), ((), ((), ()))))) fun _ => (m__law_image (q592, q447.1.2, q495.1))) fun r1261 => (bnd (.ok ()) fun _ => (.ok (!decide (r1261 = (some q495.1)))))))) fun b1264 => (if b1264 = true then (bnd (.ok ()) fun _ => .ok false) else (bnd (bnd (bnd (.ok ()) fun _ => (bnd (bnd (.ok ()) fun _ => (bnd (bnd (.ok ()) fun _ => (bnd (bnd (.ok ()) fun _ => (bnd (.ok ()) fun _ => .ok ((), ()))) fun _ => .ok ((), ((), ())))) fun _ => .ok ((), ((), ((), ()))))) fun _ => .ok ((), ((), ((), ((), ())))))) fun _ => (m__law_neighbours (q495.2.2.2, q592, q447.1.2, q469.1, image_1215))) fun q1347 => .ok q1347.1)))))))) _ from match q1206 with | none => js_stuck | some image_other_1216 => (js_pop (js_if (JT.jte (jt_cmp op_gt (nomark _) (jp_call (J__law_unlike T) (by exact hr.mono (by decide)) (fun _ => (image_1215, image_other_1216)) (ja_cons (jp_var (d := (.tup (image_1215.map D.int))) 6) (fun _ => (ja_cons (jp_var (d := (.tup (image_other_1216.map D.int))) 7) (fun _ => ja_nil))))) (fun r1222 => (jp_call (J__law_unlike T) (by exact hr.mono (by decide)) (fun _ => (q469.1, q485.1)) (ja_cons (jp_var (d := (.tup (q469.1.map D.int))) 2) (fun _ => (ja_cons (jp_var (d := (.tup (q485.1.map D.int))) 3) (fun _ => ja_nil)))))) (fun r1222 r1228 => od_gt))) (fun b1229 => (js_ret (fun _ => false) (JP.je jp_bl))) (fun b1229 => (js_pop (js_if (JT.jte (jt_cmp op_gt (nomark _) (jp_call (J__law_unlike T) (by exact hr.mono (by decide)) (fun _ => (image_1215, q495.1)) (ja_cons (jp_var (d := (.tup (image_1215.map D.int))) 6) (fun _ => (ja_cons (jp_var (d := (.tup (q495.1.map D.int))) 4) (fun _ => ja_nil))))) (fun r1236 => (jp_call (J__law_unlike T) (by exact hr.mono (by decide)) (fun _ => (q469.1, q495.1)) (ja_cons (jp_var (d := (.tup (q469.1.map D.int))) 2) (fun _ => (ja_cons (jp_var (d := (.tup (q495.1.map D.int))) 4) (fun _ => ja_nil)))))) (fun r1236 r1242 => od_gt))) (fun b1243 => (js_ret (fun _ => false) (JP.je jp_bl))) (fun b1243 => (js_pop (js_if (JT.jte (jt_w (jw_or (jt_cmp (op_neD (by exact hu63 hr)) (nomark _) (jp_call (J__law_image T) (by exact hr.mono (by decide)) (fun _ => (q592, q447.1.2, image_1215)) (ja_cons (jp_var (d := (.ob T.cWords [("length", (.int q592.1)), ("words", (.tup (q592.2.map encI)))])) 5) (fun _ => (ja_cons (jp_var (d := (.lst (q447.1.2.map encI))) 9) (fun _ => (ja_cons (jp_var (d := (.tup (image_1215.map D.int))) 6) (fun _ => ja_nil))))))) (fun r1252 => (jp_var (d := (.tup (image_1215.map D.int))) 6)) (fun r1252 _ => (od_neE (enc := (encO encI)) (x := r1252) (y := (some image_1215)) (((oInt.toEqE).tup).opt (by intro a; constructor <;> simp [EqE.tup, PyData.eqv]))))) (jw_or1 (jt_cmp (op_neD (by exact hu63 hr)) (nomark _) (jp_call (J__law_image T) (by exact hr.mono (by decide)) (fun _ => (q592, q447.1.2, q495.1)) (ja_cons (jp_var (d := (.ob T.cWords [("length", (.int q592.1)), ("words", (.tup (q592.2.map encI)))])) 5) (fun _ => (ja_cons (jp_var (d := (.lst (q447.1.2.map encI))) 9) (fun _ => (ja_cons (jp_var (d := (.tup (q495.1.map D.int))) 4) (fun _ => ja_nil))))))) (fun r1261 => (jp_var (d := (.tup (q495.1.map D.int))) 4)) (fun r1261 _ => (od_neE (enc := (encO encI)) (x := r1261) (y := (some q495.1)) (((oInt.toEqE).tup).opt (by intro a; constructor <;> simp [EqE.tup, PyData.eqv]))))))))) (fun b1264 => (js_ret (fun _ => false) (JP.je jp_bl))) (fun b1264 => (js_pop (js_ret (fun (q1347 : (Bool × ((List Int) × Int × Int × Int × Bool))) => q1347.1) (je_callO 1 (J__law_neighbours T) (by exact hr.mono (by decide)) (fun _ => (q495.2.2.2, q592, q447.1.2, q469.1, image_1215)) (ja_cons (jp_var (d := (.ob T.cWords [("length", (.int q592.1)), ("words", (.tup (q592.2.map encI)))])) 5) (fun _ => (ja_cons (jp_var (d := (.lst (q447.1.2.map encI))) 9) (fun _ => (ja_cons (jp_var (d := (.tup (q469.1.map D.int))) 2) (fun _ => (ja_cons (jp_var (d := (.tup (image_1215.map D.int))) 6) (fun _ => ja_nil))))))))))))))))))))))))) sc__law_holds.nd)) sc__law_holds.nd)) sc__law_holds.nd)) sc__law_holds.nd)) sc__law_holds.nd)) sc__law_holds.nd)) sc__law_holds.nd)))) sc__law_holds.nd)) (by first | (dsimp only [m__law_holds]; done) | rfl)
def m_law : (List Int) → M (Bool) := fun script_1 => (noer (bnd (bnd (bnd (.ok ()) fun _ => (bnd (.ok ()) fun _ => .ok ((), ()))) fun _ => (m__law_holds script_1)) fun q1348 => .ok q1348))
theorem sc_law : FnScope ["script"] ["script"] (defScope s_law) := ⟨rfl, rfl, rfl, by decide +kernel, rfl, by decide +kernel, by decide +kernel⟩
theorem J_law {g : Gx} (T : Tx g) {base : Heap} : Df g base 13 "law" (A := (List Int)) (ρ := Bool) (fun script_1 => [(.rol (script_1.map D.int))]) m_law (fun r => .va (.bl r)) :=
  fn_J T.f_law sc_law T.m_law (fun _ => rfl) (fun _ _ _ _ _ _ us hl => match us, hl with | [_], _ => rfl) fun cdv Ar outer s H E script_1 hr =>
    JG.cast (m' := m_law script_1) (show JG _ [] [.va (.rol (script_1.map D.int))] _ _ _ from (js_last (js_try (js_ret (fun (q1348 : Bool) => q1348) (JP.je (jp_call (J__law_holds T) (by exact hr.mono (by decide)) (fun _ => script_1) (ja_cons (jp_var (d := (.rol (script_1.map D.int))) 0) (fun _ => ja_nil)))))))) (by first | (dsimp only [m_law]; done) | rfl)
theorem jl_law {g : Gx} (T : Tx g) {base : Heap} : FnOk g.P g.w g.K g.mg base (L2N.CX g.P g.w) 13 T.fa_law T.fd_law ["script"] (spec g (fun a : List Int => [.rol (a.map D.int)]) m_law fun r => .va (.bl r)) :=
  fn_J0 T.f_law sc_law (fun _ => rfl) fun cdv Ar outer s H E script_1 hr =>
    JG.cast (m' := m_law script_1) (show JG _ [] [.va (.rol (script_1.map D.int))] _ _ _ from (js_last (js_try (js_ret (fun (q1348 : Bool) => q1348) (JP.je (jp_call (J__law_holds T) (by exact hr.mono (by decide)) (fun _ => script_1) (ja_cons (jp_var (d := (.rol (script_1.map D.int))) 0) (fun _ => ja_nil)))))))) (by first | (dsimp only [m_law]; done) | rfl)
end Z
set_option Elab.async false
set_option linter.all false
set_option maxRecDepth 100000
set_option maxHeartbeats 4000000
namespace Z
open PySem PySem.Spec PyProof.Rows L2
theorem tx_of {P : Program} {w : World} {K : PySem.W.Frag} {h : Heap} {mg : Str → Option Value} (X : K.In h) (G : h.Ns mainGlobals mg) (c : He.SaysE hfa hdn K) : Nonempty (Tx ⟨P, w, K, mg⟩) := by
  obtain ⟨fd__law_flow, f__law_flow⟩ := fun_glo (x := "_law_flow") (st := s__law_flow) c 0 1 rfl rfl
  obtain ⟨fd__law_cell, f__law_cell⟩ := fun_glo (x := "_law_cell") (st := s__law_cell) c 1 3 rfl rfl
  obtain ⟨fd__law_take, f__law_take⟩ := fun_glo (x := "_law_take") (st := s__law_take) c 2 5 rfl rfl
  obtain ⟨fd__law_chosen, f__law_chosen⟩ := fun_glo (x := "_law_chosen") (st := s__law_chosen) c 3 7 rfl rfl
  obtain ⟨fd__law_web, f__law_web⟩ := fun_glo (x := "_law_web") (st := s__law_web) c 4 9 rfl rfl
  obtain ⟨fd__law_shuffle, f__law_shuffle⟩ := fun_glo (x := "_law_shuffle") (st := s__law_shuffle) c 5 11 rfl rfl
  obtain ⟨fd__law_rows, f__law_rows⟩ := fun_glo (x := "_law_rows") (st := s__law_rows) c 6 13 rfl rfl
  obtain ⟨fd__law_drawn, f__law_drawn⟩ := fun_glo (x := "_law_drawn") (st := s__law_drawn) c 7 15 rfl rfl
  obtain ⟨fd_is_integer, f_is_integer⟩ := fun_glo (x := "is_integer") (st := s_is_integer) c 8 17 rfl rfl
  obtain ⟨fd_is_between, f_is_between⟩ := fun_glo (x := "is_between") (st := s_is_between) c 9 19 rfl rfl
  obtain ⟨fd_is_bit, f_is_bit⟩ := fun_glo (x := "is_bit") (st := s_is_bit) c 10 21 rfl rfl
  obtain ⟨fd_is_word, f_is_word⟩ := fun_glo (x := "is_word") (st := s_is_word) c 11 23 rfl rfl
  obtain ⟨fd_number_of_word, f_number_of_word⟩ := fun_glo (x := "number_of_word") (st := s_number_of_word) c 12 25 rfl rfl
  obtain ⟨fd_numbers_of, f_numbers_of⟩ := fun_glo (x := "numbers_of") (st := s_numbers_of) c 13 27 rfl rfl
  obtain ⟨fd_first_wrong, f_first_wrong⟩ := fun_glo (x := "first_wrong") (st := s_first_wrong) c 14 29 rfl rfl
  obtain ⟨fd_is_closed, f_is_closed⟩ := fun_glo (x := "is_closed") (st := s_is_closed) c 15 31 rfl rfl
  obtain ⟨fd_letter_masks, f_letter_masks⟩ := fun_glo (x := "letter_masks") (st := s_letter_masks) c 16 33 rfl rfl
  obtain ⟨fd_kept_letters, f_kept_letters⟩ := fun_glo (x := "kept_letters") (st := s_kept_letters) c 17 35 rfl rfl
  obtain ⟨fd_is_reduced, f_is_reduced⟩ := fun_glo (x := "is_reduced") (st := s_is_reduced) c 18 37 rfl rfl
  obtain ⟨fd_look_at_words, f_look_at_words⟩ := fun_glo (x := "look_at_words") (st := s_look_at_words) c 19 39 rfl rfl
  obtain ⟨fd_literal_masks, f_literal_masks⟩ := fun_glo (x := "literal_masks") (st := s_literal_masks) c 20 41 rfl rfl
  obtain ⟨fd_pairs_with, f_pairs_with⟩ := fun_glo (x := "pairs_with") (st := s_pairs_with) c 21 43 rfl rfl
  obtain ⟨fd_is_literal, f_is_literal⟩ := fun_glo (x := "is_literal") (st := s_is_literal) c 22 45 rfl rfl
  obtain ⟨fd_is_clause, f_is_clause⟩ := fun_glo (x := "is_clause") (st := s_is_clause) c 23 47 rfl rfl
  obtain ⟨fd_words_clauses, f_words_clauses⟩ := fun_glo (x := "words_clauses") (st := s_words_clauses) c 24 49 rfl rfl
  obtain ⟨fd_is_true, f_is_true⟩ := fun_glo (x := "is_true") (st := s_is_true) c 25 51 rfl rfl
  obtain ⟨fd_turned, f_turned⟩ := fun_glo (x := "turned") (st := s_turned) c 26 53 rfl rfl
  obtain ⟨fd_led_into, f_led_into⟩ := fun_glo (x := "led_into") (st := s_led_into) c 27 55 rfl rfl
  obtain ⟨fd_fold, f_fold⟩ := fun_glo (x := "fold") (st := s_fold) c 28 57 rfl rfl
  obtain ⟨fd__law_unlike, f__law_unlike⟩ := fun_glo (x := "_law_unlike") (st := s__law_unlike) c 29 59 rfl rfl
  obtain ⟨fd__law_image, f__law_image⟩ := fun_glo (x := "_law_image") (st := s__law_image) c 30 61 rfl rfl
  obtain ⟨fd__law_places, f__law_places⟩ := fun_glo (x := "_law_places") (st := s__law_places) c 31 63 rfl rfl
  obtain ⟨fd__law_neighbours, f__law_neighbours⟩ := fun_glo (x := "_law_neighbours") (st := s__law_neighbours) c 32 65 rfl rfl
  obtain ⟨fd__law_holds, f__law_holds⟩ := fun_glo (x := "_law_holds") (st := s__law_holds) c 33 67 rfl rfl
  obtain ⟨fd_law, f_law⟩ := fun_glo (x := "law") (st := s_law) c 34 69 rfl rfl
  obtain ⟨fd_Clauses, f_Clauses⟩ := fun_ini (x := "Clauses") (q := "Clauses.__init__") (st := s_Clauses) c 35 71 rfl rfl
  obtain ⟨fd_Words, f_Words⟩ := fun_ini (x := "Words") (q := "Words.__init__") (st := s_Words) c 36 75 rfl rfl
  exact ⟨⟨_,
    _,
    f__law_flow,
    He.glo_ok X G (c.fact 0 rfl),
    _,
    _,
    f__law_cell,
    He.glo_ok X G (c.fact 2 rfl),
    _,
    _,
    f__law_take,
    He.glo_ok X G (c.fact 4 rfl),
    _,
    _,
    f__law_chosen,
    He.glo_ok X G (c.fact 6 rfl),
    _,
    _,
    f__law_web,
    He.glo_ok X G (c.fact 8 rfl),
    _,
    _,
    f__law_shuffle,
    He.glo_ok X G (c.fact 10 rfl),
    _,
    _,
    f__law_rows,
    He.glo_ok X G (c.fact 12 rfl),
    _,
    _,
    f__law_drawn,
    He.glo_ok X G (c.fact 14 rfl),
    _,
    _,
    f_is_integer,
    He.glo_ok X G (c.fact 16 rfl),
    _,
    _,
    f_is_between,
    He.glo_ok X G (c.fact 18 rfl),
    _,
    _,
    f_is_bit,
    He.glo_ok X G (c.fact 20 rfl),
    _,
    _,
    f_is_word,
    He.glo_ok X G (c.fact 22 rfl),
    _,
    _,
    f_number_of_word,
    He.glo_ok X G (c.fact 24 rfl),
    _,
    _,
    f_numbers_of,
    He.glo_ok X G (c.fact 26 rfl),
    _,
    _,
    f_first_wrong,
    He.glo_ok X G (c.fact 28 rfl),
    _,
    _,
    f_is_closed,
    He.glo_ok X G (c.fact 30 rfl),
    _,
    _,
    f_letter_masks,
    He.glo_ok X G (c.fact 32 rfl),
    _,
    _,
    f_kept_letters,
    He.glo_ok X G (c.fact 34 rfl),
    _,
    _,
    f_is_reduced,
    He.glo_ok X G (c.fact 36 rfl),
    _,
    _,
    f_look_at_words,
    He.glo_ok X G (c.fact 38 rfl),
    _,
    _,
    f_literal_masks,
    He.glo_ok X G (c.fact 40 rfl),
    _,
    _,
    f_pairs_with,
    He.glo_ok X G (c.fact 42 rfl),
    _,
    _,
    f_is_literal,
    He.glo_ok X G (c.fact 44 rfl),
    _,
    _,
    f_is_clause,
    He.glo_ok X G (c.fact 46 rfl),
    _,
    _,
    f_words_clauses,
    He.glo_ok X G (c.fact 48 rfl),
    _,
    _,
    f_is_true,
    He.glo_ok X G (c.fact 50 rfl),
    _,
    _,
    f_turned,
    He.glo_ok X G (c.fact 52 rfl),
    _,
    _,
    f_led_into,
    He.glo_ok X G (c.fact 54 rfl),
    _,
    _,
    f_fold,
    He.glo_ok X G (c.fact 56 rfl),
    _,
    _,
    f__law_unlike,
    He.glo_ok X G (c.fact 58 rfl),
    _,
    _,
    f__law_image,
    He.glo_ok X G (c.fact 60 rfl),
    _,
    _,
    f__law_places,
    He.glo_ok X G (c.fact 62 rfl),
    _,
    _,
    f__law_neighbours,
    He.glo_ok X G (c.fact 64 rfl),
    _,
    _,
    f__law_holds,
    He.glo_ok X G (c.fact 66 rfl),
    _,
    _,
    f_law,
    He.glo_ok X G (c.fact 68 rfl),
    _,
    _,
    _,
    f_Clauses,
    He.glo_ok X G (c.fact 70 rfl),
    He.mkr_ok (c.fact 72 rfl),
    He.cls_ok (c.fact 73 rfl),
    _,
    _,
    _,
    f_Words,
    He.glo_ok X G (c.fact 74 rfl),
    He.mkr_ok (c.fact 76 rfl),
    He.cls_ok (c.fact 77 rfl),
    He.noat_ok (c.fact 78 rfl),
    He.noat_ok (c.fact 79 rfl),
    He.noat_ok (c.fact 80 rfl),
    He.noat_ok (c.fact 81 rfl),
    He.free_ok X G (c.fact 82 rfl),
    He.free_ok X G (c.fact 83 rfl),
    He.free_ok X G (c.fact 84 rfl),
    He.free_ok X G (c.fact 85 rfl),
    He.free_ok X G (c.fact 86 rfl),
    He.free_ok X G (c.fact 87 rfl),
    He.free_ok X G (c.fact 88 rfl),
    He.free_ok X G (c.fact 89 rfl),
    He.free_ok X G (c.fact 90 rfl),
    He.free_ok X G (c.fact 91 rfl),
    He.free_ok X G (c.fact 92 rfl),
    He.free_ok X G (c.fact 93 rfl),
    He.free_ok X G (c.fact 94 rfl),
    He.free_ok X G (c.fact 95 rfl),
    He.int_ok X G (c.fact 96 rfl),
    He.int_ok X G (c.fact 97 rfl),
    He.int_ok X G (c.fact 98 rfl)⟩⟩
theorem fin_of {P : Program} {w : World} {K : PySem.W.Frag} {h : Heap} {mg : Str → Option Value} {fa : Addr} (X : K.In h) (G : h.Ns mainGlobals mg) (c : He.SaysE hfa hdn K) (z : mg "law" = some (.ref fa)) :
    ∃ (K : PySem.W.Frag) (fd : FuncData), K.In h ∧ (∀ (s : Shared) (u : Value), BindsTo s fd ⟨[u], []⟩ [("script", u)]) ∧
      ∀ base : Heap, FnOk P w K mg base (L2N.CX P w) 13 fa fd ["script"] (spec ⟨P, w, K, mg⟩ (fun a : List Int => [.rol (a.map D.int)]) m_law fun r => .va (.bl r)) := by
  obtain ⟨T⟩ := tx_of (P := P) (w := w) X G c
  have e : T.fa_law = fa := by
    have z3 := T.m_law.symm.trans z
    injection z3 with z3
    injection z3
  exact ⟨K, T.fd_law, X, bind1 T.f_law (fun _ _ _ _ _ _ _ => rfl), fun base => e ▸ jl_law T⟩
end Z
set_option linter.all false
namespace Y
abbrev W := Nat → Bool
def sm : Nat → (Nat → Nat) → Nat
  | 0, _ => 0
  | n + 1, f => sm n f + f n
theorem sm_congr {n : Nat} {f g : Nat → Nat} (h : ∀ k, k < n → f k = g k) : sm n f = sm n g := by
  induction n with
  | zero => rfl
  | succ n ih => rw [sm, sm, ih fun k hk => h k (by omega), h n (by omega)]
theorem sm_le {n : Nat} {f g : Nat → Nat} (h : ∀ k, k < n → f k ≤ g k) : sm n f ≤ sm n g := by
  induction n with
  | zero => exact Nat.le_refl _
  | succ n ih =>
    have a := ih fun k hk => h k (by omega)
    have b := h n (by omega)
    simp only [sm]; omega
theorem sm_const {n c : Nat} : sm n (fun _ => c) = n * c := by
  induction n with
  | zero => simp [sm]
  | succ n ih => rw [sm, ih, Nat.succ_mul]
theorem sm_out {n j : Nat} {f : Nat → Nat} (h : j < n) : sm n f = sm n (fun k => if k = j then 0 else f k) + f j := by
  induction n with
  | zero => omega
  | succ n ih =>
    by_cases e : j = n
    · subst e
      have : sm j (fun k => if k = j then 0 else f k) = sm j f := sm_congr fun k hk => if_neg (by omega)
      simp [sm, this]
    · have := ih (by omega)
      simp only [sm]
      rw [if_neg (Ne.symm e)]; omega
def one (a b : Bool) : Nat := if a = b then 0 else 1
theorem one_self (a : Bool) : one a a = 0 := if_pos rfl
theorem one_comm (a b : Bool) : one a b = one b a := by cases a <;> cases b <;> rfl
def dist (n : Nat) (w v : W) : Nat := sm n fun k => one (w k) (v k)
theorem dist_congr {n : Nat} {w v w' v' : W} (h : ∀ k, k < n → w k = w' k) (h' : ∀ k, k < n → v k = v' k) : dist n w v = dist n w' v' :=
  sm_congr fun k hk => by rw [h k hk, h' k hk]
theorem dist_self (n : Nat) (w : W) : dist n w w = 0 := by
  induction n with
  | zero => rfl
  | succ n ih => unfold dist at *; rw [sm, ih, one_self]
theorem dist_comm (n : Nat) (w v : W) : dist n w v = dist n v w := sm_congr fun k _ => one_comm _ _
theorem dist_le (n : Nat) (w v : W) : dist n w v ≤ n := by
  have : dist n w v ≤ sm n fun _ => 1 := sm_le fun k _ => by unfold one; split <;> omega
  rw [sm_const] at this; omega
theorem dist_par (n : Nat) (a b c : W) : (dist n a b + dist n b c + dist n a c) % 2 = 0 := by
  induction n with
  | zero => rfl
  | succ n ih =>
    unfold dist at *
    simp only [sm]
    have : (one (a n) (b n) + one (b n) (c n) + one (a n) (c n)) % 2 = 0 := by cases a n <;> cases b n <;> cases c n <;> rfl
    omega
theorem dist_zero {n : Nat} {w v : W} (h : dist n w v = 0) : ∀ k, k < n → w k = v k := by
  induction n with
  | zero => intro k hk; omega
  | succ n ih =>
    unfold dist at *
    simp only [sm] at h
    intro k hk
    by_cases e : k = n
    · subst e
      have : one (w k) (v k) = 0 := by omega
      unfold one at this; split at this
      · assumption
      · omega
    · exact ih (by omega) k (by omega)
/-- a clause: literal (j,b) or literal (m,c) -/
structure Cl where
  j : Nat
  b : Bool
  m : Nat
  c : Bool
def Cl.ok (n : Nat) (c : Cl) : Prop := c.j < c.m ∧ c.m < n
def Cl.tr (c : Cl) (w : W) : Prop := w c.j = c.b ∨ w c.m = c.c
instance (c : Cl) (w : W) : Decidable (c.tr w) := inferInstanceAs (Decidable (_ ∨ _))
def fc (c : Cl) (w : W) : W := if c.tr w then w else fun k => if k = c.j then c.b else if k = c.m then c.c else w k
theorem fc_j (c : Cl) (w : W) : fc c w c.j = if c.tr w then w c.j else c.b := by
  unfold fc; split <;> simp
theorem fc_m {n : Nat} {c : Cl} (h : c.ok n) (w : W) : fc c w c.m = if c.tr w then w c.m else c.c := by
  have : c.m ≠ c.j := by have := h.1; omega
  unfold fc; split <;> simp [this]
theorem fc_o {c : Cl} {w : W} {k : Nat} (h : k ≠ c.j) (h' : k ≠ c.m) : fc c w k = w k := by
  unfold fc; split <;> simp [h, h']
theorem dist_two {n : Nat} {c : Cl} (h : c.ok n) (w v : W) :
    dist n w v = sm n (fun k => if k = c.m then 0 else if k = c.j then 0 else one (w k) (v k)) + one (w c.j) (v c.j) + one (w c.m) (v c.m) := by
  have h1 := h.1; have h2 := h.2
  unfold dist
  rw [sm_out (j := c.j) (by omega), sm_out (j := c.m) (by omega : c.m < n)]
  have : c.m ≠ c.j := by omega
  simp only [this, if_false]; omega
theorem rest_fc {n : Nat} {c : Cl} (w v : W) (f g : W → W) (hf : ∀ k, k ≠ c.j → k ≠ c.m → f w k = w k) (hg : ∀ k, k ≠ c.j → k ≠ c.m → g v k = v k) :
    sm n (fun k => if k = c.m then 0 else if k = c.j then 0 else one (f w k) (g v k)) = sm n (fun k => if k = c.m then 0 else if k = c.j then 0 else one (w k) (v k)) :=
  sm_congr fun k _ => by
    by_cases a : k = c.m
    · simp [a]
    · by_cases b : k = c.j
      · simp [b]
      · simp only [a, b, if_false]; rw [hf k b a, hg k b a]
theorem two_lip : ∀ p q r s b d : Bool, one (if p = b ∨ q = d then p else b) (if r = b ∨ s = d then r else b) +
        one (if p = b ∨ q = d then q else d) (if r = b ∨ s = d then s else d) ≤ one p r + one q s := by decide
theorem two_par : ∀ p q b d : Bool, (0 + one (if p = b ∨ q = d then p else b) p + one (if p = b ∨ q = d then q else d) q) % 2 = 0 := by decide
theorem fc_lip {n : Nat} {c : Cl} (h : c.ok n) (w v : W) : dist n (fc c w) (fc c v) ≤ dist n w v := by
  rw [dist_two h (fc c w) (fc c v), dist_two h w v, rest_fc w v (fc c) (fc c) (fun k a b => fc_o a b) (fun k a b => fc_o a b)]
  rw [fc_j, fc_j, fc_m h, fc_m h]
  have : one (if c.tr w then w c.j else c.b) (if c.tr v then v c.j else c.b) + one (if c.tr w then w c.m else c.c) (if c.tr v then v c.m else c.c) ≤ one (w c.j) (v c.j) + one (w c.m) (v c.m) := by
    exact two_lip (w c.j) (w c.m) (v c.j) (v c.m) c.b c.c
  omega
theorem fc_par {n : Nat} {c : Cl} (h : c.ok n) (w : W) : dist n (fc c w) w % 2 = 0 := by
  rw [dist_two h (fc c w) w, rest_fc w w (fc c) (fun u => u) (fun k a b => fc_o a b) (fun k a b => rfl)]
  rw [fc_j, fc_m h]
  have z : sm n (fun k => if k = c.m then 0 else if k = c.j then 0 else one (w k) (w k)) = 0 := by
    rw [sm_congr (g := fun _ => 0), sm_const]; · simp
    intro k _; simp [one_self]
  rw [z]
  exact two_par (w c.j) (w c.m) c.b c.c
theorem fc_fix {c : Cl} {w : W} (h : c.tr w) : fc c w = w := if_pos h
theorem fc_dec {n : Nat} {c : Cl} (h : c.ok n) {w x : W} (hv : ¬ c.tr w) (h1 : x c.j = c.b) (h2 : x c.m = c.c) : dist n (fc c w) x + 2 = dist n w x := by
  rw [dist_two h (fc c w) x, dist_two h w x, rest_fc w x (fc c) (fun u => u) (fun k a b => fc_o a b) (fun k a b => rfl)]
  rw [fc_j, fc_m h, if_neg hv, if_neg hv, h1, h2, one_self, one_self]
  have : one (w c.j) c.b = 1 := if_neg fun e => hv (.inl e)
  have : one (w c.m) c.c = 1 := if_neg fun e => hv (.inr e)
  omega
/-! all clauses in turn -/
def pass (cs : List Cl) (w : W) : W := cs.foldl (fun w c => fc c w) w
variable {n : Nat} {cs : List Cl} {S : List W}
theorem pass_lip (h : ∀ c ∈ cs, c.ok n) (w v : W) : dist n (pass cs w) (pass cs v) ≤ dist n w v := by
  induction cs generalizing w v with
  | nil => exact Nat.le_refl _
  | cons c cs ih =>
    have a := ih (fun d hd => h d (by simp [hd])) (fc c w) (fc c v)
    exact Nat.le_trans a (fc_lip (h c (by simp)) w v)
theorem pass_par (h : ∀ c ∈ cs, c.ok n) (w : W) : dist n (pass cs w) w % 2 = 0 := by
  induction cs generalizing w with
  | nil => unfold pass; simp [dist_self]
  | cons c cs ih =>
    have a := ih (fun d hd => h d (by simp [hd])) (fc c w)
    have b := fc_par (h c (by simp)) w
    have d := dist_par n (pass cs (fc c w)) (fc c w) w
    have e : pass (c :: cs) w = pass cs (fc c w) := rfl
    rw [e]; omega
theorem pass_fix {w : W} (h : ∀ c ∈ cs, c.tr w) : pass cs w = w := by
  induction cs with
  | nil => rfl
  | cons c cs ih =>
    have e : pass (c :: cs) w = pass cs (fc c w) := rfl
    rw [e, fc_fix (h c (by simp)), ih fun d hd => h d (by simp [hd])]
/-- the sum of the distances -/
def tot (n : Nat) (S : List W) (w : W) : Nat := (S.map fun x => dist n w x).sum
theorem tot_le {w v : W} (h : ∀ x ∈ S, dist n w x ≤ dist n v x) : tot n S w ≤ tot n S v := by
  induction S with
  | nil => exact Nat.le_refl _
  | cons x S ih =>
    have a := ih fun y hy => h y (by simp [hy])
    have b := h x (by simp)
    unfold tot at *; simp only [List.map_cons, List.sum_cons]; omega
theorem tot_lt {w v : W} (h : ∀ x ∈ S, dist n w x ≤ dist n v x) (h' : ∃ x ∈ S, dist n w x < dist n v x) : tot n S w < tot n S v := by
  induction S with
  | nil => obtain ⟨x, hx, _⟩ := h'; simp at hx
  | cons x S ih =>
    have b := h x (by simp)
    have hs : ∀ y ∈ S, dist n w y ≤ dist n v y := fun y hy => h y (by simp [hy])
    obtain ⟨y, hy, l⟩ := h'
    have a := tot_le hs
    rcases List.mem_cons.mp hy with e | e
    · subst e; unfold tot at *; simp only [List.map_cons, List.sum_cons]; omega
    · have := ih hs ⟨y, e, l⟩
      unfold tot at *; simp only [List.map_cons, List.sum_cons]; omega
theorem tot_bound (w : W) : tot n S w ≤ S.length * n := by
  induction S with
  | nil => simp [tot]
  | cons x S ih =>
    have := dist_le n w x
    unfold tot at *; simp only [List.map_cons, List.sum_cons, List.length_cons, Nat.succ_mul]; omega
/-- the clauses of the set: true in it, each with a word that has both literals -/
structure Good (n : Nat) (S : List W) (cs : List Cl) : Prop where
  ok : ∀ c ∈ cs, c.ok n
  tr : ∀ c ∈ cs, ∀ x ∈ S, c.tr x
  bo : ∀ c ∈ cs, ∃ x ∈ S, x c.j = c.b ∧ x c.m = c.c
  /-- who keeps them all is one of the set -/
  al : ∀ w : W, (∀ c ∈ cs, c.tr w) → ∃ x ∈ S, ∀ k, k < n → x k = w k
theorem fc_near (G : Good n S cs) {c : Cl} (hc : c ∈ cs) (w : W) {x : W} (hx : x ∈ S) : dist n (fc c w) x ≤ dist n w x := by
  have := fc_lip (G.ok c hc) w x
  rw [fc_fix (G.tr c hc x hx)] at this; exact this
theorem pass_near' (G : Good n S cs) : ∀ ds : List Cl, (∀ c ∈ ds, c ∈ cs) → ∀ w : W, (∀ x ∈ S, dist n (pass ds w) x ≤ dist n w x) ∧ ((∃ c ∈ ds, ¬ c.tr w) → ∃ x ∈ S, dist n (pass ds w) x < dist n w x)
  | [], _, w => ⟨fun _ _ => Nat.le_refl _, fun ⟨c, h, _⟩ => by simp at h⟩
  | c :: ds, h, w => by
    have hc := h c (by simp)
    obtain ⟨i1, i2⟩ := pass_near' G ds (fun d hd => h d (by simp [hd])) (fc c w)
    have e : pass (c :: ds) w = pass ds (fc c w) := rfl
    rw [e]
    refine ⟨fun x hx => Nat.le_trans (i1 x hx) (fc_near G hc w hx), fun ⟨d, hd, nt⟩ => ?_⟩
    by_cases t : c.tr w
    · rw [fc_fix t] at *
      rcases List.mem_cons.mp hd with q | q
      · subst q; exact absurd t nt
      · exact i2 ⟨d, q, nt⟩
    · obtain ⟨x, hx, a, b⟩ := G.bo c hc
      refine ⟨x, hx, ?_⟩
      have := fc_dec (G.ok c hc) t a b
      have := i1 x hx
      omega
def inS (n : Nat) (S : List W) (w : W) : Prop := ∃ x ∈ S, ∀ k, k < n → x k = w k
theorem tr_congr (G : Good n S cs) {c : Cl} (hc : c ∈ cs) {w v : W} (h : ∀ k, k < n → w k = v k) : c.tr w ↔ c.tr v := by
  have h1 := (G.ok c hc).1; have h2 := (G.ok c hc).2
  unfold Cl.tr; rw [h c.j (by omega), h c.m h2]
theorem inS_tr (G : Good n S cs) {w : W} (h : inS n S w) : ∀ c ∈ cs, c.tr w := fun c hc => by
  obtain ⟨x, hx, e⟩ := h
  exact (tr_congr G hc e).mp (G.tr c hc x hx)
theorem inS_fix (G : Good n S cs) {w : W} (h : inS n S w) : pass cs w = w := pass_fix (inS_tr G h)
theorem pass_tot (G : Good n S cs) {w : W} (h : ¬ inS n S w) : tot n S (pass cs w) < tot n S w := by
  obtain ⟨a, b⟩ := pass_near' G cs (fun _ h => h) w
  refine tot_lt a (b ?_)
  refine Classical.byContradiction fun q => h (G.al w fun c hc => Classical.byContradiction fun t => q ⟨c, hc, t⟩)
def iter (cs : List Cl) : Nat → W → W
  | 0, w => w
  | k + 1, w => iter cs k (pass cs w)
theorem iter_fix (G : Good n S cs) {w : W} (h : inS n S w) : ∀ k, iter cs k w = w
  | 0 => rfl
  | k + 1 => by rw [iter, inS_fix G h, iter_fix G h k]
theorem iter_in (G : Good n S cs) : ∀ (k : Nat) (w : W), tot n S w ≤ k → inS n S (iter cs k w)
  | 0, w, h => Classical.byContradiction fun q => by have := pass_tot G (w := w) q; omega
  | k + 1, w, h => by
    by_cases q : inS n S w
    · rw [iter_fix G q]; exact q
    · exact iter_in G k _ (by have := pass_tot G q; omega)
theorem iter_lip (G : Good n S cs) : ∀ (k : Nat) (w v : W), dist n (iter cs k w) (iter cs k v) ≤ dist n w v
  | 0, _, _ => Nat.le_refl _
  | k + 1, w, v => Nat.le_trans (iter_lip G k _ _) (pass_lip G.ok w v)
theorem iter_par (G : Good n S cs) : ∀ (k : Nat) (w : W), dist n (iter cs k w) w % 2 = 0
  | 0, w => by rw [iter, dist_self]
  | k + 1, w => by
    have a := iter_par G k (pass cs w)
    have b := pass_par G.ok w
    have d := dist_par n (iter cs k (pass cs w)) (pass cs w) w
    rw [iter]; omega
theorem iter_near (G : Good n S cs) (k : Nat) (w : W) {x : W} (hx : x ∈ S) : dist n (iter cs k w) x ≤ dist n w x := by
  have := iter_lip G k w x
  rw [iter_fix G ⟨x, hx, fun _ _ => rfl⟩] at this; exact this
theorem iter_one (G : Good n S cs) (k : Nat) {w v : W} (h : dist n w v = 1) : dist n (iter cs k w) (iter cs k v) = 1 := by
  have a := iter_lip G k w v
  have p1 := iter_par G k w
  have p2 := iter_par G k v
  have d1 := dist_par n (iter cs k w) w v
  have d2 := dist_par n (iter cs k w) (iter cs k v) v
  omega
/-! closed sets: who has each two letters of some word is one of them -/
def maj (a b c : Bool) : Bool := (a && b) || ((a || b) && c)
def Closed (n : Nat) (S : List W) : Prop := ∀ x ∈ S, ∀ y ∈ S, ∀ z ∈ S, inS n S fun k => maj (x k) (y k) (z k)
theorem med_list (hc : Closed n S) (w : W) (h0 : S ≠ []) (h : ∀ i, i < n → ∀ j, j < n → ∃ x ∈ S, x i = w i ∧ x j = w j) :
    ∀ (m : Nat) (I : List Nat), I.length ≤ m → (∀ i ∈ I, i < n) → ∃ x ∈ S, ∀ i ∈ I, x i = w i := by
  intro m
  induction m with
  | zero =>
    intro I hl hI
    have : I = [] := List.length_eq_zero_iff.mp (by omega)
    subst this
    obtain ⟨x, hx⟩ := List.exists_mem_of_ne_nil S h0
    exact ⟨x, hx, by simp⟩
  | succ m ih =>
    intro I hl hI
    match I, hl, hI with
    | [], _, _ =>
      obtain ⟨x, hx⟩ := List.exists_mem_of_ne_nil S h0
      exact ⟨x, hx, by simp⟩
    | [a], _, hI =>
      obtain ⟨x, hx, e, _⟩ := h a (hI a (by simp)) a (hI a (by simp))
      exact ⟨x, hx, by simpa using e⟩
    | [a, b], _, hI =>
      obtain ⟨x, hx, e, e'⟩ := h a (hI a (by simp)) b (hI b (by simp))
      exact ⟨x, hx, by simp [e, e']⟩
    | a :: b :: c :: t, hl, hI =>
      simp only [List.length_cons] at hl
      obtain ⟨x, hx, ex⟩ := ih (b :: c :: t) (by simp only [List.length_cons]; omega) fun i hi => hI i (by simp at hi ⊢; right; exact hi)
      obtain ⟨y, hy, ey⟩ := ih (a :: c :: t) (by simp only [List.length_cons]; omega) fun i hi => hI i (by simp at hi ⊢; rcases hi with q | q | q <;> simp [q])
      obtain ⟨z, hz, ez⟩ := ih (a :: b :: t) (by simp only [List.length_cons]; omega) fun i hi => hI i (by simp at hi ⊢; rcases hi with q | q | q <;> simp [q])
      obtain ⟨u, hu, eu⟩ := hc x hx y hy z hz
      refine ⟨u, hu, fun i hi => ?_⟩
      rw [eu i (hI i hi)]
      show maj (x i) (y i) (z i) = w i
      simp only [List.mem_cons] at hi ex ey ez
      rcases hi with q | q | q | q
      · subst q; rw [ey i (by simp), ez i (by simp)]; cases w i <;> cases x i <;> rfl
      · subst q; rw [ex i (by simp), ez i (by simp)]; cases w i <;> cases y i <;> rfl
      · subst q; rw [ex i (by simp), ey i (by simp)]; cases w i <;> cases z i <;> rfl
      · rw [ex i (by simp [q]), ey i (by simp [q])]; cases w i <;> cases z i <;> rfl
theorem med (hc : Closed n S) (w : W) (h0 : S ≠ []) (h : ∀ i, i < n → ∀ j, j < n → ∃ x ∈ S, x i = w i ∧ x j = w j) : inS n S w := by
  obtain ⟨x, hx, e⟩ := med_list hc w h0 h n (List.range n) (by simp) (by simp)
  exact ⟨x, hx, fun k hk => e k (by simp [hk])⟩
end Y
set_option linter.all false
namespace Y
variable {n : Nat} {cs : List Cl} {S : List W}
structure Red (n : Nat) (S : List W) : Prop where
  co : ∀ i, i < n → ∃ x ∈ S, ∃ y ∈ S, x i ≠ y i
  li : ∀ i j, i < n → j < n → i ≠ j → ∃ x ∈ S, ∃ y ∈ S, (x i == y i) ≠ (x j == y j)
theorem good (h0 : S ≠ []) (hc : Closed n S) (hr : Red n S) (hcs : ∀ c : Cl, c ∈ cs ↔ (c.ok n ∧ ∀ x ∈ S, c.tr x)) : Good n S cs where
  ok := fun c h => ((hcs c).mp h).1
  tr := fun c h => ((hcs c).mp h).2
  bo := fun c h => by
    obtain ⟨o, t⟩ := (hcs c).mp h
    obtain ⟨x, hx, y, hy, e⟩ := hr.li c.j c.m (by have := o.1; have := o.2; omega) o.2 (by have := o.1; omega)
    refine Classical.byContradiction fun q => e ?_
    have f : ∀ u ∈ S, (u c.j = c.b ∧ u c.m = !c.c) ∨ (u c.j = !c.b ∧ u c.m = c.c) := fun u hu => by
      have a := t u hu
      have b : ¬ (u c.j = c.b ∧ u c.m = c.c) := fun z => q ⟨u, hu, z⟩
      unfold Cl.tr at a
      revert a b
      generalize u c.j = p, u c.m = r
      generalize c.b = s, c.c = v
      revert p r s v; decide
    have a := f x hx
    have b := f y hy
    revert a b
    generalize x c.j = p, x c.m = r
    generalize y c.j = p', y c.m = r'
    generalize c.b = s, c.c = v
    revert p r p' r' s v; decide
  al := fun w h => by
    refine med hc w h0 fun i hi j hj => ?_
    refine Classical.byContradiction fun q => ?_
    by_cases e : i = j
    · subst e
      obtain ⟨x, hx, y, hy, z⟩ := hr.co i hi
      have a : ¬ x i = w i := fun u => q ⟨x, hx, u, u⟩
      have b : ¬ y i = w i := fun u => q ⟨y, hy, u, u⟩
      revert a b z
      generalize x i = p, y i = r, w i = s
      revert p r s; decide
    · have key : ∀ a b : Nat, a < b → b < n → ¬ (∃ x ∈ S, x a = w a ∧ x b = w b) → False := fun a b l hb k => by
        have : (⟨a, !w a, b, !w b⟩ : Cl) ∈ cs := (hcs _).mpr ⟨⟨l, hb⟩, fun x hx => by
          have : ¬ (x a = w a ∧ x b = w b) := fun z => k ⟨x, hx, z⟩
          show x a = !w a ∨ x b = !w b
          revert this
          generalize x a = p, x b = r, w a = s, w b = v
          revert p r s v; decide⟩
        have := h _ this
        unfold Cl.tr at this
        revert this
        show (w a = !w a ∨ w b = !w b) → False
        generalize w a = p, w b = r
        revert p r; decide
      rcases Nat.lt_or_gt_of_ne e with l | l
      · exact key i j l hj q
      · exact key j i l hi fun ⟨x, hx, u, v⟩ => q ⟨x, hx, v, u⟩
/-! a set is doubled over a part -/
def put (L : Nat) (x : W) : W := fun k => if k = L then true else x k
theorem web_step {L : Nat} {C : List W} {F : Nat → Prop} {b : W} (hc : Closed L S) (hr : Red L S)
    (lo : ∀ x ∈ S, x L = false) (hC : ∀ x, x ∈ C ↔ (x ∈ S ∧ ∀ k, k < L → F k → x k = b k)) (hb : b ∈ S) :
    Closed (L + 1) (S ++ C.map (put L)) ∧ Red (L + 1) (S ++ C.map (put L)) := by
  have hbC : b ∈ C := (hC b).mpr ⟨hb, fun _ _ _ => rfl⟩
  -- each of the new set stands over one of the old
  have lowS : ∀ x ∈ S ++ C.map (put L), ∃ u ∈ S, (∀ k, k < L → x k = u k) ∧ (x L = true → u ∈ C) := fun x hx => by
    rcases List.mem_append.mp hx with h | h
    · exact ⟨x, h, fun _ _ => rfl, fun e => by rw [lo x h] at e; cases e⟩
    · obtain ⟨u, hu, e⟩ := List.mem_map.mp h
      subst e
      exact ⟨u, ((hC u).mp hu).1, fun k hk => if_neg (by omega), fun _ => hu⟩
  constructor
  · intro x hx y hy z hz
    obtain ⟨x1, hx1, ex, cx⟩ := lowS x hx
    obtain ⟨y1, hy1, ey, cy⟩ := lowS y hy
    obtain ⟨z1, hz1, ez, cz⟩ := lowS z hz
    obtain ⟨u, hu, eu⟩ := hc x1 hx1 y1 hy1 z1 hz1
    by_cases t : maj (x L) (y L) (z L) = true
    · have uC : u ∈ C := (hC u).mpr ⟨hu, fun k hk fk => by
        rw [eu k hk]
        show maj (x1 k) (y1 k) (z1 k) = b k
        have a : x L = true → x1 k = b k := fun e => ((hC _).mp (cx e)).2 k hk fk
        have a' : y L = true → y1 k = b k := fun e => ((hC _).mp (cy e)).2 k hk fk
        have a'' : z L = true → z1 k = b k := fun e => ((hC _).mp (cz e)).2 k hk fk
        revert a a' a'' t
        generalize x L = p, y L = q, z L = r, x1 k = p', y1 k = q', z1 k = r', b k = s
        revert p q r p' q' r' s; decide⟩
      refine ⟨put L u, List.mem_append.mpr (.inr (List.mem_map.mpr ⟨u, uC, rfl⟩)), fun k hk => ?_⟩
      by_cases e : k = L
      · subst e; show put k u k = maj (x k) (y k) (z k); rw [t]; exact if_pos rfl
      · show put L u k = maj (x k) (y k) (z k)
        have : k < L := by omega
        rw [ex k this, ey k this, ez k this]
        exact (if_neg e).trans (eu k this)
    · refine ⟨u, List.mem_append.mpr (.inl hu), fun k hk => ?_⟩
      by_cases e : k = L
      · subst e; show u k = maj (x k) (y k) (z k)
        rw [lo u hu]
        revert t
        cases maj (x k) (y k) (z k) <;> simp
      · show u k = maj (x k) (y k) (z k)
        have : k < L := by omega
        rw [ex k this, ey k this, ez k this]
        exact eu k this
  · have mb : b ∈ S ++ C.map (put L) := List.mem_append.mpr (.inl hb)
    have mp : put L b ∈ S ++ C.map (put L) := List.mem_append.mpr (.inr (List.mem_map.mpr ⟨b, hbC, rfl⟩))
    have e1 : ∀ k, k < L → put L b k = b k := fun k hk => if_neg (by omega)
    have e2 : put L b L = true := if_pos rfl
    have e3 := lo b hb
    have ms : ∀ x ∈ S, x ∈ S ++ C.map (put L) := fun x h => List.mem_append.mpr (.inl h)
    constructor
    · intro i hi
      by_cases e : i = L
      · subst e; exact ⟨b, mb, put i b, mp, by rw [e2, e3]; decide⟩
      · obtain ⟨x, hx, y, hy, z⟩ := hr.co i (by omega)
        exact ⟨x, ms x hx, y, ms y hy, z⟩
    · intro i j hi hj ne
      by_cases a : i = L
      · have hj' : j < L := by omega
        subst a
        refine ⟨b, mb, put i b, mp, ?_⟩
        rw [e1 j hj', e2, e3]; simp
      · by_cases a' : j = L
        · have hi' : i < L := by omega
          subst a'
          refine ⟨b, mb, put j b, mp, ?_⟩
          rw [e1 i hi', e2, e3]; simp
        · obtain ⟨x, hx, y, hy, z⟩ := hr.li i j (by omega) (by omega) ne
          exact ⟨x, ms x hx, y, ms y hy, z⟩
theorem Closed.mem {S S' : List W} (h : Closed n S) (e : ∀ x, x ∈ S' ↔ x ∈ S) : Closed n S' := fun x hx y hy z hz => by
  obtain ⟨u, hu, q⟩ := h x ((e x).mp hx) y ((e y).mp hy) z ((e z).mp hz)
  exact ⟨u, (e u).mpr hu, q⟩
theorem Red.mem {S S' : List W} (h : Red n S) (e : ∀ x, x ∈ S' ↔ x ∈ S) : Red n S' :=
  ⟨fun i hi => by obtain ⟨x, hx, y, hy, q⟩ := h.co i hi; exact ⟨x, (e x).mpr hx, y, (e y).mpr hy, q⟩,
   fun i j hi hj ne => by obtain ⟨x, hx, y, hy, q⟩ := h.li i j hi hj ne; exact ⟨x, (e x).mpr hx, y, (e y).mpr hy, q⟩⟩
/-- letters moved and turned over -/
def tw (o : Nat → Nat) (t : Nat → Bool) (x : W) : W := fun j => x (o j) ^^ t j
theorem Closed.tw {o : Nat → Nat} {t : Nat → Bool} (h : Closed n S) (ho : ∀ j, j < n → o j < n) : Closed n (S.map (tw o t)) := fun x hx y hy z hz => by
  obtain ⟨x1, hx1, rfl⟩ := List.mem_map.mp hx
  obtain ⟨y1, hy1, rfl⟩ := List.mem_map.mp hy
  obtain ⟨z1, hz1, rfl⟩ := List.mem_map.mp hz
  obtain ⟨u, hu, e⟩ := h x1 hx1 y1 hy1 z1 hz1
  refine ⟨_, List.mem_map.mpr ⟨u, hu, rfl⟩, fun k hk => ?_⟩
  show (u (o k) ^^ t k) = maj (x1 (o k) ^^ t k) (y1 (o k) ^^ t k) (z1 (o k) ^^ t k)
  rw [e (o k) (ho k hk)]
  show (maj (x1 (o k)) (y1 (o k)) (z1 (o k)) ^^ t k) = _
  cases x1 (o k) <;> cases y1 (o k) <;> cases z1 (o k) <;> cases t k <;> rfl
theorem Red.tw {o : Nat → Nat} {t : Nat → Bool} (h : Red n S) (ho : ∀ j, j < n → o j < n) (inj : ∀ i j, i < n → j < n → o i = o j → i = j) : Red n (S.map (tw o t)) where
  co := fun i hi => by
    obtain ⟨x, hx, y, hy, q⟩ := h.co (o i) (ho i hi)
    refine ⟨_, List.mem_map.mpr ⟨x, hx, rfl⟩, _, List.mem_map.mpr ⟨y, hy, rfl⟩, ?_⟩
    show (x (o i) ^^ t i) ≠ (y (o i) ^^ t i)
    revert q; generalize x (o i) = a, y (o i) = b, t i = c; revert a b c; decide
  li := fun i j hi hj ne => by
    obtain ⟨x, hx, y, hy, q⟩ := h.li (o i) (o j) (ho i hi) (ho j hj) fun e => ne (inj i j hi hj e)
    refine ⟨_, List.mem_map.mpr ⟨x, hx, rfl⟩, _, List.mem_map.mpr ⟨y, hy, rfl⟩, ?_⟩
    show ((x (o i) ^^ t i) == (y (o i) ^^ t i)) ≠ ((x (o j) ^^ t j) == (y (o j) ^^ t j))
    revert q; generalize x (o i) = a, y (o i) = b, t i = c, x (o j) = a', y (o j) = b', t j = c'; revert a b c a' b' c'; decide
end Y
set_option linter.all false
set_option maxRecDepth 100000
/-! Pa: mirrors' own words, evaluated. -/
namespace Z
open PySem L2
theorem bko {α β : Type} {a : α} {m : M α} (k : α → M β) (h : m = .ok a) : bnd m k = k a := by subst h; rfl
theorem bo {α β : Type} (a : α) (k : α → M β) : bnd (.ok a) k = k a := bko k (Eq.refl _)
theorem noer_ok {α : Type} {m : M α} {a : α} (h : m = .ok a) : noer m = .ok a := by subst h; rfl
theorem gt_ok {α : Type} {xs : List α} {i : Int} (h0 : 0 ≤ i) (h1 : i < xs.length) : ∃ a, xs[i.toNat]? = some a ∧ gt xs i = .ok a := by
  have h : i.toNat < xs.length := by omega
  refine ⟨xs[i.toNat], List.getElem?_eq_getElem h, ?_⟩
  unfold gt atI ixN
  simp [h0, h1, h]
theorem gt_n {α : Type} {xs : List α} {k : Nat} {a : α} (h : xs[k]? = some a) : gt xs (k : Int) = .ok a := by
  obtain ⟨l, e⟩ := List.getElem?_eq_some_iff.mp h
  obtain ⟨b, e1, e2⟩ := gt_ok (xs := xs) (i := (k : Int)) (by omega) (by omega)
  rw [e2]
  have : xs[k]? = some b := e1
  rw [h] at this; cases this; rfl
theorem chk_ok {α : Type} {p : Prop} [Decidable p] {a : α} (h : p) : chk p a = .ok a := if_pos h
theorem mmod_ok {x y : Int} (h : 0 < y) : mmod x y = .ok (x % y) := chk_ok h
theorem mdiv_ok {x y : Int} (h : 0 < y) (h' : y < 1073741824) : mdiv x y = .ok (x / y) := chk_ok ⟨h, h'⟩
theorem mmul_r {x y : Int} (h : -(2 ^ 64) < y) (h' : y < 2 ^ 64) : mmul x y = .ok (x * y) := chk_ok (.inr ⟨h, h'⟩)
theorem mmul_l {x y : Int} (h : -(2 ^ 64) < x) (h' : x < 2 ^ 64) : mmul x y = .ok (x * y) := chk_ok (.inl ⟨h, h'⟩)
theorem mshl_ok {y : Int} (h : 0 ≤ y) (h' : y ≤ 1000000) {x : Int} (hx : x.natAbs < 2 ^ 64) : mshl x y = .ok (x * 2 ^ y.toNat) := chk_ok ⟨h, h', hx⟩
theorem mshr_ok {x y : Int} (h : 0 ≤ y) : mshr x y = .ok (x / 2 ^ y.toNat) := chk_ok h
theorem mpow_ok {x y : Int} (h : 0 ≤ y) (h' : y ≤ 1000000) (hx : x.natAbs < 2 ^ 64) : mpow x y = .ok (x ^ y.toNat) := chk_ok ⟨h, h', hx⟩
theorem rng_ok {a b : Int} (h : -(2 ^ 62) ≤ a) (h1 : a < 2 ^ 62) (h2 : -(2 ^ 62) ≤ b) (h3 : b < 2 ^ 62) : rng a b = .ok (rangeL a b) := chk_ok ⟨h, h1, h2, h3⟩
theorem sizeLine_eq : sizeLine = 16777216 := by unfold sizeLine; exact Eq.refl _
/-- range(n): the ints -/
def rg (n : Nat) : List Int := (List.range n).map fun k : Nat => (k : Int)
theorem rangeL_0 (n : Nat) : rangeL 0 (n : Int) = rg n := by
  unfold rangeL rg
  simp
theorem rng_n {n : Nat} (h : n < 2 ^ 60) : rng 0 (n : Int) = .ok (rg n) := by
  rw [rng_ok (by decide) (by decide) (by omega) (by omega), rangeL_0]
theorem lrg_n {n : Nat} (h : n ≤ 2 ^ 24) : lrg 0 (n : Int) = .ok (rg n) := by
  unfold lrg
  rw [chk_ok, rangeL_0]
  exact ⟨by decide, by decide, by omega, by omega, by omega⟩
theorem apd_ok {α : Type} {xs : List α} {x : α} (h : xs.length < 16777216) : apd xs x = .ok (xs ++ [x]) := chk_ok (by rw [sizeLine_eq]; exact h)
/-! loops with an invariant -/
theorem forN_inv {S α : Type} {f : S → α → M S} (I : List α → S → Prop) : ∀ (l : List α) (done : List α) (s : S), I done s →
    (∀ d a s, (∃ r, done ++ l = d ++ a :: r) → I d s → ∃ s', f s a = .ok s' ∧ I (d ++ [a]) s') → ∃ s', forN l s f = .ok s' ∧ I (done ++ l) s'
  | [], done, s, h, _ => ⟨s, rfl, by rw [List.append_nil]; exact h⟩
  | a :: l, done, s, h, st => by
    obtain ⟨s1, e1, h1⟩ := st done a s ⟨l, rfl⟩ h
    obtain ⟨s2, e2, h2⟩ := forN_inv I l (done ++ [a]) s1 h1 fun d b t ⟨r, e⟩ i => st d b t ⟨r, by rw [← e]; simp⟩ i
    refine ⟨s2, ?_, by simpa using h2⟩
    show bnd (f s a) _ = _
    rw [bko _ e1]; exact e2
theorem forN_ok {S α : Type} {f : S → α → M S} {g : S → α → S} (l : List α) (s : S) (h : ∀ s a, a ∈ l → f s a = .ok (g s a)) : forN l s f = .ok (l.foldl g s) := by
  induction l generalizing s with
  | nil => rfl
  | cons a l ih =>
    show bnd (f s a) _ = _
    rw [bko _ (h s a (by simp))]
    exact ih (g s a) fun s b hb => h s b (by simp [hb])
theorem lcP_ok {α β : Type} {mc : α → M Bool} {me : α → M β} {c : α → Bool} {e : α → β} : ∀ l : List α, (∀ a ∈ l, mc a = .ok (c a)) → (∀ a ∈ l, c a = true → me a = .ok (e a)) → lcP l mc me = .ok ((l.filter c).map e)
  | [], _, _ => rfl
  | a :: l, h, h' => by
    have ih := lcP_ok l (fun b hb => h b (by simp [hb])) fun b hb => h' b (by simp [hb])
    unfold lcP
    rw [bko _ (noer_ok (h a (by simp)))]
    cases q : c a with
    | true => simp only [if_true, noer_ok (h' a (by simp) q), bo, ih, List.filter_cons_of_pos q, List.map_cons]
    | false =>
      have q' : ¬ c a = true := by rw [q]; decide
      simp only [Bool.false_eq_true, if_false, ih, List.filter_cons_of_neg q']
theorem lcM_ok {ρ α β : Type} {m : M ρ} {l : ρ → List α} {mc : α → M Bool} {me : α → M β} {r : ρ} (c : α → Bool) (e : α → β) (hm : m = .ok r) (hl : (l r).length ≤ 16777216) (h : ∀ a ∈ l r, mc a = .ok (c a)) (h' : ∀ a ∈ l r, c a = true → me a = .ok (e a)) :
    lcM m l mc me = .ok (((l r).filter c).map e) := by
  unfold lcM
  rw [bko _ hm, bko (a := ()) _ (chk_ok (by rw [sizeLine_eq]; exact hl))]
  exact lcP_ok _ h h'
/-- no test -/
theorem lcM_ok1 {ρ α β : Type} {m : M ρ} {l : ρ → List α} {me : α → M β} {r : ρ} (e : α → β) (hm : m = .ok r) (hl : (l r).length ≤ 16777216) (h' : ∀ a ∈ l r, me a = .ok (e a)) :
    lcM m l (fun _ => .ok true) me = .ok ((l r).map e) := by
  rw [lcM_ok (fun _ => true) e hm hl (fun _ _ => rfl) fun a ha _ => h' a ha]
  rw [List.filter_eq_self.mpr fun _ _ => rfl]
theorem lcE_inv {α β S : Type} {f : S → α → M (β × S)} (I : List β → S → Prop) : ∀ (l : List α) (done : List β) (s : S), I done s → (∀ d a s, a ∈ l → I d s → ∃ b s', f s a = .ok (b, s') ∧ I (d ++ [b]) s') →
    ∃ bs s', lcE l s f = .ok (bs, s') ∧ bs.length = l.length ∧ I (done ++ bs) s'
  | [], done, s, h, _ => ⟨[], s, rfl, rfl, by rw [List.append_nil]; exact h⟩
  | a :: l, done, s, h, st => by
    obtain ⟨b, s1, e1, h1⟩ := st done a s (by simp) h
    obtain ⟨bs, s2, e2, hl, h2⟩ := lcE_inv I l (done ++ [b]) s1 h1 fun d c t hc i => st d c t (by simp [hc]) i
    refine ⟨b :: bs, s2, ?_, by simp [hl], by simpa using h2⟩
    unfold lcE
    rw [bko _ (noer_ok e1)]
    simp only [e2, bo]
theorem lcEM_inv {ρ α β S : Type} {m : M ρ} {l : ρ → List α} {s : S} {f : S → α → M (β × S)} {r : ρ} (I : List β → S → Prop) (hm : m = .ok r) (hl : (l r).length ≤ 16777216) (h : I [] s) (st : ∀ d a s, a ∈ l r → I d s → ∃ b s', f s a = .ok (b, s') ∧ I (d ++ [b]) s') :
    ∃ bs s', lcEM m l s f = .ok (bs, s') ∧ bs.length = (l r).length ∧ I bs s' := by
  unfold lcEM
  rw [bko _ hm, bko (a := ()) _ (chk_ok (by rw [sizeLine_eq]; exact hl))]
  obtain ⟨bs, s', e, q, i⟩ := lcE_inv I (l r) [] s h st
  exact ⟨bs, s', e, q, by simpa using i⟩
end Z
set_option linter.all false
set_option maxRecDepth 100000
/-! Pb: bits, permutations. -/
namespace Z
open PySem L2
theorem band_n (a b : Nat) : band (a : Int) (b : Int) = ((a &&& b : Nat) : Int) := by
  unfold band Builtin.bitAnd
  have h1 : decide (0 ≤ (a : Int)) = true := decide_eq_true (by omega)
  have h2 : decide (0 ≤ (b : Int)) = true := decide_eq_true (by omega)
  rw [h1, h2]
  simp
theorem bor_n (a b : Nat) : bor (a : Int) (b : Int) = ((a ||| b : Nat) : Int) := by
  unfold bor Builtin.bitOr Builtin.bitAnd
  have h1 : decide (0 ≤ Builtin.bitNot (a : Int)) = false := decide_eq_false (by unfold Builtin.bitNot; omega)
  have h2 : decide (0 ≤ Builtin.bitNot (b : Int)) = false := decide_eq_false (by unfold Builtin.bitNot; omega)
  rw [h1, h2]
  unfold Builtin.bitNot
  have e1 : -(-(a : Int) - 1) - 1 = (a : Int) := by omega
  have e2 : -(-(b : Int) - 1) - 1 = (b : Int) := by omega
  simp only [e1, e2, Int.toNat_natCast]
  omega
theorem oxa : ∀ a b : Nat, (a ^^^ b) + (a &&& b) = a ||| b := by
  intro a
  induction a using Nat.strongRecOn with
  | ind a ih =>
    intro b
    by_cases h : a = 0
    · subst h; simp
    · have := ih (a / 2) (by omega) (b / 2)
      have e1 : (a ^^^ b) / 2 = a / 2 ^^^ b / 2 := Nat.xor_div_two
      have e2 : (a &&& b) / 2 = a / 2 &&& b / 2 := Nat.and_div_two
      have e3 : (a ||| b) / 2 = a / 2 ||| b / 2 := Nat.or_div_two
      rw [← e1, ← e2, ← e3] at this
      have m1 : (a ^^^ b) % 2 = (a % 2 ^^^ b % 2) := by have := Nat.xor_mod_two_pow (a := a) (b := b) (n := 1); simpa using this
      have m2 : (a &&& b) % 2 = (a % 2 &&& b % 2) := by have := Nat.and_mod_two_pow (a := a) (b := b) (n := 1); simpa using this
      have m3 : (a ||| b) % 2 = (a % 2 ||| b % 2) := by have := Nat.or_mod_two_pow (a := a) (b := b) (n := 1); simpa using this
      have : (a % 2 ^^^ b % 2) + (a % 2 &&& b % 2) = (a % 2 ||| b % 2) := by
        rcases Nat.mod_two_eq_zero_or_one a with x | x <;> rcases Nat.mod_two_eq_zero_or_one b with y | y <;> rw [x, y] <;> rfl
      omega
theorem bxor_n (a b : Nat) : bxor (a : Int) (b : Int) = ((a ^^^ b : Nat) : Int) := by
  have h : bxor (a : Int) (b : Int) = bor (a : Int) (b : Int) - band (a : Int) (b : Int) := Eq.refl _
  rw [h, bor_n, band_n]
  have := oxa a b
  omega
theorem seqIx_ok {i : Int} {n : Nat} (h0 : 0 ≤ i) (h1 : i < n) : seqIndex? i n = some i.toNat := by
  unfold seqIndex?
  have : ¬ i < 0 := by omega
  simp [this, h0, h1]
theorem popI_ok {α : Type} {xs : List α} {i : Int} (h0 : 0 ≤ i) (h1 : i < xs.length) (hl : xs.length ≤ 16777216) : ∃ x, xs[i.toNat]? = some x ∧ popI xs i = .ok (x, xs.eraseIdx i.toNat) := by
  have h : i.toNat < xs.length := by omega
  refine ⟨xs[i.toNat], List.getElem?_eq_getElem h, ?_⟩
  unfold popI
  rw [seqIx_ok h0 h1]
  simp only [List.getElem?_eq_getElem h]
  exact chk_ok (by rw [sizeLine_eq]; exact hl)
theorem perm_erase {α : Type} : ∀ {xs : List α} {k : Nat} {x : α}, xs[k]? = some x → (x :: xs.eraseIdx k).Perm xs
  | [], _, _, h => by simp at h
  | a :: l, 0, x, h => by simp at h; subst h; simp
  | a :: l, k + 1, x, h => by
    have := perm_erase (xs := l) (k := k) (x := x) (by simpa using h)
    simp only [List.eraseIdx_cons_succ]
    exact (List.Perm.swap a x _).trans (this.cons a)
theorem mem_rg {n : Nat} {x : Int} : x ∈ rg n ↔ 0 ≤ x ∧ x < n := by
  unfold rg
  simp only [List.mem_map, List.mem_range]
  constructor
  · rintro ⟨k, h, rfl⟩; omega
  · intro ⟨h, h'⟩; exact ⟨x.toNat, by omega, by omega⟩
theorem len_rg (n : Nat) : (rg n).length = n := by unfold rg; simp
theorem nodup_rg (n : Nat) : (rg n).Nodup := by
  unfold rg
  exact List.Pairwise.map _ (fun a b h => by intro e; exact h (by omega)) List.nodup_range
theorem rg_get {n k : Nat} (h : k < n) : (rg n)[k]? = some (k : Int) := by
  unfold rg
  simp [h]
theorem rg_map {β : Type} {n : Nat} (f : Int → β) : (rg n).map f = (List.range n).map fun k : Nat => f (k : Int) := by
  unfold rg; rw [List.map_map]; exact Eq.refl _
end Z
set_option linter.all false
set_option maxRecDepth 100000
/-! Pc: orders, sorted rows. -/
namespace Z
open PySem L2
/-- a strict total order, told by Bools -/
structure SO {α : Type} (lt : α → α → Bool) : Prop where
  irr : ∀ a, lt a a = false
  tr : ∀ a b c, lt a b = true → lt b c = true → lt a c = true
  tri : ∀ a b, a ≠ b → lt a b = true ∨ lt b a = true
theorem SO.asym {α : Type} {lt : α → α → Bool} (h : SO lt) {a b : α} (e : lt a b = true) : lt b a = false := by
  cases q : lt b a with
  | false => rfl
  | true => have := h.tr a b a e q; rw [h.irr] at this; cases this
theorem SO.int : SO fun a b : Int => decide (a < b) where
  irr := fun a => decide_eq_false (by omega)
  tr := fun a b c h1 h2 => by simp only [decide_eq_true_eq] at *; omega
  tri := fun a b h => by simp only [decide_eq_true_eq]; omega
theorem SO.lx {α : Type} [DecidableEq α] {lt : α → α → Bool} (h : SO lt) : SO (lxLt lt) where
  irr := fun a => by
    induction a with
    | nil => rfl
    | cons x xs ih => unfold lxLt; rw [if_pos rfl]; exact ih
  tr := by
    intro a
    induction a with
    | nil =>
      intro b c h1 h2
      cases b with
      | nil => cases h1
      | cons y ys => cases c with
        | nil => cases h2
        | cons z zs => rfl
    | cons x xs ih =>
      intro b c h1 h2
      cases b with
      | nil => cases h1
      | cons y ys =>
        cases c with
        | nil => cases h2
        | cons z zs =>
          unfold lxLt at h1 h2 ⊢
          by_cases e1 : x = y
          · subst e1
            rw [if_pos rfl] at h1
            by_cases e2 : x = z
            · subst e2
              rw [if_pos rfl] at h2 ⊢
              exact ih ys zs h1 h2
            · rw [if_neg e2] at h2 ⊢; exact h2
          · rw [if_neg e1] at h1
            by_cases e2 : y = z
            · subst e2
              rw [if_neg e1]; exact h1
            · rw [if_neg e2] at h2
              have t := h.tr x y z h1 h2
              by_cases e3 : x = z
              · subst e3
                rw [h.irr] at t; cases t
              · rw [if_neg e3]; exact t
  tri := by
    intro a
    induction a with
    | nil =>
      intro b hb
      cases b with
      | nil => exact absurd rfl hb
      | cons y ys => exact .inl rfl
    | cons x xs ih =>
      intro b hb
      cases b with
      | nil => exact .inr rfl
      | cons y ys =>
        unfold lxLt
        by_cases e : x = y
        · subst e
          rw [if_pos rfl, if_pos rfl]
          exact ih ys fun q => hb (by rw [q])
        · have e' : ¬ y = x := fun q => e q.symm
          rw [if_neg e, if_neg e']
          exact h.tri x y e
theorem sorted_of {α : Type} {lt : α → α → Bool} (h : SO lt) {l : List α} (nd : l.Nodup) : (l.mergeSort fun a b => !lt b a).Pairwise fun a b => lt a b = true := by
  have h1 : (l.mergeSort fun a b => !lt b a).Pairwise fun a b => (!lt b a) = true := by
    refine List.pairwise_mergeSort (fun a b c h1 h2 => ?_) (fun a b => ?_) l
    · simp only [Bool.not_eq_true'] at h1 h2 ⊢
      cases q : lt c a with
      | false => rfl
      | true =>
        by_cases e : a = b
        · subst e; rw [q] at h2; exact h2
        · rcases h.tri a b e with z | z
          · have := h.tr c a b q z; rw [this] at h2; exact h2
          · rw [z] at h1; exact h1
    · cases q : lt b a with
      | false => simp
      | true => rw [h.asym q]; simp
  have h2 : (l.mergeSort fun a b => !lt b a).Nodup := (List.mergeSort_perm l _).nodup_iff.mpr nd
  refine (List.Pairwise.and h1 h2).imp fun {a b} ⟨x, y⟩ => ?_
  simp only [Bool.not_eq_true'] at x
  rcases h.tri a b y with z | z
  · exact z
  · rw [z] at x; cases x
theorem sortT_perm (l : List (List Int)) : (sortT l).Perm l := List.mergeSort_perm l _
theorem sortT_asc {l : List (List Int)} (nd : l.Nodup) : (sortT l).Pairwise fun a b => lxLt (fun x y : Int => decide (x < y)) a b = true := sorted_of SO.int.lx nd
end Z
set_option linter.all false
set_option maxRecDepth 100000
/-! Pd: more of the mirrors' words. -/
namespace Z
open PySem L2
theorem forN_unit {α : Type} {f : Unit → α → M Unit} : ∀ l : List α, (∀ a ∈ l, f () a = .ok ()) → forN l () f = .ok ()
  | [], _ => rfl
  | a :: l, h => by
    show bnd (f () a) _ = _
    rw [bko _ (h a (by simp))]
    exact forN_unit l fun b hb => h b (by simp [hb])
theorem forR_go {S α ζ : Type} {f : S → α → M (Lo S ζ)} {g : S → α → S} : ∀ (l : List α) (s : S), (∀ s a, a ∈ l → f s a = .ok (.go (g s a))) → forR l s f = .ok (.go (l.foldl g s))
  | [], _, _ => rfl
  | a :: l, s, h => by
    show bnd (f s a) _ = _
    rw [bko _ (h s a (by simp))]
    exact forR_go l (g s a) fun s b hb => h s b (by simp [hb])
theorem forR_unit {α ζ : Type} {f : Unit → α → M (Lo Unit ζ)} (l : List α) (h : ∀ a ∈ l, f () a = .ok (.go ())) : forR l () f = .ok (.go ()) :=
  forR_go (g := fun _ _ => ()) l () fun _ a ha => h a ha
theorem mem_enumL {α : Type} {l : List α} {p : Int × α} : p ∈ enumL l ↔ ∃ k : Nat, p.1 = (k : Int) ∧ l[k]? = some p.2 := by
  unfold enumL
  simp only [List.mem_map]
  constructor
  · rintro ⟨q, hq, rfl⟩
    exact ⟨q.2, rfl, List.mem_zipIdx_iff_getElem?.mp hq⟩
  · rintro ⟨k, e, h⟩
    obtain ⟨i, x⟩ := p
    simp only at e h
    subst e
    exact ⟨(x, k), List.mem_zipIdx_iff_getElem?.mpr h, rfl⟩
theorem len_enumL {α : Type} (l : List α) : (enumL l).length = l.length := by unfold enumL; simp
theorem enumL_at {α : Type} {l : List α} {k : Nat} : (enumL l)[k]? = (l[k]?).map fun x => ((k : Int), x) := by
  unfold enumL
  rw [List.getElem?_map, List.getElem?_zipIdx]
  cases l[k]? <;> simp
theorem enumL_split {α : Type} {l : List α} {d r : List (Int × α)} {a : Int × α} (h : enumL l = d ++ a :: r) : a.1 = (d.length : Int) ∧ l[d.length]? = some a.2 ∧ d.length < l.length := by
  have h2 : (enumL l)[d.length]? = some a := by rw [h]; simp
  rw [enumL_at] at h2
  cases q : l[d.length]? with
  | none => rw [q] at h2; cases h2
  | some x =>
    rw [q] at h2
    have := Option.some.inj h2
    subst this
    exact ⟨rfl, rfl, (List.getElem?_eq_some_iff.mp q).1⟩
/-- range(a, b) of naturals -/
theorem rangeL_nat {a b : Nat} {x : Int} : x ∈ rangeL (a : Int) (b : Int) ↔ ∃ k : Nat, x = (k : Int) ∧ a ≤ k ∧ k < b := by
  unfold rangeL
  simp only [List.mem_map, List.mem_range]
  constructor
  · rintro ⟨k, h, rfl⟩
    exact ⟨a + k, by omega, by omega, by omega⟩
  · rintro ⟨k, rfl, h1, h2⟩
    exact ⟨k - a, by omega, by omega⟩
theorem rng_nat {a b : Nat} (ha : a < 2 ^ 60) (hb : b < 2 ^ 60) : rng (a : Int) (b : Int) = .ok (rangeL (a : Int) (b : Int)) := rng_ok (by omega) (by omega) (by omega) (by omega)
theorem mem_addS {l : List Int} {k x : Int} : x ∈ addS l k ↔ x ∈ l ∨ x = k := by
  unfold addS
  split
  · constructor
    · exact .inl
    · rintro (h | rfl)
      · exact h
      · assumption
  · simp
theorem len_addS (l : List Int) (k : Int) : (addS l k).length ≤ l.length + 1 := by
  unfold addS; split <;> simp
theorem mem_foldl_addS : ∀ (ns l : List Int) (x : Int), x ∈ ns.foldl addS l ↔ x ∈ l ∨ x ∈ ns
  | [], l, x => by simp
  | n :: ns, l, x => by
    rw [List.foldl_cons, mem_foldl_addS ns, mem_addS]
    simp only [List.mem_cons]
    constructor
    · rintro ((h | h) | h)
      · exact .inl h
      · exact .inr (.inl h)
      · exact .inr (.inr h)
    · rintro (h | h | h)
      · exact .inl (.inl h)
      · exact .inl (.inr h)
      · exact .inr h
theorem mem_setOf {ns : List Int} {x : Int} : x ∈ setOf ns ↔ x ∈ ns := by
  unfold setOf
  rw [mem_foldl_addS]; simp
theorem addM_ok {l : List Int} {k : Int} (h : l.length < 4000) : addM l k = .ok (addS l k) := chk_ok (by unfold scanBound; omega)
theorem setOf_chk {ns : List Int} (h : ns.length < 4000) : chk (ns.length + 1 < scanBound) (setOf ns) = .ok (setOf ns) := chk_ok (by unfold scanBound; omega)
/-- a loop that fills a list -/
theorem forN_fill {α β : Type} {f : List β → α → M (List β)} {g : α → List β} {B : Nat} (l : List α) (s : List β) (h : ∀ s a, a ∈ l → s.length ≤ B → f s a = .ok (s ++ g a)) (hb : s.length + (l.flatMap g).length ≤ B) : forN l s f = .ok (s ++ l.flatMap g) := by
  induction l generalizing s with
  | nil => simp [forN]
  | cons a l ih =>
    show bnd (f s a) _ = _
    simp only [List.flatMap_cons, List.length_append] at hb
    rw [bko _ (h s a (by simp) (by omega))]
    rw [List.flatMap_cons, ← List.append_assoc]
    exact ih (s ++ g a) (fun s b hb' => h s b (by simp [hb'])) (by simp only [List.length_append]; omega)
end Z
set_option linter.all false
set_option maxRecDepth 100000
/-! P58a: the draws. -/
namespace Z
open PySem L2
abbrev Flow := (List Int) × Int × Int × Int × Bool
def FOK (f : Flow) : Prop := 0 ≤ f.2.1 ∧ 0 ≤ f.2.2.2.1
theorem cell_ok (sc : List Int) (p : Int) (h : 0 ≤ p) : ∃ v, m__law_cell (sc, p) = .ok v := by
  unfold m__law_cell
  simp only [bo, bnd_ret, decide_eq_true_eq]
  by_cases h1 : p < (sc.length : Int)
  · rw [if_pos h1]
    obtain ⟨a, _, e⟩ := gt_ok h h1
    exact ⟨a, e⟩
  · rw [if_neg h1]
    by_cases h2 : (sc.length : Int) = 0
    · rw [if_pos h2, mmul_l (by decide) (by decide)]
      exact ⟨_, bo _ _⟩
    · rw [if_neg h2]
      have hp : (0 : Int) < sc.length := by omega
      obtain ⟨a, _, e⟩ := gt_ok (xs := sc) (i := p % (sc.length : Int)) (Int.emod_nonneg _ (by omega)) (Int.emod_lt_of_pos _ hp)
      simp only [mmod_ok hp, bo, e, mdiv_ok (x := a) (y := 7) (by decide) (by decide), mmul_l (x := 31) (y := p) (by decide) (by decide)]
      exact ⟨_, Eq.refl _⟩
theorem take_ok (f : Flow) (many : Int) (hf : FOK f) (h : 0 < many) (h' : many < 1073741824) : ∃ (t : Int) (f' : Flow), m__law_take (f, many) = .ok (t, f') ∧ FOK f' ∧ 0 ≤ t ∧ t < many := by
  obtain ⟨hf1, hf2⟩ := hf
  unfold m__law_take
  simp only [bo, bnd_ret, decide_eq_true_eq]
  have key : ∀ g : Flow, FOK g → ∃ (t : Int) (f' : Flow), (if g.2.2.2.2 = true then bnd (mmod g.2.2.1 many) fun q106 => bnd (mdiv g.2.2.1 many) fun q112 =>
              M.ok (q106, g.1, g.2.1, q112, g.2.2.2.1 + 1, g.2.2.2.2)
        else
          bnd
            (bnd
              (bnd
                (bnd
                  (bnd
                    (bnd (mmul g.2.2.1 48271) fun r116 =>
                      bnd (mmul (g.2.2.2.1 + 1) 69621) fun r119 => M.ok (r116 + r119))
                    fun r120 => M.ok (r120 + 11))
                  fun r47 => M.ok (r47, ()))
                fun q124 => M.ok q124.fst)
              fun r125 => mmod r125 2147483647)
            fun q127 =>
            bnd
              (bnd
                (bnd
                  (bnd
                    (bnd
                      (bnd
                        (bnd
                          (bnd
                            (bnd (mmul q127 q127) fun r130 =>
                              bnd (mmul (g.2.2.2.1 + 1) 40692) fun r133 => M.ok (r130 + r133))
                            fun r134 => bnd (mdiv q127 7) fun r137 => M.ok (r134 + r137))
                          fun r47 => M.ok (r47, ()))
                        fun q124 => M.ok q124.fst)
                      fun r141 => mmod r141 68719476731)
                    fun r47 => M.ok (r47, ()))
                  fun q124 => M.ok q124.fst)
                fun r104 => mmod r104 many)
              fun q148 => M.ok (q148, g.1, g.2.1, q127, g.2.2.2.1 + 1, g.2.2.2.2)) = .ok (t, f') ∧ FOK f' ∧ 0 ≤ t ∧ t < many := by
    intro g ⟨g1, g2⟩
    by_cases c : g.2.2.2.2 = true
    · rw [if_pos c]
      simp only [mmod_ok h, mdiv_ok h h', bo]
      exact ⟨_, _, Eq.refl _, ⟨g1, by show 0 ≤ g.2.2.2.1 + 1; omega⟩, Int.emod_nonneg _ (by omega), Int.emod_lt_of_pos _ h⟩
    · rw [if_neg c]
      have b0 : ∀ z : Int, 0 ≤ z % 2147483647 := fun z => Int.emod_nonneg _ (by decide)
      have b1 : ∀ z : Int, z % 2147483647 < 2147483647 := fun z => Int.emod_lt_of_pos _ (by decide)
      simp only [bo, mmul_r (y := 48271) (by decide) (by decide), mmul_r (y := 69621) (by decide) (by decide), mmul_r (y := 40692) (by decide) (by decide), mmod_ok (y := 2147483647) (by decide), mmod_ok (y := 68719476731) (by decide), mdiv_ok (y := 7) (by decide) (by decide), mmod_ok h]
      rw [mmul_r (by have := b0 (g.2.2.1 * 48271 + (g.2.2.2.1 + 1) * 69621 + 11); omega) (by have := b1 (g.2.2.1 * 48271 + (g.2.2.2.1 + 1) * 69621 + 11); omega)]
      simp only [bo]
      exact ⟨_, _, Eq.refl _, ⟨g1, by show 0 ≤ g.2.2.2.1 + 1; omega⟩, Int.emod_nonneg _ (by omega), Int.emod_lt_of_pos _ h⟩
  rw [mmod_ok (x := f.2.2.2.1) (y := 40) (by decide)]
  simp only [bo, decide_eq_true_eq]
  by_cases c : f.2.2.2.1 % 40 = 0
  · rw [if_pos c, mdiv_ok (x := f.2.2.2.1) (y := 40) (by decide) (by decide)]
    simp only [bo]
    obtain ⟨v, hv⟩ := cell_ok f.1 (f.2.1 + f.2.2.2.1 / 40) (by have := Int.ediv_nonneg hf2 (by decide : (0 : Int) ≤ 40); omega)
    rw [hv, mpow_ok (x := 10) (y := 18) (by decide) (by decide) (by decide)]
    simp only [bo]
    exact key (f.1, f.2.1, v, f.2.2.2.1, decide ((10 : Int) ^ (18 : Int).toNat ≤ v)) ⟨hf1, hf2⟩
  · rw [if_neg c, bo]
    exact key f ⟨hf1, hf2⟩
end Z
set_option linter.all false
set_option maxRecDepth 100000
/-! P58b: the shuffle, the bits drawn. -/
namespace Z
open PySem L2
theorem shuffle_ok (f : Flow) (n : Nat) (hn : n ≤ 1000) (hf : FOK f) : ∃ (o : List Int) (f' : Flow), m__law_shuffle (f, (n : Int)) = .ok (o, f') ∧ FOK f' ∧ o.Perm (rg n) := by
  unfold m__law_shuffle
  simp only [bo, bnd_ret]
  rw [lrg_n (by omega), rng_n (by omega)]
  simp only [bo]
  have key := forN_inv (f := fun (s358 : Flow × List Int × List Int) a357 => bnd
                (bnd
                  (bnd
                    (bnd (bnd (m__law_take (s358.1, (s358.2.1.length : Int))) fun r362 => M.ok (r362, ())) fun q364 =>
                      bnd (popI s358.2.1 q364.1.1) fun z365 => M.ok (z365, q364))
                    fun r366 => M.ok (r366, ()))
                  fun q368 => bnd (apd s358.2.2 q368.1.1.1) fun z369 => M.ok (z369, q368))
                fun q370 => M.ok (q370.2.1.2.1.2, q370.2.1.1.2, q370.1))
    (fun (d : List Int) (s : Flow × List Int × List Int) => FOK s.1 ∧ (s.2.1 ++ s.2.2).Perm (rg n) ∧ s.2.2.length = d.length) (rg n) [] (f, rg n, ([] : List Int)) ⟨hf, by simp, rfl⟩ ?st
  obtain ⟨s', e, i⟩ := key
  · rw [show forN (rg n) (f, rg n, ([] : List Int)) _ = _ from e]
    obtain ⟨i1, i2, i3⟩ := i
    refine ⟨s'.2.2, s'.1, bo _ _, i1, ?_⟩
    have hl := i2.length_eq
    rw [List.length_append, len_rg] at hl
    simp only [List.nil_append, len_rg] at i3
    have : s'.2.1 = [] := List.length_eq_zero_iff.mp (by omega)
    rw [this] at i2
    simpa using i2
  · rintro d a ⟨fl, lf, od⟩ ⟨r, hr⟩ ⟨h1, h2, h3⟩
    simp only at h1 h2 h3
    have hl := h2.length_eq
    rw [List.length_append, len_rg] at hl
    have hd : d.length < n := by
      have := congrArg List.length hr
      simp [len_rg] at this; omega
    have hp : 0 < lf.length := by omega
    obtain ⟨t, f', e, ok, t0, t1⟩ := take_ok fl (lf.length : Int) h1 (by omega) (by omega)
    obtain ⟨x, hx, ep⟩ := popI_ok (xs := lf) t0 t1 (by omega)
    simp only [e, bo, ep]
    rw [apd_ok (by omega)]
    simp only [bo]
    refine ⟨_, Eq.refl _, ok, ?_, ?_⟩
    · have p := perm_erase hx
      refine List.Perm.trans ?_ h2
      show (lf.eraseIdx t.toNat ++ (od ++ [x])).Perm (lf ++ od)
      refine List.Perm.trans ?_ (p.append_right od)
      rw [← List.append_assoc]
      exact List.perm_append_comm
    · show (od ++ [x]).length = _
      simp [h3]
theorem bits_ok (f : Flow) (n : Nat) (hn : n ≤ 1000) (hf : FOK f) : ∃ (o : List Int) (f' : Flow), lcEM (rng 0 (n : Int)) (fun r376 => r376) f (fun s380 _ => bnd (m__law_take (s380, 2)) fun w384 => M.ok (w384.1, w384.2)) = .ok (o, f') ∧ FOK f' ∧ o.length = n ∧ ∀ x ∈ o, x = 0 ∨ x = 1 := by
  obtain ⟨bs, s', e, hl, i1, i2⟩ := lcEM_inv (l := fun r : List Int => r) (s := f) (f := fun (s380 : Flow) (_ : Int) => bnd (m__law_take (s380, 2)) fun w384 => M.ok (w384.1, w384.2)) (fun (b : List Int) (s : Flow) => FOK s ∧ ∀ x ∈ b, x = 0 ∨ x = 1) (rng_n (n := n) (by omega)) (by rw [len_rg]; omega) ⟨hf, by simp⟩
    (fun d a s _ ⟨h1, h2⟩ => by
      obtain ⟨t, f', e, ok, t0, t1⟩ := take_ok s 2 h1 (by decide) (by decide)
      refine ⟨t, f', by rw [bko _ e], ok, fun x hx => ?_⟩
      rcases List.mem_append.mp hx with h | h
      · exact h2 x h
      · simp at h; omega)
  exact ⟨bs, s', e, i1, by rw [hl, len_rg], i2⟩
end Z
set_option linter.all false
set_option maxRecDepth 100000
/-! P58c: the web of masks. -/
namespace Z
open PySem L2 Y
abbrev iN (ms : List Nat) : List Int := ms.map fun m : Nat => (m : Int)
theorem iN_get {ms : List Nat} {k : Nat} (h : k < ms.length) : (iN ms)[k]? = some (((ms.getD k 0 : Nat)) : Int) := by
  simp [iN, List.getElem?_eq_getElem h, List.getD]
theorem gt_iN {ms : List Nat} {k : Nat} (h : k < ms.length) : gt (iN ms) (k : Int) = .ok ((ms.getD k 0 : Nat) : Int) := gt_n (iN_get h)
theorem nat_of {t : Int} (h : 0 ≤ t) : ∃ n : Nat, t = (n : Int) := ⟨t.toNat, by omega⟩
theorem nodup_one {α : Type} {l : List α} (hn : l.Nodup) (h : ∀ a ∈ l, ∀ b ∈ l, a = b) : l.length ≤ 1 := by
  match l, hn, h with
  | [], _, _ => simp
  | [a], _, _ => simp
  | a :: b :: t, hn, h =>
    have := h a (by simp) b (by simp)
    subst this
    simp at hn
theorem filt_rg (n : Nat) (c : Int → Bool) : ((rg n).filter c).map (fun q => q) = iN ((List.range n).filter fun k : Nat => c (k : Int)) := by
  unfold rg iN
  rw [List.filter_map]
  simp only [List.map_map]
  exact List.map_congr_left fun a _ => Eq.refl _
/-- who is alike on the fixed bits -/
theorem fixed_iff (a b x : Nat) : (a ^^^ b) &&& x = 0 ↔ ∀ i, x.testBit i = true → a.testBit i = b.testBit i := by
  constructor
  · intro h i hx
    have := congrArg (fun z => Nat.testBit z i) h
    simp only [Nat.testBit_and, Nat.testBit_xor, Nat.zero_testBit, hx, Bool.and_true] at this
    revert this
    cases a.testBit i <;> cases b.testBit i <;> simp
  · intro h
    apply Nat.eq_of_testBit_eq
    intro i
    simp only [Nat.testBit_and, Nat.testBit_xor, Nat.zero_testBit]
    cases q : x.testBit i with
    | false => simp
    | true => rw [h i q]; simp
structure Ch (ms : List Nat) (most : Nat) (ch : List Nat) : Prop where
  nd : ch.Nodup
  lt : ∀ k ∈ ch, k < ms.length
  ex : ∃ (b : Nat) (F : Nat → Prop), b ∈ ms ∧ ∀ k, k < ms.length → (k ∈ ch ↔ ∀ i, F i → (ms.getD k 0).testBit i = b.testBit i)
  le : ms.length + ch.length ≤ most
theorem pow20 {k : Nat} (h : k ≤ 20) : 2 ^ k < 1073741824 := Nat.lt_of_le_of_lt (Nat.pow_le_pow_right (by decide) h) (by decide)
theorem ipow (k : Nat) : (1 : Int) * 2 ^ ((k : Int)).toNat = ((2 ^ k : Nat) : Int) := by
  rw [Int.toNat_natCast, Int.one_mul]; simp
theorem chosen_ok (f : Flow) (ms : List Nat) (L most : Nat) (hL : L ≤ 40) (hf : FOK f) (h0 : 0 < ms.length) (hm : ms.length < most) (hmo : most ≤ 1000) (nd : ms.Nodup) :
    ∃ (ch : List Nat) (f' : Flow), m__law_chosen (f, iN ms, (L : Int), (most : Int)) = .ok (iN ch, f') ∧ FOK f' ∧ Ch ms most ch := by
  unfold m__law_chosen
  simp only [bo, bnd_ret, decide_eq_true_eq]
  have hlen : (iN ms).length = ms.length := by simp [iN]
  rw [hlen]
  -- base
  obtain ⟨t0, f0, e0, ok0, a0, b0⟩ := take_ok f (ms.length : Int) hf (by omega) (by omega)
  obtain ⟨j0, rfl⟩ := nat_of a0
  have hj : j0 < ms.length := by omega
  rw [e0]; simp only [bo]
  rw [gt_iN hj]; simp only [bo]
  -- kind
  obtain ⟨t1, f1, e1, ok1, a1, b1⟩ := take_ok f0 4 ok0 (by decide) (by decide)
  rw [e1]; simp only [bo]
  -- fixed
  have hmin : ∃ k : Nat, (if 20 < (L : Int) then 20 else (L : Int)) = (k : Int) ∧ k ≤ 20 := by
    by_cases c : 20 < (L : Int)
    · exact ⟨20, if_pos c, Nat.le_refl _⟩
    · exact ⟨L, if_neg c, by omega⟩
  obtain ⟨k0, hk0, hk1⟩ := hmin
  have p0 := pow20 hk1
  have p1 : 0 < 2 ^ k0 := Nat.two_pow_pos k0
  rw [hk0, mshl_ok (y := (k0 : Int)) (by omega) (by omega) (by decide), ipow]
  simp only [bo]
  obtain ⟨t2, f2, e2, ok2, a2, b2⟩ := take_ok f1 ((2 ^ k0 : Nat) : Int) ok1 (by omega) (by omega)
  obtain ⟨x2, rfl⟩ := nat_of a2
  rw [e2]; simp only [bo]
  have hA : ∃ (f3 : Flow) (x3 : Nat), (if 20 < (L : Int) then
                bnd
                  (bnd
                    (bnd
                      (bnd (bnd (mshl 1 ((L : Int) - 20)) fun r192 => M.ok (r192, ())) fun q224 =>
                        m__law_take (f2, q224.fst))
                      fun r225 => bnd (mshl r225.fst 20) fun z227 => M.ok (z227, r225, ()))
                    fun r228 => M.ok ((x2 : Int) + r228.fst, (), r228))
                  fun q230 => M.ok (q230.snd.snd.snd.fst.snd, q230.fst)
              else M.ok (f2, (x2 : Int))) = .ok (f3, (x3 : Int)) ∧ FOK f3 := by
    by_cases c : 20 < (L : Int)
    · rw [if_pos c]
      have e : (L : Int) - 20 = ((L - 20 : Nat) : Int) := by omega
      have p3 := pow20 (k := L - 20) (by omega)
      have p4 : 0 < 2 ^ (L - 20) := Nat.two_pow_pos _
      rw [e, mshl_ok (y := ((L - 20 : Nat) : Int)) (by omega) (by omega) (by decide), ipow]
      simp only [bo]
      obtain ⟨t3, f3, e3, ok3, a3, b3⟩ := take_ok f2 ((2 ^ (L - 20) : Nat) : Int) ok2 (by omega) (by omega)
      rw [e3]; simp only [bo]
      rw [mshl_ok (x := t3) (y := 20) (by decide) (by decide) (by omega)]
      simp only [bo]
      refine ⟨f3, x2 + t3.toNat * 2 ^ 20, ?_, ok3⟩
      have : (x2 : Int) + t3 * 2 ^ ((20 : Int)).toNat = ((x2 + t3.toNat * 2 ^ 20 : Nat) : Int) := by
        have e20 : ((20 : Int)).toNat = 20 := Eq.refl _
        rw [e20]
        have : t3 = (t3.toNat : Int) := by omega
        rw [this]; simp
      rw [this]
    · rw [if_neg c]; exact ⟨f2, x2, Eq.refl _, ok2⟩
  obtain ⟨f3, x3, e3, ok3⟩ := hA
  rw [e3]; simp only [bo]
  have hB : ∃ x4 : Nat, (if t1 = 0 then bnd (mshl 1 (L : Int)) fun r237 => M.ok (r237 - 1) else M.ok (x3 : Int)) = .ok (x4 : Int) := by
    by_cases c : t1 = 0
    · rw [if_pos c, mshl_ok (y := (L : Int)) (by omega) (by omega) (by decide), ipow]
      have := Nat.two_pow_pos L
      refine ⟨2 ^ L - 1, ?_⟩
      simp only [bo]
      have : ((2 ^ L : Nat) : Int) - 1 = ((2 ^ L - 1 : Nat) : Int) := by omega
      rw [this]
    · rw [if_neg c]; exact ⟨x3, Eq.refl _⟩
  obtain ⟨x4, e4⟩ := hB
  rw [e4]; simp only [bo]
  have hC : ∃ x5 : Nat, (if t1 = 1 then M.ok (0 : Int) else M.ok (x4 : Int)) = .ok (x5 : Int) := by
    by_cases c : t1 = 1
    · rw [if_pos c]; exact ⟨0, Eq.refl _⟩
    · rw [if_neg c]; exact ⟨x4, Eq.refl _⟩
  obtain ⟨x5, e5⟩ := hC
  rw [e5]; simp only [bo]
  have hD : ∃ (f6 : Flow) (x6 : Nat), (if t1 = 2 then
                      bnd
                        (bnd (m__law_take (f3, ((2 ^ k0 : Nat) : Int)))
                          fun r260 => M.ok (bor (x5 : Int) r260.fst, (), r260))
                        fun q262 => M.ok (q262.snd.snd.snd, q262.fst)
                    else M.ok (f3, (x5 : Int))) = .ok (f6, (x6 : Int)) ∧ FOK f6 := by
    by_cases c : t1 = 2
    · rw [if_pos c]
      obtain ⟨t6, f6, e6, ok6, a6, b6⟩ := take_ok f3 ((2 ^ k0 : Nat) : Int) ok3 (by omega) (by omega)
      obtain ⟨x6, rfl⟩ := nat_of a6
      rw [e6]; simp only [bo]
      exact ⟨f6, x5 ||| x6, by rw [bor_n], ok6⟩
    · rw [if_neg c]; exact ⟨f3, x5, Eq.refl _, ok3⟩
  obtain ⟨f6, x6, e6, ok6⟩ := hD
  rw [e6]; simp only [bo]
  have hget : ∀ a ∈ rg ms.length, ∃ k : Nat, a = (k : Int) ∧ k < ms.length := fun a ha => by
    obtain ⟨h1, h2⟩ := mem_rg.mp ha
    exact ⟨a.toNat, by omega, by omega⟩
  rw [lcM_ok (r := rg ms.length) (fun a => decide (band (bxor ((ms.getD a.toNat 0 : Nat) : Int) ((ms.getD j0 0 : Nat) : Int)) (x6 : Int) = 0)) (fun q => q) (rng_n (n := ms.length) (by omega)) (by rw [len_rg]; omega)
    (fun a ha => by
      obtain ⟨k, rfl, hk⟩ := hget a ha
      rw [gt_iN hk]; simp only [bo, Int.toNat_natCast]) (fun _ _ _ => Eq.refl _)]
  simp only [bo]
  rw [filt_rg]
  have hb : ms.getD j0 0 ∈ ms := by
    simp [List.getD, List.getElem?_eq_getElem hj]
  by_cases c : (most : Int) < (ms.length : Int) + ((iN ((List.range ms.length).filter fun k : Nat => decide (band (bxor ((ms.getD ((k : Int)).toNat 0 : Nat) : Int) ((ms.getD j0 0 : Nat) : Int)) (x6 : Int) = 0))).length : Int)
  · rw [if_pos c]
    rw [lcM_ok (r := rg ms.length) (fun a => decide (((ms.getD a.toNat 0 : Nat) : Int) = ((ms.getD j0 0 : Nat) : Int))) (fun q => q) (rng_n (n := ms.length) (by omega)) (by rw [len_rg]; omega)
      (fun a ha => by
        obtain ⟨k, rfl, hk⟩ := hget a ha
        rw [gt_iN hk]; simp only [bo, Int.toNat_natCast]) (fun _ _ _ => Eq.refl _)]
    simp only [bo]
    rw [filt_rg]
    refine ⟨_, f6, Eq.refl _, ok6, ?_, ?_, ⟨ms.getD j0 0, fun _ => True, hb, fun k hk => ?_⟩, ?_⟩
    · exact List.nodup_range.filter _
    · intro k hk; simp at hk; exact hk.1
    · simp only [List.mem_filter, List.mem_range, hk, true_and, Int.toNat_natCast, decide_eq_true_eq, true_implies]
      constructor
      · intro e i; have : ms.getD k 0 = ms.getD j0 0 := by omega
        rw [this]
      · intro e; rw [Nat.eq_of_testBit_eq e]
    · have : ((List.range ms.length).filter fun k : Nat => decide (((ms.getD ((k : Int)).toNat 0 : Nat) : Int) = ((ms.getD j0 0 : Nat) : Int))).length ≤ 1 := by
        refine nodup_one (List.nodup_range.filter _) fun a ha b hb => ?_
        simp only [List.mem_filter, List.mem_range, Int.toNat_natCast, decide_eq_true_eq] at ha hb
        have e : ms.getD a 0 = ms.getD b 0 := by omega
        have ha1 := ha.1; have hb1 := hb.1
        simp only [List.getD, List.getElem?_eq_getElem ha1, List.getElem?_eq_getElem hb1, Option.getD_some] at e
        exact (List.getElem_inj nd).mp e
      omega
  · rw [if_neg c]
    simp only [bo]
    refine ⟨_, f6, Eq.refl _, ok6, ?_, ?_, ⟨ms.getD j0 0, fun i => x6.testBit i = true, hb, fun k hk => ?_⟩, ?_⟩
    · exact List.nodup_range.filter _
    · intro k hk; simp at hk; exact hk.1
    · simp only [List.mem_filter, List.mem_range, hk, true_and, Int.toNat_natCast, decide_eq_true_eq]
      rw [bxor_n, band_n, ← fixed_iff]
      omega
    · simp only [iN, List.length_map] at c; omega
end Z
set_option linter.all false
set_option maxRecDepth 100000
/-! P58d: the web of masks, closed and reduced. -/
namespace Z
open PySem L2 Y
def wb (m : Nat) : W := fun k => m.testBit k
structure Web (most L : Nat) (ms : List Nat) : Prop where
  le : ms.length ≤ most
  ne : 0 < ms.length
  nd : ms.Nodup
  lt : ∀ m ∈ ms, m < 2 ^ L
  cl : Closed L (ms.map wb)
  re : Red L (ms.map wb)
theorem web0 {most : Nat} (h : 1 ≤ most) : Web most 0 [0] where
  le := h
  ne := by decide
  nd := by simp
  lt := by simp
  cl := fun x hx y hy z hz => ⟨x, hx, fun k hk => by omega⟩
  re := ⟨fun i hi => by omega, fun i j hi => by omega⟩
def grow (L : Nat) (ms ch : List Nat) : List Nat := ms ++ ch.map fun k => ms.getD k 0 ||| 2 ^ L
theorem bit_hi {m L : Nat} (h : m < 2 ^ L) : m.testBit L = false := Nat.testBit_lt_two_pow h
theorem wb_put (m L : Nat) : wb (m ||| 2 ^ L) = put L (wb m) := by
  funext k
  show (m ||| 2 ^ L).testBit k = if k = L then true else m.testBit k
  rw [Nat.testBit_or, Nat.testBit_two_pow]
  by_cases e : k = L
  · subst e; simp
  · have : ¬ L = k := fun q => e q.symm
    simp [e, this]
theorem getD_mem {ms : List Nat} {k : Nat} (h : k < ms.length) : ms.getD k 0 ∈ ms := by
  simp [List.getD, List.getElem?_eq_getElem h]
theorem mem_getD {ms : List Nat} {m : Nat} (h : m ∈ ms) : ∃ k, k < ms.length ∧ ms.getD k 0 = m := by
  obtain ⟨k, hk, e⟩ := List.getElem_of_mem h
  exact ⟨k, hk, by simp [List.getD, List.getElem?_eq_getElem hk, e]⟩
theorem web_grow {most L : Nat} {ms ch : List Nat} (w : Web most L ms) (c : Ch ms most ch) : Web most (L + 1) (grow L ms ch) := by
  obtain ⟨b, F, hb, hF⟩ := c.ex
  have hlow : ∀ k ∈ ch, ms.getD k 0 < 2 ^ L := fun k hk => w.lt _ (getD_mem (c.lt k hk))
  have e : (grow L ms ch).map wb = ms.map wb ++ (ch.map fun k => wb (ms.getD k 0)).map (put L) := by
    unfold grow
    rw [List.map_append, List.map_map, List.map_map]
    congr 1
    exact List.map_congr_left fun k _ => wb_put _ _
  have lo : ∀ x ∈ ms.map wb, x L = false := fun x hx => by
    obtain ⟨m, hm, rfl⟩ := List.mem_map.mp hx
    exact bit_hi (w.lt m hm)
  have key := web_step (L := L) (S := ms.map wb) (C := ch.map fun k => wb (ms.getD k 0)) (F := F) (b := wb b) w.cl w.re lo (fun x => by
    constructor
    · intro hx
      obtain ⟨k, hk, rfl⟩ := List.mem_map.mp hx
      exact ⟨List.mem_map.mpr ⟨_, getD_mem (c.lt k hk), rfl⟩, fun i _ fi => (hF k (c.lt k hk)).mp hk i fi⟩
    · rintro ⟨hx, hi⟩
      obtain ⟨m, hm, rfl⟩ := List.mem_map.mp hx
      obtain ⟨k, hk, rfl⟩ := mem_getD hm
      refine List.mem_map.mpr ⟨k, (hF k hk).mpr fun i fi => ?_, rfl⟩
      by_cases l : i < L
      · exact hi i l fi
      · have p : 2 ^ L ≤ 2 ^ i := Nat.pow_le_pow_right (by decide) (by omega)
        rw [bit_hi (Nat.lt_of_lt_of_le (w.lt _ hm) p), bit_hi (Nat.lt_of_lt_of_le (w.lt _ hb) p)]) (List.mem_map.mpr ⟨b, hb, rfl⟩)
  have p : 2 ^ (L + 1) = 2 ^ L + 2 ^ L := by rw [Nat.pow_succ]; omega
  refine ⟨?_, ?_, ?_, ?_, by rw [e]; exact key.1, by rw [e]; exact key.2⟩
  · unfold grow; simp only [List.length_append, List.length_map]; exact c.le
  · unfold grow; simp only [List.length_append]; have := w.ne; omega
  · unfold grow
    refine List.nodup_append.mpr ⟨w.nd, ?_, ?_⟩
    · refine List.Pairwise.map _ ?_ (List.Pairwise.and_mem.mp c.nd)
      intro a b' ⟨ha, hb', ne⟩ q
      refine ne ?_
      have e1 : ms.getD a 0 = ms.getD b' 0 := by
        apply Nat.eq_of_testBit_eq
        intro i
        by_cases h : i = L
        · subst h; rw [bit_hi (hlow a ha), bit_hi (hlow b' hb')]
        · have := congrArg (fun z => Nat.testBit z i) q
          have h' : ¬ L = i := fun z => h z.symm
          simpa [Nat.testBit_or, Nat.testBit_two_pow, h'] using this
      have h1 := c.lt a ha
      have h2 := c.lt b' hb'
      simp only [List.getD, List.getElem?_eq_getElem h1, List.getElem?_eq_getElem h2, Option.getD_some] at e1
      exact (List.getElem_inj w.nd).mp e1
    · intro x hx y hy q
      subst q
      obtain ⟨k, hk, rfl⟩ := List.mem_map.mp hy
      have := bit_hi (w.lt _ hx)
      simp [Nat.testBit_or, Nat.testBit_two_pow] at this
  · intro m hm
    unfold grow at hm
    rcases List.mem_append.mp hm with h | h
    · have := w.lt m h; omega
    · obtain ⟨k, hk, rfl⟩ := List.mem_map.mp h
      exact Nat.or_lt_two_pow (by have := hlow k hk; omega) (Nat.pow_lt_pow_right (by decide) (by omega))
theorem rg_split {n : Nat} {d r : List Int} {a : Int} (h : rg n = d ++ a :: r) : a = (d.length : Int) ∧ d.length < n := by
  have hl := congrArg List.length h
  rw [len_rg] at hl
  simp only [List.length_append, List.length_cons] at hl
  have h2 : (rg n)[d.length]? = some a := by rw [h]; simp
  rw [rg_get (by omega)] at h2
  exact ⟨(Option.some.inj h2).symm, by omega⟩
theorem web_ok (f : Flow) (steps most : Nat) (hs : steps ≤ 40) (h1 : 1 ≤ most) (hmo : most ≤ 1000) (hf : FOK f) :
    ∃ (ms : List Nat) (told : List (List Int)) (f' : Flow), m__law_web (f, (steps : Int), (most : Int)) = .ok ((iN ms, told), f') ∧ FOK f' ∧ Web most told.length ms ∧ told.length ≤ steps := by
  unfold m__law_web
  simp only [bo, bnd_ret, decide_eq_true_eq]
  rw [rng_n (by omega)]
  simp only [bo]
  have key := forN_inv (f := fun (s171 : Flow × List Int × List (List Int)) a170 => if (s171.2.1.length : Int) < (most : Int) then
              bnd (m__law_chosen (s171.1, s171.2.1, a170, (most : Int))) fun q305 =>
                bnd (bnd (apd s171.2.2 q305.1) fun z312 => M.ok (z312, q305.1, ())) fun q313 =>
                  bnd
                    (bnd
                      (lcM (M.ok ()) (fun r316 => q305.1) (fun a315 => M.ok true) fun a315 =>
                        bnd (gt s171.2.1 a315) fun r319 => bnd (mshl 1 a170) fun r322 => M.ok (bor r319 r322))
                      fun r323 => chk (s171.2.1.length + r323.length ≤ sizeLine) (s171.2.1 ++ r323))
                    fun q324 => M.ok (q305.2, q324, q313.1)
            else M.ok (s171.1, s171.2.1, s171.2.2))
    (fun (d : List Int) (s : Flow × List Int × List (List Int)) => FOK s.1 ∧ ∃ ms : List Nat, s.2.1 = iN ms ∧ Web most s.2.2.length ms ∧ s.2.2.length ≤ d.length ∧ (ms.length < most → s.2.2.length = d.length))
    (rg steps) [] (f, [0], []) ⟨hf, [0], Eq.refl _, web0 h1, Nat.le_refl _, fun _ => rfl⟩ ?st
  · obtain ⟨s', e, i1, ms, i2, i3, i4, i5⟩ := key
    rw [show forN (rg steps) (f, [(0 : Int)], ([] : List (List Int))) _ = _ from e]
    simp only [bo]
    simp only [List.nil_append, len_rg] at i4
    exact ⟨ms, s'.2.2, s'.1, by rw [← i2], i1, i3, i4⟩
  · rintro d a ⟨fl, mi, told⟩ ⟨r, hr⟩ ⟨h1, ms, h2, h3, h4, h5⟩
    simp only at h1 h2 h3 h4 h5
    subst h2
    simp only [List.nil_append] at hr
    obtain ⟨rfl, hd⟩ := rg_split hr
    have hlen : (iN ms).length = ms.length := by simp [iN]
    simp only [hlen]
    by_cases c : ((ms.length : Nat) : Int) < (most : Int)
    · rw [if_pos c]
      have hL := h5 (by omega)
      obtain ⟨ch, f', e, ok, hc⟩ := chosen_ok fl ms d.length most (by omega) h1 h3.ne (by omega) (by omega) h3.nd
      rw [e]
      simp only [bo]
      rw [apd_ok (by omega)]
      simp only [bo]
      have hcl : ch.length ≤ 1000 := by have := hc.le; omega
      rw [lcM_ok1 (l := fun _ : Unit => iN ch) (r := ()) (fun a => (((ms.getD a.toNat 0 ||| 2 ^ d.length : Nat)) : Int)) (Eq.refl _) (by simp [iN]; omega) (fun a ha => by
        obtain ⟨k, hk, rfl⟩ := List.mem_map.mp ha
        rw [gt_iN (hc.lt k hk), mshl_ok (y := (d.length : Int)) (by omega) (by omega) (by decide), ipow]
        simp only [bo, Int.toNat_natCast]
        rw [bor_n])]
      simp only [bo]
      rw [chk_ok (by rw [sizeLine_eq]; simp [iN]; have := hc.le; omega)]
      simp only [bo]
      have eg : iN ms ++ (iN ch).map (fun a => (((ms.getD a.toNat 0 ||| 2 ^ d.length : Nat)) : Int)) = iN (grow d.length ms ch) := by
        unfold grow iN
        rw [List.map_append, List.map_map, List.map_map]
        congr 1
      refine ⟨_, Eq.refl _, ok, grow d.length ms ch, eg, ?_, ?_, fun _ => ?_⟩
      · show Web most (told ++ [iN ch]).length _
        have := web_grow h3 hc
        rw [hL] at this
        simpa [hL] using this
      · show (told ++ [iN ch]).length ≤ _; simp [hL]
      · show (told ++ [iN ch]).length = _; simp [hL]
    · rw [if_neg c]
      refine ⟨_, Eq.refl _, h1, ms, Eq.refl _, h3, ?_, fun q => by omega⟩
      show told.length ≤ _
      simp; omega
end Z
set_option linter.all false
set_option maxRecDepth 100000
/-! P58e: rows of the masks; what is drawn. -/
namespace Z
open PySem L2 Y
theorem Closed.congr {n : Nat} {S S' : List W} (h : Closed n S) (a : ∀ x ∈ S', ∃ y ∈ S, ∀ k, k < n → x k = y k) (b : ∀ y ∈ S, ∃ x ∈ S', ∀ k, k < n → x k = y k) : Closed n S' := fun x hx y hy z hz => by
  obtain ⟨x1, hx1, ex⟩ := a x hx
  obtain ⟨y1, hy1, ey⟩ := a y hy
  obtain ⟨z1, hz1, ez⟩ := a z hz
  obtain ⟨u, hu, e⟩ := h x1 hx1 y1 hy1 z1 hz1
  obtain ⟨v, hv, ev⟩ := b u hu
  refine ⟨v, hv, fun k hk => ?_⟩
  show v k = maj (x k) (y k) (z k)
  rw [ev k hk, e k hk, ex k hk, ey k hk, ez k hk]
theorem Red.congr {n : Nat} {S S' : List W} (h : Red n S) (b : ∀ y ∈ S, ∃ x ∈ S', ∀ k, k < n → x k = y k) : Red n S' where
  co := fun i hi => by
    obtain ⟨x, hx, y, hy, e⟩ := h.co i hi
    obtain ⟨x', hx', ex⟩ := b x hx
    obtain ⟨y', hy', ey⟩ := b y hy
    exact ⟨x', hx', y', hy', by rw [ex i hi, ey i hi]; exact e⟩
  li := fun i j hi hj ne => by
    obtain ⟨x, hx, y, hy, e⟩ := h.li i j hi hj ne
    obtain ⟨x', hx', ex⟩ := b x hx
    obtain ⟨y', hy', ey⟩ := b y hy
    exact ⟨x', hx', y', hy', by rw [ex i hi, ey i hi, ex j hj, ey j hj]; exact e⟩
/-- a row of bits as a word -/
def toW (r : List Int) : W := fun k => decide (r.getD k 0 = 1)
structure Bits (L : Nat) (r : List Int) : Prop where
  len : r.length = L
  bit : ∀ x ∈ r, x = 0 ∨ x = 1
theorem Bits.at_ {L : Nat} {r : List Int} (b : Bits L r) {k : Nat} (h : k < L) : r[k]? = some (r.getD k 0) ∧ (r.getD k 0 = 0 ∨ r.getD k 0 = 1) := by
  have hk : k < r.length := by rw [b.len]; exact h
  have e : r.getD k 0 = r[k] := by simp [List.getD, List.getElem?_eq_getElem hk]
  rw [e]
  exact ⟨List.getElem?_eq_getElem hk, b.bit _ (List.getElem_mem hk)⟩
theorem Bits.ext {L : Nat} {r s : List Int} (a : Bits L r) (b : Bits L s) (h : ∀ k, k < L → toW r k = toW s k) : r = s := by
  apply List.ext_getElem?
  intro k
  by_cases hk : k < L
  · obtain ⟨e1, c1⟩ := a.at_ hk
    obtain ⟨e2, c2⟩ := b.at_ hk
    rw [e1, e2]
    have := h k hk
    unfold toW at this
    rcases c1 with q | q <;> rcases c2 with p | p <;> rw [q, p] at this ⊢ <;> simp at this
  · rw [List.getElem?_eq_none (by rw [a.len]; omega), List.getElem?_eq_none (by rw [b.len]; omega)]
structure RowsOK (L : Nat) (rows : List (List Int)) : Prop where
  hL : L ≤ 39
  ne : 0 < rows.length
  le : rows.length ≤ 40
  w : ∀ r ∈ rows, Bits L r
  asc : rows.Pairwise fun a b => lxLt (fun x y : Int => decide (x < y)) a b = true
  cl : Closed L (rows.map toW)
  re : Red L (rows.map toW)
def bitOf (o t : List Int) (m : Nat) (j : Nat) : Int := ((((m / 2 ^ (o.getD j 0).toNat) % 2) ^^^ (t.getD j 0).toNat : Nat) : Int)
def rowOf (L : Nat) (o t : List Int) (m : Nat) : List Int := (rg L).map fun j => bitOf o t m j.toNat
theorem getD_at {o : List Int} {j : Nat} (h : j < o.length) : gt o (j : Int) = .ok (o.getD j 0) := by
  refine gt_n ?_
  simp [List.getD, List.getElem?_eq_getElem h]
theorem getD_mem' {o : List Int} {j : Nat} (h : j < o.length) : o.getD j 0 ∈ o := by
  simp [List.getD, List.getElem?_eq_getElem h]
theorem row_ok {L : Nat} {o t : List Int} (hl : L ≤ 1000) (ho : ∀ x ∈ o, 0 ≤ x) (lo : o.length = L) (lt : t.length = L) (ht : ∀ x ∈ t, x = 0 ∨ x = 1) (m : Nat) :
    lcM (rng 0 (L : Int)) (fun r392 => r392) (fun a391 => M.ok true) (fun a391 => bnd (bnd (bnd (gt o a391) fun r396 => mshr (m : Int) r396) fun r397 => M.ok (band r397 1)) fun r399 => bnd (gt t a391) fun r402 => M.ok (bxor r399 r402)) = .ok (rowOf L o t m) := by
  refine lcM_ok1 (l := fun r392 : List Int => r392) (r := rg L) (fun j => bitOf o t m j.toNat) (rng_n (by omega)) (by rw [len_rg]; omega) fun a ha => ?_
  obtain ⟨h1, h2⟩ := mem_rg.mp ha
  obtain ⟨j, rfl⟩ := nat_of h1
  have hj : j < L := by omega
  rw [getD_at (by omega), getD_at (by omega)]
  simp only [bo]
  have h0 := ho _ (getD_mem' (o := o) (j := j) (by omega))
  rw [mshr_ok h0]
  simp only [bo, Int.toNat_natCast]
  have e1 : (m : Int) / 2 ^ (o.getD j 0).toNat = ((m / 2 ^ (o.getD j 0).toNat : Nat) : Int) := by simp
  have e2 : (1 : Int) = ((1 : Nat) : Int) := by simp
  have e3 : t.getD j 0 = (((t.getD j 0).toNat : Nat) : Int) := by
    have := ht _ (getD_mem' (o := t) (j := j) (by omega)); omega
  rw [e1, e2, band_n]
  conv => lhs; rw [e3]
  rw [bxor_n, Nat.and_one_is_mod]
  rfl
theorem bitOf_01 (o t : List Int) (m j : Nat) (ht : t.getD j 0 = 0 ∨ t.getD j 0 = 1) : (bitOf o t m j = 0 ∨ bitOf o t m j = 1) ∧ decide (bitOf o t m j = 1) = (m.testBit (o.getD j 0).toNat ^^ decide (t.getD j 0 = 1)) := by
  unfold bitOf
  rw [Nat.testBit_eq_decide_div_mod_eq]
  rcases Nat.mod_two_eq_zero_or_one (m / 2 ^ (o.getD j 0).toNat) with a | a <;> rcases ht with b | b <;> rw [a, b] <;> decide
theorem rowOf_get {L : Nat} {o t : List Int} {m j : Nat} (h : j < L) : (rowOf L o t m).getD j 0 = bitOf o t m j := by
  unfold rowOf
  simp [List.getD, List.getElem?_map, rg_get h]
theorem rowOf_bits {L : Nat} {o t : List Int} (lt : t.length = L) (ht : ∀ x ∈ t, x = 0 ∨ x = 1) (m : Nat) : Bits L (rowOf L o t m) where
  len := by unfold rowOf; simp [len_rg]
  bit := fun x hx => by
    unfold rowOf at hx
    obtain ⟨a, ha, rfl⟩ := List.mem_map.mp hx
    obtain ⟨h1, h2⟩ := mem_rg.mp ha
    exact (bitOf_01 o t m a.toNat (ht _ (getD_mem' (by omega)))).1
theorem rowOf_W {L : Nat} {o t : List Int} (lt : t.length = L) (ht : ∀ x ∈ t, x = 0 ∨ x = 1) (m : Nat) {k : Nat} (h : k < L) : toW (rowOf L o t m) k = tw (fun j => (o.getD j 0).toNat) (fun j => decide (t.getD j 0 = 1)) (wb m) k := by
  unfold toW
  rw [rowOf_get h]
  exact (bitOf_01 o t m k (ht _ (getD_mem' (by omega)))).2
theorem perm_rg {L : Nat} {o : List Int} (p : o.Perm (rg L)) : o.length = L ∧ (∀ x ∈ o, 0 ≤ x ∧ x < L) ∧ o.Nodup := by
  refine ⟨by rw [p.length_eq, len_rg], fun x hx => mem_rg.mp (p.mem_iff.mp hx), p.nodup_iff.mpr (nodup_rg L)⟩
theorem rows_ok (f : Flow) (ms : List Nat) (L most : Nat) (hL : L ≤ 39) (hm : most ≤ 40) (w : Web most L ms) (hf : FOK f) : ∃ (rows : List (List Int)) (f' : Flow), m__law_rows (f, iN ms, (L : Int)) = .ok (rows, f') ∧ FOK f' ∧ RowsOK L rows := by
  unfold m__law_rows
  simp only [bo, bnd_ret]
  obtain ⟨o, f1, e1, ok1, po⟩ := shuffle_ok f L (by omega) hf
  rw [e1]; simp only [bo]
  obtain ⟨t, f2, e2, ok2, lt, ht⟩ := bits_ok f1 L (by omega) ok1
  rw [e2]; simp only [bo]
  obtain ⟨lo, ho, no⟩ := perm_rg po
  have key := forN_inv (f := fun (s389 : List (List Int)) (a388 : Int) => bnd
                (bnd
                  (bnd
                    (bnd
                      (bnd
                        (lcM (rng 0 (L : Int)) (fun r392 => r392) (fun a391 => M.ok true) fun a391 =>
                          bnd (bnd (bnd (gt o a391) fun r396 => mshr a388 r396) fun r397 => M.ok (band r397 1))
                            fun r399 => bnd (gt t a391) fun r402 => M.ok (bxor r399 r402))
                        fun r403 => M.ok (r403, ()))
                      fun q405 => M.ok q405.1)
                    fun r403 => M.ok (r403, ()))
                  fun q408 => bnd (apd s389 q408.1) fun z409 => M.ok (z409, q408))
                fun q410 => M.ok q410.1)
    (fun (d : List Int) (s : List (List Int)) => s = d.map fun m => rowOf L o t m.toNat) (iN ms) [] [] (by simp) ?st
  · obtain ⟨s', e, i⟩ := key
    rw [show forN (iN ms) ([] : List (List Int)) _ = _ from e]
    simp only [bo]
    have es : s' = ms.map (rowOf L o t) := by
      rw [i]; simp [iN]
    subst es
    -- the rows are unlike
    have inj : ∀ m ∈ ms, ∀ m' ∈ ms, rowOf L o t m = rowOf L o t m' → m = m' := fun m h m' h' e => by
      apply Nat.eq_of_testBit_eq
      intro i
      by_cases l : i < L
      · have hi : (i : Int) ∈ o := po.mem_iff.mpr (mem_rg.mpr ⟨by omega, by omega⟩)
        obtain ⟨j, hj, ej⟩ := List.getElem_of_mem hi
        have hjL : j < L := by omega
        have eo : (o.getD j 0).toNat = i := by simp [List.getD, List.getElem?_eq_getElem hj, ej]
        have c := congrFun (congrArg toW e) j
        rw [rowOf_W lt ht m hjL, rowOf_W lt ht m' hjL] at c
        unfold tw wb at c
        simp only [eo] at c
        revert c
        cases m.testBit i <;> cases m'.testBit i <;> cases decide (t.getD j 0 = 1) <;> simp
      · have p : 2 ^ L ≤ 2 ^ i := Nat.pow_le_pow_right (by decide) (by omega)
        rw [bit_hi (Nat.lt_of_lt_of_le (w.lt _ h) p), bit_hi (Nat.lt_of_lt_of_le (w.lt _ h') p)]
    have nd : (ms.map (rowOf L o t)).Nodup := List.Pairwise.map _ (fun a b ⟨ha, hb, ne⟩ q => ne (inj a ha b hb q)) (List.Pairwise.and_mem.mp w.nd)
    have hc : (ms.map (rowOf L o t)).length ≤ 1 ∨ ∀ n ∈ ms.map (rowOf L o t), n ≠ [] := by
      by_cases z : L = 0
      · left
        rw [List.length_map]
        refine nodup_one w.nd fun a ha b hb => ?_
        have h1 := w.lt a ha
        have h2 := w.lt b hb
        rw [z] at h1 h2; omega
      · right
        intro n hn q
        obtain ⟨m, _, rfl⟩ := List.mem_map.mp hn
        have := (rowOf_bits lt ht (o := o) m).len
        rw [q] at this; simp at this; omega
    rw [chk_ok hc]
    simp only [bo]
    refine ⟨_, f2, Eq.refl _, ok2, ?_⟩
    have pm := sortT_perm (ms.map (rowOf L o t))
    have hlen : (sortT (ms.map (rowOf L o t))).length = ms.length := by rw [pm.length_eq, List.length_map]
    have memW : ∀ x ∈ (sortT (ms.map (rowOf L o t))).map toW, ∃ y ∈ (ms.map wb).map (tw (fun j => (o.getD j 0).toNat) fun j => decide (t.getD j 0 = 1)), ∀ k, k < L → x k = y k := fun x hx => by
      obtain ⟨r, hr, rfl⟩ := List.mem_map.mp hx
      obtain ⟨m, hm, rfl⟩ := List.mem_map.mp (pm.mem_iff.mp hr)
      exact ⟨_, List.mem_map.mpr ⟨_, List.mem_map.mpr ⟨m, hm, rfl⟩, rfl⟩, fun k hk => rowOf_W lt ht m hk⟩
    have memW' : ∀ y ∈ (ms.map wb).map (tw (fun j => (o.getD j 0).toNat) fun j => decide (t.getD j 0 = 1)), ∃ x ∈ (sortT (ms.map (rowOf L o t))).map toW, ∀ k, k < L → x k = y k := fun y hy => by
      obtain ⟨u, hu, rfl⟩ := List.mem_map.mp hy
      obtain ⟨m, hm, rfl⟩ := List.mem_map.mp hu
      exact ⟨_, List.mem_map.mpr ⟨_, pm.mem_iff.mpr (List.mem_map.mpr ⟨m, hm, rfl⟩), rfl⟩, fun k hk => rowOf_W lt ht m hk⟩
    have og : ∀ j, j < L → (o.getD j 0).toNat < L := fun j hj => by
      have := ho _ (getD_mem' (o := o) (j := j) (by omega)); omega
    have oi : ∀ i j, i < L → j < L → (o.getD i 0).toNat = (o.getD j 0).toNat → i = j := fun i j hi hj e => by
      have h1 := ho _ (getD_mem' (o := o) (j := i) (by omega))
      have h2 := ho _ (getD_mem' (o := o) (j := j) (by omega))
      have e : o.getD i 0 = o.getD j 0 := by omega
      have hi' : i < o.length := by omega
      have hj' : j < o.length := by omega
      simp only [List.getD, List.getElem?_eq_getElem hi', List.getElem?_eq_getElem hj', Option.getD_some] at e
      exact (List.getElem_inj no).mp e
    exact ⟨hL, by rw [hlen]; exact w.ne, by rw [hlen]; have := w.le; omega, fun r hr => by
      obtain ⟨m, _, rfl⟩ := List.mem_map.mp (pm.mem_iff.mp hr)
      exact rowOf_bits lt ht m, sortT_asc nd, Z.Closed.congr (Y.Closed.tw w.cl og) memW memW', Z.Red.congr (Y.Red.tw w.re og oi) memW'⟩
  · rintro d a s ⟨r, hr⟩ rfl
    simp only [List.nil_append] at hr
    have ha : a ∈ iN ms := by rw [hr]; simp
    obtain ⟨m, hm, rfl⟩ := List.mem_map.mp ha
    have hl : d.length ≤ ms.length := by
      have := congrArg List.length hr
      simp [iN] at this; omega
    have := w.le
    rw [row_ok (by omega) (fun x hx => (ho x hx).1) lo lt ht m]
    simp only [bo]
    rw [apd_ok (by simp; omega)]
    simp only [bo]
    exact ⟨_, Eq.refl _, by simp⟩
theorem drawn_ok (f : Flow) (hf : FOK f) : ∃ (L : Nat) (rows : List (List Int)) (f' : Flow), m__law_drawn f = .ok (((L : Int), rows), f') ∧ FOK f' ∧ RowsOK L rows := by
  unfold m__law_drawn
  simp only [bo, bnd_ret]
  obtain ⟨t0, f0, e0, ok0, _, _⟩ := take_ok f 24 hf (by decide) (by decide)
  rw [e0]; simp only [bo, decide_eq_true_eq]
  by_cases c : t0 = 0
  · rw [if_pos c]
    obtain ⟨t1, f1, e1, ok1, a1, b1⟩ := take_ok f0 40 ok0 (by decide) (by decide)
    obtain ⟨k, rfl⟩ := nat_of a1
    rw [e1]; simp only [bo]
    obtain ⟨ms, told, f2, e2, ok2, w2, l2⟩ := web_ok f1 k 40 (by omega) (by decide) (by decide) ok1
    have e : ((40 : Nat) : Int) = 40 := Eq.refl _
    rw [e] at e2
    rw [e2]; simp only [bo]
    obtain ⟨rows, f3, e3, ok3, R⟩ := rows_ok f2 ms told.length 40 (by omega) (by decide) w2 ok2
    rw [e3]; simp only [bo]
    exact ⟨_, _, _, Eq.refl _, ok3, R⟩
  · rw [if_neg c]
    obtain ⟨t1, f1, e1, ok1, a1, b1⟩ := take_ok f0 9 ok0 (by decide) (by decide)
    obtain ⟨k, rfl⟩ := nat_of a1
    rw [e1]; simp only [bo]
    obtain ⟨ms, told, f2, e2, ok2, w2, l2⟩ := web_ok f1 k 20 (by omega) (by decide) (by decide) ok1
    have e : ((20 : Nat) : Int) = 20 := Eq.refl _
    rw [e] at e2
    rw [e2]; simp only [bo]
    obtain ⟨rows, f3, e3, ok3, R⟩ := rows_ok f2 ms told.length 20 (by omega) (by decide) w2 ok2
    rw [e3]; simp only [bo]
    exact ⟨_, _, _, Eq.refl _, ok3, R⟩
end Z
set_option linter.all false
set_option maxRecDepth 100000
/-! P58f: Words, closed, reduced. -/
namespace Z
open PySem L2 Y
theorem is_word_ok {L : Nat} {w : List Int} (h : Bits L w) (hL : L ≤ 1000) : m_is_word (w, (L : Int)) = .ok true := by
  unfold m_is_word m_is_bit m_is_between m_is_integer
  simp only [bo, bnd_ret, if_true, Bool.not_false, decide_eq_true_eq]
  rw [if_pos (by rw [h.len])]
  rw [lcM_ok1 (l := fun _ : Unit => w) (r := ()) (fun _ => true) (Eq.refl _) (by rw [h.len]; omega) (fun a ha => by
    rcases h.bit a ha with e | e <;> subst e <;> simp)]
  simp only [bo]
  congr 1
  rw [List.all_eq_true]
  intro x hx
  obtain ⟨_, _, rfl⟩ := List.mem_map.mp hx
  rfl
theorem asc_get {L : Nat} {rows : List (List Int)} (R : RowsOK L rows) {k : Nat} {a b : List Int} (h1 : rows[k]? = some a) (h2 : rows[k + 1]? = some b) : lxLt (fun x y : Int => decide (x < y)) a b = true := by
  obtain ⟨l1, e1⟩ := List.getElem?_eq_some_iff.mp h1
  obtain ⟨l2, e2⟩ := List.getElem?_eq_some_iff.mp h2
  have := List.pairwise_iff_getElem.mp R.asc k (k + 1) l1 l2 (by omega)
  rw [e1, e2] at this; exact this
theorem Words_ok {L : Nat} {rows : List (List Int)} (R : RowsOK L rows) : m_Words ((L : Int), rows) = .ok ((L : Int), rows) := by
  have hL := R.hL
  have hle := R.le
  unfold m_Words m_is_between m_is_integer
  simp only [bo, bnd_ret, if_true, Bool.not_false, decide_eq_true_eq]
  rw [if_pos (by omega : (0 : Int) ≤ (L : Int))]
  have h39 : decide ((L : Int) ≤ 39) = true := decide_eq_true (by omega)
  have hn : ¬ ((rows.length : Int) = 0) := by have := R.ne; omega
  simp only [bo, h39, Bool.not_true, Bool.false_eq_true, if_false, Bool.or_true, hn]
  rw [forN_unit]
  · simp only [bo, hn, decide_false, Bool.false_eq_true, if_false]
  · rintro ⟨i, r⟩ ha
    obtain ⟨k, hk, hr⟩ := mem_enumL.mp ha
    simp only at hk hr
    subst hk
    obtain ⟨lk, er⟩ := List.getElem?_eq_some_iff.mp hr
    have hb : Bits L r := R.w r (by rw [← er]; exact List.getElem_mem lk)
    have h40 : ¬ ((k : Int) = 40) := by omega
    simp only [h40, if_false]
    rw [is_word_ok hb (by omega)]
    simp only [bo, Bool.not_true, Bool.false_eq_true, if_false]
    by_cases c : (0 : Int) < (k : Int)
    · rw [if_pos c]
      have e : (k : Int) - 1 = ((k - 1 : Nat) : Int) := by omega
      have lk1 : k - 1 < rows.length := by omega
      rw [e, gt_n (List.getElem?_eq_getElem lk1)]
      simp only [bo]
      have := asc_get R (List.getElem?_eq_getElem lk1) (b := r) (by rw [show k - 1 + 1 = k by omega]; exact hr)
      have e2 : oInt.tup.lt rows[k - 1] r = true := this
      rw [e2]
      simp
    · rw [if_neg c]
      simp only [bo, Bool.false_eq_true, if_false]
/-! numbers of words -/
def num : List Int → Nat
  | [] => 0
  | x :: xs => 2 ^ xs.length * x.toNat + num xs
theorem num_lt : ∀ w : List Int, (∀ x ∈ w, x = 0 ∨ x = 1) → num w < 2 ^ w.length
  | [], _ => by decide
  | x :: xs, h => by
    have ih := num_lt xs fun y hy => h y (by simp [hy])
    have p : 2 ^ (xs.length + 1) = 2 ^ xs.length + 2 ^ xs.length := by rw [Nat.pow_succ]; omega
    unfold num
    rw [List.length_cons, p]
    rcases h x (by simp) with e | e <;> subst e <;> simp <;> omega
theorem num_bit : ∀ (w : List Int), (∀ x ∈ w, x = 0 ∨ x = 1) → ∀ k, k < w.length → (num w).testBit (w.length - 1 - k) = decide (w.getD k 0 = 1)
  | [], _, k, hk => by simp at hk
  | x :: xs, h, k, hk => by
    have hs : ∀ y ∈ xs, y = 0 ∨ y = 1 := fun y hy => h y (by simp [hy])
    have lt := num_lt xs hs
    unfold num
    rw [Nat.testBit_two_pow_mul_add _ lt]
    cases k with
    | zero =>
      rw [if_neg (by simp)]
      rcases h x (by simp) with e | e <;> subst e <;> simp
    | succ k =>
      simp only [List.length_cons] at hk ⊢
      rw [if_pos (by omega)]
      have := num_bit xs hs k (by omega)
      rw [show xs.length + 1 - 1 - (k + 1) = xs.length - 1 - k by omega, this]
      simp
theorem num_fold : ∀ (w : List Int) (a : Nat), (∀ x ∈ w, x = 0 ∨ x = 1) → w.foldl (fun (s x : Int) => 2 * s + x) (a : Int) = ((2 ^ w.length * a + num w : Nat) : Int)
  | [], a, _ => by simp [num]
  | x :: xs, a, h => by
    have hx : x = ((x.toNat : Nat) : Int) := by rcases h x (by simp) with e | e <;> subst e <;> decide
    have e : 2 * (a : Int) + x = ((2 * a + x.toNat : Nat) : Int) := by omega
    rw [List.foldl_cons, e, num_fold xs _ fun y hy => h y (by simp [hy])]
    congr 1
    show 2 ^ xs.length * (2 * a + x.toNat) + num xs = 2 ^ (xs.length + 1) * a + (2 ^ xs.length * x.toNat + num xs)
    rw [Nat.pow_succ, Nat.mul_add, Nat.mul_assoc (2 ^ xs.length) 2 a, Nat.add_assoc]
theorem number_ok (w : List Int) (h : ∀ x ∈ w, x = 0 ∨ x = 1) : m_number_of_word w = .ok (num w : Int) := by
  unfold m_number_of_word
  simp only [bo, bnd_ret]
  rw [forN_ok (g := fun (s x : Int) => 2 * s + x) w 0 fun s a _ => by rw [mmul_l (by decide) (by decide)]; exact bo _ _]
  have := num_fold w 0 h
  simp only [Nat.mul_zero, Nat.zero_add] at this
  rw [← this]; simp
def nums (rows : List (List Int)) : List Nat := rows.map num
theorem numbers_ok {L : Nat} {rows : List (List Int)} (R : RowsOK L rows) (l : Int) : m_numbers_of (l, rows) = .ok (iN (nums rows)) := by
  unfold m_numbers_of
  simp only [bo, bnd_ret]
  rw [lcM_ok1 (l := fun _ : Unit => rows) (r := ()) (fun w => (num w : Int)) (Eq.refl _) (by have := R.le; show rows.length ≤ _; omega) fun a ha => number_ok a (R.w a ha).bit]
  unfold iN nums
  rw [List.map_map]; rfl
theorem closed_ok {L : Nat} {rows : List (List Int)} (R : RowsOK L rows) : m_is_closed ((L : Int), rows) = .ok true := by
  have hle := R.le
  unfold m_is_closed
  simp only [bo, bnd_ret]
  rw [numbers_ok R]
  simp only [bo]
  have key : m_first_wrong (iN (nums rows)) = .ok none := by
    have hlen : (iN (nums rows)).length = rows.length := by simp [iN, nums]
    have hln : (nums rows).length = rows.length := by simp [nums]
    unfold m_first_wrong
    simp only [bo, bnd_ret]
    rw [setOf_chk (by rw [hlen]; omega)]
    simp only [bo, hlen]
    rw [rng_n (by omega)]
    simp only [bo]
    rw [forR_unit]
    · simp only [bo, Pt.to]
    · intro a ha
      obtain ⟨h1, h2⟩ := mem_rg.mp ha
      obtain ⟨i, rfl⟩ := nat_of h1
      have e : (i : Int) + 1 = ((i + 1 : Nat) : Int) := by omega
      rw [e, rng_nat (by omega) (by omega)]
      simp only [bo]
      rw [forR_unit]
      · simp only [bo, Pt.to]
      · intro b hb
        obtain ⟨j, rfl, j1, j2⟩ := rangeL_nat.mp hb
        have e : (j : Int) + 1 = ((j + 1 : Nat) : Int) := by omega
        rw [gt_iN (by omega), gt_iN (by omega)]
        simp only [bo]
        rw [e, rng_nat (by omega) (by omega)]
        simp only [bo]
        rw [forR_unit]
        · simp only [bo, Pt.to]
        · intro c hc
          obtain ⟨k, rfl, k1, k2⟩ := rangeL_nat.mp hc
          rw [gt_iN (by omega)]
          simp only [bo]
          rw [band_n, bor_n, band_n, bor_n]
          -- the majority is one of the numbers
          have gd : ∀ p, p < rows.length → ∃ r, r ∈ rows ∧ (nums rows).getD p 0 = num r := fun p hp => ⟨rows[p], List.getElem_mem hp, by
            have : p < (nums rows).length := by omega
            simp [nums, List.getD, hp]⟩
          obtain ⟨ri, mi, ei⟩ := gd i (by omega)
          obtain ⟨rj, mj, ej⟩ := gd j (by omega)
          obtain ⟨rk, mk, ek⟩ := gd k (by omega)
          rw [ei, ej, ek]
          obtain ⟨u, hu, eu⟩ := R.cl (toW ri) (List.mem_map.mpr ⟨ri, mi, rfl⟩) (toW rj) (List.mem_map.mpr ⟨rj, mj, rfl⟩) (toW rk) (List.mem_map.mpr ⟨rk, mk, rfl⟩)
          obtain ⟨ru, mu, rfl⟩ := List.mem_map.mp hu
          have en : (num ri &&& num rj ||| ((num ri ||| num rj) &&& num rk)) = num ru := by
            apply Nat.eq_of_testBit_eq
            intro q
            simp only [Nat.testBit_or, Nat.testBit_and]
            by_cases hq : q < L
            · have nb : ∀ r ∈ rows, (num r).testBit q = toW r (L - 1 - q) := fun r hr => by
                have b := R.w r hr
                have := num_bit r b.bit (L - 1 - q) (by rw [b.len]; omega)
                rw [b.len, show L - 1 - (L - 1 - q) = q by omega] at this
                exact this
              rw [nb ri mi, nb rj mj, nb rk mk, nb ru mu]
              exact (eu (L - 1 - q) (by omega)).symm
            · have nb : ∀ r ∈ rows, (num r).testBit q = false := fun r hr => by
                have b := R.w r hr
                have := num_lt r b.bit
                rw [b.len] at this
                exact bit_hi (Nat.lt_of_lt_of_le this (Nat.pow_le_pow_right (by decide) (by omega)))
              rw [nb ri mi, nb rj mj, nb rk mk, nb ru mu]; rfl
          rw [en]
          have : ((num ru : Nat) : Int) ∈ setOf (iN (nums rows)) := mem_setOf.mpr (List.mem_map.mpr ⟨num ru, List.mem_map.mpr ⟨ru, mu, rfl⟩, rfl⟩)
          simp only [this, decide_true, Bool.not_true, Bool.false_eq_true, if_false]
  rw [key]
  simp only [bo, encO, isN]
end Z
set_option linter.all false
set_option maxRecDepth 100000
/-! P58g: masks of letters; reduced. -/
namespace Z
open PySem L2 Y
abbrev rw_ (rows : List (List Int)) (p : Nat) : List Int := rows.getD p []
theorem rw_get {rows : List (List Int)} {p : Nat} (h : p < rows.length) : rows[p]? = some (rw_ rows p) ∧ rw_ rows p ∈ rows := by
  have e : rw_ rows p = rows[p] := by simp [rw_, List.getD, List.getElem?_eq_getElem h]
  rw [e]
  exact ⟨List.getElem?_eq_getElem h, List.getElem_mem h⟩
theorem mem_rw {rows : List (List Int)} {r : List Int} (h : r ∈ rows) : ∃ p, p < rows.length ∧ rw_ rows p = r := by
  obtain ⟨p, hp, e⟩ := List.getElem_of_mem h
  exact ⟨p, hp, by simp [rw_, List.getD, List.getElem?_eq_getElem hp, e]⟩
theorem gt_bit {L : Nat} {r : List Int} (b : Bits L r) {j : Nat} (h : j < L) : gt r (j : Int) = .ok (r.getD j 0) := getD_at (by rw [b.len]; exact h)
/-- which rows are unlike the first one at letter j -/
def far (rows : List (List Int)) (j p : Nat) : Bool := decide (p < rows.length) && !decide ((rw_ rows p).getD j 0 = (rw_ rows 0).getD j 0)
theorem letter_masks_ok {L : Nat} {rows : List (List Int)} (R : RowsOK L rows) : ∃ ms : List Nat, m_letter_masks ((L : Int), rows) = .ok (iN ms) ∧ ms.length = L ∧ ∀ j, j < L → ∀ p, (ms.getD j 0).testBit p = far rows j p := by
  have hL := R.hL
  have hle := R.le
  have hne := R.ne
  unfold m_letter_masks
  simp only [bo, bnd_ret]
  have e0 : gt rows 0 = .ok (rw_ rows 0) := gt_n (k := 0) (rw_get hne).1
  have b0 : Bits L (rw_ rows 0) := R.w _ (rw_get hne).2
  rw [e0]
  simp only [bo]
  rw [rng_n (by omega)]
  simp only [bo]
  have key := forN_inv (f := fun (s728 : List Int) (a727 : Int) => bnd
            (forN (enumL rows) 0 fun (s734 : Int) (a733 : Int × List Int) =>
              bnd
                (bnd (gt a733.2 a727) fun (r737 : Int) =>
                  bnd (gt (rw_ rows 0) a727) fun (r740 : Int) => M.ok !decide (r737 = r740))
                fun (b741 : Bool) =>
                if b741 = true then bnd (mshl 1 a733.1) fun (q745 : Int) => M.ok (bor s734 q745) else M.ok s734)
            fun (s734 : Int) =>
            bnd (bnd (apd s728 s734) fun (z749 : List Int) => M.ok (z749, (), ()))
              fun (q750 : List Int × Unit × Unit) => M.ok q750.1)
    (fun (d : List Int) (s : List Int) => ∃ ms : List Nat, s = iN ms ∧ ms.length = d.length ∧ ∀ j, j < d.length → ∀ p, (ms.getD j 0).testBit p = far rows j p) (rg L) [] [] ⟨[], rfl, rfl, fun j hj => by simp at hj⟩ ?st
  · obtain ⟨s', e, ms, rfl, h1, h2⟩ := key
    simp only [List.nil_append, len_rg] at h1 h2
    exact ⟨ms, e, h1, h2⟩
  · rintro d a s ⟨r, hr⟩ ⟨ms, rfl, h1, h2⟩
    simp only [List.nil_append] at hr
    obtain ⟨rfl, hd⟩ := rg_split hr
    have inner := forN_inv (f := fun (s734 : Int) (a733 : Int × List Int) =>
              bnd
                (bnd (gt a733.2 (d.length : Int)) fun (r737 : Int) =>
                  bnd (gt (rw_ rows 0) (d.length : Int)) fun (r740 : Int) => M.ok !decide (r737 = r740))
                fun (b741 : Bool) =>
                if b741 = true then bnd (mshl 1 a733.1) fun (q745 : Int) => M.ok (bor s734 q745) else M.ok s734)
      (fun (d' : List (Int × List Int)) (s : Int) => ∃ m : Nat, s = (m : Int) ∧ ∀ p, m.testBit p = (decide (p < d'.length) && far rows d.length p)) (enumL rows) [] 0 ⟨0, rfl, fun p => by simp⟩ ?st2
    · obtain ⟨x, e, m, rfl, hm⟩ := inner
      rw [show forN (enumL rows) (0 : Int) _ = _ from e]
      simp only [bo]
      rw [apd_ok (by simp [iN]; omega)]
      simp only [bo]
      refine ⟨_, Eq.refl _, ms ++ [m], by simp [iN], by simp [h1], fun j hj p => ?_⟩
      simp only [List.length_append, List.length_cons, List.length_nil] at hj
      by_cases c : j < d.length
      · have : (ms ++ [m]).getD j 0 = ms.getD j 0 := by simp [List.getD, List.getElem?_append_left (by omega : j < ms.length)]
        rw [this]; exact h2 j c p
      · have hj' : j = d.length := by omega
        subst hj'
        have : (ms ++ [m]).getD d.length 0 = m := by simp [List.getD, List.getElem?_append_right (by omega : ms.length ≤ d.length), h1]
        rw [this, hm p]
        simp only [List.nil_append, len_enumL]
        unfold far
        cases decide (p < rows.length) <;> simp
    · rintro d' ⟨i, r'⟩ s ⟨rr, hrr⟩ ⟨m, rfl, hm⟩
      simp only [List.nil_append] at hrr
      obtain ⟨e1, e2, e3⟩ := enumL_split hrr
      simp only at e1 e2
      subst e1
      have er : r' = rw_ rows d'.length := by
        have := (rw_get e3).1; rw [e2] at this; exact Option.some.inj this
      subst er
      have br : Bits L (rw_ rows d'.length) := R.w _ (rw_get e3).2
      rw [gt_bit br hd, gt_bit b0 hd]
      simp only [bo]
      have hf : far rows d.length d'.length = !decide ((rw_ rows d'.length).getD d.length 0 = (rw_ rows 0).getD d.length 0) := by unfold far; rw [decide_eq_true e3]; rfl
      rw [← hf]
      cases q : far rows d.length d'.length with
      | true =>
        rw [if_pos rfl, mshl_ok (y := (d'.length : Int)) (by omega) (by omega) (by decide), ipow]
        simp only [bo]
        refine ⟨_, Eq.refl _, m ||| 2 ^ d'.length, bor_n _ _, fun p => ?_⟩
        rw [Nat.testBit_or, hm p, Nat.testBit_two_pow]
        simp only [List.length_append, List.length_cons, List.length_nil]
        by_cases z : d'.length = p
        · subst z; simp [q]
        · by_cases z2 : p < d'.length
          · have : p < d'.length + 1 := by omega
            simp [z, z2, this]
          · have : ¬ p < d'.length + 1 := by omega
            simp [z, z2, this]
      | false =>
        rw [if_neg (by decide)]
        refine ⟨_, Eq.refl _, m, Eq.refl _, fun p => ?_⟩
        rw [hm p]
        simp only [List.length_append, List.length_cons, List.length_nil]
        by_cases z : d'.length = p
        · subst z; simp [q]
        · by_cases z2 : p < d'.length
          · have : p < d'.length + 1 := by omega
            simp [z2, this]
          · have : ¬ p < d'.length + 1 := by omega
            simp [z2, this]
theorem toW_iff {L : Nat} {a b : List Int} (ha : Bits L a) (hb : Bits L b) {j : Nat} (h : j < L) : toW a j = toW b j ↔ a.getD j 0 = b.getD j 0 := by
  obtain ⟨_, c1⟩ := ha.at_ h
  obtain ⟨_, c2⟩ := hb.at_ h
  unfold toW
  rcases c1 with q | q <;> rcases c2 with p | p <;> rw [q, p] <;> simp
theorem far_iff {L : Nat} {rows : List (List Int)} (R : RowsOK L rows) {j p : Nat} (hj : j < L) (hp : p < rows.length) : far rows j p = (toW (rw_ rows p) j != toW (rw_ rows 0) j) := by
  have a : Bits L (rw_ rows p) := R.w _ (rw_get hp).2
  have b : Bits L (rw_ rows 0) := R.w _ (rw_get R.ne).2
  unfold far
  rw [decide_eq_true hp]
  have := toW_iff a b hj
  by_cases c : (rw_ rows p).getD j 0 = (rw_ rows 0).getD j 0
  · have e := this.mpr c
    rw [decide_eq_true c, e]; simp
  · have e : ¬ toW (rw_ rows p) j = toW (rw_ rows 0) j := fun z => c (this.mp z)
    rw [decide_eq_false c]
    revert e
    cases toW (rw_ rows p) j <;> cases toW (rw_ rows 0) j <;> simp
theorem reduced_ok {L : Nat} {rows : List (List Int)} (R : RowsOK L rows) : m_is_reduced ((L : Int), rows) = .ok true := by
  have hL := R.hL
  unfold m_is_reduced
  simp only [bo, bnd_ret]
  have key : ∃ kept : List Int, m_kept_letters ((L : Int), rows) = .ok kept ∧ kept.length = L := by
    unfold m_kept_letters
    simp only [bo, bnd_ret]
    obtain ⟨ms, e, hl, hm⟩ := letter_masks_ok R
    rw [e]; simp only [bo]
    have nz : ∀ j, j < L → ms.getD j 0 ≠ 0 := fun j hj z => by
      obtain ⟨x, hx, y, hy, ne⟩ := R.re.co j hj
      obtain ⟨rx, mx, rfl⟩ := List.mem_map.mp hx
      obtain ⟨ry, my, rfl⟩ := List.mem_map.mp hy
      obtain ⟨p, hp, rfl⟩ := mem_rw mx
      obtain ⟨q, hq, rfl⟩ := mem_rw my
      have h1 := hm j hj p
      have h2 := hm j hj q
      rw [z, Nat.zero_testBit, far_iff R hj hp] at h1
      rw [z, Nat.zero_testBit, far_iff R hj hq] at h2
      revert ne h1 h2
      cases toW (rw_ rows p) j <;> cases toW (rw_ rows q) j <;> cases toW (rw_ rows 0) j <;> simp
    have inj : ∀ i j, i < L → j < L → i ≠ j → ms.getD i 0 ≠ ms.getD j 0 := fun i j hi hj ne z => by
      obtain ⟨x, hx, y, hy, nn⟩ := R.re.li i j hi hj ne
      obtain ⟨rx, mx, rfl⟩ := List.mem_map.mp hx
      obtain ⟨ry, my, rfl⟩ := List.mem_map.mp hy
      obtain ⟨p, hp, rfl⟩ := mem_rw mx
      obtain ⟨q, hq, rfl⟩ := mem_rw my
      have h1 := (hm i hi p).symm.trans ((congrArg (fun u => Nat.testBit u p) z).trans (hm j hj p))
      have h2 := (hm i hi q).symm.trans ((congrArg (fun u => Nat.testBit u q) z).trans (hm j hj q))
      rw [far_iff R hi hp, far_iff R hj hp] at h1
      rw [far_iff R hi hq, far_iff R hj hq] at h2
      revert nn h1 h2
      cases toW (rw_ rows p) i <;> cases toW (rw_ rows q) i <;> cases toW (rw_ rows 0) i <;> cases toW (rw_ rows p) j <;> cases toW (rw_ rows q) j <;> cases toW (rw_ rows 0) j <;> simp
    have hli : (iN ms).length = L := by simp [iN, hl]
    have loop := forN_inv (f := fun (s755 : List Int × List Int) (a754 : Int × Int) =>
          bnd (if (!decide (a754.2 = 0)) = true then M.ok !decide (a754.2 ∈ s755.2) else M.ok false)
            fun (b760 : Bool) =>
            if b760 = true then
              bnd (bnd (addM s755.2 a754.2) fun (z764 : List Int) => M.ok (z764, (), ()))
                fun (q765 : List Int × Unit × Unit) =>
                bnd (bnd (apd s755.1 a754.1) fun (z764 : List Int) => M.ok (z764, (), ()))
                  fun (q770 : List Int × Unit × Unit) => M.ok (q770.1, q765.1)
            else M.ok (s755.1, s755.2))
      (fun (d : List (Int × Int)) (s : List Int × List Int) => s.1.length = d.length ∧ s.2.length ≤ d.length ∧ ∀ x ∈ s.2, ∃ j, j < d.length ∧ x = ((ms.getD j 0 : Nat) : Int)) (enumL (iN ms)) [] ([], []) ⟨rfl, Nat.le_refl _, by simp⟩ ?st
    · obtain ⟨s', e, i1, i2, i3⟩ := loop
      simp only [List.nil_append, len_enumL, hli] at i1
      exact ⟨s'.1, by rw [show forN (enumL (iN ms)) (([] : List Int), ([] : List Int)) _ = _ from e]; exact bo _ _, i1⟩
    · rintro d ⟨i, x⟩ ⟨kp, se⟩ ⟨r, hr⟩ ⟨h1, h2, h3⟩
      simp only [List.nil_append] at hr
      simp only at h1 h2 h3
      obtain ⟨e1, e2, e3⟩ := enumL_split hr
      simp only at e1 e2
      subst e1
      rw [hli] at e3
      rw [iN_get (by omega)] at e2
      have ex := (Option.some.inj e2).symm
      subst ex
      have c1 : ¬ ((ms.getD d.length 0 : Nat) : Int) = 0 := by have := nz d.length e3; omega
      have c2 : ¬ ((ms.getD d.length 0 : Nat) : Int) ∈ se := fun z => by
        obtain ⟨j, hj, e⟩ := h3 _ z
        exact inj d.length j e3 (by omega) (by omega) (by omega)
      simp only [c1, c2, decide_false, Bool.not_false, if_true, bo]
      rw [addM_ok (by omega), apd_ok (by omega)]
      simp only [bo]
      refine ⟨_, Eq.refl _, by simp [h1], ?_, fun x hx => ?_⟩
      · have := len_addS se ((ms.getD d.length 0 : Nat) : Int)
        simp only [List.length_append, List.length_cons, List.length_nil]; omega
      · simp only [List.length_append, List.length_cons, List.length_nil]
        rcases mem_addS.mp hx with z | z
        · obtain ⟨j, hj, e⟩ := h3 x z; exact ⟨j, by omega, e⟩
        · exact ⟨d.length, by omega, z⟩
  obtain ⟨kept, e, hk⟩ := key
  rw [e]; simp only [bo, hk, decide_true]
theorem look_ok {L : Nat} {rows : List (List Int)} (R : RowsOK L rows) : m_look_at_words ((L : Int), rows) = .ok () := by
  unfold m_look_at_words
  simp only [bo, bnd_ret]
  rw [closed_ok R]
  simp only [bo, Bool.not_true, Bool.false_eq_true, if_false]
  rw [reduced_ok R]
  simp only [bo, Bool.not_true, Bool.false_eq_true, if_false]
end Z
set_option linter.all false
set_option maxRecDepth 100000
/-! P58h: the clauses of the words. -/
namespace Z
open PySem L2 Y
/-- the sum of unlike powers of two -/
theorem pow_sum (c : Nat → Bool) : ∀ n : Nat, ∃ x : Nat, (((List.range n).filter c).map fun p => ((2 ^ p : Nat) : Int)).sum = (x : Int) ∧ x < 2 ^ n ∧ ∀ p, x.testBit p = (decide (p < n) && c p)
  | 0 => ⟨0, rfl, by decide, fun p => by simp⟩
  | n + 1 => by
    obtain ⟨x, e, lt, h⟩ := pow_sum c n
    have p1 : 2 ^ (n + 1) = 2 ^ n + 2 ^ n := by rw [Nat.pow_succ]; omega
    rw [List.range_succ, List.filter_append, List.map_append, List.sum_append, e]
    cases q : c n with
    | true =>
      refine ⟨x + 2 ^ n, ?_, by omega, fun p => ?_⟩
      · simp [List.filter, q]
      · have := Nat.testBit_two_pow_mul_add 1 lt p
        rw [Nat.mul_one, Nat.add_comm] at this
        rw [this, h p]
        by_cases z : p < n
        · have : p < n + 1 := by omega
          simp [z, this]
        · by_cases z2 : p = n
          · subst z2; simp [q]
          · have h1 : ¬ p < n + 1 := by omega
            have h2 : p - n = (p - n - 1) + 1 := by omega
            rw [if_neg z, h2]
            simp [h1, Nat.testBit_succ]
    | false =>
      refine ⟨x, by simp [List.filter, q], by omega, fun p => ?_⟩
      rw [h p]
      by_cases z2 : p = n
      · subst z2; simp [q]
      · have : p < n ↔ p < n + 1 := by omega
        simp [this]
theorem enumL_eq (rows : List (List Int)) : enumL rows = (List.range rows.length).map fun p : Nat => ((p : Int), rw_ rows p) := by
  apply List.ext_getElem?
  intro k
  rw [enumL_at, List.getElem?_map]
  by_cases h : k < rows.length
  · rw [(rw_get h).1, List.getElem?_range h]; rfl
  · rw [List.getElem?_eq_none (by omega), List.getElem?_eq_none (by simp; omega)]; rfl
theorem full_bit (n p : Nat) : (2 ^ n - 1).testBit p = decide (p < n) := by
  exact Nat.testBit_two_pow_sub_one n p
/-- the masks of letter j: who has 0, who has 1 -/
structure LM (rows : List (List Int)) (j : Nat) (q : Int × Int) : Prop where
  z : ∃ m : Nat, q.1 = (m : Int) ∧ ∀ p, m.testBit p = (decide (p < rows.length) && !decide ((rw_ rows p).getD j 0 = 1))
  o : ∃ m : Nat, q.2 = (m : Int) ∧ ∀ p, m.testBit p = (decide (p < rows.length) && decide ((rw_ rows p).getD j 0 = 1))
theorem literal_masks_ok {L : Nat} {rows : List (List Int)} (R : RowsOK L rows) : ∃ lm : List (Int × Int), m_literal_masks ((L : Int), rows) = .ok lm ∧ lm.length = L ∧ ∀ j, j < L → ∃ q, lm[j]? = some q ∧ LM rows j q := by
  have hL := R.hL
  have hle := R.le
  unfold m_literal_masks
  simp only [bo, bnd_ret]
  rw [mshl_ok (y := (rows.length : Int)) (by omega) (by omega) (by decide), ipow]
  simp only [bo]
  have p1 := Nat.two_pow_pos rows.length
  have e1 : ((2 ^ rows.length : Nat) : Int) - 1 = ((2 ^ rows.length - 1 : Nat) : Int) := by omega
  rw [e1, rng_n (by omega)]
  simp only [bo]
  have key := forN_inv (f := fun (s825 : List (Int × Int)) (a824 : Int) =>
          bnd
            (bnd
              (bnd
                (lcM (M.ok ()) (fun (r829 : Unit) => enumL rows)
                  (fun (a828 : Int × List Int) => bnd (gt a828.2 a824) fun (r834 : Int) => M.ok (decide (r834 = 1)))
                  fun (a828 : Int × List Int) => mshl 1 a828.1)
                fun (r836 : List Int) => M.ok (r836, ()))
              fun (q838 : List Int × Unit) => M.ok q838.1.sum)
            fun (q839 : Int) =>
            bnd
              (bnd (apd s825 (bxor (((2 ^ rows.length - 1 : Nat) : Nat) : Int) q839, q839)) fun (z849 : List (Int × Int)) =>
                M.ok (z849, (bxor (((2 ^ rows.length - 1 : Nat) : Nat) : Int) q839, (), ()), ()))
              fun (q850 : List (Int × Int) × (Int × Unit × Unit) × Unit) => M.ok q850.1)
    (fun (d : List Int) (s : List (Int × Int)) => s.length = d.length ∧ ∀ j, j < d.length → ∃ q, s[j]? = some q ∧ LM rows j q) (rg L) [] [] ⟨rfl, fun j hj => by simp at hj⟩ ?st
  · obtain ⟨s', e, h1, h2⟩ := key
    simp only [List.nil_append, len_rg] at h1 h2
    exact ⟨s', e, h1, h2⟩
  · rintro d a s ⟨r, hr⟩ ⟨h1, h2⟩
    simp only [List.nil_append] at hr
    obtain ⟨rfl, hd⟩ := rg_split hr
    rw [lcM_ok (l := fun _ : Unit => enumL rows) (r := ()) (fun a828 => decide (a828.2.getD d.length 0 = 1)) (fun a828 => ((2 ^ a828.1.toNat : Nat) : Int)) (Eq.refl _) (by rw [len_enumL]; omega)
      (fun a ha => by
        obtain ⟨k, _, hk⟩ := mem_enumL.mp ha
        have b : Bits L a.2 := R.w _ (List.mem_of_getElem? hk)
        rw [gt_bit b hd]; exact bo _ _)
      (fun a ha _ => by
        obtain ⟨k, hk, hk2⟩ := mem_enumL.mp ha
        have hk3 : k < rows.length := (List.getElem?_eq_some_iff.mp hk2).1
        rw [hk, mshl_ok (y := (k : Int)) (by omega) (by omega) (by decide), ipow, Int.toNat_natCast])]
    simp only [bo]
    have es : ((enumL rows).filter fun a828 => decide (a828.2.getD d.length 0 = 1)).map (fun a828 => ((2 ^ a828.1.toNat : Nat) : Int)) = ((List.range rows.length).filter fun p => decide ((rw_ rows p).getD d.length 0 = 1)).map fun p => ((2 ^ p : Nat) : Int) := by
      rw [enumL_eq, List.filter_map, List.map_map]
      rfl
    obtain ⟨x, ex, lx, hx⟩ := pow_sum (fun p => decide ((rw_ rows p).getD d.length 0 = 1)) rows.length
    rw [es, ex, apd_ok (by omega)]
    simp only [bo]
    refine ⟨_, Eq.refl _, by simp [h1], fun j hj => ?_⟩
    simp only [List.length_append, List.length_cons, List.length_nil] at hj
    by_cases c : j < d.length
    · obtain ⟨q, hq, lm⟩ := h2 j c
      exact ⟨q, by rw [List.getElem?_append_left (by omega)]; exact hq, lm⟩
    · have hj' : j = d.length := by omega
      subst hj'
      refine ⟨_, by rw [List.getElem?_append_right (by omega), h1]; simp; rfl, ?_, ⟨x, Eq.refl _, hx⟩⟩
      refine ⟨(2 ^ rows.length - 1) ^^^ x, bxor_n _ _, fun p => ?_⟩
      rw [Nat.testBit_xor, full_bit, hx p]
      cases decide (p < rows.length) <;> simp
/-- where literal (j, b) is false -/
theorem false_mask {rows : List (List Int)} {j : Nat} {q : Int × Int} {b : Int} (h : LM rows j q) (hb : b = 0 ∨ b = 1) (hbit : ∀ p, p < rows.length → (rw_ rows p).getD j 0 = 0 ∨ (rw_ rows p).getD j 0 = 1) :
    ∃ m : Nat, gt [q.1, q.2] (1 - b) = .ok (m : Int) ∧ ∀ p, m.testBit p = (decide (p < rows.length) && !decide ((rw_ rows p).getD j 0 = b)) := by
  rcases hb with e | e <;> subst e
  · obtain ⟨m, e1, h1⟩ := h.o
    refine ⟨m, by rw [← e1]; exact gt_n (k := 1) rfl, fun p => ?_⟩
    rw [h1 p]
    by_cases c : p < rows.length
    · rcases hbit p c with e | e <;> rw [e] <;> simp
    · simp [c]
  · obtain ⟨m, e1, h1⟩ := h.z
    refine ⟨m, by rw [← e1]; exact gt_n (k := 0) rfl, fun p => ?_⟩
    rw [h1 p]
/-- literal (j, b) or literal (m, c) in all rows -/
def okc (rows : List (List Int)) (j b m c : Int) : Bool := rows.all fun r => decide (r.getD j.toNat 0 = b ∨ r.getD m.toNat 0 = c)
abbrev Cll := List (Int × Int)
def one2 (rows : List (List Int)) (j b m c : Int) : List Cll := if okc rows j b m c then [[(j, b), (m, c)]] else []
def pwL (rows : List (List Int)) (L : Nat) (j b : Int) : List Cll := (rangeL (j + 1) (L : Int)).flatMap fun m => ([0, 1] : List Int).flatMap fun c => one2 rows j b m c
def wcL (rows : List (List Int)) (L : Nat) : List Cll := (rg L).flatMap fun j => ([0, 1] : List Int).flatMap fun b => pwL rows L j b
theorem len_fm {α β : Type} {l : List α} {g : α → List β} {c : Nat} (h : ∀ a ∈ l, (g a).length ≤ c) : (l.flatMap g).length ≤ l.length * c := by
  induction l with
  | nil => simp
  | cons a l ih =>
    have h1 := h a (by simp)
    have h2 := ih fun b hb => h b (by simp [hb])
    simp only [List.flatMap_cons, List.length_append, List.length_cons, Nat.succ_mul]
    omega
theorem len_one2 (rows : List (List Int)) (j b m c : Int) : (one2 rows j b m c).length ≤ 1 := by unfold one2; split <;> simp
theorem len_two (rows : List (List Int)) (j b m : Int) : (([0, 1] : List Int).flatMap fun c => one2 rows j b m c).length ≤ 2 := len_fm (c := 1) fun a _ => len_one2 _ _ _ _ _
theorem len_rangeL {a b : Nat} : (rangeL (a : Int) (b : Int)).length ≤ b := by
  unfold rangeL; rw [List.length_map, List.length_range]; omega
theorem len_pwL {rows : List (List Int)} {L : Nat} (hL : L ≤ 39) {j : Nat} (b : Int) : (pwL rows L (j : Int) b).length ≤ 78 := by
  have := len_fm (l := rangeL ((j : Int) + 1) (L : Int)) (g := fun m => ([0, 1] : List Int).flatMap fun c => one2 rows j b m c) (c := 2) fun a _ => len_two _ _ _ _
  have e : (j : Int) + 1 = ((j + 1 : Nat) : Int) := by omega
  have h2 := len_rangeL (a := j + 1) (b := L)
  rw [← e] at h2
  unfold pwL; omega
theorem len_wcL {rows : List (List Int)} {L : Nat} (hL : L ≤ 39) : (wcL rows L).length ≤ 6084 := by
  have h1 : ∀ j ∈ rg L, (([0, 1] : List Int).flatMap fun b => pwL rows L j b).length ≤ 156 := fun j hj => by
    obtain ⟨a, _⟩ := mem_rg.mp hj
    obtain ⟨k, rfl⟩ := nat_of a
    exact len_fm (c := 78) fun b _ => len_pwL hL b
  have := len_fm h1
  rw [len_rg] at this
  unfold wcL; omega
theorem okc_iff {L : Nat} {rows : List (List Int)} (R : RowsOK L rows) {j m : Nat} {b c : Int} {x y : Nat} (hx : ∀ p, x.testBit p = (decide (p < rows.length) && !decide ((rw_ rows p).getD j 0 = b))) (hy : ∀ p, y.testBit p = (decide (p < rows.length) && !decide ((rw_ rows p).getD m 0 = c))) :
    decide (band (x : Int) (y : Int) = 0) = okc rows (j : Int) b (m : Int) c := by
  rw [band_n]
  have : (((x &&& y : Nat) : Int) = 0) ↔ okc rows (j : Int) b (m : Int) c = true := by
    unfold okc
    rw [List.all_eq_true]
    constructor
    · intro h r hr
      obtain ⟨p, hp, rfl⟩ := mem_rw hr
      have h' : (x &&& y) = 0 := by omega
      have := congrArg (fun z => Nat.testBit z p) h'
      simp only [Nat.testBit_and, Nat.zero_testBit, hx p, hy p, hp, decide_true, Bool.true_and, Int.toNat_natCast] at this ⊢
      rw [decide_eq_true_eq]
      revert this
      by_cases c1 : (rw_ rows p).getD j 0 = b <;> by_cases c2 : (rw_ rows p).getD m 0 = c <;> simp only [c1, c2] <;> simp
    · intro h
      have : (x &&& y) = 0 := by
        apply Nat.eq_of_testBit_eq
        intro p
        rw [Nat.testBit_and, hx p, hy p, Nat.zero_testBit]
        by_cases hp : p < rows.length
        · have := h _ (rw_get hp).2
          simp only [Int.toNat_natCast, decide_eq_true_eq] at this
          rcases this with q | q <;> rw [q] <;> simp
        · simp [hp]
      omega
  by_cases q : okc rows (j : Int) b (m : Int) c = true
  · rw [q]; exact decide_eq_true (this.mpr q)
  · have q' : okc rows (j : Int) b (m : Int) c = false := by simpa using q
    rw [q']; exact decide_eq_false fun z => q (this.mp z)
theorem nz_mask {L : Nat} {rows : List (List Int)} (R : RowsOK L rows) {j : Nat} (hj : j < L) {b : Int} (hb : b = 0 ∨ b = 1) {x : Nat} (hx : ∀ p, x.testBit p = (decide (p < rows.length) && !decide ((rw_ rows p).getD j 0 = b))) : x ≠ 0 := by
  intro z
  subst z
  obtain ⟨u, hu, v, hv, ne⟩ := R.re.co j hj
  obtain ⟨ru, mu, rfl⟩ := List.mem_map.mp hu
  obtain ⟨rv, mv, rfl⟩ := List.mem_map.mp hv
  have all : ∀ r ∈ rows, r.getD j 0 = b := fun r hr => by
    obtain ⟨p, hp, rfl⟩ := mem_rw hr
    have := hx p
    rw [Nat.zero_testBit, decide_eq_true hp] at this
    simpa using this.symm
  exact ne ((toW_iff (R.w _ mu) (R.w _ mv) hj).mpr (by rw [all _ mu, all _ mv]))
theorem rowbit {L : Nat} {rows : List (List Int)} (R : RowsOK L rows) {j : Nat} (hj : j < L) : ∀ p, p < rows.length → (rw_ rows p).getD j 0 = 0 ∨ (rw_ rows p).getD j 0 = 1 := fun p hp => ((R.w _ (rw_get hp).2).at_ hj).2
theorem pairs_ok {L : Nat} {rows : List (List Int)} (R : RowsOK L rows) {lm : List (Int × Int)} (hl : lm.length = L) (hm : ∀ j, j < L → ∃ q, lm[j]? = some q ∧ LM rows j q) {j : Nat} (hj : j < L) {b : Int} (hb : b = 0 ∨ b = 1) :
    m_pairs_with (lm, (j : Int), b) = .ok (pwL rows L (j : Int) b) := by
  have hL := R.hL
  unfold m_pairs_with
  simp only [bo, bnd_ret]
  obtain ⟨q, hq, lq⟩ := hm j hj
  obtain ⟨x, ex, hx⟩ := false_mask lq hb (rowbit R hj)
  rw [gt_n hq]
  simp only [bo]
  rw [ex]
  simp only [bo]
  have e : (j : Int) + 1 = ((j + 1 : Nat) : Int) := by omega
  rw [hl, e, rng_nat (by omega) (by omega)]
  simp only [bo]
  have := forN_fill (B := 100000) (f := fun (s913 : List Cll) (a912 : Int) =>
          forN [0, 1] s913 fun (s920 : List (List (Int × Int))) (a919 : Int) =>
            bnd (bnd (gt lm a912) fun (r923 : Int × Int) => gt [r923.1, r923.2] (1 - a919)) fun (q927 : Int) =>
              bnd (if (!decide (q927 = 0)) = true then M.ok (decide (band (x : Int) q927 = 0)) else M.ok false)
                fun (b935 : Bool) =>
                if b935 = true then
                  bnd
                    (bnd (apd s920 [((j : Int), b), (a912, a919)]) fun (z951 : List (List (Int × Int))) =>
                      M.ok (z951, (((), (), ()), ((), (), ()), ()), ()))
                    fun
                      (q952 : List (List (Int × Int)) × ((Unit × Unit × Unit) × (Unit × Unit × Unit) × Unit) × Unit) =>
                    M.ok q952.1
                else M.ok s920) (g := fun m => ([0, 1] : List Int).flatMap fun c => one2 rows j b m c) (rangeL ((j + 1 : Nat) : Int) (L : Int)) [] ?st ?sz
  · rw [show forN (rangeL ((j + 1 : Nat) : Int) (L : Int)) ([] : List Cll) _ = _ from this]
    unfold pwL; rw [e]; simp
  · intro s a ha hs
    obtain ⟨m, rfl, m1, m2⟩ := rangeL_nat.mp ha
    refine forN_fill (B := 100010) [0, 1] s (fun s c hc hs2 => ?_) ?_
    · have hc' : c = 0 ∨ c = 1 := by simpa using hc
      obtain ⟨q2, hq2, lq2⟩ := hm m m2
      obtain ⟨y, ey, hy⟩ := false_mask lq2 hc' (rowbit R m2)
      rw [gt_n hq2]
      simp only [bo]
      rw [ey]
      simp only [bo]
      have nz := nz_mask R m2 hc' hy
      have nz' : ¬ ((y : Nat) : Int) = 0 := by omega
      simp only [nz', decide_false, Bool.not_false, if_true, bo]
      rw [okc_iff R hx hy]
      unfold one2
      by_cases o : okc rows (j : Int) b (m : Int) c = true
      · rw [if_pos o, if_pos o, apd_ok (by omega)]
        simp only [bo]
      · rw [if_neg o, if_neg o, List.append_nil]
    · have := len_two rows (j : Int) b (m : Int)
      omega
  · have := len_pwL (rows := rows) hL (j := j) b
    unfold pwL at this
    rw [e] at this
    simp only [List.length_nil]; omega
end Z
set_option linter.all false
set_option maxRecDepth 100000
/-! P58i: the Clauses of the words. -/
namespace Z
open PySem L2 Y
abbrev prL (p q : Int × Int) : Bool := if p.1 = q.1 then decide (p.2 < q.2) && !decide (p.2 = q.2) else decide (p.1 < q.1)
abbrev clLt (a b : Cll) : Bool := lxLt prL a b
theorem prL_1 {p q : Int × Int} (h : p.1 < q.1) : prL p q = true := by
  unfold prL; rw [if_neg (by omega)]; exact decide_eq_true h
theorem prL_2 {p q : Int × Int} (h : p.1 = q.1) (h2 : p.2 < q.2) : prL p q = true := by
  unfold prL; rw [if_pos h, decide_eq_true h2, decide_eq_false (by omega)]; rfl
theorem lt_1 {x y : Int × Int} {xs ys : Cll} (h : prL x y = true) (ne : x ≠ y) : clLt (x :: xs) (y :: ys) = true := by
  show lxLt prL (x :: xs) (y :: ys) = true
  unfold lxLt; rw [if_neg ne]; exact h
theorem lt_2 {x : Int × Int} {xs ys : Cll} (h : clLt xs ys = true) : clLt (x :: xs) (x :: ys) = true := by
  show lxLt prL (x :: xs) (x :: ys) = true
  unfold lxLt; rw [if_pos rfl]; exact h
theorem mem_one2 {rows : List (List Int)} {j b m c : Int} {x : Cll} (h : x ∈ one2 rows j b m c) : x = [(j, b), (m, c)] ∧ okc rows j b m c = true := by
  unfold one2 at h
  split at h
  · exact ⟨by simpa using h, by assumption⟩
  · simp at h
theorem pw_one2 (rows : List (List Int)) (j b m c : Int) : (one2 rows j b m c).Pairwise fun x y => clLt x y = true := by
  unfold one2; split <;> simp
theorem pw_rangeL (a b : Int) : (rangeL a b).Pairwise fun x y => x < y := by
  unfold rangeL
  refine List.Pairwise.map _ (fun x y h => ?_) List.pairwise_lt_range
  show a + (x : Int) < a + (y : Int)
  omega
theorem pw_rg (n : Nat) : (rg n).Pairwise fun x y => x < y := by
  rw [← rangeL_0]; exact pw_rangeL _ _
theorem pw_wcL (rows : List (List Int)) (L : Nat) : (wcL rows L).Pairwise fun x y => clLt x y = true := by
  unfold wcL
  refine List.pairwise_flatMap.mpr ⟨fun j _ => ?_, (pw_rg L).imp fun {j j'} l x hx y hy => ?_⟩
  · refine List.pairwise_flatMap.mpr ⟨fun b _ => ?_, ?_⟩
    · unfold pwL
      refine List.pairwise_flatMap.mpr ⟨fun m _ => ?_, (pw_rangeL _ _).imp fun {m m'} l x hx y hy => ?_⟩
      · refine List.pairwise_flatMap.mpr ⟨fun c _ => pw_one2 _ _ _ _ _, ?_⟩
        refine List.pairwise_cons.mpr ⟨fun c hc x hx y hy => ?_, by simp⟩
        obtain ⟨rfl, _⟩ := mem_one2 hx
        obtain ⟨rfl, _⟩ := mem_one2 hy
        have : c = 1 := by simpa using hc
        subst this
        exact lt_2 (lt_1 (prL_2 rfl (by show (0 : Int) < 1; decide)) (by intro z; cases z))
      · obtain ⟨c, _, hx⟩ := List.mem_flatMap.mp hx
        obtain ⟨c', _, hy⟩ := List.mem_flatMap.mp hy
        obtain ⟨rfl, _⟩ := mem_one2 hx
        obtain ⟨rfl, _⟩ := mem_one2 hy
        exact lt_2 (lt_1 (prL_1 l) (by intro z; have := congrArg Prod.fst z; simp at this; omega))
    · refine List.pairwise_cons.mpr ⟨fun b hb x hx y hy => ?_, by simp⟩
      have : b = 1 := by simpa using hb
      subst this
      unfold pwL at hx hy
      obtain ⟨m, _, hx⟩ := List.mem_flatMap.mp hx
      obtain ⟨m', _, hy⟩ := List.mem_flatMap.mp hy
      obtain ⟨c, _, hx⟩ := List.mem_flatMap.mp hx
      obtain ⟨c', _, hy⟩ := List.mem_flatMap.mp hy
      obtain ⟨rfl, _⟩ := mem_one2 hx
      obtain ⟨rfl, _⟩ := mem_one2 hy
      exact lt_1 (prL_2 rfl (by show (0 : Int) < 1; decide)) (by intro z; cases z)
  · obtain ⟨b, _, hx⟩ := List.mem_flatMap.mp hx
    obtain ⟨b', _, hy⟩ := List.mem_flatMap.mp hy
    unfold pwL at hx hy
    obtain ⟨m, _, hx⟩ := List.mem_flatMap.mp hx
    obtain ⟨m', _, hy⟩ := List.mem_flatMap.mp hy
    obtain ⟨c, _, hx⟩ := List.mem_flatMap.mp hx
    obtain ⟨c', _, hy⟩ := List.mem_flatMap.mp hy
    obtain ⟨rfl, _⟩ := mem_one2 hx
    obtain ⟨rfl, _⟩ := mem_one2 hy
    exact lt_1 (prL_1 l) (by intro z; have := congrArg Prod.fst z; simp at this; omega)
/-- a clause of the list: its literals -/
theorem mem_wcL {rows : List (List Int)} {L : Nat} {x : Cll} : x ∈ wcL rows L ↔ ∃ (j m : Nat) (b c : Int), x = [((j : Int), b), ((m : Int), c)] ∧ j < m ∧ m < L ∧ (b = 0 ∨ b = 1) ∧ (c = 0 ∨ c = 1) ∧ okc rows (j : Int) b (m : Int) c = true := by
  constructor
  · intro h
    unfold wcL pwL at h
    obtain ⟨ji, hj, h⟩ := List.mem_flatMap.mp h
    obtain ⟨b, hb, h⟩ := List.mem_flatMap.mp h
    obtain ⟨mi, hm, h⟩ := List.mem_flatMap.mp h
    obtain ⟨c, hc, h⟩ := List.mem_flatMap.mp h
    obtain ⟨j0, _⟩ := mem_rg.mp hj
    obtain ⟨j, rfl⟩ := nat_of j0
    have e : (j : Int) + 1 = ((j + 1 : Nat) : Int) := by omega
    rw [e] at hm
    obtain ⟨m, rfl, m1, m2⟩ := rangeL_nat.mp hm
    obtain ⟨rfl, o⟩ := mem_one2 h
    exact ⟨j, m, b, c, rfl, by omega, m2, by simpa using hb, by simpa using hc, o⟩
  · rintro ⟨j, m, b, c, rfl, h1, h2, hb, hc, o⟩
    unfold wcL pwL
    refine List.mem_flatMap.mpr ⟨j, mem_rg.mpr ⟨by omega, by omega⟩, List.mem_flatMap.mpr ⟨b, by simpa using hb, List.mem_flatMap.mpr ⟨m, ?_, List.mem_flatMap.mpr ⟨c, by simpa using hc, ?_⟩⟩⟩⟩
    · have e : (j : Int) + 1 = ((j + 1 : Nat) : Int) := by omega
      rw [e]; exact rangeL_nat.mpr ⟨m, rfl, by omega, h2⟩
    · unfold one2; rw [if_pos o]; simp
theorem between_ok {v lo hi : Int} (h : lo ≤ v) (h' : v ≤ hi) : m_is_between (v, lo, hi) = .ok true := by
  unfold m_is_between m_is_integer
  simp only [bo, bnd_ret, if_true, Bool.not_false, decide_eq_true_eq]
  rw [if_pos h, decide_eq_true h']
theorem clause_ok {L j m : Nat} {b c : Int} (h1 : j < m) (h2 : m < L) (hb : b = 0 ∨ b = 1) (hc : c = 0 ∨ c = 1) : m_is_clause ([((j : Int), b), ((m : Int), c)], (L : Int)) = .ok true := by
  unfold m_is_clause m_is_literal m_is_bit
  simp only [bo, bnd_ret, Bool.not_true, Bool.false_eq_true, if_false, List.length_cons, List.length_nil, if_true, decide_eq_true_eq]
  have e1 : (!inB (((0 + 1 + 1 : Nat) : Nat) : Int) [1, 2]) = false := by decide
  rw [e1]
  simp only [Bool.false_eq_true, if_false]
  rw [forR_unit]
  · simp only [bo, Pt.to]
    have e2 : ¬ (((0 + 1 + 1 : Nat) : Nat) : Int) = 1 := by decide
    rw [if_neg e2]
    have g0 : gt [((j : Int), b), ((m : Int), c)] 0 = .ok ((j : Int), b) := gt_n (k := 0) rfl
    have g1 : gt [((j : Int), b), ((m : Int), c)] 1 = .ok ((m : Int), c) := gt_n (k := 1) rfl
    rw [g0, g1]
    simp only [bo]
    rw [decide_eq_true (by omega)]
  · intro a ha
    have ab : (0 ≤ a.1 ∧ a.1 ≤ (L : Int) - 1) ∧ (a.2 = 0 ∨ a.2 = 1) := by
      simp only [List.mem_cons, List.not_mem_nil, or_false] at ha
      rcases ha with e | e <;> subst e
      · exact ⟨⟨by show (0 : Int) ≤ (j : Int); omega, by show (j : Int) ≤ _; omega⟩, hb⟩
      · exact ⟨⟨by show (0 : Int) ≤ (m : Int); omega, by show (m : Int) ≤ _; omega⟩, hc⟩
    rw [between_ok ab.1.1 ab.1.2]
    simp only [bo, if_true]
    rw [between_ok (by omega) (by omega)]
    simp only [bo, if_true, Bool.not_true, Bool.false_eq_true, if_false]
theorem Clauses_ok {L : Nat} (hL : L ≤ 39) (rows : List (List Int)) : m_Clauses ((L : Int), wcL rows L) = .ok ((L : Int), wcL rows L) := by
  have hlen := len_wcL (rows := rows) hL
  unfold m_Clauses
  simp only [bo, bnd_ret]
  rw [between_ok (by omega) (by omega)]
  simp only [bo, Bool.not_true, Bool.false_eq_true, if_false, Bool.true_or, decide_eq_true_eq]
  rw [forN_unit]
  · simp only [bo]
  · rintro ⟨i, x⟩ ha
    obtain ⟨k, hk, hx⟩ := mem_enumL.mp ha
    simp only at hk hx
    subst hk
    obtain ⟨lk, ex⟩ := List.getElem?_eq_some_iff.mp hx
    obtain ⟨j, m, b, c, e, h1, h2, hb, hc, o⟩ := mem_wcL.mp (List.mem_of_getElem? hx)
    have ci : m_is_clause (x, (L : Int)) = .ok true := by rw [e]; exact clause_ok h1 h2 hb hc
    rw [ci]
    simp only [bo, Bool.not_true, Bool.false_eq_true, if_false]
    by_cases z : (0 : Int) < (k : Int)
    · rw [if_pos z]
      have e : (k : Int) - 1 = ((k - 1 : Nat) : Int) := by omega
      have lk1 : k - 1 < (wcL rows L).length := by omega
      rw [e, gt_n (List.getElem?_eq_getElem lk1)]
      simp only [bo]
      have := List.pairwise_iff_getElem.mp (pw_wcL rows L) (k - 1) k lk1 lk (by omega)
      rw [ex] at this
      have e2 : (oInt.pr oInt).tup.lt (wcL rows L)[k - 1] x = true := this
      rw [e2]
      simp
    · rw [if_neg z]
      simp only [bo, Bool.false_eq_true, if_false]
theorem ext_ok {α : Type} {xs ys : List α} (h : xs.length + ys.length ≤ 16777216) : ext xs ys = .ok (xs ++ ys) := chk_ok (by rw [sizeLine_eq]; exact h)
theorem clauses_ok {L : Nat} {rows : List (List Int)} (R : RowsOK L rows) : m_words_clauses ((L : Int), rows) = .ok ((L : Int), wcL rows L) := by
  have hL := R.hL
  have hlen := len_wcL (rows := rows) hL
  unfold m_words_clauses
  simp only [bo, bnd_ret]
  obtain ⟨lm, e, hl, hm⟩ := literal_masks_ok R
  rw [e]
  simp only [bo]
  rw [rng_n (by omega)]
  simp only [bo, decide_eq_true_eq]
  have := forN_fill (B := 100000) (f := fun (s857 : List Cll) (a856 : Int) =>
            forN [0, 1] s857 fun (s864 : List (List (Int × Int))) (a863 : Int) =>
              bnd (bnd (gt lm a856) fun (r867 : Int × Int) => gt [r867.1, r867.2] (1 - a863)) fun (q871 : Int) =>
                if q871 = 0 then
                  bnd
                    (bnd (apd s864 [(a856, a863)]) fun (z884 : List (List (Int × Int))) =>
                      M.ok (z884, (((), (), ()), ()), ()))
                    fun (q885 : List (List (Int × Int)) × ((Unit × Unit × Unit) × Unit) × Unit) => M.ok q885.1
                else
                  bnd
                    (bnd (bnd (m_pairs_with (lm, a856, a863)) fun (r954 : List (List (Int × Int))) => M.ok (r954, ()))
                      fun (q956 : List (List (Int × Int)) × Unit) =>
                      bnd (ext s864 q956.1) fun (z957 : List (List (Int × Int))) => M.ok (z957, q956))
                    fun (q958 : List (List (Int × Int)) × List (List (Int × Int)) × Unit) => M.ok q958.1) (g := fun j => ([0, 1] : List Int).flatMap fun b => pwL rows L j b) (rg L) [] ?st ?sz
  · rw [show forN (rg L) ([] : List Cll) _ = _ from this]
    simp only [bo, List.nil_append]
    exact noer_ok (Clauses_ok hL rows)
  · intro s a ha hs
    obtain ⟨a0, a1⟩ := mem_rg.mp ha
    obtain ⟨j, rfl⟩ := nat_of a0
    have hj : j < L := by omega
    obtain ⟨q, hq, lq⟩ := hm j hj
    have len2 : (([0, 1] : List Int).flatMap fun b => pwL rows L (j : Int) b).length ≤ 156 := len_fm (c := 78) fun b _ => len_pwL hL b
    refine forN_fill (B := 100200) [0, 1] s (fun s b hb hs2 => ?_) (by omega)
    have hb' : b = 0 ∨ b = 1 := by simpa using hb
    obtain ⟨x, ex, hx⟩ := false_mask lq hb' (rowbit R hj)
    rw [gt_n hq]
    simp only [bo]
    rw [ex]
    simp only [bo]
    have nz := nz_mask R hj hb' hx
    rw [if_neg (by omega), pairs_ok R hl hm hj hb']
    simp only [bo]
    rw [ext_ok (by have := len_pwL (rows := rows) hL (j := j) b; omega)]
    simp only [bo]
  · show 0 + (wcL rows L).length ≤ _
    omega
/-- as a clause of the plain maths -/
def clOf (x : Cll) : Cl := match x with
  | [(j, b), (m, c)] => ⟨j.toNat, decide (b = 1), m.toNat, decide (c = 1)⟩
  | _ => ⟨0, false, 0, false⟩
theorem okc_tr {L : Nat} {rows : List (List Int)} (R : RowsOK L rows) {j m : Nat} {b c : Int} (h1 : j < m) (h2 : m < L) (hb : b = 0 ∨ b = 1) (hc : c = 0 ∨ c = 1) :
    okc rows (j : Int) b (m : Int) c = true ↔ ∀ x ∈ rows.map toW, (⟨j, decide (b = 1), m, decide (c = 1)⟩ : Cl).tr x := by
  have lit : ∀ r ∈ rows, ∀ k, k < L → ∀ b : Int, (b = 0 ∨ b = 1) → (r.getD k 0 = b ↔ toW r k = decide (b = 1)) := fun r hr k hk b hb => by
    obtain ⟨_, cc⟩ := (R.w r hr).at_ hk
    unfold toW
    rcases cc with q | q <;> rcases hb with p | p <;> rw [q, p] <;> simp
  unfold okc
  rw [List.all_eq_true]
  constructor
  · intro h x hx
    obtain ⟨r, hr, rfl⟩ := List.mem_map.mp hx
    have := h r hr
    simp only [Int.toNat_natCast, decide_eq_true_eq] at this
    exact this.imp (lit r hr j (by omega) b hb).mp (lit r hr m h2 c hc).mp
  · intro h r hr
    have := h _ (List.mem_map.mpr ⟨r, hr, rfl⟩)
    simp only [Int.toNat_natCast, decide_eq_true_eq]
    exact Or.imp (lit r hr j (by omega) b hb).mpr (lit r hr m h2 c hc).mpr this
theorem good_rows {L : Nat} {rows : List (List Int)} (R : RowsOK L rows) : Good L (rows.map toW) ((wcL rows L).map clOf) := by
  refine good ?_ R.cl R.re fun c => ?_
  · intro h
    have := R.ne
    rw [← List.length_map (f := toW), h] at this; simp at this
  · rw [List.mem_map]
    constructor
    · rintro ⟨x, hx, rfl⟩
      obtain ⟨j, m, b, c, rfl, h1, h2, hb, hc, o⟩ := mem_wcL.mp hx
      have e : clOf [((j : Int), b), ((m : Int), c)] = ⟨j, decide (b = 1), m, decide (c = 1)⟩ := by unfold clOf; simp
      rw [e]
      exact ⟨⟨h1, h2⟩, (okc_tr R h1 h2 hb hc).mp o⟩
    · obtain ⟨j, b, m, c⟩ := c
      rintro ⟨⟨h1, h2⟩, h⟩
      simp only at h1 h2
      let b' : Int := if b then 1 else 0
      let c' : Int := if c then 1 else 0
      have hb : b' = 0 ∨ b' = 1 := by cases b <;> simp [b']
      have hc : c' = 0 ∨ c' = 1 := by cases c <;> simp [c']
      have eb : decide (b' = 1) = b := by cases b <;> simp [b']
      have ec : decide (c' = 1) = c := by cases c <;> simp [c']
      refine ⟨[((j : Int), b'), ((m : Int), c')], mem_wcL.mpr ⟨j, m, b', c', rfl, h1, h2, hb, hc, (okc_tr R h1 h2 hb hc).mpr ?_⟩, ?_⟩
      · rw [eb, ec]; exact h
      · unfold clOf; simp only [Int.toNat_natCast, eb, ec]
end Z
set_option linter.all false
set_option maxRecDepth 100000
/-! P58j: folding. -/
namespace Z
open PySem L2 Y
/-- keys of the dict of known words -/
theorem mem_putT {β : Type} (l : List (List Int × β)) (k : List Int) (v : β) (x : List Int) : x ∈ (putT l k v).map (·.1) ↔ x ∈ l.map (·.1) ∨ x = k := by
  unfold putT
  split
  · rename_i h
    have e : (l.map fun p => if p.1 = k then (p.1, v) else p).map (·.1) = l.map (·.1) := by
      rw [List.map_map]
      refine List.map_congr_left fun p _ => ?_
      show (if p.1 = k then (p.1, v) else p).1 = p.1
      split <;> rfl
    rw [e]
    constructor
    · exact .inl
    · rintro (h' | rfl)
      · exact h'
      · obtain ⟨p, hp, e⟩ := List.any_eq_true.mp h
        exact List.mem_map.mpr ⟨p, hp, of_decide_eq_true e⟩
  · simp [List.map_append]
theorem dc_ok {β : Type} {mk : List Int → M (List Int)} {mv : List Int → M β} {v : β} (h1 : ∀ a, mk a = .ok a) (h2 : ∀ a, mv a = .ok v) : ∀ (l : List (List Int)) (acc : List (List Int × β)), ∃ d, dcP l mk mv acc = .ok d ∧ ∀ x, x ∈ d.map (·.1) ↔ x ∈ acc.map (·.1) ∨ x ∈ l
  | [], acc => ⟨acc, rfl, fun x => by simp⟩
  | a :: l, acc => by
    obtain ⟨d, e, h⟩ := dc_ok h1 h2 l (putT acc a v)
    refine ⟨d, ?_, fun x => ?_⟩
    · unfold dcP
      rw [bko _ (noer_ok (h1 a)), bko _ (noer_ok (h2 a))]; exact e
    · rw [h x, mem_putT]
      simp only [List.mem_cons]
      constructor
      · rintro ((h | h) | h)
        · exact .inl h
        · exact .inr (.inl h)
        · exact .inr (.inr h)
      · rintro (h | h | h)
        · exact .inl (.inl h)
        · exact .inl (.inr h)
        · exact .inr h
/-- one clause at a word -/
theorem step_ok {L : Nat} (hL : L ≤ 39) {rows : List (List Int)} {x : Cll} (hx : x ∈ wcL rows L) {w : List Int} (hw : Bits L w) :
    ∃ w', (bnd
          (bnd
            (bnd
              (bnd
                (lcM (M.ok ()) (fun (r1092 : Unit) => x) (fun (a1091 : Int × Int) => M.ok true)
                  fun (a1091 : Int × Int) => m_is_true (a1091, w))
                fun (r1109 : List Bool) => M.ok (r1109, ()))
              fun (q1111 : List Bool × Unit) => M.ok (q1111.1.any id))
            fun (b1112 : Bool) => M.ok !b1112)
          fun (b1113 : Bool) => if b1113 = true then m_turned (w, x) else M.ok w) = .ok w' ∧ Bits L w' ∧ ∀ k, k < L → toW w' k = fc (clOf x) (toW w) k := by
  obtain ⟨j, m, b, c, rfl, h1, h2, hb, hc, o⟩ := mem_wcL.mp hx
  have hj : j < L := by omega
  have e : clOf [((j : Int), b), ((m : Int), c)] = ⟨j, decide (b = 1), m, decide (c = 1)⟩ := by unfold clOf; simp
  rw [e]
  have lit : ∀ k, k < L → ∀ b : Int, (b = 0 ∨ b = 1) → (w.getD k 0 = b ↔ toW w k = decide (b = 1)) := fun k hk b hb => by
    obtain ⟨_, cc⟩ := hw.at_ hk
    unfold toW
    rcases cc with q | q <;> rcases hb with p | p <;> rw [q, p] <;> simp
  have it : ∀ k : Nat, k < L → ∀ b : Int, m_is_true (((k : Int), b), w) = .ok (decide (w.getD k 0 = b)) := fun k hk b => by
    unfold m_is_true
    simp only [bo, bnd_ret]
    rw [gt_bit hw hk]; exact bo _ _
  rw [lcM_ok1 (l := fun _ : Unit => [((j : Int), b), ((m : Int), c)]) (r := ()) (fun a => decide (w.getD a.1.toNat 0 = a.2)) (Eq.refl _) (by simp) (fun a ha => by
    simp only [List.mem_cons, List.not_mem_nil, or_false] at ha
    rcases ha with z | z <;> subst z
    · rw [it j hj]; simp
    · rw [it m h2]; simp)]
  simp only [bo, List.map_cons, List.map_nil, List.any_cons, List.any_nil, id, Bool.or_false, Int.toNat_natCast]
  by_cases t : (⟨j, decide (b = 1), m, decide (c = 1)⟩ : Cl).tr (toW w)
  · have : (decide (w.getD j 0 = b) || decide (w.getD m 0 = c)) = true := by
      rcases t with t | t
      · rw [decide_eq_true ((lit j hj b hb).mpr t)]; rfl
      · rw [decide_eq_true ((lit m h2 c hc).mpr t)]; simp
    rw [this]
    simp only [Bool.not_true, Bool.false_eq_true, if_false]
    exact ⟨w, rfl, hw, fun k _ => by rw [fc_fix t]⟩
  · have n1 : ¬ w.getD j 0 = b := fun z => t (.inl ((lit j hj b hb).mp z))
    have n2 : ¬ w.getD m 0 = c := fun z => t (.inr ((lit m h2 c hc).mp z))
    rw [decide_eq_false n1, decide_eq_false n2]
    simp only [Bool.or_false, Bool.not_false, if_true]
    unfold m_turned
    simp only [bo, bnd_ret]
    rw [lcM_ok1 (l := fun _ : Unit => [((j : Int), b), ((m : Int), c)]) (r := ()) (fun a => a.1) (Eq.refl _) (by simp) (fun a _ => Eq.refl _)]
    simp only [bo, List.map_cons, List.map_nil]
    rw [lcM_ok1 (l := fun _ : Unit => enumL w) (r := ()) (fun a => if inB a.1 [(j : Int), (m : Int)] = true then 1 - a.2 else a.2) (Eq.refl _) (by rw [len_enumL, hw.len]; omega) (fun a _ => by split <;> rfl)]
    simp only [bo]
    have get : ∀ k, k < L → ((enumL w).map fun a => if inB a.1 [(j : Int), (m : Int)] = true then 1 - a.2 else a.2)[k]? = some (if k = j ∨ k = m then 1 - w.getD k 0 else w.getD k 0) := fun k hk => by
      rw [List.getElem?_map, enumL_at, (hw.at_ hk).1]
      show some (if inB (k : Int) [(j : Int), (m : Int)] = true then 1 - w.getD k 0 else w.getD k 0) = _
      congr 1
      by_cases z : k = j ∨ k = m
      · rw [if_pos z, if_pos]
        simp only [inB, decide_eq_true_eq, List.mem_cons, List.not_mem_nil, or_false]
        omega
      · rw [if_neg z, if_neg]
        simp only [inB, decide_eq_true_eq, List.mem_cons, List.not_mem_nil, or_false]
        omega
    refine ⟨_, rfl, ⟨by rw [List.length_map, len_enumL, hw.len], fun x hx => ?_⟩, fun k hk => ?_⟩
    · obtain ⟨k, hk, ek⟩ := List.getElem_of_mem hx
      have hk' : k < L := by rw [List.length_map, len_enumL, hw.len] at hk; exact hk
      have g := get k hk'
      rw [List.getElem?_eq_getElem hk, ek] at g
      have g := Option.some.inj g
      obtain ⟨_, cc⟩ := hw.at_ hk'
      split at g <;> rcases cc with q | q <;> rw [q] at g <;> omega
    · have g := get k hk
      show decide (((enumL w).map fun a => if inB a.1 [(j : Int), (m : Int)] = true then 1 - a.2 else a.2).getD k 0 = 1) = _
      rw [List.getD, g, Option.getD_some]
      unfold fc
      rw [if_neg t]
      have cj := (hw.at_ hj).2
      have cm := (hw.at_ h2).2
      have ne : ¬ m = j := by omega
      by_cases z : k = j
      · subst z
        rw [if_pos (.inl rfl), if_pos rfl]
        rcases cj with q | q <;> rcases hb with p | p <;> rw [q, p] at n1 ⊢ <;> first | rfl | exact absurd rfl n1
      · by_cases z2 : k = m
        · subst z2
          rw [if_pos (.inr rfl), if_neg ne, if_pos rfl]
          rcases cm with q | q <;> rcases hc with p | p <;> rw [q, p] at n2 ⊢ <;> first | rfl | exact absurd rfl n2
        · rw [if_neg (by omega), if_neg z, if_neg z2]; rfl
abbrev cs_ (rows : List (List Int)) (L : Nat) : List Cl := (wcL rows L).map clOf
theorem agree_of_dist {n : Nat} {w v : W} (h : dist n w v = 0) : ∀ k, k < n → w k = v k := dist_zero h
theorem dist_agree {n : Nat} {w v : W} (h : ∀ k, k < n → w k = v k) : dist n w v = 0 := (dist_congr h fun _ _ => rfl).trans (dist_self n v)
theorem fc_agree {n : Nat} {c : Cl} (o : c.ok n) {w v : W} (h : ∀ k, k < n → w k = v k) : ∀ k, k < n → fc c w k = fc c v k :=
  dist_zero (by have := fc_lip o w v; rw [dist_agree h] at this; omega)
theorem iter_agree {n : Nat} {S : List W} {cs : List Cl} (G : Good n S cs) (K : Nat) {w v : W} (h : ∀ k, k < n → w k = v k) : ∀ k, k < n → iter cs K w k = iter cs K v k :=
  dist_zero (by have := iter_lip G K w v; rw [dist_agree h] at this; omega)
theorem passes_ok {L : Nat} {rows : List (List Int)} (R : RowsOK L rows) : ∀ (xs : List Cll), (∀ x ∈ xs, x ∈ wcL rows L) → ∀ w : List Int, Bits L w →
    ∃ w', forN xs w (fun (s1090 : List Int) (a1089 : List (Int × Int)) =>
        bnd
          (bnd
            (bnd
              (bnd
                (lcM (M.ok ()) (fun (r1092 : Unit) => a1089) (fun (a1091 : Int × Int) => M.ok true)
                  fun (a1091 : Int × Int) => m_is_true (a1091, s1090))
                fun (r1109 : List Bool) => M.ok (r1109, ()))
              fun (q1111 : List Bool × Unit) => M.ok (q1111.1.any id))
            fun (b1112 : Bool) => M.ok !b1112)
          fun (b1113 : Bool) => if b1113 = true then m_turned (s1090, a1089) else M.ok s1090) = .ok w' ∧ Bits L w' ∧ ∀ k, k < L → toW w' k = pass (xs.map clOf) (toW w) k
  | [], _, w, hw => ⟨w, rfl, hw, fun _ _ => rfl⟩
  | x :: xs, h, w, hw => by
    obtain ⟨w1, e1, b1, a1⟩ := step_ok R.hL (h x (by simp)) hw
    obtain ⟨w2, e2, b2, a2⟩ := passes_ok R xs (fun y hy => h y (by simp [hy])) w1 b1
    refine ⟨w2, ?_, b2, fun k hk => ?_⟩
    · unfold forN
      exact (bko _ e1).trans e2
    · rw [a2 k hk]
      show pass (xs.map clOf) (toW w1) k = pass (xs.map clOf) (fc (clOf x) (toW w)) k
      have ok : ∀ c ∈ xs.map clOf, c.ok L := fun c hc => (good_rows R).ok c (by
        obtain ⟨y, hy, rfl⟩ := List.mem_map.mp hc
        exact List.mem_map.mpr ⟨y, h y (by simp [hy]), rfl⟩)
      have := pass_lip ok (toW w1) (fc (clOf x) (toW w))
      rw [dist_agree a1] at this
      exact dist_zero (by omega) k hk
theorem in_rows {L : Nat} {rows : List (List Int)} (R : RowsOK L rows) {w : List Int} (hw : Bits L w) : w ∈ rows ↔ inS L (rows.map toW) (toW w) := by
  constructor
  · intro h; exact ⟨toW w, List.mem_map.mpr ⟨w, h, rfl⟩, fun _ _ => rfl⟩
  · rintro ⟨x, hx, e⟩
    obtain ⟨r, hr, rfl⟩ := List.mem_map.mp hx
    rw [← (R.w r hr).ext hw e]; exact hr
theorem tot_agree {n : Nat} {S : List W} {w v : W} (h : ∀ k, k < n → w k = v k) : tot n S w = tot n S v := by
  unfold tot
  congr 1
  exact List.map_congr_left fun x _ => dist_congr h fun _ _ => rfl
theorem while_ok {L : Nat} {rows : List (List Int)} (R : RowsOK L rows) (known : List (List Int)) (hk : ∀ x, x ∈ known ↔ x ∈ rows) : ∀ (fuel : Nat) (w : List Int) (K : Nat), Bits L w → tot L (rows.map toW) (toW w) < fuel → tot L (rows.map toW) (toW w) ≤ K →
    ∃ w', whileN fuel w (fun (s1085 : List Int) => M.ok !decide (s1085 ∈ known))
      (fun (s1085 : List Int) =>
      forN (wcL rows L) s1085 fun (s1090 : List Int) (a1089 : List (Int × Int)) =>
        bnd
          (bnd
            (bnd
              (bnd
                (lcM (M.ok ()) (fun (r1092 : Unit) => a1089) (fun (a1091 : Int × Int) => M.ok true)
                  fun (a1091 : Int × Int) => m_is_true (a1091, s1090))
                fun (r1109 : List Bool) => M.ok (r1109, ()))
              fun (q1111 : List Bool × Unit) => M.ok (q1111.1.any id))
            fun (b1112 : Bool) => M.ok !b1112)
          fun (b1113 : Bool) => if b1113 = true then m_turned (s1090, a1089) else M.ok s1090) = .ok w' ∧ w' ∈ rows ∧ ∀ k, k < L → toW w' k = iter (cs_ rows L) K (toW w) k
  | 0, w, K, _, h, _ => by omega
  | fuel + 1, w, K, hw, h1, h2 => by
    have G := good_rows R
    unfold whileN
    simp only [bo]
    by_cases c : w ∈ rows
    · rw [decide_eq_true ((hk w).mpr c)]
      simp only [Bool.not_true, Bool.false_eq_true, if_false]
      exact ⟨w, rfl, c, fun k _ => by rw [iter_fix G ((in_rows R hw).mp c)]⟩
    · rw [decide_eq_false fun z => c ((hk w).mp z)]
      simp only [Bool.not_false, if_true]
      obtain ⟨w1, e1, b1, a1⟩ := passes_ok R (wcL rows L) (fun _ h => h) w hw
      rw [e1]
      simp only [bo]
      have lt := pass_tot G (w := toW w) fun z => c ((in_rows R hw).mpr z)
      have te := tot_agree (S := rows.map toW) a1
      obtain ⟨K', rfl⟩ : ∃ K', K = K' + 1 := ⟨K - 1, by omega⟩
      obtain ⟨w2, e2, m2, a2⟩ := while_ok R known hk fuel w1 K' b1 (by omega) (by omega)
      refine ⟨w2, e2, m2, fun k hk' => ?_⟩
      rw [a2 k hk']
      exact iter_agree G K' a1 k hk'
abbrev Fd (rows : List (List Int)) (L : Nat) (x : W) : W := iter (cs_ rows L) 1600 x
theorem fold_ok {L : Nat} {rows : List (List Int)} (R : RowsOK L rows) {w : List Int} (hw : Bits L w) : ∃ w', m_fold (((L : Int), rows), w) = .ok w' ∧ w' ∈ rows ∧ ∀ k, k < L → toW w' k = Fd rows L (toW w) k := by
  have hL := R.hL
  have hle := R.le
  unfold m_fold
  simp only [bo, bnd_ret]
  rw [look_ok R]
  simp only [bo]
  rw [is_word_ok hw (by omega)]
  simp only [bo, Bool.not_true, Bool.false_eq_true, if_false]
  obtain ⟨d, ed, hd⟩ := dc_ok (mk := fun a : List Int => M.ok a) (mv := fun _ : List Int => M.ok true) (v := true) (fun _ => rfl) (fun _ => rfl) rows []
  have e1 : dcM (M.ok ()) (fun (r796 : Unit) => rows) (fun (a795 : List Int) => M.ok a795) (fun (a795 : List Int) => M.ok true) = .ok d := by
    unfold dcM
    rw [bko _ (Eq.refl _), bko (a := ()) _ (chk_ok (by show rows.length ≤ _; omega))]
    exact ed
  rw [e1]
  simp only [bo]
  rw [clauses_ok R]
  simp only [bo]
  unfold m_led_into
  simp only [bo, bnd_ret]
  have tb := tot_bound (n := L) (S := rows.map toW) (toW w)
  rw [List.length_map] at tb
  have : rows.length * L ≤ 40 * 39 := Nat.mul_le_mul hle hL
  exact while_ok R (d.map (·.1)) (fun x => by rw [hd x]; simp) 2000 w 1600 hw (by omega) (by omega)
theorem unlike_ok {L : Nat} (hL : L ≤ 1000) {a b : List Int} (ha : Bits L a) (hb : Bits L b) : m__law_unlike (a, b) = .ok ((dist L (toW a) (toW b) : Nat) : Int) := by
  unfold m__law_unlike
  simp only [bo, bnd_ret]
  rw [ha.len, rng_n (by omega)]
  simp only [bo]
  have := forN_inv (f := fun (s1178 a1177 : Int) =>
        bnd (bnd (gt a a1177) fun (r1181 : Int) => bnd (gt b a1177) fun (r1184 : Int) => M.ok !decide (r1181 = r1184))
          fun (b1185 : Bool) => if b1185 = true then M.ok (s1178 + 1) else M.ok s1178) (fun (d : List Int) (s : Int) => s = ((dist d.length (toW a) (toW b) : Nat) : Int)) (rg L) [] 0 (by simp [dist, sm]) ?st
  · obtain ⟨s', e, i⟩ := this
    rw [show forN (rg L) (0 : Int) _ = _ from e]
    simp only [List.nil_append, len_rg] at i
    rw [i]
  · rintro d x s ⟨r, hr⟩ rfl
    simp only [List.nil_append] at hr
    obtain ⟨rfl, hd⟩ := rg_split hr
    rw [gt_bit ha hd, gt_bit hb hd]
    simp only [bo]
    have t := toW_iff ha hb hd
    have ds : dist (d ++ [(d.length : Int)]).length (toW a) (toW b) = dist d.length (toW a) (toW b) + one (toW a d.length) (toW b d.length) := by
      simp only [List.length_append, List.length_cons, List.length_nil]
      rfl
    by_cases c : a.getD d.length 0 = b.getD d.length 0
    · rw [decide_eq_true c]
      simp only [Bool.not_true, Bool.false_eq_true, if_false]
      refine ⟨_, rfl, ?_⟩
      rw [ds, t.mpr c, one_self]; simp
    · rw [decide_eq_false c]
      simp only [Bool.not_false, if_true]
      refine ⟨_, rfl, ?_⟩
      have : one (toW a d.length) (toW b d.length) = 1 := if_neg fun z => c (t.mp z)
      rw [ds, this]; simp
theorem image_ok {L : Nat} {rows : List (List Int)} (R : RowsOK L rows) {w : List Int} (hw : Bits L w) : ∃ w', m__law_image (((L : Int), rows), rows, w) = .ok (some w') ∧ w' ∈ rows ∧ ∀ k, k < L → toW w' k = Fd rows L (toW w) k := by
  have hL := R.hL
  obtain ⟨w', e, m, a⟩ := fold_ok R hw
  refine ⟨w', ?_, m, a⟩
  have hb := R.w w' m
  unfold m__law_image
  simp only [bo, bnd_ret]
  rw [e]
  simp only [bo, Bool.not_true, Bool.false_eq_true, if_false]
  have el : decide ((w'.length : Int) = (w.length : Int)) = true := decide_eq_true (by rw [hb.len, hw.len])
  rw [el]
  simp only [bo, Bool.not_true, Bool.false_eq_true, if_false]
  rw [forR_unit _ fun _ _ => Eq.refl _]
  simp only [bo, Pt.to]
  have im : inB w' rows = true := by simp only [inB, decide_eq_true_eq]; exact m
  rw [im]
  simp only [bo, Bool.not_true, Bool.false_eq_true, if_false]
  rw [unlike_ok (by omega) hb hw]
  simp only [bo]
  have ev : dist L (toW w') (toW w) % 2 = 0 := by
    rw [dist_congr a fun _ _ => rfl]; exact iter_par (good_rows R) 1600 (toW w)
  have e1 : (1 : Int) = ((1 : Nat) : Int) := by simp
  have : band ((dist L (toW w') (toW w) : Nat) : Int) 1 = ((0 : Nat) : Int) := by
    rw [e1, band_n, Nat.and_one_is_mod, ev]
  rw [this]
  simp
end Z
set_option linter.all false
set_option maxRecDepth 100000
/-! P58k: the law. -/
namespace Z
open PySem L2 Y
theorem sIx_some {n k : Nat} (d : Nat) (h : k ≤ n) : HT.sIx n d (some (k : Int)) = k := by
  rw [HT.sIx_nat]; omega
theorem cut_lo {α : Type} {xs : List α} {k : Nat} (h : k < xs.length) : cutM xs none (some (k : Int)) = .ok (xs.take k) := by
  unfold cutM
  rw [sIx_some _ (by omega)]
  rw [chk_ok (by intro z; omega)]
  unfold cut
  rw [sIx_some _ (by omega)]
  have : HT.sIx xs.length 0 none = 0 := rfl
  rw [this]; simp
theorem cut_hi {α : Type} {xs : List α} {k : Nat} (h : k < xs.length) : cutM xs (some ((k : Int) + 1)) none = .ok (xs.drop (k + 1)) := by
  have e : (k : Int) + 1 = ((k + 1 : Nat) : Int) := by omega
  unfold cutM
  rw [e, sIx_some _ (by omega)]
  rw [chk_ok (by intro z; omega)]
  unfold cut
  rw [sIx_some _ (by omega)]
  have : HT.sIx xs.length xs.length none = xs.length := rfl
  rw [this, List.take_of_length_le (by simp)]
abbrev nearW (w : List Int) (k : Nat) : List Int := w.take k ++ [1 - w.getD k 0] ++ w.drop (k + 1)
theorem near_get {L : Nat} {w : List Int} (hw : Bits L w) {k : Nat} (hk : k < L) (i : Nat) (hi : i < L) : (nearW w k)[i]? = some (if i = k then 1 - w.getD k 0 else w.getD i 0) := by
  have hl := hw.len
  unfold nearW
  by_cases c : i < k
  · rw [List.append_assoc, List.getElem?_append_left (by simp; omega), List.getElem?_take_of_lt c, (hw.at_ hi).1, if_neg (by omega)]
  · by_cases c2 : i = k
    · subst c2
      rw [if_pos rfl, List.append_assoc, List.getElem?_append_right (by simp; omega)]
      have : i - (w.take i).length = 0 := by simp; omega
      rw [this]; simp
    · rw [if_neg c2, List.getElem?_append_right (by simp; omega), List.getElem?_drop]
      have : k + 1 + (i - (w.take k ++ [1 - w.getD k 0]).length) = i := by simp; omega
      rw [this, (hw.at_ hi).1]
theorem near_bits {L : Nat} {w : List Int} (hw : Bits L w) {k : Nat} (hk : k < L) : Bits L (nearW w k) where
  len := by have := hw.len; simp [nearW]; omega
  bit := fun x hx => by
    obtain ⟨i, hi, e⟩ := List.getElem_of_mem hx
    have hl : (nearW w k).length = L := by have := hw.len; simp [nearW]; omega
    have g := near_get hw hk i (by omega)
    rw [List.getElem?_eq_getElem hi, e] at g
    have g := Option.some.inj g
    have c1 := (hw.at_ hk).2
    have c2 := (hw.at_ (k := i) (by omega)).2
    split at g <;> omega
theorem near_W {L : Nat} {w : List Int} (hw : Bits L w) {k : Nat} (hk : k < L) {i : Nat} (hi : i < L) : toW (nearW w k) i = if i = k then !toW w k else toW w i := by
  unfold toW
  rw [List.getD, near_get hw hk i hi, Option.getD_some]
  by_cases c : i = k
  · rw [if_pos c, if_pos c]
    rcases (hw.at_ hk).2 with q | q <;> rw [q] <;> decide
  · rw [if_neg c, if_neg c]
theorem dist_near {n k : Nat} (hk : k < n) {w v : W} (h : ∀ i, i < n → v i = if i = k then !w k else w i) : dist n v w = 1 := by
  unfold dist
  rw [sm_out hk]
  have : sm n (fun i => if i = k then 0 else one (v i) (w i)) = sm n fun _ => 0 := sm_congr fun i hi => by
    by_cases c : i = k
    · rw [if_pos c]
    · rw [if_neg c, h i hi, if_neg c, one_self]
  rw [this, sm_const, h k hk, if_pos rfl]
  cases w k <;> rfl
theorem places_ok (f : Flow) (L : Nat) (hL : L ≤ 39) (hf : FOK f) : ∃ (ps : List Int) (f' : Flow), m__law_places (f, (L : Int)) = .ok (ps, f') ∧ ∀ a ∈ ps, ∃ k : Nat, a = (k : Int) ∧ k < L := by
  unfold m__law_places
  simp only [bo, bnd_ret, decide_eq_true_eq]
  by_cases c : (L : Int) ≤ 8
  · rw [if_pos c, lrg_n (by omega)]
    simp only [bo]
    refine ⟨_, _, Eq.refl _, fun a ha => ?_⟩
    obtain ⟨h1, h2⟩ := mem_rg.mp ha
    obtain ⟨k, rfl⟩ := nat_of h1
    exact ⟨k, rfl, by omega⟩
  · rw [if_neg c]
    obtain ⟨t1, f1, e1, ok1, a1, b1⟩ := take_ok f (L : Int) hf (by omega) (by omega)
    rw [e1]; simp only [bo]
    obtain ⟨t2, f2, e2, ok2, a2, b2⟩ := take_ok f1 (L : Int) ok1 (by omega) (by omega)
    rw [e2]; simp only [bo]
    refine ⟨_, _, Eq.refl _, fun a ha => ?_⟩
    simp only [List.mem_cons, List.not_mem_nil, or_false] at ha
    rcases ha with e | e <;> subst e
    · obtain ⟨k, rfl⟩ := nat_of a1; exact ⟨k, rfl, by omega⟩
    · obtain ⟨k, rfl⟩ := nat_of a2; exact ⟨k, rfl, by omega⟩
theorem foldl_id {S α : Type} (l : List α) (s : S) : l.foldl (fun s _ => s) s = s := by
  induction l with
  | nil => rfl
  | cons a l ih => exact ih
theorem neighbours_ok (f : Flow) (hf : FOK f) {L : Nat} {rows : List (List Int)} (R : RowsOK L rows) {w im : List Int} (hw : Bits L w) (hi : Bits L im) (ha : ∀ k, k < L → toW im k = Fd rows L (toW w) k) :
    ∃ f', m__law_neighbours (f, ((L : Int), rows), rows, w, im) = .ok (true, f') := by
  have hL := R.hL
  have hwl := hw.len
  unfold m__law_neighbours
  simp only [bo, bnd_ret]
  obtain ⟨ps, f1, e1, hp⟩ := places_ok f L hL hf
  rw [hwl, e1]
  simp only [bo]
  rw [forR_go (g := fun s _ => s)]
  · rw [foldl_id]
    simp only [bo, Pt.to]
    exact ⟨_, rfl⟩
  · intro s a hap
    obtain ⟨k, rfl, hk⟩ := hp a hap
    rw [cut_lo (by omega), gt_bit hw hk, cut_hi (by omega)]
    simp only [bo]
    rw [chk_ok (by rw [sizeLine_eq]; simp; omega)]
    simp only [bo]
    rw [chk_ok (by rw [sizeLine_eq]; simp; omega)]
    simp only [bo]
    obtain ⟨fd, e2, m2, a2⟩ := image_ok R (near_bits hw hk)
    rw [show m__law_image (((L : Int), rows), rows, w.take k ++ [1 - w.getD k 0] ++ w.drop (k + 1)) = _ from e2]
    simp only [bo]
    have n1 : isN (encO encI (some fd)) = false := rfl
    rw [n1]
    simp only [Bool.false_eq_true, if_false]
    rw [unlike_ok (by omega) (R.w fd m2) hi]
    simp only [bo]
    have d1 : dist L (toW fd) (toW im) = 1 := by
      rw [dist_congr a2 ha]
      exact iter_one (good_rows R) 1600 (dist_near hk fun i hi => near_W hw hk hi)
    rw [d1]
    have : (!decide ((((1 : Nat)) : Int) = 1)) = false := by decide
    rw [this]
    simp only [Bool.false_eq_true, if_false]
theorem plain (ns : List Int) (_ : ns.length ≤ 63) : m_law ns = .ok true := by
  have key : m__law_holds ns = .ok true := by
    unfold m__law_holds m__law_flow
    simp only [bo, bnd_ret]
    obtain ⟨L, rows, f1, e1, ok1, R⟩ := drawn_ok (ns, 0, 0, 0, false) ⟨Int.le_refl _, Int.le_refl _⟩
    have hL := R.hL
    have hle := R.le
    have hne := R.ne
    have G := good_rows R
    rw [e1]
    simp only [bo]
    obtain ⟨w, f2, e2, ok2, lw, bw⟩ := bits_ok (ns, 20, 0, 0, false) L (by omega) ⟨by show (0 : Int) ≤ 20; decide, Int.le_refl _⟩
    rw [e2]
    simp only [bo]
    obtain ⟨v, f3, e3, ok3, lv, bv⟩ := bits_ok f2 L (by omega) ok2
    rw [e3]
    simp only [bo]
    have hw : Bits L w := ⟨lw, bw⟩
    have hv : Bits L v := ⟨lv, bv⟩
    obtain ⟨t, f4, e4, ok4, a4, b4⟩ := take_ok f3 (rows.length : Int) ok3 (by omega) (by omega)
    obtain ⟨p, rfl⟩ := nat_of a4
    rw [e4]
    simp only [bo]
    have hp : p < rows.length := by omega
    obtain ⟨gp, mp⟩ := rw_get hp
    have hk := R.w _ mp
    rw [gt_n gp]
    simp only [bo]
    rw [noer_ok (Words_ok R)]
    simp only [bo]
    obtain ⟨w', e5, m5, a5⟩ := image_ok R hw
    obtain ⟨v', e6, m6, a6⟩ := image_ok R hv
    rw [e5]
    simp only [bo]
    rw [e6]
    simp only [bo]
    have n1 : ∀ x : List Int, isN (encO encI (some x)) = false := fun _ => rfl
    simp only [n1, bo, Bool.false_eq_true, if_false]
    have hw' := R.w _ m5
    have hv' := R.w _ m6
    rw [unlike_ok (by omega) hw' hv', unlike_ok (by omega) hw hv]
    simp only [bo, decide_eq_true_eq]
    have d1 : dist L (toW w') (toW v') ≤ dist L (toW w) (toW v) := by
      rw [dist_congr a5 a6]; exact iter_lip G 1600 _ _
    rw [if_neg (by omega), unlike_ok (by omega) hw' hk, unlike_ok (by omega) hw hk]
    simp only [bo, decide_eq_true_eq]
    have d2 : dist L (toW w') (toW (rw_ rows p)) ≤ dist L (toW w) (toW (rw_ rows p)) := by
      rw [dist_congr a5 fun _ _ => rfl]; exact iter_near G 1600 _ (List.mem_map.mpr ⟨_, mp, rfl⟩)
    rw [if_neg (by omega)]
    -- the image's image, the image of a word of the set
    have self : ∀ r ∈ rows, m__law_image (((L : Int), rows), rows, r) = .ok (some r) := fun r hr => by
      obtain ⟨r', e, m, a⟩ := image_ok R (R.w r hr)
      have : r' = r := (R.w r' m).ext (R.w r hr) fun k hk => by
        rw [a k hk]
        exact congrFun (iter_fix G ⟨toW r, List.mem_map.mpr ⟨r, hr, rfl⟩, fun _ _ => rfl⟩ 1600) k
      rw [e, this]
    rw [self w' m5, self _ mp]
    simp only [bo, decide_true, Bool.not_true, Bool.false_eq_true, if_false]
    obtain ⟨f5, e7⟩ := neighbours_ok f4 ok4 R hw hw' a5
    rw [e7]
    simp only [bo]
  unfold m_law
  simp only [bo, bnd_ret]
  exact noer_ok key
end Z
open PySem PySem.W PyProof.Rows
set_option maxRecDepth 100000 in
set_option maxHeartbeats 0 in
theorem PySem.Challenge.cw_middlewebs_k58_whole_fold_keeps_near_wor_holds : PySem.Challenge.rw_middlewebs_k58_whole_fold_keeps_near_wor.Holds := by
  w_on; o_law
  refine HandSHeadRun.head_any (r := Z.hrow) (q := Z.hview) (H := Z.hhk)
    (ob := Z.hob) (M := 6000) (loose := Z.nms)
    (d := HandSHeadRun.topDef Z.hrow.prog 53) (kwd := [])
    Z.hob_eq (by kernel_rfl)
    (fun s => by kernel_rfl) Z.hrun (by kernel_rfl)
    (by kernel_rfl) (by kernel_rfl) (by rfl)
    (by first | assumption | decide +kernel) (by decide +kernel)
    ⟨rfl, rfl, rfl, rfl, rfl, by decide +kernel⟩ ?hw ?hc
  case hw => w_witness2
  case hc =>
    refine Z.walk_w (k := 13) (m := Z.m_law) rfl
      (by kernel_rfl) ⟨rfl, by decide, by decide⟩ Z.plain ?F
    intro w mg fa h Y G z
    obtain ⟨K, KX, c⟩ := Y
    have z1 : mg ("law" : PySem.Str) = some (.ref fa) := by
      have e : (HandSHeadRun.topDef Z.hrow.prog 53).name
        = ("law" : PySem.Str) := by kernel_rfl
      rw [← e]; exact z
    exact Z.fin_of KX G c z1
