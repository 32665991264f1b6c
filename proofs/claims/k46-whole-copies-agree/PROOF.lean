import PyProof.Rows.All
import Wide.All
import OpenK.AllK
import Wide.FinOn
import HandS.WordsList
import HandS.Comp
import HandS.Iter
import HandS.Text
import HandS.Dict
import HandS.Defaults
import HandS.HeadHook2
import PySem.Challenge.RW_timeshelf_k46_whole_copies_agree
import HandS.Conv
import KE.KDictCopyH
import HandS.DictComp
import HandS.DeepEq
import HandS.SortInts
import HandS.SortKw
import KE.SortKeyHeap
import HandS.Evl
import HandS.Walk
import HandS.Replace
import HandS.IsInst
import HandS.WordsDict
import KE.KStateDown
import Lean
import HandS.Head0
import HandS.Head1
import HandS.Head2
import HandS.HeadHook1
import HandS.HeadEnd
set_option Elab.async false
set_option linter.all false
set_option maxRecDepth 100000
/-! The mathematics of merging, in plain Lean: tellings (stamp, source, what), a copy's list, merged lists. -/
namespace K46
section
variable {γ : Type}
def tk (t : Int × Int × γ) : Int × Int := (t.1, t.2.1)
def lexLe (p q : Int × Int) : Bool := decide (p.1 < q.1) || (decide (p.1 = q.1) && decide (p.2 ≤ q.2))
theorem lexLe_iff {p q : Int × Int} : lexLe p q = true ↔ p.1 < q.1 ∨ (p.1 = q.1 ∧ p.2 ≤ q.2) := by
  simp [lexLe]
theorem lexLe_tr (p q r : Int × Int) : lexLe p q = true → lexLe q r = true → lexLe p r = true := by
  simp only [lexLe_iff]; omega
theorem lexLe_tot (p q : Int × Int) : (lexLe p q || lexLe q p) = true := by
  simp only [Bool.or_eq_true, lexLe_iff]; omega
theorem lexLe_as {p q : Int × Int} (h1 : lexLe p q = true) (h2 : lexLe q p = true) : p = q := by
  simp only [lexLe_iff] at h1 h2
  exact Prod.ext (by omega) (by omega)
def sortT (ts : List (Int × Int × γ)) : List (Int × Int × γ) := ts.mergeSort fun a b => lexLe (tk a) (tk b)
theorem sortT_perm (ts : List (Int × Int × γ)) : (sortT ts).Perm ts := List.mergeSort_perm _ _
theorem mem_sortT {ts : List (Int × Int × γ)} {t : Int × Int × γ} : t ∈ sortT ts ↔ t ∈ ts := (sortT_perm ts).mem_iff
theorem sortT_pw (ts : List (Int × Int × γ)) : (sortT ts).Pairwise fun a b => lexLe (tk a) (tk b) = true :=
  List.pairwise_mergeSort (le := fun a b => lexLe (tk a) (tk b)) (fun _ _ _ => lexLe_tr _ _ _) (fun _ _ => lexLe_tot _ _) ts
/-- keys apart: one telling a key -/
theorem tk_inj {G : List (Int × Int × γ)} (nd : (G.map tk).Nodup) {t u : Int × Int × γ} (ht : t ∈ G) (hu : u ∈ G) (e : tk t = tk u) : t = u := by
  induction G with
  | nil => cases ht
  | cons g G ih =>
    rw [List.map_cons, List.nodup_cons] at nd
    rcases List.mem_cons.mp ht with rfl | ht
    · rcases List.mem_cons.mp hu with rfl | hu
      · rfl
      · exact absurd (by rw [e]; exact List.mem_map.mpr ⟨u, hu, rfl⟩) nd.1
    · rcases List.mem_cons.mp hu with q | hu
      · rw [q] at e
        exact absurd (by rw [← e]; exact List.mem_map.mpr ⟨t, ht, rfl⟩) nd.1
      · exact ih nd.2 ht hu
/-- what a sort hands back is this one -/
theorem sortT_uniq {us ts : List (Int × Int × γ)} (p : us.Perm ts) (s : us.Pairwise fun a b => lexLe (tk a) (tk b) = true) (nd : (ts.map tk).Nodup) : us = sortT ts := by
  refine List.Perm.eq_of_pairwise (fun a b ha hb h1 h2 => ?_) s (sortT_pw ts) (p.trans (sortT_perm ts).symm)
  exact tk_inj nd (p.mem_iff.mp ha) (mem_sortT.mp hb) (lexLe_as h1 h2)
theorem sortT_eq {us ts : List (Int × Int × γ)} (p : us.Perm ts) (nd : (ts.map tk).Nodup) : sortT us = sortT ts :=
  sortT_uniq ((sortT_perm us).trans p) (sortT_pw us) nd
theorem nodup_of {G : List (Int × Int × γ)} (nd : (G.map tk).Nodup) : G.Nodup := by
  induction G with
  | nil => exact List.nodup_nil
  | cons g G ih =>
    rw [List.map_cons, List.nodup_cons] at nd
    exact List.nodup_cons.mpr ⟨fun h => nd.1 (List.mem_map.mpr ⟨g, h, rfl⟩), ih nd.2⟩
/-- those of B that are new to A, in order; A with them -/
def newT (A B : List (Int × Int × γ)) : List (Int × Int × γ) := (sortT B).filter fun t => !(A.map tk).contains (tk t)
def mergeT (A B : List (Int × Int × γ)) : List (Int × Int × γ) := A ++ newT A B
theorem mem_newT {A B : List (Int × Int × γ)} {t : Int × Int × γ} : t ∈ newT A B ↔ t ∈ B ∧ tk t ∉ A.map tk := by
  simp only [newT, List.mem_filter, mem_sortT, Bool.not_eq_true', List.contains_eq_mem, decide_eq_false_iff_not]
theorem map_sub {A B : List (Int × Int × γ)} (h : A ⊆ B) : A.map tk ⊆ B.map tk := List.map_subset _ h
theorem newT_nodup {A B : List (Int × Int × γ)} (nd : (B.map tk).Nodup) : ((newT A B).map tk).Nodup := by
  have h1 : ((sortT B).map tk).Nodup := ((sortT_perm B).map tk).symm.nodup nd
  exact List.Nodup.sublist (List.Sublist.map _ List.filter_sublist) h1
/-- a copy's list: of the tellings told so far, keys apart -/
structure Good (G A : List (Int × Int × γ)) : Prop where
  sub : A ⊆ G
  nd : (A.map tk).Nodup
theorem Good.merge {G A B : List (Int × Int × γ)} (a : Good G A) (b : Good G B) : Good G (mergeT A B) where
  sub := fun t h => by
    rcases List.mem_append.mp h with h | h
    · exact a.sub h
    · exact b.sub (mem_newT.mp h).1
  nd := by
    rw [mergeT, List.map_append, List.nodup_append]
    refine ⟨a.nd, newT_nodup b.nd, fun x hx y hy e => ?_⟩
    obtain ⟨t, ht, rfl⟩ := List.mem_map.mp hy
    rw [e] at hx
    exact (mem_newT.mp ht).2 hx
theorem mem_mergeT {G A B : List (Int × Int × γ)} (nd : (G.map tk).Nodup) (a : Good G A) (b : Good G B) {t : Int × Int × γ} : t ∈ mergeT A B ↔ t ∈ A ∨ t ∈ B := by
  rw [mergeT, List.mem_append, mem_newT]
  refine ⟨fun h => h.imp id And.left, fun h => ?_⟩
  rcases h with h | h
  · exact .inl h
  · by_cases q : tk t ∈ A.map tk
    · obtain ⟨u, hu, e⟩ := List.mem_map.mp q
      exact .inl (tk_inj nd (a.sub hu) (b.sub h) e ▸ hu)
    · exact .inr ⟨h, q⟩
theorem Good.len {G A : List (Int × Int × γ)} (a : Good G A) : A.length ≤ G.length := (nodup_of a.nd).length_le_of_subset a.sub
theorem Good.mono {G G' A : List (Int × Int × γ)} (a : Good G A) (h : G ⊆ G') : Good G' A := ⟨fun _ m => h (a.sub m), a.nd⟩
theorem Good.perm {G A : List (Int × Int × γ)} (nd : (G.map tk).Nodup) (a : Good G A) (f : G ⊆ A) : A.Perm G :=
  (List.perm_ext_iff_of_nodup (nodup_of a.nd) (nodup_of nd)).mpr fun _ => ⟨fun h => a.sub h, fun h => f h⟩
theorem newT_nil {A B : List (Int × Int × γ)} (h : B ⊆ A) : newT A B = [] := by
  refine List.eq_nil_iff_forall_not_mem.mpr fun t ht => ?_
  obtain ⟨h1, h2⟩ := mem_newT.mp ht
  exact h2 (map_sub h (List.mem_map.mpr ⟨t, h1, rfl⟩))
/-- no two of A and B speak against one another -/
theorem Good.agree {G A B : List (Int × Int × γ)} (nd : (G.map tk).Nodup) (a : Good G A) (b : Good G B) : ∀ t ∈ A, ∀ u ∈ B, tk t = tk u → t = u := fun _ ht _ hu e => tk_inj nd (a.sub ht) (b.sub hu) e
/-- the three copies: G all that was told -/
structure Sys (P : γ → Prop) (G : List (Int × Int × γ)) (T : Nat → List (Int × Int × γ)) : Prop where
  nd : (G.map tk).Nodup
  good : ∀ i, i < 3 → Good G (T i)
  own : ∀ t ∈ G, ∀ i : Nat, i < 3 → t.2.1 = (i : Int) + 1 → t ∈ T i
  src : ∀ t ∈ G, ∃ i : Nat, i < 3 ∧ t.2.1 = (i : Int) + 1
  ok : ∀ t ∈ G, P t.2.2
def put3 (T : Nat → List (Int × Int × γ)) (i : Nat) (A : List (Int × Int × γ)) : Nat → List (Int × Int × γ) := fun j => if j = i then A else T j
theorem put3_same {T : Nat → List (Int × Int × γ)} {i : Nat} {A : List (Int × Int × γ)} : put3 T i A i = A := if_pos rfl
theorem put3_ne {T : Nat → List (Int × Int × γ)} {i j : Nat} {A : List (Int × Int × γ)} (h : j ≠ i) : put3 T i A j = T j := if_neg h
theorem Sys.start {P : γ → Prop} : Sys P [] fun _ => [] := ⟨List.nodup_nil, fun _ _ => ⟨fun _ h => h, List.nodup_nil⟩, fun _ h => (nomatch h), fun _ h => (nomatch h), fun _ h => (nomatch h)⟩
theorem Sys.tell {P : γ → Prop} {G : List (Int × Int × γ)} {T : Nat → List (Int × Int × γ)} (S : Sys P G T) {i : Nat} (hi : i < 3) {m : Int} (hm : ∀ t ∈ T i, t.1 ≤ m) {c : γ} (hc : P c) :
    Sys P (G ++ [(1 + m, (i : Int) + 1, c)]) (put3 T i (T i ++ [(1 + m, (i : Int) + 1, c)])) := by
  have fresh : tk (1 + m, (i : Int) + 1, c) ∉ G.map tk := fun h => by
    obtain ⟨t, ht, e⟩ := List.mem_map.mp h
    have e1 : t.1 = 1 + m := congrArg Prod.fst e
    have e2 : t.2.1 = (i : Int) + 1 := congrArg Prod.snd e
    have := hm t (S.own t ht i hi e2)
    omega
  have sub : G ⊆ G ++ [(1 + m, (i : Int) + 1, c)] := List.subset_append_left _ _
  refine ⟨?_, fun j hj => ?_, fun t ht j hj e => ?_, fun t ht => ?_, fun t ht => ?_⟩
  · rw [List.map_append, List.nodup_append]
    refine ⟨S.nd, List.nodup_cons.mpr ⟨fun h => (nomatch h), List.nodup_nil⟩, fun x hx y hy e => ?_⟩
    rw [List.map_singleton, List.mem_singleton] at hy
    rw [e, hy] at hx
    exact fresh hx
  · by_cases q : j = i
    · subst q
      rw [put3_same]
      refine ⟨fun t ht => ?_, ?_⟩
      · rcases List.mem_append.mp ht with ht | ht
        · exact sub ((S.good j hj).sub ht)
        · exact List.mem_append_right _ ht
      · rw [List.map_append, List.nodup_append]
        refine ⟨(S.good j hj).nd, List.nodup_cons.mpr ⟨fun h => (nomatch h), List.nodup_nil⟩, fun x hx y hy e => ?_⟩
        rw [List.map_singleton, List.mem_singleton] at hy
        rw [e, hy] at hx
        exact fresh (map_sub (S.good j hj).sub hx)
    · rw [put3_ne q]
      exact (S.good j hj).mono sub
  · by_cases q : j = i
    · subst q
      rw [put3_same]
      rcases List.mem_append.mp ht with ht | ht
      · exact List.mem_append_left _ (S.own t ht j hj e)
      · exact List.mem_append_right _ ht
    · rw [put3_ne q]
      rcases List.mem_append.mp ht with ht | ht
      · exact S.own t ht j hj e
      · rw [List.mem_singleton.mp ht] at e
        have e' : (i : Int) + 1 = (j : Int) + 1 := e
        omega
  · rcases List.mem_append.mp ht with ht | ht
    · exact S.src t ht
    · exact ⟨i, hi, by rw [List.mem_singleton.mp ht]⟩
  · rcases List.mem_append.mp ht with ht | ht
    · exact S.ok t ht
    · rw [List.mem_singleton.mp ht]; exact hc
theorem Sys.merge {P : γ → Prop} {G : List (Int × Int × γ)} {T : Nat → List (Int × Int × γ)} (S : Sys P G T) {i j : Nat} (hi : i < 3) (hj : j < 3) : Sys P G (put3 T i (mergeT (T i) (T j))) := by
  refine ⟨S.nd, fun k hk => ?_, fun t ht k hk e => ?_, S.src, S.ok⟩
  · by_cases q : k = i
    · subst q
      rw [put3_same]
      exact (S.good k hk).merge (S.good j hj)
    · rw [put3_ne q]
      exact S.good k hk
  · by_cases q : k = i
    · subst q
      rw [put3_same]
      exact List.mem_append_left _ (S.own t ht k hk e)
    · rw [put3_ne q]
      exact S.own t ht k hk e
/-- a copy that has all -/
def Full (G A : List (Int × Int × γ)) : Prop := G ⊆ A
theorem Full.grow {G A B : List (Int × Int × γ)} (f : Full G A) : Full G (mergeT A B) := fun _ h => List.mem_append_left _ (f h)
theorem Full.take {G A B : List (Int × Int × γ)} (nd : (G.map tk).Nodup) (a : Good G A) (b : Good G B) (f : Full G B) : Full G (mergeT A B) := fun _ h => (mem_mergeT nd a b).mpr (.inr (f h))
/-- after both others are merged in, all is there -/
theorem Sys.full {P : γ → Prop} {G : List (Int × Int × γ)} {T : Nat → List (Int × Int × γ)} (S : Sys P G T) {i j k : Nat} (hi : i < 3) (hj : j < 3) (hk : k < 3) (h1 : i ≠ j) (h2 : i ≠ k) (h3 : j ≠ k) :
    Full G (mergeT (mergeT (T i) (T j)) (T k)) := fun t ht => by
  have gi := S.good i hi
  have gj := S.good j hj
  have gk := S.good k hk
  rw [mem_mergeT S.nd (gi.merge gj) gk, mem_mergeT S.nd gi gj]
  obtain ⟨n, hn, e⟩ := S.src t ht
  have ho := S.own t ht n hn e
  have : n = i ∨ n = j ∨ n = k := by omega
  rcases this with rfl | rfl | rfl
  · exact .inl (.inl ho)
  · exact .inl (.inr ho)
  · exact .inr ho
end
end K46

namespace K46
open PySem L2
/-! ### the text by places -/
def top (i : Nat) : Stmt := PySem.Challenge.pw_timeshelf_k46_whole_copies_agree.main.body.getD i (.Pass ⟨0, 0, 0, 0⟩)
abbrev s_words_of : Stmt := top 12
abbrev s_cut : Stmt := top 13
abbrev s_document_of : Stmt := top 14
abbrev s_is_key : Stmt := top 19
abbrev s_is_text : Stmt := top 20
abbrev s_check_change : Stmt := top 21
abbrev s_counted : Stmt := top 22
abbrev s_fits : Stmt := top 24
abbrev s_first_standing : Stmt := top 25
abbrev s_matches : Stmt := top 26
abbrev s_is_in : Stmt := top 28
abbrev s_combined : Stmt := top 29
abbrev s_join : Stmt := top 30
abbrev s_of_span : Stmt := top 31
abbrev s_shelf_of : Stmt := top 40
abbrev s_keys_of : Stmt := top 41
abbrev s_stamps_of : Stmt := top 42
abbrev s_in_order : Stmt := top 43
abbrev s_order_key : Stmt := top 44
abbrev s_law_cell : Stmt := top 47
abbrev s_law_digits : Stmt := top 48
abbrev s_law_padded : Stmt := top 49
abbrev s_law_text : Stmt := top 50
abbrev s_law_endings : Stmt := top 51
abbrev s_law_change : Stmt := top 52
abbrev s_law_tell : Stmt := top 53
abbrev s_law_copies : Stmt := top 54
abbrev s_law_pattern : Stmt := top 55
abbrev s_law_row : Stmt := top 56
abbrev s_law_question : Stmt := top 57
abbrev s_law_alike : Stmt := top 58
abbrev s_law : Stmt := top 59
abbrev s_S_init : Stmt := inClass (top 35) 0
abbrev s_S_endings : Stmt := inClass (top 35) 1
abbrev s_S_changes : Stmt := inClass (top 35) 2
abbrev s_S_known_keys : Stmt := inClass (top 35) 3
abbrev s_S_tell : Stmt := inClass (top 35) 4
abbrev s_S_history : Stmt := inClass (top 35) 5
abbrev s_S_plain_answer : Stmt := inClass (top 35) 7
abbrev s_C_init : Stmt := inClass (top 45) 0
abbrev s_C_source : Stmt := inClass (top 45) 1
abbrev s_C_endings : Stmt := inClass (top 45) 2
abbrev s_C_tellings : Stmt := inClass (top 45) 3
abbrev s_C_shelf : Stmt := inClass (top 45) 5
abbrev s_C_hold : Stmt := inClass (top 45) 6
abbrev s_C_tell : Stmt := inClass (top 45) 7
abbrev s_C_merge : Stmt := inClass (top 45) 8
abbrev FnP (K : PySem.W.Frag) (x qual : Str) (st : Stmt) (f : Addr) (fd : FuncData) : Prop := FunD K x qual (defArgs st) (defBody st) (defScope st) [] [] f fd
/-! ### what the top leaves -/
structure Ctx (K : PySem.W.Frag) (mg : Str → Option Value) : Prop where
  g_words_of : mg "words_of" = some (.ref (He.ga K "words_of"))
  g_cut : mg "cut" = some (.ref (He.ga K "cut"))
  g_document_of : mg "document_of" = some (.ref (He.ga K "document_of"))
  g_is_key : mg "_is_key" = some (.ref (He.ga K "_is_key"))
  g_is_text : mg "_is_text" = some (.ref (He.ga K "_is_text"))
  g_check_change : mg "check_change" = some (.ref (He.ga K "check_change"))
  g_counted : mg "counted" = some (.ref (He.ga K "counted"))
  g_fits : mg "fits" = some (.ref (He.ga K "fits"))
  g_first_standing : mg "first_standing" = some (.ref (He.ga K "first_standing"))
  g_matches : mg "matches" = some (.ref (He.ga K "matches"))
  g_is_in : mg "is_in" = some (.ref (He.ga K "is_in"))
  g_combined : mg "_combined" = some (.ref (He.ga K "_combined"))
  g_join : mg "join" = some (.ref (He.ga K "join"))
  g_of_span : mg "of_span" = some (.ref (He.ga K "of_span"))
  g_shelf_of : mg "shelf_of" = some (.ref (He.ga K "shelf_of"))
  g_keys_of : mg "keys_of" = some (.ref (He.ga K "keys_of"))
  g_stamps_of : mg "stamps_of" = some (.ref (He.ga K "stamps_of"))
  g_in_order : mg "in_order" = some (.ref (He.ga K "in_order"))
  g_order_key : mg "order_key" = some (.ref (He.ga K "order_key"))
  g_law_cell : mg "_law_cell" = some (.ref (He.ga K "_law_cell"))
  g_law_digits : mg "_law_digits" = some (.ref (He.ga K "_law_digits"))
  g_law_padded : mg "_law_padded" = some (.ref (He.ga K "_law_padded"))
  g_law_text : mg "_law_text" = some (.ref (He.ga K "_law_text"))
  g_law_endings : mg "_law_endings" = some (.ref (He.ga K "_law_endings"))
  g_law_change : mg "_law_change" = some (.ref (He.ga K "_law_change"))
  g_law_tell : mg "_law_tell" = some (.ref (He.ga K "_law_tell"))
  g_law_copies : mg "_law_copies" = some (.ref (He.ga K "_law_copies"))
  g_law_pattern : mg "_law_pattern" = some (.ref (He.ga K "_law_pattern"))
  g_law_row : mg "_law_row" = some (.ref (He.ga K "_law_row"))
  g_law_question : mg "_law_question" = some (.ref (He.ga K "_law_question"))
  g_law_alike : mg "_law_alike" = some (.ref (He.ga K "_law_alike"))
  g_law : mg "law" = some (.ref (He.ga K "law"))
  g_Shelf : mg "Shelf" = some (.ref (He.ga K "Shelf"))
  g_Copy : mg "Copy" = some (.ref (He.ga K "Copy"))
  n_len : mg "len" = none
  n_list : mg "list" = none
  n_int : mg "int" = none
  n_str : mg "str" = none
  n_bool : mg "bool" = none
  n_isinstance : mg "isinstance" = none
  n_all : mg "all" = none
  n_any : mg "any" = none
  n_sorted : mg "sorted" = none
  n_tuple : mg "tuple" = none
  n_ord : mg "ord" = none
  n_max : mg "max" = none
  n_min : mg "min" = none
  n_range : mg "range" = none
  i_WORD_LENGTH : ∃ t, mg "WORD_LENGTH" = some (.int 12 t)
  i_MOST_TIME : ∃ t, mg "MOST_TIME" = some (.int 100000 t)
  i_MOST_KEY : ∃ t, mg "MOST_KEY" = some (.int 8 t)
  i_MOST_TEXT : ∃ t, mg "MOST_TEXT" = some (.int 400 t)
  i_MOST_CHANGES_shelves : ∃ t, mg "MOST_CHANGES_shelves" = some (.int 80 t)
  i_MOST_KEYS_shelves : ∃ t, mg "MOST_KEYS_shelves" = some (.int 12 t)
  i_MOST_CHANGES_merging : ∃ t, mg "MOST_CHANGES_merging" = some (.int 80 t)
  i_MOST_KEYS_merging : ∃ t, mg "MOST_KEYS_merging" = some (.int 12 t)
  i_MOST_SOURCES : ∃ t, mg "MOST_SOURCES" = some (.int 9 t)
  t_SMALLS : ∃ t, mg "SMALLS" = some (.str "abcdefghijklmnopqrstuvwxyz" t)
  t_CAPITALS : ∃ t, mg "CAPITALS" = some (.str "ABCDEFGHIJKLMNOPQRSTUVWXYZ" t)
  t_DIGITS : ∃ t, mg "DIGITS" = some (.str "0123456789" t)
  c_Shelf : Cls K (He.ga K "Shelf")
  k_Shelf : Mk K (He.ga K "Shelf") (He.ma K (He.ga K "Shelf") "__init__")
  a_Shelf_endings : NoAttr K (He.ga K "Shelf") "_endings"
  a_Shelf_changes : NoAttr K (He.ga K "Shelf") "_changes"
  m_Shelf_endings : Meth K (He.ga K "Shelf") "endings" (He.ma K (He.ga K "Shelf") "endings")
  m_Shelf_changes : Meth K (He.ga K "Shelf") "changes" (He.ma K (He.ga K "Shelf") "changes")
  m_Shelf_known_keys : Meth K (He.ga K "Shelf") "known_keys" (He.ma K (He.ga K "Shelf") "known_keys")
  m_Shelf_tell : Meth K (He.ga K "Shelf") "tell" (He.ma K (He.ga K "Shelf") "tell")
  m_Shelf_history : Meth K (He.ga K "Shelf") "history" (He.ma K (He.ga K "Shelf") "history")
  m_Shelf_plain_answer : Meth K (He.ga K "Shelf") "plain_answer" (He.ma K (He.ga K "Shelf") "plain_answer")
  c_Copy : Cls K (He.ga K "Copy")
  k_Copy : Mk K (He.ga K "Copy") (He.ma K (He.ga K "Copy") "__init__")
  a_Copy_own : NoAttr K (He.ga K "Copy") "own"
  a_Copy_cuts : NoAttr K (He.ga K "Copy") "cuts"
  a_Copy_all : NoAttr K (He.ga K "Copy") "all"
  m_Copy_source : Meth K (He.ga K "Copy") "source" (He.ma K (He.ga K "Copy") "source")
  m_Copy_endings : Meth K (He.ga K "Copy") "endings" (He.ma K (He.ga K "Copy") "endings")
  m_Copy_tellings : Meth K (He.ga K "Copy") "tellings" (He.ma K (He.ga K "Copy") "tellings")
  m_Copy_shelf : Meth K (He.ga K "Copy") "shelf" (He.ma K (He.ga K "Copy") "shelf")
  m_Copy_hold : Meth K (He.ga K "Copy") "hold" (He.ma K (He.ga K "Copy") "hold")
  m_Copy_tell : Meth K (He.ga K "Copy") "tell" (He.ma K (He.ga K "Copy") "tell")
  m_Copy_merge : Meth K (He.ga K "Copy") "merge" (He.ma K (He.ga K "Copy") "merge")
  d_words_of : ∃ fd, FnP K "words_of" "words_of" s_words_of (He.ga K "words_of") fd
  d_cut : ∃ fd, FnP K "cut" "cut" s_cut (He.ga K "cut") fd
  d_document_of : ∃ fd, FnP K "document_of" "document_of" s_document_of (He.ga K "document_of") fd
  d_is_key : ∃ fd, FnP K "_is_key" "_is_key" s_is_key (He.ga K "_is_key") fd
  d_is_text : ∃ fd, FnP K "_is_text" "_is_text" s_is_text (He.ga K "_is_text") fd
  d_check_change : ∃ fd, FnP K "check_change" "check_change" s_check_change (He.ga K "check_change") fd
  d_counted : ∃ fd, FnP K "counted" "counted" s_counted (He.ga K "counted") fd
  d_fits : ∃ fd, FnP K "fits" "fits" s_fits (He.ga K "fits") fd
  d_first_standing : ∃ fd, FnP K "first_standing" "first_standing" s_first_standing (He.ga K "first_standing") fd
  d_matches : ∃ fd, FnP K "matches" "matches" s_matches (He.ga K "matches") fd
  d_is_in : ∃ fd, FnP K "is_in" "is_in" s_is_in (He.ga K "is_in") fd
  d_combined : ∃ fd, FnP K "_combined" "_combined" s_combined (He.ga K "_combined") fd
  d_join : ∃ fd, FnP K "join" "join" s_join (He.ga K "join") fd
  d_of_span : ∃ fd, FnP K "of_span" "of_span" s_of_span (He.ga K "of_span") fd
  d_shelf_of : ∃ fd, FnP K "shelf_of" "shelf_of" s_shelf_of (He.ga K "shelf_of") fd
  d_keys_of : ∃ fd, FnP K "keys_of" "keys_of" s_keys_of (He.ga K "keys_of") fd
  d_stamps_of : ∃ fd, FnP K "stamps_of" "stamps_of" s_stamps_of (He.ga K "stamps_of") fd
  d_in_order : ∃ fd, FnP K "in_order" "in_order" s_in_order (He.ga K "in_order") fd
  d_order_key : ∃ fd, FnP K "order_key" "order_key" s_order_key (He.ga K "order_key") fd
  d_law_cell : ∃ fd, FnP K "_law_cell" "_law_cell" s_law_cell (He.ga K "_law_cell") fd
  d_law_digits : ∃ fd, FnP K "_law_digits" "_law_digits" s_law_digits (He.ga K "_law_digits") fd
  d_law_padded : ∃ fd, FnP K "_law_padded" "_law_padded" s_law_padded (He.ga K "_law_padded") fd
  d_law_text : ∃ fd, FnP K "_law_text" "_law_text" s_law_text (He.ga K "_law_text") fd
  d_law_endings : ∃ fd, FnP K "_law_endings" "_law_endings" s_law_endings (He.ga K "_law_endings") fd
  d_law_change : ∃ fd, FnP K "_law_change" "_law_change" s_law_change (He.ga K "_law_change") fd
  d_law_tell : ∃ fd, FnP K "_law_tell" "_law_tell" s_law_tell (He.ga K "_law_tell") fd
  d_law_copies : ∃ fd, FnP K "_law_copies" "_law_copies" s_law_copies (He.ga K "_law_copies") fd
  d_law_pattern : ∃ fd, FnP K "_law_pattern" "_law_pattern" s_law_pattern (He.ga K "_law_pattern") fd
  d_law_row : ∃ fd, FnP K "_law_row" "_law_row" s_law_row (He.ga K "_law_row") fd
  d_law_question : ∃ fd, FnP K "_law_question" "_law_question" s_law_question (He.ga K "_law_question") fd
  d_law_alike : ∃ fd, FnP K "_law_alike" "_law_alike" s_law_alike (He.ga K "_law_alike") fd
  d_law : ∃ fd, FnP K "law" "law" s_law (He.ga K "law") fd
  d_S_init : ∃ fd, FnP K "__init__" "Shelf.__init__" s_S_init (He.ma K (He.ga K "Shelf") "__init__") fd
  d_S_endings : ∃ fd, FnP K "endings" "Shelf.endings" s_S_endings (He.ma K (He.ga K "Shelf") "endings") fd
  d_S_changes : ∃ fd, FnP K "changes" "Shelf.changes" s_S_changes (He.ma K (He.ga K "Shelf") "changes") fd
  d_S_known_keys : ∃ fd, FnP K "known_keys" "Shelf.known_keys" s_S_known_keys (He.ma K (He.ga K "Shelf") "known_keys") fd
  d_S_tell : ∃ fd, FnP K "tell" "Shelf.tell" s_S_tell (He.ma K (He.ga K "Shelf") "tell") fd
  d_S_history : ∃ fd, FnP K "history" "Shelf.history" s_S_history (He.ma K (He.ga K "Shelf") "history") fd
  d_S_plain_answer : ∃ fd, FnP K "plain_answer" "Shelf.plain_answer" s_S_plain_answer (He.ma K (He.ga K "Shelf") "plain_answer") fd
  d_C_init : ∃ fd, FnP K "__init__" "Copy.__init__" s_C_init (He.ma K (He.ga K "Copy") "__init__") fd
  d_C_source : ∃ fd, FnP K "source" "Copy.source" s_C_source (He.ma K (He.ga K "Copy") "source") fd
  d_C_endings : ∃ fd, FnP K "endings" "Copy.endings" s_C_endings (He.ma K (He.ga K "Copy") "endings") fd
  d_C_tellings : ∃ fd, FnP K "tellings" "Copy.tellings" s_C_tellings (He.ma K (He.ga K "Copy") "tellings") fd
  d_C_shelf : ∃ fd, FnP K "shelf" "Copy.shelf" s_C_shelf (He.ma K (He.ga K "Copy") "shelf") fd
  d_C_hold : ∃ fd, FnP K "hold" "Copy.hold" s_C_hold (He.ma K (He.ga K "Copy") "hold") fd
  d_C_tell : ∃ fd, FnP K "tell" "Copy.tell" s_C_tell (He.ma K (He.ga K "Copy") "tell") fd
  d_C_merge : ∃ fd, FnP K "merge" "Copy.merge" s_C_merge (He.ma K (He.ga K "Copy") "merge") fd
end K46

/-! Words of this claim's own: promises by the number of arguments, immutable data over the abstract heap, frames. -/
namespace K46
open PySem PySem.Spec PyProof.Rows L2
/-! ### promises -/
def sp1 (φ : V → Hp → VK → Prop) : Sp := fun vs H Q _ => ∃ a, vs = [a] ∧ φ a H Q
def sp2 (φ : V → V → Hp → VK → Prop) : Sp := fun vs H Q _ => ∃ a b, vs = [a, b] ∧ φ a b H Q
def sp3 (φ : V → V → V → Hp → VK → Prop) : Sp := fun vs H Q _ => ∃ a b c, vs = [a, b, c] ∧ φ a b c H Q
def sp4 (φ : V → V → V → V → Hp → VK → Prop) : Sp := fun vs H Q _ => ∃ a b c d, vs = [a, b, c, d] ∧ φ a b c d H Q
theorem len1 {φ : V → Hp → VK → Prop} {x : Str} : ∀ vs H Q E, sp1 φ vs H Q E → vs.length = [x].length := fun _ _ _ _ h => by obtain ⟨_, rfl, _⟩ := h; rfl
theorem len2 {φ : V → V → Hp → VK → Prop} {x y : Str} : ∀ vs H Q E, sp2 φ vs H Q E → vs.length = [x, y].length := fun _ _ _ _ h => by obtain ⟨_, _, rfl, _⟩ := h; rfl
theorem len3 {φ : V → V → V → Hp → VK → Prop} {x y z : Str} : ∀ vs H Q E, sp3 φ vs H Q E → vs.length = [x, y, z].length := fun _ _ _ _ h => by obtain ⟨_, _, _, rfl, _⟩ := h; rfl
theorem len4 {φ : V → V → V → V → Hp → VK → Prop} {x y z u : Str} : ∀ vs H Q E, sp4 φ vs H Q E → vs.length = [x, y, z, u].length := fun _ _ _ _ h => by obtain ⟨_, _, _, _, rfl, _⟩ := h; rfl
/-- a def that keeps its promise, its function object left unnamed -/
structure Ok (P : Program) (w : World) (K : PySem.W.Frag) (mg : Str → Option Value) (base : Heap) (k : Nat) (f : Addr) (ps : List Str) (sp : Sp) : Prop where
  ex : ∃ fd, FnOk P w K mg base CX0 k f fd ps sp ∧ Binds K fd ps []
  kp : PySem.W.keepIn K (.ref f) = true
section
variable {P : Program} {w : World} {K : PySem.W.Frag} {mg : Str → Option Value} {base : Heap}
theorem okF {x qual : Str} {st : Stmt} {f : Addr} {N ps : List Str} {k : Nat} {sp : Sp} (F : ∃ fd, FnP K x qual st f fd) (S : FnScope N ps (defScope st)) (len : ∀ vs H Q E, sp vs H Q E → vs.length = ps.length)
    (hb : ∀ (kV doc pm : Value) (an : Option Addr) (cdv ct : Value) (us : List Value), us.length = ps.length → bindArgs (PySem.W.fnOf x qual (defArgs st) (defBody st) (defScope st) .none kV doc pm an cdv ct) ⟨us, []⟩ = pure (ps.zip us))
    (body : ∀ (cdv : Value) (A : Around) (outer : List Env) (s : Shared) (H : Hp) (vs : List V) (Q : VK) (E : XK), Room k (A.deeper (envOfC qual (defScope st) s.heap.objs.size f cdv)) → sp vs H Q E →
      ∃ t, PSs (cxOf CX0 P w K mg base N qual (defScope st) f cdv A outer s H E).nox (defBody st) t ∧ t { nx := fun _ H' => Q .non H', rt := Q } (start N vs) H) : Ok P w K mg base (k + 1) f ps sp := by
  obtain ⟨fd, F⟩ := F
  refine ⟨⟨fd, F.ok S len fun cdv A outer s H vs Q E hr h => ?_, F.bindsN hb⟩, F.kp⟩
  obtain ⟨t, h1, h2⟩ := body cdv A outer s H vs Q E hr h
  exact ⟨t, PSs.nox h1, h2⟩
theorem Ok.mono {j k : Nat} {f : Addr} {ps : List Str} {sp : Sp} (o : Ok P w K mg base j f ps sp) (h : j ≤ k) : Ok P w K mg base k f ps sp := by
  obtain ⟨fd, F, b⟩ := o.ex
  exact ⟨⟨fd, F.mono h, b⟩, o.kp⟩
end
/-! ### frames -/
/-- what was a tuple is one -/
def Tp (H H' : Hp) : Prop := ∀ a xs, Rd H a (.tup xs) → Rd H' a (.tup xs)
theorem Tp.refl (H : Hp) : Tp H H := fun _ _ h => h
theorem Tp.trans {H H1 H2 : Hp} (a : Tp H H1) (b : Tp H1 H2) : Tp H H2 := fun x xs h => b x xs (a x xs h)
theorem tp_same {H H' : Hp} (e : Same H H') : Tp H H' := fun a xs h => by
  rcases h with h | ⟨o, h⟩
  · exact .inl (e _ _ h)
  · exact .inr ⟨o, e _ _ h⟩
theorem tp_upd {H : Hp} {p : Addr} {o u : HO} (h : H p = some u) (ht : ∀ xs, u ≠ .tup xs) (hf : ∀ ob v, u ≠ .frz ob v) : Tp H (upd H p o) := fun a xs q => by
  have ne : a ≠ p := fun e => by
    subst e
    rcases q with q | ⟨ob, q⟩
    · rw [h] at q
      exact ht _ (Option.some.inj q)
    · rw [h] at q
      exact hf _ _ (Option.some.inj q)
  rcases q with q | ⟨ob, q⟩
  · exact .inl (by rw [upd_ne ne]; exact q)
  · exact .inr ⟨ob, by rw [upd_ne ne]; exact q⟩
theorem tp_lst {H : Hp} {p : Addr} {o : HO} {xs : List V} (h : H p = some (.lst xs)) : Tp H (upd H p o) := tp_upd h (fun _ e => nomatch e) (fun _ _ e => nomatch e)
theorem tp_ins {H : Hp} {p C dx : Addr} {o : HO} {fs : List (Str × V)} (h : H p = some (.ins C dx fs)) : Tp H (upd H p o) := tp_upd h (fun _ e => nomatch e) (fun _ _ e => nomatch e)
theorem tp_dT {H : Hp} {p : Addr} {o : HO} {kvs : List (List Key × V)} (h : H p = some (.dT kvs)) : Tp H (upd H p o) := tp_upd h (fun _ e => nomatch e) (fun _ _ e => nomatch e)
theorem tp_dK {H : Hp} {p : Addr} {o : HO} {kvs : List (Key × V)} (h : H p = some (.dK kvs)) : Tp H (upd H p o) := tp_upd h (fun _ e => nomatch e) (fun _ _ e => nomatch e)
theorem same_new {H : Hp} {p : Addr} {o : HO} (h : H p = none) : Same H (upd H p o) := fun b u e => by rw [upd_ne (ne_of_none e h)]; exact e
theorem same_mut {H H' : Hp} {p : Addr} {o : HO} (e : Same H H') (h : H p = none) : Same H (upd H' p o) := fun b u q => by rw [upd_ne (ne_of_none q h)]; exact e b u q
theorem none_of_same {H H' : Hp} {p : Addr} (e : Same H H') (h : H' p = none) : H p = none := e.free h
/-! ### immutable data -/
mutual
inductive Im (K : PySem.W.Frag) (H : Hp) : V → PyData → Prop
  | non : Im K H .non .none
  | bl (b : Bool) : Im K H (.bl b) (.bool b)
  | int (i : Int) : Im K H (.int i) (.int i)
  | str (x : Str) : Im K H (.str x) (.str x)
  | tup {a : Addr} {xs : List V} {ds : List PyData} : SqT K H a xs → ImAll K H xs ds → Im K H (.ref a) (.tuple ds)
inductive ImAll (K : PySem.W.Frag) (H : Hp) : List V → List PyData → Prop
  | nil : ImAll K H [] []
  | cons {v : V} {vs : List V} {d : PyData} {ds : List PyData} : Im K H v d → ImAll K H vs ds → ImAll K H (v :: vs) (d :: ds)
end
section
variable {K : PySem.W.Frag} {H H' : Hp}
theorem sqT_tp {a : Addr} {xs : List V} (e : Tp H H') (h : SqT K H a xs) : SqT K H' a xs := by
  rcases h with h | h
  · exact .inl (e _ _ h)
  · exact .inr h
mutual
theorem Im.mono (e : Tp H H') : ∀ (d : PyData) (v : V), Im K H v d → Im K H' v d
  | .none, _, h => by cases h; exact .non
  | .bool b, _, h => by cases h; exact .bl b
  | .int i, _, h => by cases h; exact .int i
  | .str x, _, h => by cases h; exact .str x
  | .tuple ds, _, h => by
    cases h with
    | tup hs ha => exact .tup (sqT_tp e hs) (ImAll.mono e ds _ ha)
  | .list _, _, h => by cases h
  | .dict _, _, h => by cases h
theorem ImAll.mono (e : Tp H H') : ∀ (ds : List PyData) (vs : List V), ImAll K H vs ds → ImAll K H' vs ds
  | [], _, h => by cases h; exact .nil
  | d :: ds, _, h => by
    cases h with
    | cons h1 h2 => exact .cons (Im.mono e d _ h1) (ImAll.mono e ds _ h2)
end
mutual
theorem Im.dp : ∀ (d : PyData) (v : V), Im K H v d → Dp K H v d
  | .none, _, h => by cases h; exact .non
  | .bool b, _, h => by cases h; exact .bl b
  | .int i, _, h => by cases h; exact .int i
  | .str x, _, h => by cases h; exact .str x
  | .tuple ds, _, h => by
    cases h with
    | tup hs ha => exact .tup hs (ImAll.dp ds _ ha)
  | .list _, _, h => by cases h
  | .dict _, _, h => by cases h
theorem ImAll.dp : ∀ (ds : List PyData) (vs : List V), ImAll K H vs ds → DpAll K H vs ds
  | [], _, h => by cases h; exact .nil
  | d :: ds, _, h => by
    cases h with
    | cons h1 h2 => exact .cons (Im.dp d _ h1) (ImAll.dp ds _ h2)
end
theorem Im.same (e : Same H H') {d : PyData} {v : V} (h : Im K H v d) : Im K H' v d := Im.mono (tp_same e) d v h
theorem ImAll.same (e : Same H H') {ds : List PyData} {vs : List V} (h : ImAll K H vs ds) : ImAll K H' vs ds := ImAll.mono (tp_same e) ds vs h
theorem Im.tp (e : Tp H H') {d : PyData} {v : V} (h : Im K H v d) : Im K H' v d := Im.mono e d v h
theorem ImAll.tp (e : Tp H H') {ds : List PyData} {vs : List V} (h : ImAll K H vs ds) : ImAll K H' vs ds := ImAll.mono e ds vs h
theorem im_int {v : V} {i : Int} (h : Im K H v (.int i)) : v = .int i := by cases h; rfl
theorem im_str {v : V} {x : Str} (h : Im K H v (.str x)) : v = .str x := by cases h; rfl
theorem im_non {v : V} (h : Im K H v .none) : v = .non := by cases h; rfl
theorem im_tup {v : V} {ds : List PyData} (h : Im K H v (.tuple ds)) : ∃ a xs, v = .ref a ∧ SqT K H a xs ∧ ImAll K H xs ds := by
  cases h with
  | tup hs ha => exact ⟨_, _, rfl, hs, ha⟩
theorem ia_nil {xs : List V} (h : ImAll K H xs []) : xs = [] := by cases h; rfl
theorem ia_cons {xs : List V} {d : PyData} {ds : List PyData} (h : ImAll K H xs (d :: ds)) : ∃ v vs, xs = v :: vs ∧ Im K H v d ∧ ImAll K H vs ds := by
  cases h with
  | cons h1 h2 => exact ⟨_, _, rfl, h1, h2⟩
theorem ImAll.len : ∀ {ds : List PyData} {xs : List V}, ImAll K H xs ds → xs.length = ds.length
  | [], _, h => by cases h; rfl
  | _ :: ds, _, h => by
    cases h with
    | cons _ h2 => rw [List.length_cons, List.length_cons, ImAll.len h2]
theorem ImAll.get : ∀ {ds : List PyData} {xs : List V} {i : Nat} {x : V}, ImAll K H xs ds → xs[i]? = some x → ∃ d, ds[i]? = some d ∧ Im K H x d
  | [], _, i, x, h, e => by cases h; cases e
  | d :: ds, _, 0, x, h, e => by
    cases h with
    | cons h1 h2 => cases e; exact ⟨d, rfl, h1⟩
  | d :: ds, _, i + 1, x, h, e => by
    cases h with
    | cons h1 h2 => exact ImAll.get (i := i) h2 e
theorem ImAll.at : ∀ {ds : List PyData} {xs : List V} {i : Nat} {d : PyData}, ImAll K H xs ds → ds[i]? = some d → ∃ x, xs[i]? = some x ∧ Im K H x d
  | [], _, i, d, h, e => by cases e
  | d :: ds, _, 0, d', h, e => by
    cases h with
    | cons h1 h2 => cases e; exact ⟨_, rfl, h1⟩
  | d :: ds, _, i + 1, d', h, e => by
    cases h with
    | cons h1 h2 => exact ImAll.at (i := i) h2 e
theorem ImAll.app : ∀ {ds es : List PyData} {xs ys : List V}, ImAll K H xs ds → ImAll K H ys es → ImAll K H (xs ++ ys) (ds ++ es)
  | [], _, _, _, h, k => by cases h; exact k
  | _ :: ds, _, _, _, h, k => by
    cases h with
    | cons h1 h2 => exact .cons h1 (h2.app k)
theorem ImAll.snoc {ds : List PyData} {xs : List V} {d : PyData} {x : V} (h : ImAll K H xs ds) (k : Im K H x d) : ImAll K H (xs ++ [x]) (ds ++ [d]) := h.app (.cons k .nil)
theorem ImAll.take : ∀ {ds : List PyData} {xs : List V} (n : Nat), ImAll K H xs ds → ImAll K H (xs.take n) (ds.take n)
  | _, _, 0, _ => .nil
  | [], _, n + 1, h => by cases h; exact .nil
  | _ :: ds, _, n + 1, h => by
    cases h with
    | cons h1 h2 => exact .cons h1 (h2.take n)
theorem ImAll.drop : ∀ {ds : List PyData} {xs : List V} (n : Nat), ImAll K H xs ds → ImAll K H (xs.drop n) (ds.drop n)
  | _, _, 0, h => h
  | [], _, n + 1, h => by cases h; exact .nil
  | _ :: ds, _, n + 1, h => by
    cases h with
    | cons h1 h2 => exact h2.drop n
theorem ia_ints : ∀ {ns : List Int} {xs : List V}, ImAll K H xs (ns.map .int) → xs = ns.map V.int
  | [], _, h => by cases h; rfl
  | _ :: ns, _, h => by
    cases h with
    | cons h1 h2 => cases h1; rw [List.map_cons, ia_ints h2]
theorem ia_strs : ∀ {ns : List Str} {xs : List V}, ImAll K H xs (ns.map .str) → xs = ns.map V.str
  | [], _, h => by cases h; rfl
  | _ :: ns, _, h => by
    cases h with
    | cons h1 h2 => cases h1; rw [List.map_cons, ia_strs h2]
theorem ints_ia : ∀ (ns : List Int), ImAll K H (ns.map V.int) (ns.map .int)
  | [] => .nil
  | n :: ns => .cons (.int n) (ints_ia ns)
theorem strs_ia : ∀ (ns : List Str), ImAll K H (ns.map V.str) (ns.map .str)
  | [] => .nil
  | n :: ns => .cons (.str n) (strs_ia ns)
end
/-- endings -/
def endD (e : List (Str × Int)) : PyData := .tuple (e.map fun p => .tuple [.str p.1, .int p.2])
/-! ### what a promise hands back -/
/-- immutable data, all that was tracked as it was -/
def RetD (K : PySem.W.Frag) (H : Hp) (d : PyData) (Q : VK) : Prop := ∀ v H', Same H H' → Im K H' v d → Q v H'
/-- a new list of immutable data -/
def RetN (K : PySem.W.Frag) (H : Hp) (ds : List PyData) (Q : VK) : Prop := ∀ l xs H', H l = none → Same H H' → H' l = some (.lst xs) → ImAll K H' xs ds → Q (.ref l) H'
/-- a flat value -/
def RetV (H : Hp) (v : V) (Q : VK) : Prop := ∀ H', Same H H' → Q v H'
/-! ### rules whose reading names the written part by a letter of ours (within a comprehension's block) -/
theorem ixLK (K : PySem.W.Frag) {X : Cx} (e : X.K = K) : IxR X (rIxL K) := by subst e; exact ix_list
theorem ixTK (K : PySem.W.Frag) {X : Cx} (e : X.K = K) : IxR X (rIxT K) := by subst e; exact ix_tup
theorem slTK (K : PySem.W.Frag) {X : Cx} (e : X.K = K) : SlR X (rSlT K) := by subst e; exact sl_tup
theorem pgTK (K : PySem.W.Frag) {X : Cx} {pos : Pos} (e : X.K = K) {es : List Expr} {k : Nat} {t : TGs} {n : Nat} (hc : X.calm = true) (h : PGs X es t)
    (hn : (assignEach es X.env).length = n := by rfl) (hst : (assignEach es X.env).findIdx? (·.1) = none := by rfl) : PG X (.Tuple es k pos) (gTup K n t) := by subst e; exact pg_tup hc h hn hst
end K46

set_option maxHeartbeats 2000000
/-! Rules of this claim's own: list(d.keys()) of a dict with tuple keys. -/
namespace K46
open PySem PySem.Spec PyProof.Rows L2
def tListKeysT (te : TE) : TE := fun σ H Q => te σ H fun x H1 => ∃ d kvs, x = V.ref d ∧ H1 d = some (.dT kvs) ∧ ∀ p bs, H1 p = none → IsKeys H1 kvs bs → Q (.ref p) (upd H1 p (.lst (bs.map V.ref)))
section
variable {X : Cx} {e : Expr} {te : TE} {p apos cpos pos : Pos}
theorem keys_listed {prog : Program} {w : World} {ks : List (List Key × Addr × Value)} {es : Array DictEntry} {acc : Array Value} (he : es.toList = ks.map (entryOfKey (tupleKind (mixKind prog w)))) (hs : acc.size = es.size)
    (h : ∀ (j : Nat) (v : Value), acc[j]? = some v → ∃ hi : j < es.size, v = es[j].key) : acc.toList = (ks.map fun x => x.2.1).map Value.ref := by
  have el : es.size = ks.length := by rw [← Array.length_toList, he, List.length_map]
  refine List.ext_getElem? fun j => ?_
  rw [List.map_map, List.getElem?_map]
  by_cases hj : j < ks.length
  · have hja : j < acc.size := by omega
    obtain ⟨hi, hv⟩ := h j acc[j] (Array.getElem?_eq_getElem hja)
    have q : es.toList[j]? = some es[j] := by rw [Array.getElem?_toList]; exact Array.getElem?_eq_getElem hi
    rw [he, List.getElem?_map, List.getElem?_eq_getElem hj] at q
    have q2 := Option.some.inj q
    rw [Array.getElem?_toList, Array.getElem?_eq_getElem hja, List.getElem?_eq_getElem hj, hv, ← q2]
    rfl
  · rw [List.getElem?_eq_none (by rw [Array.length_toList]; omega), List.getElem?_eq_none (by omega)]
    rfl
theorem pe_listKeysT (hc : X.calm = true) (he : PE X e te) (hg : Gl X "list") (hm : X.mg "list" = none) (hv : bootBuiltins "list" = some (.type "list")) (hbase : attributeBase e "keys" X.env (eval e X.env) = eval e X.env := by rfl) (hline : (apos.endLine == cpos.line) = true := by rfl)
    (hs : starEach [.Call (.Attribute e "keys" apos) [] [] cpos] X.env = (false, eval (.Call (.Attribute e "keys" apos) [] [] cpos) X.env) :: starEach [] X.env := by rfl) :
    PE X (.Call (.Name "list" p) [.Call (.Attribute e "keys" apos) [] [] cpos] [] pos) (tListKeysT te) := by
  refine ⟨fun pins s σ H Q I hq => ?_⟩
  refine wpAny_Call_Name_kw (ld_blt I hg hm hv ?_)
  refine PyProof.Rows.callWith_type1 ?_ hs rfl
  rw [hs]
  show wpAny _ _ (spliced ((false, eval (.Call (.Attribute e "keys" apos) [] [] cpos) X.env) :: backTo pos (starEach [] X.env))) _ _ s
  refine Calls.spliced_cons ?_
  refine wpAny_Call_method (T := "dict") (id := "dict.keys") hbase rfl hline F.plainAttrs_dict F.slot_dict_keys F.type_dict_keys (thn (he.run pins s σ H _ I hq) fun u s1 ⟨x, H1, I1, rx, d, kvs, ex, hd, q⟩ => ?_)
  subst ex
  obtain rfl : u = Value.ref d := rx
  obtain ⟨z, hs0, ks, pr, o, es, ep, ho, hx, hdt, hes, hn⟩ := (show ObjOk X.prog X.w H1 s1.heap d (.dT kvs) from I1.hok d _ hd)
  have raw : s1.heap.DictRaw d es ep := ⟨o, ho, hx, hdt⟩
  have l2 : kvs.length = ks.length := Paired.length pr
  have l1 : es.size = ks.length := by rw [← Array.length_toList, hes, List.length_map]
  have I2 : Inv X pins σ H1 { s1 with heap := s1.heap.push { cls := .type "dict_keys", data := .fields #[.ref d] } } := I1.kept (t' := s1.toks) fun b ob q => Heap.get?_push_of_some _ q
  refine ⟨⟨o, ho, hx.1⟩, (fun b q => by cases q; exact ⟨o, ho, hx.2.1⟩), ?_⟩
  show wpAny _ _ (callWith cpos (.builtin "dict.keys") [.ref d] [] []) _ X.xe s1
  refine method_meetsIn F.slot_dict_keys F.entry_dict_keys rfl (PySem.evalArgs_none ⟨rfl, ⟨o, ho, hx.1⟩, F.args_dict_keys_1 _, _, meets_dict_keys_raw d hs0, ⟨es, ep, raw⟩, ?_⟩)
  refine Calls.spliced_nil ?_
  refine PySem.W.kdl_call (KdlSrc.rawKeys (r := s1.heap.objs.size) (d := d) (es := es) (ep := ep)) (I1.ok.hd hc) ⟨⟨_, Heap.get?_push_size _ rfl, rfl, rfl⟩, raw.push _⟩ (by omega) fun h' tk acc' c' kp e2 it => ?_
  have eb := keys_listed hes it.1 it.2
  have rv : Vals ((ks.map fun x => x.2.1).map V.ref) acc'.toList := by rw [eb]; exact vals_refs _
  refine ⟨.ref _, _, I2.laid (t' := tk) (o := .lst ((ks.map fun x => x.2.1).map V.ref)) kp (Nat.le_refl _) ?_, rfl, q _ _ (I2.hok.fresh (Nat.le_refl _)) (isKeys_of pr)⟩
  exact ⟨by rw [List.length_map, List.length_map]; omega, acc'.toList, c', rv, by rw [Array.toArray_toList]; exact e2⟩
end
end K46

set_option maxHeartbeats 4000000
/-! Rules of this claim's own: a dict comprehension with keys of either kind; == of dicts whose values are data. -/
namespace K46
open PySem PySem.Spec PyProof.Rows L2
/-- a store of a comprehension's own, keys ints, texts, or tuples of them -/
theorem put_comp {X : Cx} {pins : List (Addr × Obj)} {σ : L2.St} {H H' : Hp} {s : Shared} {E : Value → Shared → Prop} {D : Addr} {y z : V} {u r : Value} {Q : Unit → Shared → Prop} (hu : X.A.units < cLine) (I : Inv X pins σ H s) (g : DPut H D y z H') (ry : RelV y u) (rz : RelV z r)
    (k : ∀ s', Inv X pins σ H' s' → Q () s') : wpAny (model X.prog X.w) X.A (dictSet D u r) Q E s := by
  rcases g with ⟨kvs, key, e1, e2, e3, e4⟩ | ⟨kvs, key, b, e1, e2, e3, e4, e5⟩
  · subst e2 e4
    exact d_dictSet I e1 e3 ry rz k
  · subst e2 e5
    obtain rfl : u = Value.ref b := ry
    obtain ⟨hz, hm, xs, rel, dd⟩ := dt_of I.hok e1
    have hx : xs.length ≤ sizeLine := Paired.length rel ▸ hz
    refine wpAny_dictSet_heap (hsz := hx) (show (tupleKind (mixKind X.prog X.w)).room X.A from hu) (key_of I.hok e3) dd fun h1 dd1 sb => k _ ?_
    obtain ⟨ob, es, ep, w1, w2, w3, w4, _, w5⟩ := dd1
    have hl : (putK kvs key z).length ≤ sizeLine := by have := length_putK kvs key z; omega
    exact d_write I (e1 ▸ True.intro) sb ⟨ob, w1⟩ ⟨hl, hm, _, (rel.put key e3 rz).keeps fun c ys ec => (upd_ne (ne_of ec e1 (fun q => nomatch q))).trans ec, ob, es, ep, w1, w2, w3, w4, w5⟩
section
variable {X : Cx}
/-- {k: v for target in iter if ..}: D the new dict, of the kind o0 -/
def tDg (o0 : HO) (wi : TI) (g : TG) (tt : TT) (tk tv : TE) (vs : List Nat) : TE := fun σ H Q => wi σ H fun J H1 => ∀ D, H1 D = none →
  ∃ W : Nat → Nat → Hp → Prop, (∃ m, W 0 m (upd H1 D o0)) ∧ ∀ i m H, W i m H →
    (J.stop i H ∧ Q (.ref D) H) ∨ (J.go i H ∧ ∃ N : Hp → Prop, (∀ H', N H' → ∃ m', m' < m ∧ W (i + 1) m' H') ∧
      ∀ x H', J.yld i H x H' → g x (wipe σ vs) H' fun σ2 H2 => wipe σ2 vs = wipe σ vs ∧ tt σ2 H2 fun b H3 => if b = true then tk σ2 H3 fun y H4 => tv σ2 H4 fun z H5 => ∃ H6, DPut H5 D y z H6 ∧ N H6 else N H3)
theorem dg_core {o0 : HO} {pins : List (Addr × Obj)} {s : Shared} {σ : L2.St} {H : Hp} {Q : VK} {kx vx tg iter : Expr} {ifs : List Expr} {scope : Scope} {own : List (Str × Nat)} {pos pos' : Pos} {wi : TI} {g : TG} {tt : TT} {tk tv : TE} {use : Option (Value → Sem Unit)} {Qf : Value → Shared → Prop}
    (h0 : o0 = .dK [] ∨ o0 = .dT []) (hu : X.A.units < cLine) (hc : X.calm = true) (hN : X.N.Nodup) (I : Inv X pins σ H s) (hi : PI X tg iter wi) (ok : BlkOk X.N X.env.scope scope own)
    (hg : ∀ (s : Shared) (H : Hp) (C : Addr) (cl : List (Str × Addr)) (fp : List Addr), PG (X.blk s H scope (compEnvC scope cl C X.env) fp) tg g)
    (ht : ∀ (s : Shared) (H : Hp) (C : Addr) (cl : List (Str × Addr)) (fp : List Addr), PTs (X.blk s H scope (compEnvC scope cl C X.env) fp) ifs tt)
    (hk : ∀ (s : Shared) (H : Hp) (C : Addr) (cl : List (Str × Addr)) (fp : List Addr), PE (X.blk s H scope (compEnvC scope cl C X.env) fp) kx tk)
    (hv : ∀ (s : Shared) (H : Hp) (C : Addr) (cl : List (Str × Addr)) (fp : List Addr), PE (X.blk s H scope (compEnvC scope cl C X.env) fp) vx tv) (hs : ∀ x, foldedSetIterable iter X.env x = pure x)
    (h : tDg o0 wi g tt tk tv (own.map (·.2)) σ H Q)
    (fin : ∀ D C s' m H', Inv X pins σ H' s' → Q (.ref D) H' → s'.heap.Ns C m → FpOk X pins H' C → compPost (model X.prog X.w) X.A X.xe use Qf (.ref D) C (.ok .next) s') :
    wpAny (model X.prog X.w) X.A (comprehension (.DictComp kx vx [⟨tg, iter, ifs, 0⟩] scope pos) scope X.env pos' newDict false (eval iter X.env) use) Qf X.xe s := by
  have clo : ∀ y ∈ scope.names, y.2 = .free → ∃ c, X.env.cells.lookup y.1 = some c := fun y hy e => (ok.free y hy e).elim (fun k => I.ok.has _ (.inl k)) fun k => I.ok.has _ (.inr k)
  refine wpAny_comprehension_free (use := use) rfl hs (closure_ok clo) ok.kind (fun y hy e => by rw [ok.uniq y hy, e]) (thn (hi.run pins s σ H _ I h) fun xv s1 hx => thn hx fun itv s2 h2 => ?_)
  obtain ⟨it, fp, tn, J, H2, rfl, I2, T, st2, f2, q⟩ := h2
  refine wpAny_newObj_type (newEnv_comp ?_)
  -- the new dict at D
  generalize hD : s2.heap.objs.size = D
  have nD : H2 D = none := I2.hok.fresh (Nat.le_of_eq hD)
  obtain ⟨W, ⟨m0, w0⟩, turn⟩ := q D nD
  generalize hs3 : ({ s2 with heap := s2.heap.push { cls := .type "dict", data := .dict #[] } } : Shared) = s3
  have e3 : s3.heap = s2.heap.push { cls := .type "dict", data := .dict #[] } := by rw [← hs3]
  have old3 : ∀ b ob, s2.heap.get? b = some ob → s3.heap.get? b = some ob := fun b ob e => by rw [e3]; exact Heap.get?_push_of_some _ e
  have I3 : Inv X pins σ (upd H2 D o0) s3 := by
    rw [← hs3]
    refine I2.laid (t' := s2.toks) (fun b ob e => Heap.get?_push_of_some _ e) (Nat.le_of_eq hD) ?_
    rw [← hD]
    rcases h0 with rfl | rfl
    · exact dk_empty s2.heap I2.big
    · exact dt_empty s2.heap I2.big
  have f3 : ∀ b ∈ fp, FpOk X pins (upd H2 D o0) b ∧ b < s3.heap.objs.size := fun b hb => by
    obtain ⟨ob, e, _⟩ := T.obj _ _ st2 b hb
    have lt := Heap.lt_size e
    exact ⟨⟨(upd_ne (hD ▸ Nat.ne_of_lt lt)).trans (f2 b hb).1, (f2 b hb).2⟩, by rw [e3, Heap.size_push]; exact Nat.lt_succ_of_lt lt⟩
  have st3 : tn 0 s3.heap := T.keep _ _ _ st2 fun b _ ob e => old3 b ob e
  have I4 := block_start I3 ok hN f3
  have gg := hg s3 (upd H2 D o0) s3.heap.objs.size (cellsFrom (s3.heap.objs.size + 1) scope.names (cloFrom X.env.cells scope.names [])) fp
  have gt := ht s3 (upd H2 D o0) s3.heap.objs.size (cellsFrom (s3.heap.objs.size + 1) scope.names (cloFrom X.env.cells scope.names [])) fp
  have gk := hk s3 (upd H2 D o0) s3.heap.objs.size (cellsFrom (s3.heap.objs.size + 1) scope.names (cloFrom X.env.cells scope.names [])) fp
  have gv := hv s3 (upd H2 D o0) s3.heap.objs.size (cellsFrom (s3.heap.objs.size + 1) scope.names (cloFrom X.env.cells scope.names [])) fp
  show codeAny _ _ (.compStart (.DictComp kx vx [⟨tg, iter, ifs, 0⟩] scope pos) 0 (.ref it) (.ref D) (compEnvC scope (cellsFrom (s3.heap.objs.size + 1) scope.names (cloFrom X.env.cells scope.names [])) s3.heap.objs.size X.env)) (compPost (model X.prog X.w) X.A X.xe use Qf (.ref D) s3.heap.objs.size) { s3 with heap := pushCells (s3.heap.push { cls := .type "dict", data := .dict #[] }) scope.names }
  have n3 : ∀ b ∈ fp, (upd H2 D o0) b = none := fun b hb => (f3 b hb).1.1
  generalize hce : compEnvC scope (cellsFrom (s3.heap.objs.size + 1) scope.names (cloFrom X.env.cells scope.names [])) s3.heap.objs.size X.env = ce at I4 gg gt gk gv ⊢
  have ceL : ce.locals = s3.heap.objs.size := by rw [← hce]; rfl
  generalize hH3 : upd H2 D o0 = H3 at I3 I4 gg gt gk gv w0 n3 f3
  generalize hs4 : ({ s3 with heap := pushCells (s3.heap.push { cls := .type "dict", data := .dict #[] }) scope.names } : Shared) = s4 at I4 ⊢
  have st4 : tn 0 s4.heap := T.keep _ _ _ st3 fun b _ ob e => by rw [← hs4]; exact pushCells_keeps _ _ _ _ (Heap.get?_push_of_some _ e)
  have fpB : ∀ {σ' : L2.St} {H' : Hp} {s' : Shared}, Inv (X.blk s3 H3 scope ce fp) [] σ' H' s' → (∀ b ∈ fp, H' b = none) → ∀ b ∈ fp, FpOk (X.blk s3 H3 scope ce fp) [] H' b := fun I' hn b hb =>
    ⟨hn b hb, (I'.ok.exf b hb).1, I'.ok.exfs b hb, .inl hb, fun x c e => (I'.ok.exf b hb).2 x c e, fun p hp => nomatch (show p ∈ ([] : List (Addr × Obj)) ++ [] from hp)⟩
  have loop : codeAny (model X.prog X.w) X.A (.compLoop (.DictComp kx vx [⟨tg, iter, ifs, 0⟩] scope pos) 0 (.ref it) (.ref D) ce) (compPost (model X.prog X.w) X.A X.xe use Qf (.ref D) s3.heap.objs.size) s4 := by
    refine compLoop_anyD (fun n s' => ∃ i H', Inv (X.blk s3 H3 scope ce fp) [] (wipe σ (own.map (·.2))) H' s' ∧ tn i s'.heap ∧ (∀ b ∈ fp, H' b = none) ∧ W i n H') ?_ m0 ⟨0, H3, I4, st4, n3, w0⟩
    rintro n s5 ⟨i, H5, I5, st5, n5, w5⟩
    rcases turn i n H5 w5 with ⟨stop, qq⟩ | ⟨go, N, hN', step⟩
    · refine thnF (T.done (X.blk s3 H3 scope ce fp) rfl rfl rfl hc i [] s5 _ H5 (fun _ _ => False) I5 (fpB I5 n5) st5 stop) fun r s6 ⟨hr, I6⟩ => ?_
      subst hr
      have I7 : Inv X pins σ H5 s6 := I3.call' (ch := fp) I6.os I6.base I6.hok I6.bare fun b hb => ⟨(f3 b hb).1.2.2.2.1, (f3 b hb).1.2.1, (f3 b hb).1.2.2.2.2.1, (f3 b hb).1.2.2.2.2.2⟩
      have nC : H5 s3.heap.objs.size = none := ceL ▸ (show H5 ce.locals = none from I6.free)
      obtain ⟨m, hn, _⟩ := I6.loc
      have hn' : s6.heap.Ns s3.heap.objs.size m := ceL ▸ (show s6.heap.Ns ce.locals m from hn)
      exact fin D s3.heap.objs.size s6 m H5 I7 qq hn' (I3.fpOk (Nat.le_refl _) nC)
    · refine thnF (T.item (X.blk s3 H3 scope ce fp) rfl rfl rfl hc i [] s5 _ H5 (fun _ _ => False) I5 (fpB I5 n5) st5 go) fun r s6 ⟨u, hr, h6⟩ => ?_
      subst hr
      refine thnF h6 fun _ s7 ⟨x, H7, I7, r7, y7, st7, n7⟩ => ?_
      have I8 := I7.pinned (fpB I7 n7) (T.obj _ _ st7)
      refine thnF (gg.run _ s7 _ H7 x u _ I8 r7 (step x H7 y7)) fun _ s8 ⟨σ8, H8, I8, hw8, q8⟩ => ?_
      refine thnF (gt.run _ s8 σ8 H8 _ I8 q8) fun b s9 ⟨H9, I9, q9⟩ => ?_
      have close : ∀ {s' : Shared} {H' : Hp}, Inv (X.blk s3 H3 scope ce fp) ([] ++ pinsAt fp s7.heap) σ8 H' s' → N H' → ∃ m, m < n ∧ ∃ i H', Inv (X.blk s3 H3 scope ce fp) [] (wipe σ (own.map (·.2))) H' s' ∧ tn i s'.heap ∧ (∀ b ∈ fp, H' b = none) ∧ W i m H' := fun {s' H'} I' nx => by
        obtain ⟨m', hm, w'⟩ := hN' H' nx
        have pin : ∀ b ∈ fp, ∀ ob, s7.heap.get? b = some ob → s'.heap.get? b = some ob ∧ H' b = none := fun b hb ob e =>
          have z := I'.pin (b, ob) (List.mem_append_right _ (List.mem_append_right _ (mem_pinsAt hb e)))
          ⟨z.1, z.2.1⟩
        refine ⟨m', hm, i + 1, H', (I'.unpinned (pins := [])).weak (by rw [← hw8, wipe_length]) (fun j v e => (wipe_some (hw8 ▸ e)).1), T.keep _ _ _ st7 fun b hb ob e => (pin b hb ob e).1, fun b hb => ?_, w'⟩
        obtain ⟨ob, e, _⟩ := T.obj _ _ st7 b hb
        exact (pin b hb ob e).2
      cases b with
      | false =>
        simp only [Bool.false_eq_true, if_false] at q9 ⊢
        exact close I9 q9
      | true =>
        simp only [if_true] at q9 ⊢
        refine thnF (gk.run _ s9 σ8 H9 _ I9 q9) fun z s10 ⟨yk, H10, I10, r10, q10⟩ => ?_
        refine thnF (gv.run _ s10 σ8 H10 _ I10 q10) fun z2 s11 ⟨yv, H11, I11, r11, H12, dp, nx⟩ => ?_
        exact put_comp (X := X.blk s3 H3 scope ce fp) hu I11 dp r10 r11 fun s12 I12 => close I12 nx
  exact codeAny_compStart_dict loop (T.self X.A 0 _ _ _ st4 loop)
theorem pe_dg {o0 : HO} {kx vx tg iter : Expr} {ifs : List Expr} {scope : Scope} {own : List (Str × Nat)} {pos : Pos} {wi : TI} {g : TG} {tt : TT} {tk tv : TE} (h0 : o0 = .dK [] ∨ o0 = .dT []) (hu : X.A.units < cLine) (hc : X.calm = true) (hN : X.N.Nodup) (hi : PI X tg iter wi) (ok : BlkOk X.N X.env.scope scope own)
    (hg : ∀ (s : Shared) (H : Hp) (C : Addr) (cl : List (Str × Addr)) (fp : List Addr), PG (X.blk s H scope (compEnvC scope cl C X.env) fp) tg g)
    (ht : ∀ (s : Shared) (H : Hp) (C : Addr) (cl : List (Str × Addr)) (fp : List Addr), PTs (X.blk s H scope (compEnvC scope cl C X.env) fp) ifs tt)
    (hk : ∀ (s : Shared) (H : Hp) (C : Addr) (cl : List (Str × Addr)) (fp : List Addr), PE (X.blk s H scope (compEnvC scope cl C X.env) fp) kx tk)
    (hv : ∀ (s : Shared) (H : Hp) (C : Addr) (cl : List (Str × Addr)) (fp : List Addr), PE (X.blk s H scope (compEnvC scope cl C X.env) fp) vx tv) (hs : ∀ x, foldedSetIterable iter X.env x = pure x := by intro _; rfl) :
    PE X (.DictComp kx vx [⟨tg, iter, ifs, 0⟩] scope pos) (tDg o0 wi g tt tk tv (own.map (·.2))) := by
  refine ⟨fun pins s σ H Q I h => ?_⟩
  rw [arm_eval_DictComp]
  refine dg_core h0 hu hc hN I hi ok hg ht hk hv hs h fun D C s' m H' I' q hn f => ⟨m, hn, fun h'' sb => ?_⟩
  obtain ⟨f0, f1, f2, f3, f4, f5⟩ := f
  exact ⟨.ref D, H', I'.turned (t' := s'.toks) (fun b ob hb e => (sb.2 b hb).trans e) f0 f1 f3 f4 f5, rfl, q⟩
/-- over a list that stays -/
theorem dg_list {o0 : HO} {K : PySem.W.Frag} {a : Addr} {xs : List V} {g : TG} {tt : TT} {tk tv : TE} {vs : List Nat} {σ : L2.St} {H1 : Hp} {D : Addr} {Qd : Hp → Prop} (Pv : Nat → Hp → Prop) (p0 : Pv 0 (upd H1 D o0)) (hl : ∀ i H, i ≤ xs.length → Pv i H → SqL K H a xs)
    (hs : ∀ i x H, xs[i]? = some x → Pv i H → g x (wipe σ vs) H fun σ2 H2 => wipe σ2 vs = wipe σ vs ∧ tt σ2 H2 fun b H3 => if b = true then tk σ2 H3 fun y H4 => tv σ2 H4 fun z H5 => ∃ H6, DPut H5 D y z H6 ∧ Pv (i + 1) H6 else Pv (i + 1) H3) (hd : ∀ H, Pv xs.length H → Qd H) :
    ∃ W : Nat → Nat → Hp → Prop, (∃ m, W 0 m (upd H1 D o0)) ∧ ∀ i m H, W i m H → ((Itl K a).stop i H ∧ Qd H) ∨ ((Itl K a).go i H ∧ ∃ N : Hp → Prop, (∀ H', N H' → ∃ m', m' < m ∧ W (i + 1) m' H') ∧
      ∀ x H', (Itl K a).yld i H x H' → g x (wipe σ vs) H' fun σ2 H2 => wipe σ2 vs = wipe σ vs ∧ tt σ2 H2 fun b H3 => if b = true then tk σ2 H3 fun y H4 => tv σ2 H4 fun z H5 => ∃ H6, DPut H5 D y z H6 ∧ N H6 else N H3) := by
  refine ⟨fun i m H => m + i = xs.length ∧ Pv i H, ⟨xs.length, rfl, p0⟩, ?_⟩
  rintro i m H ⟨hm, p⟩
  have q := hl i H (by omega) p
  cases m with
  | zero =>
    obtain rfl : i = xs.length := by omega
    exact .inl ⟨⟨xs, q, Nat.le_refl _⟩, hd H p⟩
  | succ m =>
    have lt : i < xs.length := by omega
    refine .inr ⟨⟨xs, xs[i], q, List.getElem?_eq_getElem lt⟩, Pv (i + 1), fun H' p' => ⟨m, Nat.lt_succ_self m, by omega, p'⟩, fun x H' y => ?_⟩
    obtain ⟨rfl, y⟩ := y
    exact hs i x _ (y xs q) p
end
/-! ### dicts whose values are data -/
def rEqDD (K : PySem.W.Frag) : R2 := fun x y H Q => ∃ a b ks ls, x = .ref a ∧ y = .ref b ∧ H a = some (.dK ks) ∧ H b = some (.dK ls) ∧ ks.length = ls.length ∧ (∀ p ∈ ks, ∃ u d, valV ls p.1 = some u ∧ Dp K H p.2 d ∧ Dp K H u d ∧ SeqAt.shaped d = true ∧ d.depth ≤ 60) ∧ Q (.bl true) H
theorem op_eqDD {X : Cx} (hu : X.A.units + 64 < cLine) : OpR X (compareOp .Eq) (rEqDD X.K) := by
  intro pins s σ H x y v u Q I rx ry h
  obtain ⟨a, b, ks, ls, rfl, rfl, ha, hb, hl, hp, q⟩ := h
  obtain rfl : v = Value.ref a := rx
  obtain rfl : u = Value.ref b := ry
  obtain ⟨_, ya, va, ra, da⟩ := (show ObjOk X.prog X.w H s.heap a (.dK ks) from I.hok a _ ha)
  obtain ⟨_, yb, vb, rb, db⟩ := (show ObjOk X.prog X.w H s.heap b (.dK ls) from I.hok b _ hb)
  have ih : ∀ (x y : V) (v u : Value), (∃ d, Dp X.K H x d ∧ Dp X.K H y d ∧ SeqAt.shaped d = true ∧ d.depth ≤ 60) → RelV x v → RelV y u → SeqAt.EqP X.prog X.w X.A.in1 s v u true := by
    rintro x y v u ⟨d, hx, hy, sd, dd⟩ rx ry
    obtain ⟨as, r1⟩ := Dp.reads I d x v hx rx
    obtain ⟨bs, r2⟩ := Dp.reads I d y u hy ry
    have c := SeqAt.canLay_of_shaped sd
    have k := SeqAt.eqAt_reads d d X.A.in1 s v u as bs r1 r2 c c (by
      show X.A.units + 1 + min d.depth d.depth < cLine
      rw [Nat.min_self]
      omega)
    rw [SeqAt.eqv_refl d c] at k
    exact k.eqP
  refine PySem.W.rcP_dicts (knd := mixKind X.prog X.w) (r := true) ya yb da db (by omega) (fun _ => hits_run ih rb ra fun p m => ?_) X.xe _ ?_
  · obtain ⟨u, d, e1, e2, e3, e4, e5⟩ := hp p m
    exact ⟨u, e1, d, e2, e3, e4, e5⟩
  · have e : va.length = vb.length := by rw [← ra.length, ← rb.length]; exact hl
    rw [show (va.length == vb.length && true) = true from by rw [e]; simp]
    exact ⟨.bl true, H, I, rfl, q⟩
end K46

set_option maxHeartbeats 4000000
/-! Rules of this claim's own: sorted(xs) of data that compare alike. -/
namespace K46
open PySem PySem.Spec PyProof.Rows L2
open PySem.W (EachIs)
def srtD (bs : List (V × PyData)) : List (V × PyData) := bs.mergeSort (PySem.W.dataLe false (·.2))
def rSortedD (K : PySem.W.Frag) : List V → Hp → VK → Prop := fun vs H Q => ∃ (a : Addr) (bs : List (V × PyData)), vs = [V.ref a] ∧ SqL K H a (bs.map (·.1)) ∧ (∀ b ∈ bs, Dp K H b.1 b.2 ∧ b.2.depth ≤ 50) ∧
  PySem.W.AllAlike (bs.map (·.2)) ∧ PySem.W.Sortable (bs.map (·.2)) ∧ ∀ (p : Addr), H p = none → Q (.ref p) (upd H p (.lst ((srtD bs).map (·.1))))
theorem vals_each {α : Type} {f : α → V} : ∀ {vs : List Value} {bs : List α}, Vals (bs.map f) vs → EachIs (fun v b => RelV (f b) v) vs bs
  | [], [], _ => .nil
  | [], _ :: _, r => nomatch r
  | _ :: _, [], r => nomatch r
  | _ :: _, _ :: _, .cons h t => .cons h (vals_each t)
theorem each_vals {α : Type} {f : α → V} : ∀ {vs : List Value} {bs : List α}, EachIs (fun v b => RelV (f b) v) vs bs → Vals (bs.map f) vs
  | _, _, .nil => .nil
  | _, _, .cons h t => .cons h (each_vals t)
theorem each_all {α : Type} {R : Value → α → Prop} {S : Value → α → Prop} : ∀ {vs : List Value} {bs : List α}, (∀ v b, b ∈ bs → R v b → S v b) → EachIs R vs bs → EachIs S vs bs
  | _, _, _, .nil => .nil
  | _, _, f, .cons h t => .cons (f _ _ (List.mem_cons_self ..) h) (each_all (fun v b m => f v b (List.mem_cons_of_mem _ m)) t)
section
variable {X : Cx}
theorem cr_sortedD (hu : X.A.units + 64 < cLine) : CallR X (.builtin "sorted") (rSortedD X.K) := by
  intro pins s σ H vs us Q I r h
  obtain ⟨a, bs, rfl, hs, hd, ha, hk, q⟩ := h
  obtain ⟨its, rv, hl, hz⟩ := I.list hs
  rw [Vals.ref1 r]
  have e := vals_each rv
  refine PySem.W.sorted_data (bs := bs) (enc := fun b => b.2) hl.isList e (each_all (fun v b m rx => Dp.reads I b.2 b.1 v (hd b m).1 rx) e) ha hk (by rw [List.length_map] at hz; exact hz) (fun b m => by have := (hd b m).2; omega) fun out hlen eo => ?_
  obtain ⟨ep, he'⟩ := PyProof.Rows.sortedAll_at s.heap its out.toArray
  have rv' := each_vals eo
  exact ⟨.ref _, _, I.laid (t' := s.toks) (fun _ _ => PyProof.Rows.sortedAll_old) (Nat.le_succ _) (o := .lst ((srtD bs).map (·.1))) ⟨by rw [List.length_map, srtD, List.length_mergeSort]; rw [List.length_map] at hz; exact hz, out, ep, rv', he'⟩, rfl, q _ (I.hok.fresh (Nat.le_succ _))⟩
end
end K46

set_option maxHeartbeats 4000000
/-! Rules of this claim's own: sorted(xs, key=def) whose answers are tuples of immutable data. -/
namespace K46
open PySem PySem.Spec PyProof.Rows L2
open PySem.W (EachIs)
section
variable {X : Cx} {pins : List (Addr × Obj)} {σ : L2.St} {H : Hp} {s : Shared} {h' : Heap}
/-- two untracked objects of ours have changed; one of them is a list from now on -/
theorem two_turned {a b : Addr} {xs : List V} {t' : Nat} (I : Inv X pins σ H s) (k : ∀ c o, c ≠ a → c ≠ b → s.heap.get? c = some o → h'.get? c = some o) (fa : FpOk X pins H a) (fb : FpOk X pins H b)
    (new : ObjOk X.prog X.w (upd H a (.lst xs)) h' a (.lst xs)) : Inv X pins σ (upd H a (.lst xs)) { s with heap := h', toks := t' } := by
  have na : ∀ c u, H c = some u → c ≠ a := fun c u e z => by rw [z, fa.1] at e; cases e
  have nb : ∀ c u, H c = some u → c ≠ b := fun c u e z => by rw [z, fb.1] at e; cases e
  refine I.step (g' := s.gens) (d' := s.drawn) (ch := [a, b]) (fun c hc => ?_) (fun c o _ _ hc e _ => k c o (fun z => hc (by simp [z])) (fun z => hc (by simp [z])) e)
    (fun c o _ _ hc e _ => ⟨o.slots, k c o (fun z => hc (by simp [z])) (fun z => hc (by simp [z])) e⟩) (fun c o hc _ n => (upd_ne fun z => hc (by simp [z])).trans n)
    (fun c o hc e => ⟨o, k c o (fun z => hc (by simp [z])) (fun z => hc (by simp [z])) e⟩) (fun c ys e => (upd_ne (na c _ e)).trans e) (fun c o u e => (upd_ne (na c _ e)).trans e) (fun c ps e => ⟨#[], by rw [upd_ne (na c _ e), e]; simp⟩) (fun m hm => ?_) (fun c u e => ?_) I.bare
  · rcases List.mem_cons.mp hc with rfl | hc
    · exact ⟨fa.2.2.2.1, fa.2.1, fa.2.2.2.2.1, fa.2.2.2.2.2⟩
    · obtain rfl : c = b := by simpa using hc
      exact ⟨fb.2.2.2.1, fb.2.1, fb.2.2.2.2.1, fb.2.2.2.2.2⟩
  · obtain ⟨o, es, ep, ho, r⟩ := hm
    exact ⟨o, es, ep, k _ o (Ne.symm fa.2.1) (Ne.symm fb.2.1) ho, r⟩
  · by_cases z : c = a
    · subst z
      rw [upd_same] at e
      cases e
      exact new
    · rw [upd_ne z] at e
      refine (I.hok c u e).stay (fun d v hd q => ?_) (fun d q => (upd_ne (na d _ q)).trans q) fun d ys q => (upd_ne (na d _ q)).trans q
      rcases hd with rfl | hd
      · exact k _ v (na _ _ e) (nb _ _ e) q
      · exact k _ v (na _ _ hd) (nb _ _ hd) q
theorem fp_more {pl : List (Addr × Obj)} {b : Addr} (f : FpOk X pins H b) {H' : Hp} (n : H' b = none) (h : ∀ p ∈ pl, p.1 ≠ b) : FpOk X (pins ++ pl) H' b :=
  ⟨n, f.2.1, f.2.2.1, f.2.2.2.1, f.2.2.2.2.1, fun p hp => by
    rcases List.mem_append.mp hp with z | z
    · exact f.2.2.2.2.2 p (List.mem_append_left _ z)
    · rcases List.mem_append.mp z with z | z
      · exact f.2.2.2.2.2 p (List.mem_append_right _ z)
      · exact h p z⟩
theorem pin_more {pl : List (Addr × Obj)} (I : Inv X pins σ H s) (h : ∀ p ∈ pl, FpOk X pins H p.1 ∧ s.heap.get? p.1 = some p.2 ∧ ∀ v, p.2.data ≠ .cell v) : Inv X (pins ++ pl) σ H s :=
  I.pins_of fun p hp => (List.mem_append.mp hp).elim (fun z => I.pin p (List.mem_append_right _ z)) fun z =>
    ⟨(h p z).2.1, (h p z).1.1, (h p z).1.2.1, (h p z).1.2.2.1, (h p z).2.2⟩
end
/-- sorted(xs, key=f): the new list -/
def rSortKD (K : PySem.W.Frag) (f : Addr) (sp : Sp) : List V → List V → Hp → VK → Prop := fun vs zs H Q => ∃ (a : Addr) (bs : List (V × PyData)), vs = [V.ref a] ∧ zs = [V.ref f] ∧ SqL K H a (bs.map (·.1)) ∧ (∀ b ∈ bs, b.2.depth ≤ 50) ∧
  PySem.W.AllAlike (bs.map (·.2)) ∧ PySem.W.Sortable (bs.map (·.2)) ∧ (∀ b ∈ bs, ∀ H', Same H H' → sp [b.1] H' (fun v H2 => Same H' H2 ∧ Im K H2 v b.2) (fun _ _ _ => False)) ∧
  ∀ (p : Addr) H2, Same H H2 → H p = none → H2 p = some (.lst ((srtD bs).map (·.1))) → Q (.ref p) H2
section
variable {X : Cx} {f : Addr} {ps : List Str} {sp : Sp} {k : Nat}
theorem cr_sortedKD (o : Ok X.prog X.w X.K X.mg X.base k f ps sp) (hr : Room (k + 2) X.A) (hu : X.A.units + 64 < cLine) : CallRK X (.builtin "sorted") [Str.ofString "key"] (rSortKD X.K f sp) := by
  obtain ⟨fd, F, hb⟩ := o.ex
  intro pins s σ H vs zs us ws Q I r rz h
  obtain ⟨l, bs, rfl, rfl, hs, hd, hal, hsk, turn, q⟩ := h
  obtain ⟨its, rv, hl, hz⟩ := I.list hs
  rw [Vals.ref1 r]
  obtain ⟨w1, rfl, e1⟩ := vals1 rz
  obtain rfl : w1 = Value.ref f := e1
  have ev := vals_each rv
  have hL : its.length ≤ sizeLine := by rw [← rv.length]; exact hz
  refine PySem.W.sorted_of_sort hl.isList hL (PyProof.Rows.ksk_s1 _ _) (fun _ => PyProof.Rows.ksk_l1 _ _) fun E' => ?_
  show wpAny _ _ (Builtin.«list.sort» ⟨[.ref (s.heap.objs.size + 1)], [(Str.ofString "key", .ref f)]⟩) _ _ _
  rw [PyProof.Rows.ksk_t1]
  generalize ha : s.heap.objs.size + 1 = a
  have ho : (PySem.W.copyHeap s.heap its).get? a = some (seqObj "list" its.toArray 0) := by rw [← ha]; exact PySem.W.copyHeap_at s.heap its
  have hold : ∀ b u, s.heap.get? b = some u → (PySem.W.copyHeap s.heap its).get? b = some u := fun b u e => PySem.W.copyHeap_old e
  generalize hc : PySem.W.copyHeap s.heap its = hp at ho hold
  obtain ⟨ep, ho1⟩ : ∃ e1, (hp.update a (Obj.mapSeq fun _ => (#[] : Array Value))).get? a = some (seqObj "list" #[] e1) := ⟨_, get?_update_seq ho fun _ => #[]⟩
  have alt : a < hp.objs.size := Heap.lt_size ho
  unfold ksk_tree
  refine wpAny_bind (listItems_at ho rfl ?_)
  refine wpAny_bind (listUpdate_at ho rfl ?_ (by rw [List.size_toArray]; exact hL) (Nat.zero_le _))
  refine wpAny_bind (seqEpoch_at ho1 rfl ?_)
  refine wpAny_bind (wpAny_newTuple ?_ (by show its.length ≤ _; exact hL))
  refine wpAny_bind (wpAny_newList ?_ (Nat.zero_le _))
  refine wpAny_holding ?_
  have hkS : ((hp.update a (Obj.mapSeq fun _ => (#[] : Array Value))).push (seqObj "tuple" its.toArray 0)).objs.size = hp.objs.size + 1 := by rw [size_push', Heap.size_update]
  have gk : (((hp.update a (Obj.mapSeq fun _ => (#[] : Array Value))).push (seqObj "tuple" its.toArray 0)).push (seqObj "list" #[] 0)).get? (hp.objs.size + 1) = some (seqObj "list" #[] 0) := by rw [← hkS]; exact Heap.get?_push_size _ rfl
  have ga : (((hp.update a (Obj.mapSeq fun _ => (#[] : Array Value))).push (seqObj "tuple" its.toArray 0)).push (seqObj "list" #[] 0)).get? a = some (seqObj "list" #[] ep) := Heap.get?_push_of_some _ (Heap.get?_push_of_some _ ho1)
  have keep : ∀ b u, s.heap.get? b = some u → (((hp.update a (Obj.mapSeq fun _ => (#[] : Array Value))).push (seqObj "tuple" its.toArray 0)).push (seqObj "list" #[] 0)).get? b = some u := fun b u e => by
    refine Heap.get?_push_of_some _ (Heap.get?_push_of_some _ ?_)
    rw [Heap.get?_update_ne _ _ _ _ (by have := Heap.lt_size e; intro z; rw [z, ← ha] at this; exact Nat.lt_irrefl _ (Nat.lt_of_succ_lt this))]
    exact hold b u e
  try dsimp only
  rw [hkS]
  have hsz : s.heap.objs.size + 1 < hp.objs.size := by rw [ha]; exact alt
  have I1 : Inv X pins σ H { s with heap := ((hp.update a (Obj.mapSeq fun _ => (#[] : Array Value))).push (seqObj "tuple" its.toArray 0)).push (seqObj "list" #[] 0) } := I.kept (t' := s.toks) keep
  have fa : FpOk X pins H a := I.fpOk (by omega) (I.hok.fresh (by omega))
  have fk : FpOk X pins H (hp.objs.size + 1) := I.fpOk (by omega) (I.hok.fresh (by omega))
  have hka : hp.objs.size + 1 ≠ a := by omega
  have hHa : H a = none := fa.1
  generalize hkq : hp.objs.size + 1 = kS at gk fk hka
  generalize hs1 : ({ s with heap := ((hp.update a (Obj.mapSeq fun _ => (#[] : Array Value))).push (seqObj "tuple" its.toArray 0)).push (seqObj "list" #[] 0) } : Shared) = s1 at I1
  have g1 : s1.heap = ((hp.update a (Obj.mapSeq fun _ => (#[] : Array Value))).push (seqObj "tuple" its.toArray 0)).push (seqObj "list" #[] 0) := by rw [← hs1]
  rw [← g1] at gk ga
  have nc : ∀ (ks : Array Value) (e : Nat) (v : Option Value), (seqObj "list" ks e).data ≠ .cell v := fun ks e v z => by cases z
  have stat : ∀ {H' : Hp} {b : Addr}, FpOk X pins H b → H' b = none → FpOk X pins H' b := fun f n => ⟨n, f.2⟩
  unfold ksk_rest
  refine wpAny_bind (wpAny_rule ?_)
  first
    | rw [List.forIn_toArray]
    | (rw [← Array.forIn_toList]; simp only [List.toList_toArray])
    | rw [← Array.forIn_toList]
  refine wpAny_bind (ksk_fold (fun i s' => ∃ H' kA e ks, Inv X (pins ++ [(a, seqObj "list" #[] ep), (kS, seqObj "list" kA e)]) σ H' s' ∧ Same H H' ∧ Vals ks kA.toList ∧ ImAll X.K H' ks ((bs.take i).map (·.2))) its 0 s1
    ⟨H, #[], 0, [], pin_more I1 ?_, Same.refl H, .nil, by rw [List.take_zero]; exact .nil⟩ ?step ?done)
  · intro p hp
    rcases List.mem_cons.mp hp with rfl | hp
    · exact ⟨fa, ga, nc _ _⟩
    · obtain rfl : p = (kS, seqObj "list" #[] 0) := by simpa using hp
      exact ⟨fk, gk, nc _ _⟩
  case step =>
    rintro j v s2 hx ⟨H2, kA, e, ks, I2, sm, rk, ik⟩
    simp only [Nat.zero_add] at ik ⊢
    have hj : j < bs.length := by
      have h1 := (List.getElem?_eq_some_iff.mp hx).1
      have h2 := rv.length
      rw [List.length_map] at h2
      omega
    have hbj : bs[j]? = some bs[j] := List.getElem?_eq_getElem hj
    have hmem : bs[j] ∈ bs := List.getElem_mem hj
    obtain ⟨u, hu1, rx⟩ := rv.get (i := j) (x := bs[j].1) (by rw [List.getElem?_map, hbj]; rfl)
    obtain rfl : u = v := by rw [hx] at hu1; exact (Option.some.inj hu1).symm
    have hks : kA.size ≤ its.length := by
      have h1 := ik.len
      have h2 := rk.length
      rw [h1, List.length_map, List.length_take, Array.length_toList (xs := kA)] at h2
      have h3 := (List.getElem?_eq_some_iff.mp hx).1
      omega
    have call : wpAny (model X.prog X.w) X.A.in1.in1 (call (.ref f) [u]) (EP X (pins ++ [(a, seqObj "list" #[] ep), (kS, seqObj "list" kA e)]) σ (fun v H3 => Same H2 H3 ∧ Im X.K H3 v bs[j].2)) (fun _ _ => False) s2 := by
      have rv1 : Vals [bs[j].1] [u] := .cons rx .nil
      have hsp := turn _ hmem H2 sm
      have hl1 : [u].length = ps.length := by rw [← rv1.length]; exact F.len _ _ _ _ hsp
      refine wpAny_call (codeAny_mono (F.run X.A.in1.in1 X.stack s2 H2 ⟨[u], []⟩ [u] [bs[j].1] _ _ hr.in1.in1 I2.env0.in1.in1 (by have := hb s2 [u] I2.kIn (by rw [List.append_nil]; exact hl1); rw [List.append_nil] at this; exact this) rv1 hsp) fun r s' hq => ?_)
      cases r with
      | error e => exact hq.elim
      | ok fl =>
        cases fl with
        | ret u => exact I2.after hq
        | next => exact False.elim hq
        | brk => exact False.elim hq
        | cont => exact False.elim hq
    refine wpAny_bind (wpAny_attempt (wpAny_mono call (fun kv s3 hE => ?_) fun _ _ hF => hF.elim))
    obtain ⟨kx, H3, I3, rkx, sm3, imx⟩ := hE
    try dsimp only
    have p3 := I3.pin (kS, seqObj "list" kA e) (List.mem_append_right _ (List.mem_append_right _ (List.mem_cons_of_mem _ (List.mem_cons_self ..))))
    have pa3 := I3.pin (a, seqObj "list" #[] ep) (List.mem_append_right _ (List.mem_append_right _ (List.mem_cons_self ..)))
    have nk2 : s3.heap.get? kS = some (seqObj "list" kA e) := p3.1
    have na2 : s3.heap.get? a = some (seqObj "list" #[] ep) := pa3.1
    have sb := Heap.SameBut.update s3.heap kS (Obj.mapSeq (·.push kv))
    obtain ⟨c2, hc2⟩ : ∃ c2, (s3.heap.update kS (Obj.mapSeq (·.push kv))).get? kS = some (seqObj "list" (kA.push kv) c2) := ⟨_, get?_update_seq nk2 (·.push kv)⟩
    refine wpAny_bind (listUpdate_at nk2 rfl ?_ (Nat.le_trans hks hL) (Nat.le_trans (Nat.le_of_eq (Array.size_push ..)) (Nat.succ_le_succ (Nat.le_trans hks hL))))
    refine wpAny_pure ⟨rfl, ?_⟩
    have I4 : Inv X pins σ H3 s3 := I3.unpinned
    have I5 : Inv X pins σ H3 { s3 with heap := s3.heap.update kS (Obj.mapSeq (·.push kv)) } := I4.turned (t' := s3.toks) (fun b ob hb e => (sb.2 b hb).trans e) p3.2.1 fk.2.1 fk.2.2.2.1 fk.2.2.2.2.1 fk.2.2.2.2.2
    refine ⟨H3, kA.push kv, c2, ks ++ [kx], pin_more I5 ?_, sm.trans sm3, by rw [Array.toList_push]; exact rk.append (.cons rkx .nil), ?_⟩
    · intro p hp
      rcases List.mem_cons.mp hp with rfl | hp
      · exact ⟨stat fa pa3.2.1, (sb.2 a (Ne.symm hka)).trans na2, nc _ _⟩
      · obtain rfl : p = (kS, seqObj "list" (kA.push kv) c2) := by simpa using hp
        exact ⟨stat fk p3.2.1, hc2, nc _ _⟩
    · rw [List.take_add_one, hbj, Option.toList_some, List.map_append]
      exact (ik.same sm3).snoc imx
  case done =>
    rintro s2 ⟨H2, kA, e, ks, I2, sm, rk, ik⟩
    have hlen : bs.length = its.length := by have h2 := rv.length; rw [List.length_map] at h2; exact h2
    have hik : ImAll X.K H2 ks (bs.map (·.2)) := by
      rw [List.take_of_length_le (by omega)] at ik
      exact ik
    have hsz2 : kA.size = its.length := by
      have h1 := hik.len
      have h2 := rk.length
      rw [h1, List.length_map, Array.length_toList (xs := kA)] at h2
      omega
    have hrd : EachIs (fun v d => ∃ as, Reads s2.heap v d as) kA.toList (bs.map (·.2)) := by
      have gen : ∀ {ks : List V} {us : List Value} {ds : List PyData}, Vals ks us → ImAll X.K H2 ks ds → EachIs (fun v d => ∃ as, Reads s2.heap v d as) us ds := by
        intro ks us ds r
        induction r generalizing ds with
        | nil => intro h; cases h; exact .nil
        | cons r1 _ ih =>
          intro h
          cases h with
          | cons h1 h2 => exact .cons (Dp.reads I2 _ _ _ (Im.dp _ _ h1) r1) (ih h2)
      exact gen rk hik
    have p3 := I2.pin (kS, seqObj "list" kA e) (List.mem_append_right _ (List.mem_append_right _ (List.mem_cons_of_mem _ (List.mem_cons_self ..))))
    have pa3 := I2.pin (a, seqObj "list" #[] ep) (List.mem_append_right _ (List.mem_append_right _ (List.mem_cons_self ..)))
    refine wpAny_bind (listItems_at p3.1 rfl ?_)
    have hu2 : ∀ d, d ∈ bs.map (·.2) → X.A.in1.in1.units + d.depth < cLine := fun d hm => by
      obtain ⟨b, hb, rfl⟩ := List.mem_map.mp hm
      have := hd b hb
      show X.A.units + 2 + b.2.depth < cLine
      omega
    refine PySem.W.keyH_end (κ := PySem.W.dataKind s2.heap (bs.map (·.2))) (h₁ := s2.heap.hide kS) (fun b o _ e => Heap.of_hide e) (Heap.hide_self _ _) p3.1 pa3.1 hka (PySem.W.SortsAt.data (s := s2) hrd hal hsk hu2) hsz2 hL fun h3 tk3 c k3 n3 => ?_
    have out := PySem.W.keyedOut_each (rev := false) (R := fun v (b : V × PyData) => RelV b.1 v) (bs := bs) (vs := its) (out := PySem.W.sortVals (PySem.W.dataKind s2.heap (bs.map (·.2))) false kA.toList its) (·.2) ⟨s2.heap, kA.toList, hal, rfl, hrd⟩ ev
    have I4 : Inv X pins σ H2 s2 := I2.unpinned
    have I5 := two_turned (h' := h3) (t' := tk3) (a := a) (b := kS) (xs := (srtD bs).map (·.1)) I4 (fun b o hb hk e => k3 b o hb ((Heap.hide_ne _ hk).trans e)) (stat fa pa3.2.1) (stat fk p3.2.1)
      ⟨by rw [List.length_map, srtD, List.length_mergeSort]; omega, _, c, each_vals out, n3⟩
    exact ⟨rfl, .ref a, _, I5, rfl, q a _ (same_mut sm hHa) hHa upd_same⟩
end
end K46

set_option maxHeartbeats 1000000
namespace K46
open PySem PySem.Spec PyProof.Rows L2
section
variable {P : Program} {w : World} {K : PySem.W.Frag} {mg : Str → Option Value} {base : Heap}
def cellM (ns : List Int) (j : Nat) : Int := ns.getD j 0
def spCell (K : PySem.W.Frag) : Sp := sp2 fun a k H Q => ∃ (p : Addr) (ns : List Int) (j : Nat), a = .ref p ∧ SqL K H p (ns.map V.int) ∧ k = .int (j : Int) ∧ Q (.int (cellM ns j)) H
theorem sc_cell : FnScope ["_law_script", "_law_k"] ["_law_script", "_law_k"] (defScope s_law_cell) := ⟨rfl, rfl, rfl, by decide +kernel, rfl, by decide +kernel, by decide +kernel⟩
theorem ok_cell (T : Ctx K mg) : Ok P w K mg base 1 (He.ga K "_law_cell") ["_law_script", "_law_k"] (spCell K) := by
  refine okF T.d_law_cell sc_cell len2 (fun _ _ _ _ _ _ us hl => match us, hl with | [_, _], _ => rfl) (fun cdv A outer s H vs Q E hr h => ?_)
  obtain ⟨_, _, rfl, p, ns, j, rfl, hS, rfl, k⟩ := h
  refine ⟨_, pss_cons (ps_if (pt_cmpR op_lt (pv 1) (pe_callB call_len_seq (by rfl) T.n_len PySem.boot_len (pa_cons (pv 0) pa_nil)) (nomark _)) (pss_one (ps_ret (pe_ix ix_list (pv 0) (pv 1) (fun _ _ => rfl)))) pss_nil)
    (pss_one (ps_ret pe_int)), ?_⟩
  refine ⟨_, rfl, _, rfl, p, _, rfl, .inl hS, _, _, rfl, rfl, _, rfl, ?_⟩
  refine ite2 (fun c => ?_) (fun c => ?_)
  · have hj : j < ns.length := by
      have c := of_decide_eq_true c
      rw [List.length_map] at c
      omega
    refine ⟨_, rfl, _, rfl, p, _, _, .int (cellM ns j), rfl, rfl, hS, atI_nat ?_, k⟩
    rw [List.getElem?_map, List.getElem?_eq_getElem hj]
    simp [cellM, List.getD, hj]
  · have hj : ns.length ≤ j := by
      have c := of_decide_eq_false (Bool.eq_false_iff.mpr c)
      rw [List.length_map] at c
      omega
    have e : cellM ns j = 0 := by simp [cellM, List.getD, List.getElem?_eq_none hj]
    rw [e] at k
    exact k
end
end K46

set_option maxHeartbeats 2000000
namespace K46
open PySem PySem.Spec PyProof.Rows L2
section
variable {P : Program} {w : World} {K : PySem.W.Frag} {mg : Str → Option Value} {base : Heap}
/-- a new list of at most n, at least m ints -/
def RetI (H : Hp) (m n : Nat) (Q : VK) : Prop := ∀ (l : Addr) (ns : List Int) (H' : Hp), H l = none → Same H H' → H' l = some (.lst (ns.map V.int)) → m ≤ ns.length → ns.length ≤ n → Q (.ref l) H'
def spDigits : Sp := sp3 fun a b c H Q => ∃ (i : Int) (j m : Nat), a = .int i ∧ b = .int (j : Int) ∧ j < 1000 ∧ c = .int (m : Int) ∧ m ≤ 20 ∧ RetI H 0 20 Q
theorem map_snoc (ns : List Int) (i : Int) : ns.map V.int ++ [V.int i] = (ns ++ [i]).map V.int := by rw [List.map_append]; rfl
theorem small_sz {n m : Nat} (h : n ≤ m) (hm : m < 1000 := by decide) : n < sizeLine := small1000 (by omega)
abbrev N_law_digits : List Str := ["_law_cell_here", "_law_k", "_law_most", "_law_digits_here", "_law_turn", "_law_seed"]
theorem sc_law_digits : FnScope N_law_digits ["_law_cell_here", "_law_k", "_law_most"] (defScope s_law_digits) := ⟨rfl, rfl, rfl, by decide +kernel, rfl, by decide +kernel, by decide +kernel⟩
theorem ok_law_digits (T : Ctx K mg) : Ok P w K mg base 1 (He.ga K "_law_digits") ["_law_cell_here", "_law_k", "_law_most"] (spDigits) := by
  refine okF T.d_law_digits sc_law_digits len3 (fun _ _ _ _ _ _ us hl => match us, hl with | [_, _, _], _ => rfl) (fun cdv A outer s H vs Q E hr h => ?_)
  refine ⟨_,
      (pss_cons (ps_set (i := 3) sc_law_digits.nd rfl (Or.inl rfl) (pe_lst pa_nil))
      (Evl.pss_cut (ps_if (pt_cmpR op_lt (pv 0) pe_int (nomark _))
        (pss_one (ps_set (i := 0) sc_law_digits.nd rfl (Or.inl rfl) (pe_op op_sub (pe_un un_neg pe_int) (pv 0))))
        pss_nil)
      (Evl.pss_cut (ps_if (pt_cmpR op_ge (pv 0) (pe_op op_pow pe_int pe_int) (nomark _))
        (pss_one (ps_for PassesOwn.never rfl (pi_range1 (by rfl) T.n_range (pa_cons pe_int pa_nil)) (pg_name (i := 4) sc_law_digits.nd rfl (Or.inl rfl))
          (pss_one (ps_if (PW.pt (pw_and (pt_cmpR op_gt (pv 0) pe_int (nomark _)) (pw_and1 (pt_cmpR op_lt (pe_callB call_len_seq (by rfl) T.n_len (by decide +kernel) (pa_cons (pv 3) pa_nil)) (pv 2) (nomark _)))))
            (pss_cons (ps_expr (pe_bm PySem.F.plainAttrs_list PySem.F.slot_list_append PySem.F.type_list_append mt_append (pv 3) (pa_cons (pe_op op_mod (pe_callTy call_int1 (by rfl) T.n_int (by decide +kernel) (pa_cons (pv 0) pa_nil)) pe_int) pa_nil)))
            (pss_one (ps_set (i := 0) sc_law_digits.nd rfl (Or.inl rfl) (pe_op op_fdiv (pv 0) pe_int))))
            pss_nil))))
        (pss_cons (ps_set (i := 5) sc_law_digits.nd rfl (Or.inl rfl) (pe_op op_modN (pe_callTy call_int1 (by rfl) T.n_int (by decide +kernel) (pa_cons (pe_op op_add (pe_op op_add (pe_op op_mul (pv 0) pe_int) (pe_op op_mul (pv 1) pe_int)) pe_int) pa_nil)) pe_int))
        (pss_one (ps_for PassesOwn.never rfl (pi_range1 (by rfl) T.n_range (pa_cons (pv 2) pa_nil)) (pg_name (i := 4) sc_law_digits.nd rfl (Or.inl rfl))
          (pss_cons (ps_set (i := 5) sc_law_digits.nd rfl (Or.inl rfl) (pe_op op_modN (pe_callTy call_int1 (by rfl) T.n_int (by decide +kernel) (pa_cons (pe_op op_add (pe_op op_add (pe_op op_mul (pv 5) pe_int) (pe_op op_mul pe_int (pv 4))) pe_int) pa_nil)) pe_int))
          (pss_one (ps_expr (pe_bm PySem.F.plainAttrs_list PySem.F.slot_list_append PySem.F.type_list_append mt_append (pv 3) (pa_cons (pe_op op_mod (pe_callTy call_int1 (by rfl) T.n_int (by decide +kernel) (pa_cons (pe_op op_fdiv (pv 5) pe_int) pa_nil)) pe_int) pa_nil)))))))))
      (pss_one (ps_ret (pv 3)))))), ?_⟩
  obtain ⟨_, _, _, rfl, i, j, m, rfl, rfl, hj, rfl, hm, kk⟩ := h
  refine ⟨Nat.zero_le _, fun l hl => ?_⟩
  refine ⟨fun σ' H' => ∃ c : Int, 0 ≤ c ∧ σ' = [some (.int c), some (.int j), some (.int m), some (.ref l), none, none] ∧ H' = upd H l (.lst []), ?_, ?_⟩
  · refine ⟨_, rfl, _, _, rfl, rfl, _, rfl, ?_⟩
    refine ite2 (fun c => ?_) (fun c => ?_)
    · have c := of_decide_eq_true c
      exact ⟨_, rfl, _, rfl, _, _, rfl, rfl, _, by omega, rfl, rfl⟩
    · have c := of_decide_eq_false (Bool.eq_false_iff.mpr c)
      exact ⟨i, by omega, rfl, rfl⟩
  rintro _ _ ⟨c, hc, rfl, rfl⟩
  refine ⟨fun σ' H' => ∃ (ns : List Int) (a b d : Option V) (e : Int), σ' = [a, some (.int j), some (.int m), some (.ref l), b, d] ∧ Same H H' ∧ H' l = some (.lst (ns.map V.int)) ∧ ns.length ≤ 20, ?_, ?_⟩
  · refine ⟨_, rfl, _, _, rfl, rfl, ⟨by decide, by decide, by decide⟩, _, _, rfl, rfl, _, rfl, ?_⟩
    refine ite2 (fun q => ?_) (fun q => ?_)
    · refine ⟨60, rfl, by decide, by decide, for_range (n := 60) (fun i σ H' => ∃ (c : Int) (ns : List Int) (x : Option V), σ = [some (.int c), some (.int j), some (.int m), some (.ref l), x, none] ∧ Same H H' ∧ H' l = some (.lst (ns.map V.int)) ∧ ns.length ≤ 20)
        ⟨c, [], none, rfl, same_new hl, upd_same, Nat.zero_le _⟩ ?_ ?_⟩
      · rintro i' σ H' hi ⟨c, ns, x, rfl, sm, hL, hn⟩
        refine ⟨_, rfl, _, _, rfl, rfl, _, rfl, ?_⟩
        refine ite2 (fun q => ?_) (fun q => ?_)
        · refine ⟨_, rfl, l, _, rfl, .inl (SqL.of hL), _, rfl, _, _, rfl, rfl, _, rfl, ?_⟩
          refine ite2 (fun q2 => ?_) (fun q2 => ?_)
          · have q2 := of_decide_eq_true q2
            rw [List.length_map] at q2
            refine ⟨_, rfl, .inl ⟨rfl, _, SqL.of hL⟩, _, rfl, .inl ⟨_, rfl, _, _, rfl, rfl, (by show (0 : Int) < 1000; decide), l, _, _, rfl, rfl, hL, ?_, ?_⟩⟩
            · rw [List.length_map]; exact small_sz hn
            refine ⟨_, rfl, _, _, rfl, rfl, ⟨by decide, by decide⟩, ?_⟩
            refine ⟨_, _, _, rfl, same_mut sm hl, by rw [upd_same, map_snoc], ?_⟩
            rw [List.length_append, List.length_singleton]; omega
          · exact ⟨_, _, _, rfl, sm, hL, hn⟩
        · exact iteF ⟨_, _, _, rfl, sm, hL, hn⟩
      · rintro σ H' ⟨c, ns, x, rfl, sm, hL, hn⟩
        exact ⟨ns, _, _, _, 0, rfl, sm, hL, hn⟩
    · have q := of_decide_eq_false (Bool.eq_false_iff.mpr q)
      have q2 : c < 10 ^ 18 := by
        have e : ((10 : Int) ^ (18 : Int).toNat) = 10 ^ 18 := by decide
        rw [e] at q
        omega
      refine ⟨_, rfl, _, _, rfl, rfl, .inl ⟨by omega, by omega⟩, _, rfl, _, _, rfl, rfl, .inl ⟨by omega, by omega⟩, _, _, rfl, rfl, _, _, rfl, rfl, .inl ⟨_, rfl, _, _, rfl, rfl, (by show (2147483647 : Int) ≠ 0; decide), ?_⟩⟩
      refine ⟨_, rfl, _, rfl, by omega, by omega, for_range (n := (m : Int).toNat) (fun i σ H' => ∃ (z : Int) (ns : List Int) (x : Option V), σ = [some (.int c), some (.int j), some (.int m), some (.ref l), x, some (.int z)] ∧ 0 ≤ z ∧ z < 2147483647 ∧ Same H H' ∧ H' l = some (.lst (ns.map V.int)) ∧ ns.length = i)
        ⟨_, [], none, rfl, Int.fmod_nonneg_of_pos _ (by decide), Int.fmod_lt_of_pos _ (by decide), same_new hl, upd_same, rfl⟩ ?_ ?_⟩
      · rintro i' σ H' hi ⟨z, ns, x, rfl, z0, z1, sm, hL, hn⟩
        refine ⟨_, rfl, _, _, rfl, rfl, .inl ⟨by omega, by omega⟩, _, rfl, _, _, rfl, rfl, .inl ⟨by decide, by decide⟩, _, _, rfl, rfl, _, _, rfl, rfl, .inl ⟨_, rfl, _, _, rfl, rfl, (by show (2147483647 : Int) ≠ 0; decide), ?_⟩⟩
        refine ⟨_, rfl, .inl ⟨rfl, _, SqL.of hL⟩, _, rfl, _, _, rfl, rfl, ⟨by decide, by decide⟩, .inl ⟨_, rfl, _, _, rfl, rfl, (by show (0 : Int) < 1000; decide), l, _, _, rfl, rfl, hL, ?_, ?_⟩⟩
        · rw [List.length_map]; exact small_sz (m := 20) (by omega)
        · exact ⟨_, _, _, rfl, Int.fmod_nonneg_of_pos _ (by decide), Int.fmod_lt_of_pos _ (by decide), same_mut sm hl, by rw [upd_same, map_snoc], by rw [List.length_append, List.length_singleton, hn]⟩
      · rintro σ H' ⟨z, ns, x, rfl, z0, z1, sm, hL, hn⟩
        exact ⟨ns, _, _, _, 0, rfl, sm, hL, by omega⟩
  · rintro _ H' ⟨ns, a, b, d, e, rfl, sm, hL, hn⟩
    exact ⟨_, rfl, kk l ns H' hl sm hL (Nat.zero_le _) hn⟩
def spPadded : Sp := sp2 fun a b H Q => ∃ (i : Int) (j : Nat), a = .int i ∧ b = .int (j : Int) ∧ j < 1000 ∧ RetI H 20 40 Q
abbrev N_law_padded : List Str := ["_law_cell_here", "_law_k", "_law_d", "_law_turn"]
theorem sc_law_padded : FnScope N_law_padded ["_law_cell_here", "_law_k"] (defScope s_law_padded) := ⟨rfl, rfl, rfl, by decide +kernel, rfl, by decide +kernel, by decide +kernel⟩
theorem ok_law_padded (T : Ctx K mg) (o_law_digits : Ok P w K mg base 1 (He.ga K "_law_digits") ["_law_cell_here", "_law_k", "_law_most"] spDigits) : Ok P w K mg base 2 (He.ga K "_law_padded") ["_law_cell_here", "_law_k"] (spPadded) := by
  refine okF T.d_law_padded sc_law_padded len2 (fun _ _ _ _ _ _ us hl => match us, hl with | [_, _], _ => rfl) (fun cdv A outer s H vs Q E hr h => ?_)
  obtain ⟨fd_law_digits, F_law_digits, b_law_digits⟩ := o_law_digits.ex
  refine ⟨_,
      (pss_cons (ps_set (i := 2) sc_law_padded.nd rfl (Or.inl rfl) (pe_call F_law_digits (hr.mono (by decide)) (by rfl) T.g_law_digits o_law_digits.kp b_law_digits .nil pass0 (pa_cons (pv 0) (pa_cons (pv 1) (pa_cons pe_int pa_nil)))))
      (pss_cons (ps_for PassesOwn.never rfl (pi_range1 (by rfl) T.n_range (pa_cons pe_int pa_nil)) (pg_name (i := 3) sc_law_padded.nd rfl (Or.inl rfl))
        (pss_one (ps_expr (pe_bm PySem.F.plainAttrs_list PySem.F.slot_list_append PySem.F.type_list_append mt_append (pv 2) (pa_cons (pv 3) pa_nil)))))
      (pss_one (ps_ret (pv 2))))), ?_⟩
  obtain ⟨_, _, rfl, i, j, rfl, rfl, hj, kk⟩ := h
  refine ⟨_, rfl, _, rfl, _, _, _, rfl, i, j, 20, rfl, rfl, hj, rfl, by decide, fun l ns H1 hl sm hL _ hn => ?_⟩
  refine ⟨20, rfl, by decide, by decide, for_range (n := 20) (fun i' σ H' => ∃ (ns : List Int) (x : Option V), σ = [some (.int i), some (.int j), some (.ref l), x] ∧ Same H H' ∧ H' l = some (.lst (ns.map V.int)) ∧ i' ≤ ns.length ∧ ns.length ≤ 20 + i')
    ⟨ns, none, rfl, sm, hL, Nat.zero_le _, hn⟩ ?_ ?_⟩
  · rintro i' σ H' hi ⟨ns, x, rfl, sm, hL, h1, h2⟩
    refine ⟨_, rfl, .inl ⟨rfl, _, SqL.of hL⟩, _, rfl, l, _, _, rfl, rfl, hL, ?_, ?_⟩
    · rw [List.length_map]; exact small_sz (m := 40) (by omega)
    · exact ⟨_, _, rfl, same_mut sm hl, by rw [upd_same, map_snoc], by rw [List.length_append, List.length_singleton]; omega, by rw [List.length_append, List.length_singleton]; omega⟩
  · rintro σ H' ⟨ns, x, rfl, sm, hL, h1, h2⟩
    exact ⟨_, rfl, kk l ns H' hl sm hL h1 h2⟩
end
end K46

set_option maxHeartbeats 2000000
namespace K46
open PySem PySem.Spec PyProof.Rows L2
/-! ### texts and changes that the law makes -/
def okc (c : Nat) : Bool := decide (c = 10) || (decide (32 ≤ c) && decide (c ≤ 126) && decide (c ≠ 37))
structure TextOk (x : Str) : Prop where
  len : x.length ≤ 400
  ch : ∀ c ∈ x.cps.toList, okc c = true
def KeyIn (k : Str) : Prop := k = "a" ∨ k = "b" ∨ k = "k9"
/-- a change as the law makes it -/
structure ChgOk (c : Int × Str × Option Str) : Prop where
  t0 : 0 ≤ c.1
  t1 : c.1 ≤ 100000
  key : KeyIn c.2.1
  txt : ∀ x, c.2.2 = some x → TextOk x
def optS : Option Str → PyData
  | none => .none
  | some x => .str x
def chgD (c : Int × Str × Option Str) : PyData := .tuple [.int c.1, .str c.2.1, optS c.2.2]
theorem pickS {xs : List Str} {z : Int} (h0 : 0 ≤ z) (h1 : z < xs.length) : ∃ x, x ∈ xs ∧ atI (xs.map V.str) z = some (.str x) := by
  obtain ⟨n, rfl⟩ := Int.eq_ofNat_of_zero_le h0
  have hn : n < xs.length := by omega
  refine ⟨xs[n], List.getElem_mem hn, atI_nat ?_⟩
  rw [List.getElem?_map, List.getElem?_eq_getElem hn]
  rfl
theorem pickI {xs : List Int} {z : Int} (h0 : 0 ≤ z) (h1 : z < xs.length) : ∃ x, atI (xs.map V.int) z = some (.int x) := by
  obtain ⟨n, rfl⟩ := Int.eq_ofNat_of_zero_le h0
  have hn : n < xs.length := by omega
  refine ⟨xs[n], atI_nat ?_⟩
  rw [List.getElem?_map, List.getElem?_eq_getElem hn]
  rfl
theorem mod_in (x : Int) (n : Int) (hn : 0 < n := by decide) : 0 ≤ x % n ∧ x % n < n := ⟨Int.emod_nonneg _ (by omega), Int.emod_lt_of_pos _ hn⟩
def lawWords : List Str := ["old", "mill", "mills", "weir", "the", "Miller", "a1", "Old-mill", "by"]
def lawSeps : List Str := [" ", ", ", "\n"]
theorem lawWords_ok : ∀ x ∈ lawWords, x.length ≤ 8 ∧ ∀ c ∈ x.cps.toList, okc c = true := by decide +kernel
theorem lawSeps_ok : ∀ x ∈ lawSeps, x.length ≤ 2 ∧ ∀ c ∈ x.cps.toList, okc c = true := by decide +kernel
theorem cps_app (x y : Str) : (x ++ y).cps.toList = x.cps.toList ++ y.cps.toList := by rw [PySem.Str.cps_append, Array.toList_append]
section
variable {P : Program} {w : World} {K : PySem.W.Frag} {mg : Str → Option Value} {base : Heap}
def spText : Sp := sp1 fun a H Q => ∃ (l : Addr) (ns : List Int), a = .ref l ∧ H l = some (.lst (ns.map V.int)) ∧ 20 ≤ ns.length ∧ ∀ x H', Same H H' → TextOk x → Q (.str x) H'
abbrev N_law_text : List Str := ["_law_d", "_law_words", "_law_text_here", "_law_j"]
theorem sc_law_text : FnScope N_law_text ["_law_d"] (defScope s_law_text) := ⟨rfl, rfl, rfl, by decide +kernel, rfl, by decide +kernel, by decide +kernel⟩
theorem ok_law_text (T : Ctx K mg) : Ok P w K mg base 1 (He.ga K "_law_text") ["_law_d"] (spText) := by
  refine okF T.d_law_text sc_law_text len1 (fun _ _ _ _ _ _ us hl => match us, hl with | [_], _ => rfl) (fun cdv A outer s H vs Q E hr h => ?_)
  refine ⟨_,
      (pss_cons (ps_set (i := 1) sc_law_text.nd rfl (Or.inl rfl) (pe_lst (pa_cons pe_str (pa_cons pe_str (pa_cons pe_str (pa_cons pe_str (pa_cons pe_str (pa_cons pe_str (pa_cons pe_str (pa_cons pe_str (pa_cons pe_str pa_nil)))))))))))
      (pss_cons (ps_set (i := 2) sc_law_text.nd rfl (Or.inl rfl) pe_str)
      (pss_cons (ps_for PassesOwn.never rfl (pi_range1 (by rfl) T.n_range (pa_cons (pe_op op_mod (pe_callTy call_int1 (by rfl) T.n_int (by decide +kernel) (pa_cons (pe_ix ix_list (pv 0) pe_int (fun _ _ => rfl)) pa_nil)) pe_int) pa_nil)) (pg_name (i := 3) sc_law_text.nd rfl (Or.inl rfl))
        (pss_one (ps_set (i := 2) sc_law_text.nd rfl (Or.inl rfl) (pe_op op_add_str (pe_op op_add_str (pv 2) (pe_ix ix_list (pv 1) (pe_op op_mod (pe_callTy call_int1 (by rfl) T.n_int (by decide +kernel) (pa_cons (pe_ix ix_list (pv 0) (pe_op op_add pe_int (pv 3)) (fun _ _ => rfl)) pa_nil)) pe_int) (fun _ _ => rfl))) (pe_ix ix_list (pe_lst (pa_cons pe_str (pa_cons pe_str (pa_cons pe_str pa_nil)))) (pe_op op_mod (pe_callTy call_int1 (by rfl) T.n_int (by decide +kernel) (pa_cons (pe_ix ix_list (pv 0) (pe_op op_add pe_int (pv 3)) (fun _ _ => rfl)) pa_nil)) pe_int) (fun _ _ => rfl))))))
      (pss_one (ps_ret (pv 2)))))), ?_⟩
  obtain ⟨_, rfl, l, ns, rfl, hL, hn, kk⟩ := h
  refine ⟨by decide, fun lw hlw => ?_⟩
  have e0 : ∃ z, atI (ns.map V.int) 0 = some (.int z) := pickI (by decide) (by omega)
  obtain ⟨z, hz⟩ := e0
  have hL1 : (upd H lw (.lst (lawWords.map V.str))) l = some (.lst (ns.map V.int)) := same_new hlw _ _ hL
  have r6 := mod_in z 6
  refine ⟨_, rfl, l, _, _, _, rfl, rfl, SqL.of hL1, hz, .inl ⟨_, rfl, _, _, rfl, rfl, (by show (0 : Int) < 6; decide), ?_⟩⟩
  refine ⟨_, rfl, by omega, by omega, for_range (n := (z % 6).toNat) (fun i σ H' => ∃ (x : Str) (q : Option V), σ = [some (.ref l), some (.ref lw), some (.str x), q] ∧ Same H H' ∧ H' lw = some (.lst (lawWords.map V.str)) ∧ x.length ≤ 10 * i ∧ ∀ c ∈ x.cps.toList, okc c = true)
    ⟨_, none, rfl, same_new hlw, upd_same, by decide, by decide⟩ ?_ ?_⟩
  · rintro i σ H' hi ⟨x, q, rfl, sm, hW, hx, hc⟩
    have hi6 : i < 6 := by omega
    obtain ⟨z1, h1⟩ : ∃ z1, atI (ns.map V.int) (1 + (0 + (i : Int))) = some (.int z1) := pickI (by omega) (by omega)
    obtain ⟨z2, h2⟩ : ∃ z2, atI (ns.map V.int) (7 + (0 + (i : Int))) = some (.int z2) := pickI (by omega) (by omega)
    have r9 := mod_in z1 9
    have r3 := mod_in z2 3
    obtain ⟨y1, m1, p1⟩ := pickS (xs := lawWords) (z := z1 % 9) r9.1 r9.2
    obtain ⟨y2, m2, p2⟩ := pickS (xs := lawSeps) (z := z2 % 3) r3.1 r3.2
    obtain ⟨l1, c1⟩ := lawWords_ok y1 m1
    obtain ⟨l2, c2⟩ := lawSeps_ok y2 m2
    have hL' : SqL K H' l (ns.map V.int) := SqL.of (sm _ _ hL)
    refine ⟨_, rfl, _, rfl, _, rfl, _, rfl, _, _, rfl, rfl, l, _, _, _, rfl, rfl, hL', h1, .inl ⟨_, rfl, _, _, rfl, rfl, (by show (0 : Int) < 9; decide), ?_⟩⟩
    refine ⟨lw, _, _, _, rfl, rfl, SqL.of hW, p1, _, _, rfl, rfl, ?_, ?_⟩
    · exact Nat.le_trans (show x.length + y1.length ≤ 1000 by omega) (by decide)
    refine ⟨by decide, fun ls hls => ?_⟩
    have sm2 : Same H' (upd H' ls (.lst (lawSeps.map V.str))) := same_new hls
    refine ⟨_, rfl, _, rfl, _, _, rfl, rfl, l, _, _, _, rfl, rfl, sm2.seq hL', h2, .inl ⟨_, rfl, _, _, rfl, rfl, (by show (0 : Int) < 3; decide), ?_⟩⟩
    refine ⟨ls, _, _, _, rfl, rfl, SqL.of upd_same, p2, _, _, rfl, rfl, ?_, ?_⟩
    · rw [PySem.Str.length_append]
      exact Nat.le_trans (show x.length + y1.length + y2.length ≤ 1000 by omega) (by decide)
    refine ⟨_, _, rfl, sm.trans sm2, sm2 _ _ hW, ?_, fun c hm => ?_⟩
    · rw [PySem.Str.length_append, PySem.Str.length_append]; omega
    · rw [cps_app, cps_app, List.mem_append, List.mem_append] at hm
      rcases hm with (hm | hm) | hm
      · exact hc c hm
      · exact c1 c hm
      · exact c2 c hm
  · rintro σ H' ⟨x, q, rfl, sm, hW, hx, hc⟩
    exact ⟨_, rfl, kk x H' sm ⟨by omega, hc⟩⟩
end
end K46

set_option maxHeartbeats 2000000
namespace K46
open PySem PySem.Spec PyProof.Rows L2
theorem sz1 {a : V} : [a].length ≤ sizeLine := by show 1 ≤ sizeLine; decide
theorem sz2 {a b : V} : [a, b].length ≤ sizeLine := by show 2 ≤ sizeLine; decide
theorem sz3 {a b c : V} : [a, b, c].length ≤ sizeLine := by show 3 ≤ sizeLine; decide
theorem up {H : Hp} {p b : Addr} {o u : HO} (h : H p = none) (f : H b = some u) : upd H p o b = some u := same_new h b u f
def endsM (ns : List Int) : List (Str × Int) := if cellM ns 0 % 3 = 0 then [] else if cellM ns 0 % 3 = 1 then [("s", 3)] else [("s", 3), ("er", 3)]
section
variable {P : Program} {w : World} {K : PySem.W.Frag} {mg : Str → Option Value} {base : Heap}
def spEndings (K : PySem.W.Frag) : Sp := sp1 fun a H Q => ∃ (p : Addr) (ns : List Int), a = .ref p ∧ SqL K H p (ns.map V.int) ∧ RetD K H (endD (endsM ns)) Q
abbrev N_law_endings : List Str := ["_law_script"]
theorem sc_law_endings : FnScope N_law_endings ["_law_script"] (defScope s_law_endings) := ⟨rfl, rfl, rfl, by decide +kernel, rfl, by decide +kernel, by decide +kernel⟩
theorem ok_law_endings (T : Ctx K mg) (o_law_cell : Ok P w K mg base 1 (He.ga K "_law_cell") ["_law_script", "_law_k"] (spCell K)) : Ok P w K mg base 2 (He.ga K "_law_endings") ["_law_script"] (spEndings K) := by
  refine okF T.d_law_endings sc_law_endings len1 (fun _ _ _ _ _ _ us hl => match us, hl with | [_], _ => rfl) (fun cdv A outer s H vs Q E hr h => ?_)
  obtain ⟨fd_law_cell, F_law_cell, b_law_cell⟩ := o_law_cell.ex
  refine ⟨_,
      (pss_one (ps_ret (pe_ix ix_list (pe_lst (pa_cons (pe_tup pa_nil) (pa_cons (pe_tup (pa_cons (pe_tup (pa_cons pe_str (pa_cons pe_int pa_nil))) pa_nil)) (pa_cons (pe_tup (pa_cons (pe_tup (pa_cons pe_str (pa_cons pe_int pa_nil))) (pa_cons (pe_tup (pa_cons pe_str (pa_cons pe_int pa_nil))) pa_nil))) pa_nil)))) (pe_op op_mod (pe_callTy call_int1 (by rfl) T.n_int (by decide +kernel) (pa_cons (pe_call F_law_cell (hr.mono (by decide)) (by rfl) T.g_law_cell o_law_cell.kp b_law_cell .nil pass0 (pa_cons (pv 0) (pa_cons pe_int pa_nil))) pa_nil)) pe_int) (fun _ _ => rfl)))), ?_⟩
  obtain ⟨_, rfl, p, ns, rfl, hS, kk⟩ := h
  refine ⟨by decide, fun t0 h0 => ⟨by decide, fun t1 h1 => ⟨sz1, fun t2 h2 => ⟨by decide, fun t3 h3 => ⟨by decide, fun t4 h4 => ⟨sz2, fun t5 h5 => ⟨sz3, fun l hl => ?_⟩⟩⟩⟩⟩⟩⟩
  have f1 := up (o := .tup [.ref t3, .ref t4]) h5 (up (o := .tup [.str "er", .int 3]) h4 (up (o := .tup [.str "s", .int 3]) h3 (up (o := .tup [.ref t1]) h2 (@upd_same _ t1 (.tup [.str "s", .int 3])))))
  have f2 := up (o := .tup [.ref t3, .ref t4]) h5 (up (o := .tup [.str "er", .int 3]) h4 (up (o := .tup [.str "s", .int 3]) h3 (@upd_same _ t2 (.tup [.ref t1]))))
  have f0 := up (o := .tup [.ref t3, .ref t4]) h5 (up (o := .tup [.str "er", .int 3]) h4 (up (o := .tup [.str "s", .int 3]) h3 (up (o := .tup [.ref t1]) h2 (up (o := .tup [.str "s", .int 3]) h1 (@upd_same H t0 (.tup []))))))
  have f3 := up (o := .tup [.ref t3, .ref t4]) h5 (up (o := .tup [.str "er", .int 3]) h4 (@upd_same _ t3 (.tup [.str "s", .int 3])))
  have f4 := up (o := .tup [.ref t3, .ref t4]) h5 (@upd_same _ t4 (.tup [.str "er", .int 3]))
  have sm := ((((((same_new (o := .tup []) h0).trans (same_new (o := .tup [.str "s", .int 3]) h1)).trans (same_new (o := .tup [.ref t1]) h2)).trans (same_new (o := .tup [.str "s", .int 3]) h3)).trans (same_new (o := .tup [.str "er", .int 3]) h4)).trans (same_new (o := .tup [.ref t3, .ref t4]) h5)).trans (same_new (o := .lst [.ref t0, .ref t2, .ref t5]) hl)
  have r := mod_in (cellM ns 0) 3
  refine ⟨_, rfl, _, _, rfl, p, ns, 0, rfl, sm.seq hS, rfl, .inl ⟨_, rfl, _, _, rfl, rfl, (by show (0 : Int) < 3; decide), ?_⟩⟩
  have hcase : cellM ns 0 % 3 = 0 ∨ cellM ns 0 % 3 = 1 ∨ cellM ns 0 % 3 = 2 := by omega
  rcases hcase with e | e | e
  · refine ⟨l, _, _, .ref t0, rfl, rfl, SqL.of upd_same, (by rw [e] <;> rfl), kk _ _ sm ?_⟩
    rw [endsM, if_pos e]
    exact .tup (SqT.of (up hl f0)) .nil
  · refine ⟨l, _, _, .ref t2, rfl, rfl, SqL.of upd_same, (by rw [e] <;> rfl), kk _ _ sm ?_⟩
    rw [endsM, if_neg (by omega), if_pos e]
    exact .tup (SqT.of (up hl f2)) (.cons (.tup (SqT.of (up hl f1)) (.cons (.str _) (.cons (.int _) .nil))) .nil)
  · refine ⟨l, _, _, .ref t5, rfl, rfl, SqL.of upd_same, (by rw [e] <;> rfl), kk _ _ sm ?_⟩
    rw [endsM, if_neg (by omega), if_neg (by omega)]
    exact .tup (SqT.of (up hl upd_same)) (.cons (.tup (SqT.of (up hl f3)) (.cons (.str _) (.cons (.int _) .nil))) (.cons (.tup (SqT.of (up hl f4)) (.cons (.str _) (.cons (.int _) .nil))) .nil))
def lawKeys : List Str := ["a", "b", "k9"]
theorem lawKeys_ok {k : Str} (h : k ∈ lawKeys) : KeyIn k := by
  rcases List.mem_cons.mp h with h | h
  · exact .inl h
  · rcases List.mem_cons.mp h with h | h
    · exact .inr (.inl h)
    · exact .inr (.inr (List.mem_singleton.mp h))
def spChange (K : PySem.W.Frag) : Sp := sp2 fun a b H Q => ∃ (i : Int) (j : Nat), a = .int i ∧ b = .int (j : Int) ∧ j < 1000 ∧ ∀ c v H', ChgOk c → Same H H' → Im K H' v (chgD c) → Q v H'
abbrev N_law_change : List Str := ["_law_cell_here", "_law_k", "_law_d", "_law_time", "_law_key"]
theorem sc_law_change : FnScope N_law_change ["_law_cell_here", "_law_k"] (defScope s_law_change) := ⟨rfl, rfl, rfl, by decide +kernel, rfl, by decide +kernel, by decide +kernel⟩
theorem ok_law_change (T : Ctx K mg) (o_law_padded : Ok P w K mg base 2 (He.ga K "_law_padded") ["_law_cell_here", "_law_k"] spPadded) (o_law_text : Ok P w K mg base 1 (He.ga K "_law_text") ["_law_d"] spText) : Ok P w K mg base 3 (He.ga K "_law_change") ["_law_cell_here", "_law_k"] (spChange K) := by
  refine okF T.d_law_change sc_law_change len2 (fun _ _ _ _ _ _ us hl => match us, hl with | [_, _], _ => rfl) (fun cdv A outer s H vs Q E hr h => ?_)
  obtain ⟨fd_law_padded, F_law_padded, b_law_padded⟩ := o_law_padded.ex
  obtain ⟨fd_law_text, F_law_text, b_law_text⟩ := o_law_text.ex
  refine ⟨_,
      (pss_cons (ps_set (i := 2) sc_law_change.nd rfl (Or.inl rfl) (pe_call F_law_padded (hr.mono (by decide)) (by rfl) T.g_law_padded o_law_padded.kp b_law_padded .nil pass0 (pa_cons (pv 0) (pa_cons (pv 1) pa_nil))))
      (pss_cons (ps_set (i := 3) sc_law_change.nd rfl (Or.inl rfl) (pe_op op_mod (pe_callTy call_int1 (by rfl) T.n_int (by decide +kernel) (pa_cons (pe_op op_fdiv (pv 0) pe_int) pa_nil)) pe_int))
      (pss_cons (ps_set (i := 4) sc_law_change.nd rfl (Or.inl rfl) (pe_ix ix_list (pe_lst (pa_cons pe_str (pa_cons pe_str (pa_cons pe_str pa_nil)))) (pe_op op_mod (pe_callTy call_int1 (by rfl) T.n_int (by decide +kernel) (pa_cons (pv 0) pa_nil)) pe_int) (fun _ _ => rfl)))
      (pss_cons (ps_if (pt_cmpR op_eq (pe_op op_mod (pe_callTy call_int1 (by rfl) T.n_int (by decide +kernel) (pa_cons (pe_ix ix_list (pv 2) pe_int (fun _ _ => rfl)) pa_nil)) pe_int) pe_int (nomark _))
        (pss_one (ps_ret (pe_tup (pa_cons (pv 3) (pa_cons (pv 4) (pa_cons pe_non pa_nil))))))
        pss_nil)
      (pss_one (ps_ret (pe_tup (pa_cons (pv 3) (pa_cons (pv 4) (pa_cons (pe_call F_law_text (hr.mono (by decide)) (by rfl) T.g_law_text o_law_text.kp b_law_text .nil pass0 (pa_cons (pv 2) pa_nil)) pa_nil)))))))))), ?_⟩
  obtain ⟨_, _, rfl, i, j, rfl, rfl, hj, kk⟩ := h
  refine ⟨_, rfl, _, rfl, _, _, rfl, i, j, rfl, rfl, hj, fun l ns H1 hl sm hL n1 n2 => ?_⟩
  refine ⟨_, rfl, _, _, rfl, rfl, ⟨by decide, by decide⟩, .inl ⟨_, rfl, _, _, rfl, rfl, (by show (0 : Int) < 12; decide), ?_⟩⟩
  have r12 := mod_in (i / 3) 12
  have r3 := mod_in i 3
  obtain ⟨y, my, py⟩ := pickS (xs := lawKeys) (z := i % 3) r3.1 r3.2
  refine ⟨by decide, fun lk hlk => ?_⟩
  refine ⟨_, rfl, .inl ⟨_, rfl, _, _, rfl, rfl, (by show (0 : Int) < 3; decide), lk, _, _, _, rfl, rfl, SqL.of upd_same, py, ?_⟩⟩
  have hL2 : (upd H1 lk (.lst (lawKeys.map V.str))) l = some (.lst (ns.map V.int)) := same_new hlk _ _ hL
  obtain ⟨z, hz⟩ : ∃ z, atI (ns.map V.int) 15 = some (.int z) := pickI (by omega) (by omega)
  have sm2 : Same H (upd H1 lk (.lst (lawKeys.map V.str))) := sm.trans (same_new hlk)
  have ok : ∀ tx, (∀ x, tx = some x → TextOk x) → ChgOk (i / 3 % 12, y, tx) := fun tx ht => ⟨r12.1, by show i / 3 % 12 ≤ 100000; omega, lawKeys_ok my, ht⟩
  refine ⟨_, rfl, l, _, _, _, rfl, rfl, SqL.of hL2, hz, .inl ⟨_, rfl, _, _, rfl, rfl, (by show (0 : Int) < 6; decide), rfl, _, rfl, ?_⟩⟩
  refine ite2 (fun _ => ?_) (fun _ => ?_)
  · refine ⟨_, rfl, _, rfl, sz3, fun t ht => ?_⟩
    exact kk (i / 3 % 12, y, none) _ _ (ok none fun _ e => nomatch e) (sm2.trans (same_new ht)) (.tup (SqT.of upd_same) (.cons (.int _) (.cons (.str _) (.cons .non .nil))))
  · refine ⟨_, rfl, _, rfl, _, rfl, _, rfl, l, ns, rfl, hL2, n1, fun x H2 sm3 tx => ⟨sz3, fun t ht => ?_⟩⟩
    exact kk (i / 3 % 12, y, some x) _ _ (ok (some x) fun x' e => by cases e; exact tx) ((sm2.trans sm3).trans (same_new ht)) (.tup (SqT.of upd_same) (.cons (.int _) (.cons (.str _) (.cons (.str _) .nil))))
end
end K46

set_option maxHeartbeats 2000000
namespace K46
open PySem PySem.Spec PyProof.Rows L2
/-! ### questions -/
def patD (p : Bool × Str) : PyData := .tuple [.str (if p.1 then "start" else "word"), .str p.2]
inductive Qn where
  | row (ps : List (Bool × Str)) (gap : Int)
  | all
  | no (q : Qn)
  | both (a b : Qn)
  | one (a b : Qn)
def Qn.dat : Qn → PyData
  | .row ps g => .tuple [.str "row", .tuple (ps.map patD), .int g]
  | .all => .tuple [.str "all"]
  | .no q => .tuple [.str "not", q.dat]
  | .both a b => .tuple [.str "and", .tuple [a.dat, b.dat]]
  | .one a b => .tuple [.str "or", .tuple [a.dat, b.dat]]
def Qn.dep : Qn → Nat
  | .row _ _ => 0
  | .all => 0
  | .no q => q.dep + 1
  | .both a b => max a.dep b.dep + 1
  | .one a b => max a.dep b.dep + 1
def Qn.Ok : Qn → Prop
  | .row ps g => 1 ≤ ps.length ∧ ps.length ≤ 3 ∧ 0 ≤ g ∧ g ≤ 9
  | .all => True
  | .no q => q.Ok
  | .both a b => a.Ok ∧ b.Ok
  | .one a b => a.Ok ∧ b.Ok
def lawPats : List Str := ["old", "mill", "mi", "weir", "the", "a", "by", "zoo"]
section
variable {P : Program} {w : World} {K : PySem.W.Frag} {mg : Str → Option Value} {base : Heap}
def spPattern (K : PySem.W.Frag) : Sp := sp1 fun a H Q => ∃ i : Int, a = .int i ∧ ∀ p v H', Same H H' → Im K H' v (patD p) → Q v H'
abbrev N_law_pattern : List Str := ["_law_digit", "_law_words"]
theorem sc_law_pattern : FnScope N_law_pattern ["_law_digit"] (defScope s_law_pattern) := ⟨rfl, rfl, rfl, by decide +kernel, rfl, by decide +kernel, by decide +kernel⟩
theorem ok_law_pattern (T : Ctx K mg) : Ok P w K mg base 1 (He.ga K "_law_pattern") ["_law_digit"] (spPattern K) := by
  refine okF T.d_law_pattern sc_law_pattern len1 (fun _ _ _ _ _ _ us hl => match us, hl with | [_], _ => rfl) (fun cdv A outer s H vs Q E hr h => ?_)
  refine ⟨_,
      (pss_cons (ps_set (i := 1) sc_law_pattern.nd rfl (Or.inl rfl) (pe_lst (pa_cons pe_str (pa_cons pe_str (pa_cons pe_str (pa_cons pe_str (pa_cons pe_str (pa_cons pe_str (pa_cons pe_str (pa_cons pe_str pa_nil))))))))))
      (pss_one (ps_ret (pe_tup (pa_cons (pe_ix ix_list (pe_lst (pa_cons pe_str (pa_cons pe_str pa_nil))) (pe_op op_mod (pe_callTy call_int1 (by rfl) T.n_int (by decide +kernel) (pa_cons (pv 0) pa_nil)) pe_int) (fun _ _ => rfl)) (pa_cons (pe_ix ix_list (pv 1) (pe_op op_mod (pe_callTy call_int1 (by rfl) T.n_int (by decide +kernel) (pa_cons (pe_op op_fdiv (pv 0) pe_int) pa_nil)) pe_int) (fun _ _ => rfl)) pa_nil)))))), ?_⟩
  obtain ⟨_, rfl, i, rfl, kk⟩ := h
  refine ⟨by decide, fun lw hlw => ⟨by decide, fun l2 hl2 => ?_⟩⟩
  have r2 := mod_in i 2
  have r8 := mod_in (i / 2) 8
  obtain ⟨y, my, py⟩ := pickS (xs := lawPats) (z := i / 2 % 8) r8.1 r8.2
  obtain ⟨b, pb⟩ : ∃ b : Bool, atI [V.str "word", V.str "start"] (i % 2) = some (.str (if b then "start" else "word")) := by
    have hc : i % 2 = 0 ∨ i % 2 = 1 := by omega
    rcases hc with e | e
    · exact ⟨false, by rw [e] <;> rfl⟩
    · exact ⟨true, by rw [e] <;> rfl⟩
  refine ⟨_, rfl, .inl ⟨_, rfl, _, _, rfl, rfl, (by show (0 : Int) < 2; decide), l2, _, _, _, rfl, rfl, SqL.of upd_same, pb, ?_⟩⟩
  refine ⟨_, rfl, _, rfl, _, _, rfl, rfl, ⟨by decide, by decide⟩, .inl ⟨_, rfl, _, _, rfl, rfl, (by show (0 : Int) < 8; decide), lw, _, _, _, rfl, rfl, SqL.of (up hl2 upd_same), py, ?_⟩⟩
  refine ⟨sz2, fun t ht => ?_⟩
  exact kk (b, y) _ _ (((same_new hlw).trans (same_new hl2)).trans (same_new ht)) (.tup (SqT.of upd_same) (.cons (.str _) (.cons (.str _) .nil)))
def spRow (K : PySem.W.Frag) : Sp := sp1 fun a H Q => ∃ (l : Addr) (ns : List Int), a = .ref l ∧ H l = some (.lst (ns.map V.int)) ∧ 6 ≤ ns.length ∧ ∀ ps g v H', (Qn.row ps g).Ok → Same H H' → Im K H' v (Qn.row ps g).dat → Q v H'
abbrev N_law_row : List Str := ["_law_d", "_law_patterns", "_law_j"]
theorem sc_law_row : FnScope N_law_row ["_law_d"] (defScope s_law_row) := ⟨rfl, rfl, rfl, by decide +kernel, rfl, by decide +kernel, by decide +kernel⟩
theorem ok_law_row (T : Ctx K mg) (o_law_pattern : Ok P w K mg base 1 (He.ga K "_law_pattern") ["_law_digit"] (spPattern K)) : Ok P w K mg base 2 (He.ga K "_law_row") ["_law_d"] (spRow K) := by
  refine okF T.d_law_row sc_law_row len1 (fun _ _ _ _ _ _ us hl => match us, hl with | [_], _ => rfl) (fun cdv A outer s H vs Q E hr h => ?_)
  obtain ⟨fd_law_pattern, F_law_pattern, b_law_pattern⟩ := o_law_pattern.ex
  refine ⟨_,
      (pss_cons (ps_set (i := 1) sc_law_row.nd rfl (Or.inl rfl) (pe_callTy call_tuple_of (by rfl) T.n_tuple (by decide +kernel) (pa_cons (pe_lc (own := [("_law_j", 2)]) (g := gName 2) (by rfl) sc_law_row.nd (pi_range1 (by rfl) T.n_range (pa_cons (pe_op op_add pe_int (pe_op op_mod (pe_callTy call_int1 (by rfl) T.n_int (by decide +kernel) (pa_cons (pe_ix ix_list (pv 0) pe_int (fun _ _ => rfl)) pa_nil)) pe_int)) pa_nil)) (blkOk_by (own := [("_law_j", 2)]) (N := N_law_row) (sc := defScope s_law_row) (by decide +kernel)) (fun _ _ _ _ _ => pg_name (i := 2) sc_law_row.nd rfl (Or.inl rfl)) (fun _ _ _ _ _ => pts_nil) (fun _ _ _ _ _ => (pe_call F_law_pattern (hr.mono (by decide)) (by rfl) T.g_law_pattern o_law_pattern.kp b_law_pattern .nil pass0 (pa_cons (pe_ix (ixLK K rfl) (pv 0) (pe_op op_add pe_int (pv 2)) (fun _ _ => rfl)) pa_nil)))) pa_nil)))
      (pss_one (ps_ret (pe_tup (pa_cons pe_str (pa_cons (pv 1) (pa_cons (pe_op op_mod (pe_callTy call_int1 (by rfl) T.n_int (by decide +kernel) (pa_cons (pe_ix ix_list (pv 0) pe_int (fun _ _ => rfl)) pa_nil)) pe_int) pa_nil))))))), ?_⟩
  obtain ⟨_, rfl, l, ns, rfl, hL, hn, kk⟩ := h
  obtain ⟨z, hz⟩ : ∃ z, atI (ns.map V.int) 0 = some (.int z) := pickI (by omega) (by omega)
  have r3 := mod_in z 3
  refine ⟨_, rfl, l, _, _, _, rfl, rfl, SqL.of hL, hz, .inl ⟨_, rfl, _, _, rfl, rfl, (by show (0 : Int) < 3; decide), _, _, rfl, rfl, ?_⟩⟩
  refine ⟨_, rfl, by omega, by omega, fun D hD => lc_range (lo := 0) (n := (1 + z % 3).toNat) (fun i H' => ∃ (acc : List V) (ps : List (Bool × Str)), H' D = some (.lst acc) ∧ ps.length = i ∧ Same H H' ∧ ImAll K H' acc (ps.map patD))
    ⟨[], [], upd_same, rfl, same_new hD, .nil⟩ ?_ ?_⟩
  · rintro i H' hi ⟨acc, ps, hd, hl, sm, im⟩
    refine ⟨rfl, ?_⟩
    obtain ⟨z1, h1⟩ : ∃ z1, atI (ns.map V.int) (1 + (0 + (i : Int))) = some (.int z1) := pickI (by omega) (by omega)
    refine ⟨_, rfl, _, rfl, _, _, rfl, rfl, l, _, _, _, rfl, rfl, SqL.of (sm _ _ hL), h1, _, rfl, z1, rfl, fun p v H2 sm2 iv => ?_⟩
    have hd2 := sm2 _ _ hd
    refine ⟨acc, hd2, ?_, acc ++ [v], ps ++ [p], upd_same, by rw [List.length_append, List.length_singleton, hl], same_mut (sm.trans sm2) hD, ?_⟩
    · rw [im.len, List.length_map, hl]; exact small_sz (m := 3) (by omega)
    · rw [List.map_append]
      exact ((im.same sm2).snoc iv).tp (tp_lst hd2)
  · rintro H' ⟨acc, ps, hd, hl, sm, im⟩
    refine ⟨D, acc, rfl, .inl ⟨SqL.of hd, fun t ht => ?_⟩⟩
    have sm2 := sm.trans (same_new (o := .tup acc) ht)
    obtain ⟨z5, h5⟩ : ∃ z5, atI (ns.map V.int) 5 = some (.int z5) := pickI (by omega) (by omega)
    have r5 := mod_in z5 3
    refine ⟨_, rfl, _, rfl, l, _, _, _, rfl, rfl, SqL.of (sm2 _ _ hL), h5, .inl ⟨_, rfl, _, _, rfl, rfl, (by show (0 : Int) < 3; decide), sz3, fun u hu => ?_⟩⟩
    have sm3 := same_new (o := .tup [.str "row", .ref t, .int (z5 % 3)]) hu
    refine kk ps (z5 % 3) _ _ ⟨by omega, by omega, r5.1, by omega⟩ (sm2.trans sm3) (.tup (SqT.of upd_same) (.cons (.str _) (.cons (.tup (SqT.of (sm3 _ _ upd_same)) ?_) (.cons (.int _) .nil))))
    exact (im.same (same_new ht)).same sm3
def spQuestion (K : PySem.W.Frag) : Sp := sp2 fun a b H Q => ∃ (p : Addr) (ns : List Int) (j : Nat), a = .ref p ∧ SqL K H p (ns.map V.int) ∧ b = .int (j : Int) ∧ j < 1000 ∧ ∀ (q : Qn) v H', q.Ok → q.dep ≤ 3 → Same H H' → Im K H' v q.dat → Q v H'
abbrev N_law_question : List Str := ["_law_script", "_law_k", "_law_d", "_law_one", "_law_other", "_law_kind"]
theorem sc_law_question : FnScope N_law_question ["_law_script", "_law_k"] (defScope s_law_question) := ⟨rfl, rfl, rfl, by decide +kernel, rfl, by decide +kernel, by decide +kernel⟩
theorem ok_law_question (T : Ctx K mg) (o_law_cell : Ok P w K mg base 1 (He.ga K "_law_cell") ["_law_script", "_law_k"] (spCell K)) (o_law_padded : Ok P w K mg base 2 (He.ga K "_law_padded") ["_law_cell_here", "_law_k"] spPadded) (o_law_row : Ok P w K mg base 2 (He.ga K "_law_row") ["_law_d"] (spRow K)) : Ok P w K mg base 3 (He.ga K "_law_question") ["_law_script", "_law_k"] (spQuestion K) := by
  refine okF T.d_law_question sc_law_question len2 (fun _ _ _ _ _ _ us hl => match us, hl with | [_, _], _ => rfl) (fun cdv A outer s H vs Q E hr h => ?_)
  obtain ⟨fd_law_cell, F_law_cell, b_law_cell⟩ := o_law_cell.ex
  obtain ⟨fd_law_padded, F_law_padded, b_law_padded⟩ := o_law_padded.ex
  obtain ⟨fd_law_row, F_law_row, b_law_row⟩ := o_law_row.ex
  refine ⟨_,
      (pss_cons (ps_set (i := 2) sc_law_question.nd rfl (Or.inl rfl) (pe_call F_law_padded (hr.mono (by decide)) (by rfl) T.g_law_padded o_law_padded.kp b_law_padded .nil pass0 (pa_cons (pe_call F_law_cell (hr.mono (by decide)) (by rfl) T.g_law_cell o_law_cell.kp b_law_cell .nil pass0 (pa_cons (pv 0) (pa_cons (pv 1) pa_nil))) (pa_cons (pv 1) pa_nil))))
      (pss_cons (ps_set (i := 3) sc_law_question.nd rfl (Or.inl rfl) (pe_call F_law_row (hr.mono (by decide)) (by rfl) T.g_law_row o_law_row.kp b_law_row .nil pass0 (pa_cons (pv 2) pa_nil)))
      (pss_cons (ps_set (i := 4) sc_law_question.nd rfl (Or.inl rfl) (pe_call F_law_row (hr.mono (by decide)) (by rfl) T.g_law_row o_law_row.kp b_law_row .nil pass0 (pa_cons (pe_slice sl_list (pv 2) (po_some pe_int) po_none) pa_nil)))
      (pss_cons (ps_set (i := 5) sc_law_question.nd rfl (Or.inl rfl) (pe_op op_mod (pe_callTy call_int1 (by rfl) T.n_int (by decide +kernel) (pa_cons (pe_ix ix_list (pv 2) pe_int (fun _ _ => rfl)) pa_nil)) pe_int))
      (pss_cons (ps_if (pt_cmpR op_eq (pv 5) pe_int (nomark _))
        (pss_one (ps_ret (pe_tup (pa_cons pe_str (pa_cons (pv 3) pa_nil)))))
        pss_nil)
      (pss_cons (ps_if (pt_cmpR op_eq (pv 5) pe_int (nomark _))
        (pss_one (ps_ret (pe_tup (pa_cons pe_str (pa_cons (pe_tup (pa_cons (pv 3) (pa_cons (pv 4) pa_nil))) pa_nil)))))
        pss_nil)
      (pss_cons (ps_if (pt_cmpR op_eq (pv 5) pe_int (nomark _))
        (pss_one (ps_ret (pe_tup (pa_cons pe_str (pa_cons (pe_tup (pa_cons (pv 3) (pa_cons (pv 4) pa_nil))) pa_nil)))))
        pss_nil)
      (pss_cons (ps_if (pt_cmpR op_eq (pv 5) pe_int (nomark _))
        (pss_one (ps_ret (pe_tup (pa_cons pe_str (pa_cons (pe_tup (pa_cons (pv 3) (pa_cons (pe_tup (pa_cons pe_str (pa_cons (pv 4) pa_nil))) pa_nil))) pa_nil)))))
        pss_nil)
      (pss_cons (ps_if (pt_cmpR op_eq (pv 5) pe_int (nomark _))
        (pss_one (ps_ret (pe_tup (pa_cons pe_str (pa_cons (pe_tup (pa_cons (pe_tup (pa_cons pe_str (pa_cons (pv 3) pa_nil))) (pa_cons (pv 4) pa_nil))) pa_nil)))))
        pss_nil)
      (pss_cons (ps_if (pt_cmpR op_eq (pv 5) pe_int (nomark _))
        (pss_one (ps_ret (pe_tup (pa_cons pe_str pa_nil))))
        pss_nil)
      (pss_cons (ps_if (pt_cmpR op_eq (pv 5) pe_int (nomark _))
        (pss_one (ps_ret (pe_tup (pa_cons pe_str (pa_cons (pe_tup (pa_cons pe_str (pa_cons (pe_tup (pa_cons (pv 3) (pa_cons (pe_tup (pa_cons pe_str (pa_cons (pe_tup (pa_cons (pv 4) (pa_cons (pe_tup (pa_cons pe_str pa_nil)) pa_nil))) pa_nil))) pa_nil))) pa_nil))) pa_nil)))))
        pss_nil)
      (pss_one (ps_ret (pv 3)))))))))))))), ?_⟩
  obtain ⟨_, _, rfl, p, ns, j, rfl, hS, rfl, hj, kk⟩ := h
  refine ⟨_, rfl, _, rfl, _, _, rfl, p, ns, j, rfl, hS, rfl, _, rfl, _, _, rfl, _, j, rfl, rfl, hj, fun l ds H1 hl sm hL n1 n2 => ?_⟩
  refine ⟨_, rfl, _, rfl, l, ds, rfl, hL, by omega, fun ps1 g1 v1 H2 ok1 sm2 im1 => ?_⟩
  refine ⟨_, rfl, _, rfl, l, _, rfl, SqL.of (sm2 _ _ hL), fun l2 hl2 => ?_⟩
  have sm3 := same_new (o := .lst (cutV (ds.map V.int) (some 6) none)) hl2
  have ecut : cutV (ds.map V.int) (some 6) none = (ds.drop 6).map V.int := by
    unfold cutV
    rw [show HT.sIx (ds.map V.int).length 0 (some 6) = 6 from by rw [show (6 : Int) = ((6 : Nat) : Int) from rfl, HT.sIx_nat, List.length_map]; omega, HT.sIx_none, List.take_of_length_le (by rw [List.length_drop, List.length_map]; omega), List.map_drop]
  refine ⟨_, rfl, l2, ds.drop 6, rfl, by rw [upd_same, ecut], by rw [List.length_drop]; omega, fun ps2 g2 v2 H3 ok2 sm4 im2 => ?_⟩
  obtain ⟨z, hz⟩ : ∃ z, atI (ds.map V.int) 12 = some (.int z) := pickI (by omega) (by omega)
  have sm5 := sm2.trans (sm3.trans sm4)
  have sm6 := sm.trans sm5
  refine ⟨_, rfl, l, _, _, _, rfl, rfl, SqL.of (sm5 _ _ hL), hz, .inl ⟨_, rfl, _, _, rfl, rfl, (by show (0 : Int) < 9; decide), ?_⟩⟩
  have im1 := (im1.same sm3).same sm4
  refine ⟨_, rfl, rfl, _, rfl, ite2 (fun _ => ?_) (fun _ => ?_)⟩
  · refine ⟨_, rfl, sz2, fun t ht => ?_⟩
    exact kk (.no (.row ps1 g1)) _ _ ok1 (Nat.le_of_ble_eq_true rfl) (sm6.trans (same_new ht)) (.tup (SqT.of upd_same) (.cons (.str _) (.cons (im1.same (same_new ht)) .nil)))
  refine ⟨_, rfl, rfl, _, rfl, ite2 (fun _ => ?_) (fun _ => ?_)⟩
  · refine ⟨_, rfl, _, rfl, sz2, fun t ht => ⟨sz2, fun u hu => ?_⟩⟩
    have s := (same_new (o := .tup [v1, v2]) ht).trans (same_new (o := .tup [.str "and", .ref t]) hu)
    exact kk (.both (.row ps1 g1) (.row ps2 g2)) _ _ ⟨ok1, ok2⟩ (Nat.le_of_ble_eq_true rfl) (sm6.trans s) (.tup (SqT.of upd_same) (.cons (.str _) (.cons (.tup (SqT.of (up hu upd_same)) (.cons (im1.same s) (.cons (im2.same s) .nil))) .nil)))
  refine ⟨_, rfl, rfl, _, rfl, ite2 (fun _ => ?_) (fun _ => ?_)⟩
  · refine ⟨_, rfl, _, rfl, sz2, fun t ht => ⟨sz2, fun u hu => ?_⟩⟩
    have s := (same_new (o := .tup [v1, v2]) ht).trans (same_new (o := .tup [.str "or", .ref t]) hu)
    exact kk (.one (.row ps1 g1) (.row ps2 g2)) _ _ ⟨ok1, ok2⟩ (Nat.le_of_ble_eq_true rfl) (sm6.trans s) (.tup (SqT.of upd_same) (.cons (.str _) (.cons (.tup (SqT.of (up hu upd_same)) (.cons (im1.same s) (.cons (im2.same s) .nil))) .nil)))
  refine ⟨_, rfl, rfl, _, rfl, ite2 (fun _ => ?_) (fun _ => ?_)⟩
  · refine ⟨_, rfl, _, rfl, sz2, fun n hn => ⟨sz2, fun t ht => ⟨sz2, fun u hu => ?_⟩⟩⟩
    have s := ((same_new (o := .tup [.str "not", v2]) hn).trans (same_new (o := .tup [v1, .ref n]) ht)).trans (same_new (o := .tup [.str "and", .ref t]) hu)
    exact kk (.both (.row ps1 g1) (.no (.row ps2 g2))) _ _ ⟨ok1, ok2⟩ (Nat.le_of_ble_eq_true rfl) (sm6.trans s) (.tup (SqT.of upd_same) (.cons (.str _) (.cons (.tup (SqT.of (up hu upd_same)) (.cons (im1.same s) (.cons (.tup (SqT.of (up hu (up ht upd_same))) (.cons (.str _) (.cons (im2.same s) .nil))) .nil))) .nil)))
  refine ⟨_, rfl, rfl, _, rfl, ite2 (fun _ => ?_) (fun _ => ?_)⟩
  · refine ⟨_, rfl, sz2, fun n hn => ⟨_, rfl, sz2, fun t ht => ⟨sz2, fun u hu => ?_⟩⟩⟩
    have s := ((same_new (o := .tup [.str "not", v1]) hn).trans (same_new (o := .tup [.ref n, v2]) ht)).trans (same_new (o := .tup [.str "or", .ref t]) hu)
    exact kk (.one (.no (.row ps1 g1)) (.row ps2 g2)) _ _ ⟨ok1, ok2⟩ (Nat.le_of_ble_eq_true rfl) (sm6.trans s) (.tup (SqT.of upd_same) (.cons (.str _) (.cons (.tup (SqT.of (up hu upd_same)) (.cons (.tup (SqT.of (up hu (up ht upd_same))) (.cons (.str _) (.cons (im1.same s) .nil))) (.cons (im2.same s) .nil))) .nil)))
  refine ⟨_, rfl, rfl, _, rfl, ite2 (fun _ => ?_) (fun _ => ?_)⟩
  · refine ⟨sz1, fun u hu => ?_⟩
    exact kk .all _ _ trivial (Nat.le_of_ble_eq_true rfl) (sm6.trans (same_new hu)) (.tup (SqT.of upd_same) (.cons (.str _) .nil))
  refine ⟨_, rfl, rfl, _, rfl, ite2 (fun _ => ?_) (fun _ => ?_)⟩
  · refine ⟨_, rfl, _, rfl, sz1, fun a ha => ⟨sz2, fun b hb => ⟨sz2, fun c hc => ⟨sz2, fun d hd => ⟨sz2, fun e he => ⟨sz2, fun f hf => ?_⟩⟩⟩⟩⟩⟩
    have s := (((((same_new (o := .tup [.str "all"]) ha).trans (same_new (o := .tup [v2, .ref a]) hb)).trans (same_new (o := .tup [.str "and", .ref b]) hc)).trans (same_new (o := .tup [v1, .ref c]) hd)).trans (same_new (o := .tup [.str "or", .ref d]) he)).trans (same_new (o := .tup [.str "not", .ref e]) hf)
    exact kk (.no (.one (.row ps1 g1) (.both (.row ps2 g2) .all))) _ _ ⟨ok1, ok2, trivial⟩ (Nat.le_of_ble_eq_true rfl) (sm6.trans s)
      (.tup (SqT.of upd_same) (.cons (.str _) (.cons (.tup (SqT.of (up hf upd_same)) (.cons (.str _) (.cons (.tup (SqT.of (up hf (up he upd_same))) (.cons (im1.same s) (.cons
        (.tup (SqT.of (up hf (up he (up hd upd_same)))) (.cons (.str _) (.cons (.tup (SqT.of (up hf (up he (up hd (up hc upd_same))))) (.cons (im2.same s) (.cons (.tup (SqT.of (up hf (up he (up hd (up hc (up hb upd_same)))))) (.cons (.str _) .nil)) .nil))) .nil))) .nil))) .nil))) .nil)))
  exact ⟨_, rfl, kk (.row ps1 g1) _ _ ok1 (Nat.le_of_ble_eq_true rfl) sm6 im1⟩
end
end K46

set_option maxHeartbeats 2000000
namespace K46
open PySem PySem.Spec PyProof.Rows L2
/-! ### words of texts: what they compute -/
def capS : Str := "ABCDEFGHIJKLMNOPQRSTUVWXYZ"
def smlS : Str := "abcdefghijklmnopqrstuvwxyz"
def digS : Str := "0123456789"
def emptyS : Str := ""
def wStep (st : List Str × Str) (c : Nat) : List Str × Str :=
  if c ∈ capS.cps.toList then (st.1, st.2 ++ ⟨#[c + 32]⟩)
  else if c ∈ smlS.cps.toList ∨ c ∈ digS.cps.toList then (st.1, st.2 ++ ⟨#[c]⟩)
  else if st.2 = emptyS then st
  else (st.1 ++ [cutS st.2 none (some 12)], emptyS)
def wordsM (x : Str) : List Str := ((x ++ " ").cps.toList.foldl wStep ([], emptyS)).1
def capChk (c : Nat) : Bool := match Builtin.Str.occurrences capS ⟨#[c]⟩ 0 capS.length 1 with
  | i :: _ => decide (atI smlS.cps.toList ((i : Nat) : Int) = some (c + 32))
  | [] => false
theorem capChk_ok : ∀ c ∈ capS.cps.toList, capChk c = true := by decide +kernel
theorem cap_at {c : Nat} (h : c ∈ capS.cps.toList) : ∃ i rest, Builtin.Str.occurrences capS ⟨#[c]⟩ 0 capS.length 1 = i :: rest ∧ atI smlS.cps.toList ((i : Nat) : Int) = some (c + 32) := by
  have k := capChk_ok c h
  unfold capChk at k
  cases e : Builtin.Str.occurrences capS ⟨#[c]⟩ 0 capS.length 1 with
  | nil => rw [e] at k; cases k
  | cons i rest => rw [e] at k; exact ⟨i, rest, rfl, of_decide_eq_true k⟩
/-- plain signs -/
def WOk (x : Str) : Prop := ∀ c ∈ x.cps.toList, c < 1000
theorem small_lt : ∀ c ∈ smlS.cps.toList, c < 200 := by decide +kernel
theorem dig_lt : ∀ c ∈ digS.cps.toList, c < 200 := by decide +kernel
theorem cap_lt : ∀ c ∈ capS.cps.toList, c < 200 := by decide +kernel
theorem cutS_mem {z : Str} {lo hi : Option Int} {c : Nat} (h : c ∈ (cutS z lo hi).cps.toList) : c ∈ z.cps.toList := by
  unfold cutS at h
  simp only [List.toList_toArray] at h
  exact List.mem_of_mem_drop (List.mem_of_mem_take h)
theorem wok_cut {z : Str} {lo hi : Option Int} (h : WOk z) : WOk (cutS z lo hi) := fun c m => h c (cutS_mem m)
theorem wok_snoc {x : Str} {c : Nat} (h : WOk x) (hc : c < 1000) : WOk (x ++ ⟨#[c]⟩) := fun d m => by
  rw [cps_app, List.mem_append] at m
  rcases m with m | m
  · exact h d m
  · rw [List.mem_singleton.mp m]; exact hc
def StOk (n : Nat) (st : List Str × Str) : Prop := (∀ x ∈ st.1, WOk x) ∧ WOk st.2 ∧ st.1.length ≤ n ∧ st.2.length ≤ n
theorem empty_mem (c : Nat) : ¬ c ∈ emptyS.cps.toList := by
  have e : emptyS.cps.toList = [] := by decide +kernel
  rw [e]
  exact fun h => nomatch h
theorem wStep_ok {n : Nat} {st : List Str × Str} {c : Nat} (h : StOk n st) : StOk (n + 1) (wStep st c) := by
  obtain ⟨h1, h2, h3, h4⟩ := h
  unfold wStep
  by_cases q1 : c ∈ capS.cps.toList
  · rw [if_pos q1]
    have := cap_lt c q1
    exact ⟨h1, wok_snoc h2 (by omega), by show st.1.length ≤ n + 1; omega, by show (st.2 ++ _).length ≤ n + 1; rw [PySem.Str.length_append]; show st.2.length + 1 ≤ n + 1; omega⟩
  rw [if_neg q1]
  by_cases q2 : c ∈ smlS.cps.toList ∨ c ∈ digS.cps.toList
  · rw [if_pos q2]
    have : c < 200 := q2.elim (small_lt c) (dig_lt c)
    exact ⟨h1, wok_snoc h2 (by omega), by show st.1.length ≤ n + 1; omega, by show (st.2 ++ _).length ≤ n + 1; rw [PySem.Str.length_append]; show st.2.length + 1 ≤ n + 1; omega⟩
  rw [if_neg q2]
  by_cases q3 : st.2 = emptyS
  · rw [if_pos q3]
    exact ⟨h1, h2, by omega, by omega⟩
  rw [if_neg q3]
  refine ⟨fun x m => ?_, fun c m => ?_, ?_, ?_⟩
  · rcases List.mem_append.mp m with m | m
    · exact h1 x m
    · rw [List.mem_singleton.mp m]; exact wok_cut h2
  · exact absurd m (empty_mem c)
  · show (st.1 ++ [_]).length ≤ n + 1
    rw [List.length_append, List.length_singleton]; omega
  · show emptyS.length ≤ n + 1
    exact Nat.le_trans (by decide : emptyS.length ≤ 0) (Nat.zero_le _)
theorem fold_ok : ∀ (l : List Nat) (n : Nat) (st : List Str × Str), StOk n st → StOk (n + l.length) (l.foldl wStep st)
  | [], _, _, h => h
  | c :: l, n, st, h => by
    have k := fold_ok l (n + 1) (wStep st c) (wStep_ok h)
    rw [List.foldl_cons, List.length_cons]
    have e : n + (l.length + 1) = n + 1 + l.length := by omega
    rw [e]
    exact k
theorem start_ok : StOk 0 ([], emptyS) := ⟨(fun _ h => nomatch h), (fun c m => absurd m (empty_mem c)), Nat.le_refl 0, (by decide)⟩
theorem len_sp (x : Str) : (x ++ " ").cps.toList.length = x.length + 1 := by
  rw [cps_app, List.length_append, Array.length_toList]
  rfl
theorem wordsM_ok (x : Str) : (∀ y ∈ wordsM x, WOk y) ∧ (wordsM x).length ≤ x.length + 1 := by
  obtain ⟨h1, _, h2, _⟩ := fold_ok (x ++ " ").cps.toList 0 _ start_ok
  rw [len_sp] at h2
  exact ⟨h1, by unfold wordsM; omega⟩
def bestM (word : Str) (e : List (Str × Int)) : Int := e.foldl (fun b p => if Txt.endswith word p.1 = true ∧ p.2 ≤ (word.length : Int) - (p.1.length : Int) then (if (p.1.length : Int) > b then (p.1.length : Int) else b) else b) 0
def cutM (e : List (Str × Int)) (word : Str) : Str := cutS word none (some ((word.length : Int) - bestM word e))
def docM (e : List (Str × Int)) (x : Str) : List Str := (wordsM x).map (cutM e)
def docD (d : List Str) : PyData := .tuple (d.map .str)
/-- endings that the law gives: plain, short -/
def EndOk (e : List (Str × Int)) : Prop := ∀ p ∈ e, p.1.length ≤ 100
section
variable {P : Program} {w : World} {K : PySem.W.Frag} {mg : Str → Option Value} {base : Heap}
theorem snocS (ns : List Str) (x : Str) : ns.map V.str ++ [V.str x] = (ns ++ [x]).map V.str := by rw [List.map_append]; rfl
def spWords : Sp := sp1 fun a H Q => ∃ x : Str, a = .str x ∧ x.length ≤ 400 ∧ ∀ l H', H l = none → Same H H' → H' l = some (.lst ((wordsM x).map V.str)) → Q (.ref l) H'
abbrev N_words_of : List Str := ["text", "found", "run", "char"]
theorem sc_words_of : FnScope N_words_of ["text"] (defScope s_words_of) := ⟨rfl, rfl, rfl, by decide +kernel, rfl, by decide +kernel, by decide +kernel⟩
theorem ok_words_of (T : Ctx K mg) : Ok P w K mg base 1 (He.ga K "words_of") ["text"] (spWords) := by
  refine okF T.d_words_of sc_words_of len1 (fun _ _ _ _ _ _ us hl => match us, hl with | [_], _ => rfl) (fun cdv A outer s H vs Q E hr h => ?_)
  obtain ⟨tk_CAPITALS, g_CAPITALS⟩ := T.t_CAPITALS
  obtain ⟨tk_DIGITS, g_DIGITS⟩ := T.t_DIGITS
  obtain ⟨tk_SMALLS, g_SMALLS⟩ := T.t_SMALLS
  obtain ⟨tk_WORD_LENGTH, g_WORD_LENGTH⟩ := T.i_WORD_LENGTH
  refine ⟨_,
      (pss_cons (ps_set (i := 1) sc_words_of.nd rfl (Or.inl rfl) (pe_lst pa_nil))
      (pss_cons (ps_set (i := 2) sc_words_of.nd rfl (Or.inl rfl) pe_str)
      (pss_cons (ps_for PassesOwn.never rfl (pi_str (pe_op op_add_str (pv 0) pe_str)) (pg_name (i := 3) sc_words_of.nd rfl (Or.inl rfl))
        (pss_one (ps_if (pt_cmpR op_in_sign (pv 3) (pe_glob (v := .str capS) (by rfl) g_CAPITALS ⟨_, rfl⟩) (by rfl))
          (pss_one (ps_set (i := 2) sc_words_of.nd rfl (Or.inl rfl) (pe_op op_add_str (pv 2) (pe_ix ix_str (pe_glob (v := .str smlS) (by rfl) g_SMALLS ⟨_, rfl⟩) (pe_m1 PySem.F.slot_str_index PySem.F.type_str_index mt_sindex (pe_glob (v := .str capS) (by rfl) g_CAPITALS ⟨_, rfl⟩) (pv 3)) (fun _ _ => rfl)))))
          (pss_one (ps_if (PW.pt (pw_or (pt_cmpR op_in_sign (pv 3) (pe_glob (v := .str smlS) (by rfl) g_SMALLS ⟨_, rfl⟩) (by rfl)) (pw_or1 (pt_cmpR op_in_sign (pv 3) (pe_glob (v := .str digS) (by rfl) g_DIGITS ⟨_, rfl⟩) (by rfl)))))
            (pss_one (ps_set (i := 2) sc_words_of.nd rfl (Or.inl rfl) (pe_op op_add_str (pv 2) (pv 3))))
            (pss_one (ps_if (pt_cmpR op_ne (pv 2) pe_str (nomark _))
              (pss_cons (ps_expr (pe_bm PySem.F.plainAttrs_list PySem.F.slot_list_append PySem.F.type_list_append mt_append (pv 1) (pa_cons (pe_slice sl_str (pv 2) po_none (po_some (pe_glob (v := .int 12) (by rfl) g_WORD_LENGTH ⟨_, rfl⟩))) pa_nil)))
              (pss_one (ps_set (i := 2) sc_words_of.nd rfl (Or.inl rfl) pe_str)))
              pss_nil)))))))
      (pss_one (ps_ret (pv 1)))))), ?_⟩
  obtain ⟨_, rfl, x, rfl, hx, kk⟩ := h
  refine ⟨Nat.zero_le _, fun l hl => ?_⟩
  refine ⟨_, rfl, _, _, rfl, rfl, Nat.le_trans (show x.length + 1 ≤ 1000 by omega) (by decide), _, rfl, for_it walk_str (fun i σ H' => ∃ (st : List Str × Str) (q : Option V), σ = [some (.str x), some (.ref l), some (.str st.2), q] ∧ Same H H' ∧ H' l = some (.lst (st.1.map V.str)) ∧ st = ((x ++ " ").cps.toList.take i).foldl wStep ([], emptyS))
    ⟨([], emptyS), none, rfl, same_new hl, upd_same, rfl⟩ (fun _ _ _ _ _ => trivial) ?_ ?_⟩
  · rintro i y σ H' H2 hi ⟨st, q, rfl, sm, hL, est⟩ ⟨rfl, c, hc, rfl⟩
    have hc' : (x ++ " ").cps.toList[i]? = some c := by rw [Array.getElem?_toList]; exact hc
    have e1 : ((x ++ " ").cps.toList.take (i + 1)).foldl wStep ([], emptyS) = wStep st c := by
      rw [List.take_add_one, hc', List.foldl_append, ← est]; rfl
    have ok : StOk i st := by
      have k := fold_ok ((x ++ " ").cps.toList.take i) 0 _ start_ok
      rw [← est, List.length_take, Nat.zero_add] at k
      exact ⟨k.1, k.2.1, Nat.le_trans k.2.2.1 (Nat.min_le_left _ _), Nat.le_trans k.2.2.2 (Nat.min_le_left _ _)⟩
    have hi2 : i ≤ 401 := by
      have e : (x ++ " ").cps.size = x.length + 1 := by rw [← len_sp x, Array.length_toList]
      omega
    have hs := ok.2.2.2
    have hf := ok.2.2.1
    refine ⟨_, rfl, c, capS, rfl, rfl, _, rfl, ?_⟩
    refine ite2 (fun q1 => ?_) (fun q1 => ?_)
    · have q1 := of_decide_eq_true q1
      obtain ⟨j, rest, o1, o2⟩ := cap_at q1
      refine ⟨_, rfl, ⟨_, rfl⟩, _, rfl, capS, _, j, rest, rfl, rfl, o1, smlS, _, _, rfl, rfl, (by decide), o2, _, _, rfl, rfl, ?_, ?_⟩
      · exact Nat.le_trans (show st.2.length + 1 ≤ 1000 by omega) (by decide)
      · exact ⟨(st.1, st.2 ++ ⟨#[c + 32]⟩), _, rfl, sm, hL, by rw [e1, wStep, if_pos q1]⟩
    have q1 := of_decide_eq_false (Bool.eq_false_iff.mpr q1)
    have fin : (c ∈ smlS.cps.toList ∨ c ∈ digS.cps.toList) → ∀ D : Ends, (∀ σ, σ = [some (.str x), some (.ref l), some (.str (st.2 ++ ⟨#[c]⟩)), some (.str ⟨#[c]⟩)] → D.nx σ H2) → tAsg (tOp (fun x y H Q => ∃ i j, x = .str i ∧ y = .str j ∧ i.length + j.length ≤ sizeLine ∧ Q (.str (i ++ j)) H) (tVar 2) (tVar 3)) (gName 2) D [some (.str x), some (.ref l), some (.str st.2), some (.str ⟨#[c]⟩)] H2 := fun _ D k => by
      refine ⟨_, rfl, _, rfl, _, _, rfl, rfl, ?_, k _ rfl⟩
      exact Nat.le_trans (show st.2.length + 1 ≤ 1000 by omega) (by decide)
    refine ⟨_, rfl, c, smlS, rfl, rfl, _, rfl, ?_⟩
    refine ite2 (fun q2 => ?_) (fun q2 => ?_)
    · have q2 := of_decide_eq_true q2
      refine fin (.inl q2) _ fun σ e => ?_
      exact ⟨(st.1, st.2 ++ ⟨#[c]⟩), _, e, sm, hL, by rw [e1, wStep, if_neg q1, if_pos (.inl q2)]⟩
    have q2 := of_decide_eq_false (Bool.eq_false_iff.mpr q2)
    refine ⟨_, rfl, c, digS, rfl, rfl, _, rfl, ?_⟩
    refine ite2 (fun q3 => ?_) (fun q3 => ?_)
    · have q3 := of_decide_eq_true q3
      refine fin (.inr q3) _ fun σ e => ?_
      exact ⟨(st.1, st.2 ++ ⟨#[c]⟩), _, e, sm, hL, by rw [e1, wStep, if_neg q1, if_pos (.inr q3)]⟩
    have q3 := of_decide_eq_false (Bool.eq_false_iff.mpr q3)
    have q4 : ¬ (c ∈ smlS.cps.toList ∨ c ∈ digS.cps.toList) := fun z => z.elim q2 q3
    refine ⟨_, rfl, rfl, _, rfl, ?_⟩
    refine ite2 (fun q5 => ?_) (fun q5 => ?_)
    · have q6 : ¬ st.2 = emptyS := fun z => by
        rw [z] at q5
        exact absurd q5 (by decide +kernel)
      refine ⟨_, rfl, .inl ⟨rfl, _, SqL.of hL⟩, _, rfl, _, rfl, _, rfl, Nat.le_trans hs (Nat.le_trans hi2 (by decide)), l, _, _, rfl, rfl, hL, ?_, ?_⟩
      · rw [List.length_map]; exact small_sz (m := 401) (by omega)
      · exact ⟨(st.1 ++ [cutS st.2 none (some 12)], emptyS), _, rfl, same_mut sm hl, by rw [upd_same, snocS], by rw [e1, wStep, if_neg q1, if_neg q4, if_neg q6]⟩
    · have q6 : st.2 = emptyS := by
        by_cases z : st.2 = emptyS
        · exact z
        · exact absurd (by
            show (!decide (V.str st.2 = V.str emptyS)) = true
            rw [decide_eq_false (fun e => z (V.str.inj e))]; rfl) q5
      exact ⟨st, _, rfl, sm, hL, by rw [e1, wStep, if_neg q1, if_neg q4, if_pos q6]⟩
  · rintro σ H' ⟨st, q, rfl, sm, hL, est⟩
    have e : st.1 = wordsM x := by
      rw [est, wordsM, List.take_of_length_le (by rw [Array.length_toList]; exact Nat.le_refl _)]
    rw [e] at hL
    exact ⟨_, rfl, kk l H' hl sm hL⟩
end
end K46

set_option maxHeartbeats 2000000
namespace K46
open PySem PySem.Spec PyProof.Rows L2
section
variable {P : Program} {w : World} {K : PySem.W.Frag} {mg : Str → Option Value} {base : Heap}
theorem take_succ_of {α : Type} {l : List α} {i : Nat} {x : α} (h : l[i]? = some x) : l.take (i + 1) = l.take i ++ [x] := by rw [List.take_add_one, h]; rfl
theorem at_map {α β : Type} {f : α → β} {l : List α} {i : Nat} {y : β} (h : (l.map f)[i]? = some y) : ∃ x, l[i]? = some x ∧ y = f x := by
  rw [List.getElem?_map] at h
  cases e : l[i]? with
  | none => rw [e] at h; cases h
  | some x => rw [e] at h; exact ⟨x, rfl, (Option.some.inj h).symm⟩
def cutStep (word : Str) (b : Int) (p : Str × Int) : Int := if Txt.endswith word p.1 = true ∧ p.2 ≤ (word.length : Int) - (p.1.length : Int) then (if (p.1.length : Int) > b then (p.1.length : Int) else b) else b
theorem bestM_eq (word : Str) (e : List (Str × Int)) : bestM word e = e.foldl (cutStep word) 0 := rfl
def spCut (K : PySem.W.Frag) : Sp := sp2 fun a b H Q => ∃ (x : Str) (e : List (Str × Int)), a = .str x ∧ x.length ≤ 1000 ∧ Im K H b (endD e) ∧ EndOk e ∧ Q (.str (cutM e x)) H
abbrev N_cut : List Str := ["word", "endings", "best", "ending", "least"]
theorem sc_cut : FnScope N_cut ["word", "endings"] (defScope s_cut) := ⟨rfl, rfl, rfl, by decide +kernel, rfl, by decide +kernel, by decide +kernel⟩
theorem ok_cut (T : Ctx K mg) : Ok P w K mg base 1 (He.ga K "cut") ["word", "endings"] (spCut K) := by
  refine okF T.d_cut sc_cut len2 (fun _ _ _ _ _ _ us hl => match us, hl with | [_, _], _ => rfl) (fun cdv A outer s H vs Q E hr h => ?_)
  refine ⟨_,
      (pss_cons (ps_set (i := 2) sc_cut.nd rfl (Or.inl rfl) pe_int)
      (pss_cons (ps_for PassesOwn.never rfl (pi_tup (pv 1)) (pg_tup (by rfl) (pgs_cons (pg_name (i := 3) sc_cut.nd rfl (Or.inl rfl)) (pgs_cons (pg_name (i := 4) sc_cut.nd rfl (Or.inl rfl)) pgs_nil)))
        (pss_one (ps_if (PW.pt (pw_and (pt_val (pe_m1 PySem.F.slot_str_endswith PySem.F.type_str_endswith mt_endswith (pv 0) (pv 3))) (pw_and1 (pt_cmpR op_ge (pe_op op_sub (pe_callB call_len_str (by rfl) T.n_len (by decide +kernel) (pa_cons (pv 0) pa_nil)) (pe_callB call_len_str (by rfl) T.n_len (by decide +kernel) (pa_cons (pv 3) pa_nil))) (pv 4) (nomark _)))))
          (pss_one (ps_set (i := 2) sc_cut.nd rfl (Or.inl rfl) (pe_callB (call_max2 rfl) (by rfl) T.n_max (by decide +kernel) (pa_cons (pv 2) (pa_cons (pe_callB call_len_str (by rfl) T.n_len (by decide +kernel) (pa_cons (pv 3) pa_nil)) pa_nil)))))
          pss_nil)))
      (pss_one (ps_ret (pe_slice sl_str (pv 0) po_none (po_some (pe_op op_sub (pe_callB call_len_str (by rfl) T.n_len (by decide +kernel) (pa_cons (pv 0) pa_nil)) (pv 2)))))))), ?_⟩
  obtain ⟨_, _, rfl, x, e, rfl, hx, im, ok, kk⟩ := h
  obtain ⟨te, es, rfl, hT, ia⟩ := im_tup im
  have hxl : x.length ≤ sizeLine := Nat.le_trans hx (by decide)
  have hlen : es.length = e.length := by rw [ia.len, List.length_map]
  refine ⟨_, rfl, te, rfl, ⟨_, hT⟩, for_tup (xs := es) (fun i σ H' => ∃ q1 q2, σ = [some (.str x), some (.ref te), some (.int ((e.take i).foldl (cutStep x) 0)), q1, q2] ∧ H' = H)
    ⟨none, none, rfl, rfl⟩ (fun i σ H' _ ⟨_, _, _, e⟩ => by rw [e]; exact hT) ?_ ?_⟩
  · rintro i y σ _ hy ⟨q1, q2, rfl, rfl⟩
    obtain ⟨d, hd, iv⟩ := ia.get hy
    obtain ⟨p, hp, rfl⟩ := at_map hd
    obtain ⟨ta, ys, rfl, hTa, iy⟩ := im_tup iv
    obtain ⟨v1, r1, rfl, i1, iy⟩ := ia_cons iy
    obtain ⟨v2, r2, rfl, i2, iy⟩ := ia_cons iy
    obtain rfl := ia_nil iy
    obtain rfl := im_str i1
    obtain rfl := im_int i2
    have hpl : p.1.length ≤ sizeLine := Nat.le_trans (ok p (List.mem_of_getElem? hp)) (by decide)
    have e1 : (e.take (i + 1)).foldl (cutStep x) 0 = cutStep x ((e.take i).foldl (cutStep x) 0) p := by rw [take_succ_of hp, List.foldl_append]; rfl
    refine ⟨ta, _, rfl, hTa, rfl, _, _, rfl, _, _, rfl, rfl, ?_⟩
    refine ⟨_, rfl, ⟨_, rfl⟩, _, rfl, _, _, rfl, rfl, _, rfl, ?_⟩
    refine ite2 (fun c1 => ?_) (fun c1 => ?_)
    · refine ⟨_, rfl, _, rfl, hxl, _, rfl, _, rfl, hpl, _, _, rfl, rfl, _, rfl, _, _, rfl, rfl, _, rfl, ?_⟩
      refine ite2 (fun c2 => ?_) (fun c2 => ?_)
      · have c2 := of_decide_eq_true c2
        refine ⟨_, rfl, _, rfl, _, rfl, hpl, _, _, rfl, ?_⟩
        have e2 : ∀ b, cutStep x b p = (if (p.1.length : Int) > b then (p.1.length : Int) else b) := fun b => if_pos ⟨c1, c2⟩
        exact ⟨_, _, by rw [e1, e2]; rfl, rfl⟩
      · have c2 := of_decide_eq_false (Bool.eq_false_iff.mpr c2)
        have e2 : ∀ b, cutStep x b p = b := fun b => if_neg (fun z => c2 z.2)
        exact ⟨_, _, by rw [e1, e2]; rfl, rfl⟩
    · refine iteF ?_
      have e2 : ∀ b, cutStep x b p = b := fun b => if_neg (fun z => c1 z.1)
      exact ⟨_, _, by rw [e1, e2]; rfl, rfl⟩
  · rintro σ _ ⟨q1, q2, rfl, rfl⟩
    rw [List.take_of_length_le (by rw [hlen]; exact Nat.le_refl _)]
    exact ⟨_, rfl, _, rfl, _, rfl, hxl, _, rfl, _, _, rfl, rfl, _, rfl, _, rfl, hxl, kk⟩
def spDoc (K : PySem.W.Frag) : Sp := sp2 fun a b H Q => ∃ (x : Str) (e : List (Str × Int)), a = .str x ∧ x.length ≤ 400 ∧ Im K H b (endD e) ∧ EndOk e ∧ RetD K H (docD (docM e x)) Q
theorem wordsM_len {x y : Str} (h : y ∈ wordsM x) : y.length ≤ 12 := by
  have key : ∀ (l : List Nat) (st : List Str × Str), (∀ z ∈ st.1, z.length ≤ 12) → ∀ z ∈ (l.foldl wStep st).1, z.length ≤ 12 := by
    intro l
    induction l with
    | nil => exact fun _ h => h
    | cons c l ih =>
      intro st hst
      refine ih _ fun z hz => ?_
      unfold wStep at hz
      split at hz
      · exact hst z hz
      · split at hz
        · exact hst z hz
        · split at hz
          · exact hst z hz
          · rcases List.mem_append.mp hz with hz | hz
            · exact hst z hz
            · rw [List.mem_singleton.mp hz]
              show (cutS st.2 none (some 12)).cps.size ≤ 12
              unfold cutS
              rw [List.size_toArray, List.length_take]
              have e : HT.sIx st.2.length st.2.length (some 12) ≤ 12 := by
                rw [show (12 : Int) = ((12 : Nat) : Int) from rfl, HT.sIx_nat]
                exact Nat.min_le_left _ _
              omega
  exact key _ _ (fun z m => absurd m List.not_mem_nil) y h
abbrev N_document_of : List Str := ["text", "endings", "word"]
theorem sc_document_of : FnScope N_document_of ["text", "endings"] (defScope s_document_of) := ⟨rfl, rfl, rfl, by decide +kernel, rfl, by decide +kernel, by decide +kernel⟩
theorem ok_document_of (T : Ctx K mg) (o_words_of : Ok P w K mg base 1 (He.ga K "words_of") ["text"] spWords) (o_cut : Ok P w K mg base 1 (He.ga K "cut") ["word", "endings"] (spCut K)) : Ok P w K mg base 2 (He.ga K "document_of") ["text", "endings"] (spDoc K) := by
  refine okF T.d_document_of sc_document_of len2 (fun _ _ _ _ _ _ us hl => match us, hl with | [_, _], _ => rfl) (fun cdv A outer s H vs Q E hr h => ?_)
  obtain ⟨fd_cut, F_cut, b_cut⟩ := o_cut.ex
  obtain ⟨fd_words_of, F_words_of, b_words_of⟩ := o_words_of.ex
  refine ⟨_,
      (pss_one (ps_ret (pe_callTy call_tuple_of (by rfl) T.n_tuple (by decide +kernel) (pa_cons (pe_lc (own := [("word", 2)]) (g := gName 2) (by rfl) sc_document_of.nd (pi_list (pe_call F_words_of (hr.mono (by decide)) (by rfl) T.g_words_of o_words_of.kp b_words_of .nil pass0 (pa_cons (pv 0) pa_nil))) (blkOk_by (own := [("word", 2)]) (N := N_document_of) (sc := defScope s_document_of) (by decide +kernel)) (fun _ _ _ _ _ => pg_name (i := 2) sc_document_of.nd rfl (Or.inl rfl)) (fun _ _ _ _ _ => pts_nil) (fun _ _ _ _ _ => (pe_call F_cut (hr.mono (by decide)) (by rfl) T.g_cut o_cut.kp b_cut .nil pass0 (pa_cons (pv 2) (pa_cons (pv 1) pa_nil))))) pa_nil)))), ?_⟩
  obtain ⟨_, _, rfl, x, e, rfl, hx, im, ok, kk⟩ := h
  refine ⟨_, rfl, _, rfl, x, rfl, hx, fun l H1 hl sm hL => ⟨l, rfl, ⟨_, SqL.of hL⟩, fun D hD => ?_⟩⟩
  have hlw := (wordsM_ok x).2
  refine lc_list (K := K) (a := l) (xs := (wordsM x).map V.str) (fun i H' => H' D = some (.lst (((wordsM x).take i).map fun y => V.str (cutM e y))) ∧ Same H1 H') ⟨upd_same, same_new hD⟩
    (fun i H' _ ⟨_, s⟩ => SqL.of (s _ _ hL)) ?_ ?_
  · rintro i y H' hy ⟨hd, s⟩
    obtain ⟨z, hz, rfl⟩ := at_map hy
    have mz : z ∈ wordsM x := List.mem_of_getElem? hz
    refine ⟨rfl, ?_⟩
    refine ⟨_, rfl, _, rfl, _, _, rfl, z, e, rfl, Nat.le_trans (wordsM_len mz) (by decide), (im.same sm).same s, ok, ?_⟩
    refine ⟨_, hd, ?_, ?_, same_mut s hD⟩
    · rw [List.length_map, List.length_take]
      exact small_sz (m := 401) (by omega)
    · rw [upd_same, take_succ_of hz, List.map_append]; rfl
  · rintro H' ⟨hd, s⟩
    rw [List.take_of_length_le (by rw [List.length_map]; exact Nat.le_refl _)] at hd
    refine ⟨D, _, rfl, .inl ⟨SqL.of hd, fun t ht => ?_⟩⟩
    refine kk _ _ ((sm.trans s).trans (same_new ht)) (.tup (SqT.of upd_same) ?_)
    have e2 : ((wordsM x).map fun y => V.str (cutM e y)) = (docM e x).map V.str := by rw [docM, List.map_map]; rfl
    rw [e2]
    exact strs_ia _
end
end K46

set_option maxHeartbeats 2000000
namespace K46
open PySem PySem.Spec PyProof.Rows L2
/-! ### matching -/
def fitsM (x : Str) (p : Bool × Str) : Bool := if p.1 then Txt.startswith x p.2 else decide (x = p.2)
def docAt (doc : List Str) (j : Nat) : Str := doc.getD j emptyS
def patAt (ps : List (Bool × Str)) (j : Nat) : Bool × Str := ps.getD j (false, emptyS)
def stepM (doc : List Str) (ps : List (Bool × Str)) (n pl : Nat) : Nat := if n < ps.length ∧ fitsM (docAt doc pl) (patAt ps n) = true then n + 1 else n
def cntM (doc : List Str) (ps : List (Bool × Str)) (lo k : Nat) : Nat := (List.range k).foldl (fun n i => stepM doc ps n (lo + i)) 1
theorem cntM_succ (doc : List Str) (ps : List (Bool × Str)) (lo k : Nat) : cntM doc ps lo (k + 1) = stepM doc ps (cntM doc ps lo k) (lo + k) := by
  unfold cntM; rw [List.range_succ, List.foldl_append]; rfl
theorem cntM_le (doc : List Str) (ps : List (Bool × Str)) (lo : Nat) (h : 1 ≤ ps.length) : ∀ k, cntM doc ps lo k ≤ ps.length
  | 0 => h
  | k + 1 => by
    have ih := cntM_le doc ps lo h k
    rw [cntM_succ, stepM]
    split
    · omega
    · exact ih
def lastM (ps : List (Bool × Str)) (g : Int) : Int := (ps.length : Int) - 1 + g
def turnsM (doc : List Str) (ps : List (Bool × Str)) (g : Int) (s : Nat) : Nat := ((if (s : Int) + lastM ps g + 1 < (doc.length : Int) then (s : Int) + lastM ps g + 1 else (doc.length : Int)) - ((s : Int) + 1)).toNat
def atM (doc : List Str) (ps : List (Bool × Str)) (g : Int) (s : Nat) : Bool := fitsM (docAt doc s) (patAt ps 0) && decide (cntM doc ps (s + 1) (turnsM doc ps g s) = ps.length)
def standsM (doc : List Str) (ps : List (Bool × Str)) (g : Int) : Bool := (List.range doc.length).any (atM doc ps g)
def matchM (doc : List Str) : Qn → Bool
  | .row ps g => standsM doc ps g
  | .all => true
  | .no q => !matchM doc q
  | .both a b => [matchM doc a, matchM doc b].all id
  | .one a b => [matchM doc a, matchM doc b].any id
theorem kindS : decide (V.str "start" = V.str "start") = true := by decide +kernel
theorem kindW : ¬ decide (V.str "word" = V.str "start") = true := by decide +kernel
theorem doc_at {xs : List Str} {j : Nat} (h : j < xs.length) : atI (xs.map V.str) (j : Int) = some (.str (docAt xs j)) := atI_nat (by
  rw [List.getElem?_map, List.getElem?_eq_getElem h]
  simp [docAt, List.getD, h])
theorem pat_at {K : PySem.W.Frag} {H : Hp} {ps : List (Bool × Str)} {xs : List V} (ia : ImAll K H xs (ps.map patD)) {j : Nat} (h : j < ps.length) : ∃ v, atI xs (j : Int) = some v ∧ Im K H v (patD (patAt ps j)) := by
  have e : (ps.map patD)[j]? = some (patD (patAt ps j)) := by
    rw [List.getElem?_map, List.getElem?_eq_getElem h]
    simp [patAt, List.getD, h]
  obtain ⟨v, hv, iv⟩ := ia.at e
  exact ⟨v, atI_nat hv, iv⟩
section
variable {P : Program} {w : World} {K : PySem.W.Frag} {mg : Str → Option Value} {base : Heap}
def spFits (K : PySem.W.Frag) : Sp := sp2 fun a b H Q => ∃ (x : Str) (p : Bool × Str), a = .str x ∧ Im K H b (patD p) ∧ Q (.bl (fitsM x p)) H
abbrev N_fits : List Str := ["word", "pattern"]
theorem sc_fits : FnScope N_fits ["word", "pattern"] (defScope s_fits) := ⟨rfl, rfl, rfl, by decide +kernel, rfl, by decide +kernel, by decide +kernel⟩
theorem ok_fits (T : Ctx K mg) : Ok P w K mg base 1 (He.ga K "fits") ["word", "pattern"] (spFits K) := by
  refine okF T.d_fits sc_fits len2 (fun _ _ _ _ _ _ us hl => match us, hl with | [_, _], _ => rfl) (fun cdv A outer s H vs Q E hr h => ?_)
  refine ⟨_,
      (pss_cons (ps_if (pt_cmpR op_eq (pe_ix ix_tup (pv 1) pe_int (fun _ _ => rfl)) pe_str (nomark _))
        (pss_one (ps_ret (pe_m1 PySem.F.slot_str_startswith PySem.F.type_str_startswith mt_startswith (pv 0) (pe_ix ix_tup (pv 1) pe_int (fun _ _ => rfl)))))
        pss_nil)
      (pss_one (ps_ret (pe_cmpR op_eq (pv 0) (pe_ix ix_tup (pv 1) pe_int (fun _ _ => rfl)) (nomark _))))), ?_⟩
  obtain ⟨_, _, rfl, x, p, rfl, im, kk⟩ := h
  obtain ⟨t, ys, rfl, hT, iy⟩ := im_tup im
  obtain ⟨v1, r1, rfl, i1, iy⟩ := ia_cons iy
  obtain ⟨v2, r2, rfl, i2, iy⟩ := ia_cons iy
  obtain rfl := ia_nil iy
  obtain rfl := im_str i1
  obtain rfl := im_str i2
  obtain ⟨b, y⟩ := p
  refine ⟨_, rfl, t, _, _, _, rfl, rfl, hT, atI_nat (j := 0) rfl, rfl, _, rfl, ?_⟩
  cases b with
  | true =>
    refine ite2 (fun _ => ?_) (fun c => absurd kindS c)
    exact ⟨_, rfl, ⟨_, rfl⟩, _, rfl, t, _, _, _, rfl, rfl, hT, atI_nat (j := 1) rfl, _, _, rfl, rfl, kk⟩
  | false =>
    refine ite2 (fun c => absurd c kindW) (fun _ => ?_)
    refine ⟨_, rfl, _, rfl, t, _, _, _, rfl, rfl, hT, atI_nat (j := 1) rfl, rfl, ?_⟩
    have e : decide (V.str x = V.str y) = fitsM x (false, y) := by
      show decide (V.str x = V.str y) = decide (x = y)
      by_cases q : x = y
      · rw [decide_eq_true q, decide_eq_true (congrArg V.str q)]
      · rw [decide_eq_false q, decide_eq_false fun z => q (V.str.inj z)]
    show Q (.bl (decide (V.str x = V.str y))) H
    rw [e]
    exact kk
theorem in_lt {a b : Int} (h : decide (a < b) = true) : a < b := of_decide_eq_true h
theorem not_dec {p : Prop} [Decidable p] (h : ¬ decide p = true) : ¬ p := fun q => h (decide_eq_true q)
theorem decV {a b : Int} : decide (V.int a = V.int b) = decide (a = b) := by
  by_cases q : a = b
  · rw [decide_eq_true q, decide_eq_true (congrArg V.int q)]
  · rw [decide_eq_false q, decide_eq_false fun z => q (V.int.inj z)]
def spFirst (K : PySem.W.Frag) : Sp := sp2 fun a b H Q => ∃ (doc : List Str) (ps : List (Bool × Str)) (g : Int), Im K H a (docD doc) ∧ doc.length ≤ 1000 ∧ Im K H b (Qn.row ps g).dat ∧ (Qn.row ps g).Ok ∧
  ∀ v H', Same H H' → (!decide (v = .non)) = standsM doc ps g → Q v H'
abbrev N_first_standing : List Str := ["document", "row", "patterns", "last_place", "start", "places", "place"]
theorem sc_first_standing : FnScope N_first_standing ["document", "row"] (defScope s_first_standing) := ⟨rfl, rfl, rfl, by decide +kernel, rfl, by decide +kernel, by decide +kernel⟩
theorem ok_first_standing (T : Ctx K mg) (o_fits : Ok P w K mg base 1 (He.ga K "fits") ["word", "pattern"] (spFits K)) : Ok P w K mg base 2 (He.ga K "first_standing") ["document", "row"] (spFirst K) := by
  refine okF T.d_first_standing sc_first_standing len2 (fun _ _ _ _ _ _ us hl => match us, hl with | [_, _], _ => rfl) (fun cdv A outer s H vs Q E hr h => ?_)
  obtain ⟨fd_fits, F_fits, b_fits⟩ := o_fits.ex
  refine ⟨_,
      (pss_cons (ps_set (i := 2) sc_first_standing.nd rfl (Or.inl rfl) (pe_ix ix_tup (pv 1) pe_int (fun _ _ => rfl)))
      (pss_cons (ps_set (i := 3) sc_first_standing.nd rfl (Or.inl rfl) (pe_op op_add (pe_op op_sub (pe_callB call_len_seq (by rfl) T.n_len (by decide +kernel) (pa_cons (pv 2) pa_nil)) pe_int) (pe_ix ix_tup (pv 1) pe_int (fun _ _ => rfl))))
      (pss_cons (ps_for PassesOwn.never rfl (pi_range1 (by rfl) T.n_range (pa_cons (pe_callB call_len_seq (by rfl) T.n_len (by decide +kernel) (pa_cons (pv 0) pa_nil)) pa_nil)) (pg_name (i := 4) sc_first_standing.nd rfl (Or.inl rfl))
        (pss_one (ps_if (pt_val (pe_call F_fits (hr.mono (by decide)) (by rfl) T.g_fits o_fits.kp b_fits .nil pass0 (pa_cons (pe_ix ix_tup (pv 0) (pv 4) (fun _ _ => rfl)) (pa_cons (pe_ix ix_tup (pv 2) pe_int (fun _ _ => rfl)) pa_nil))))
          (pss_cons (ps_set (i := 5) sc_first_standing.nd rfl (Or.inl rfl) (pe_lst (pa_cons (pv 4) pa_nil)))
          (pss_cons (ps_for PassesOwn.never rfl (pi_range2 (by rfl) T.n_range (pa_cons (pe_op op_add (pv 4) pe_int) (pa_cons (pe_callB (call_min2 rfl) (by rfl) T.n_min (by decide +kernel) (pa_cons (pe_callB call_len_seq (by rfl) T.n_len (by decide +kernel) (pa_cons (pv 0) pa_nil)) (pa_cons (pe_op op_add (pe_op op_add (pv 4) (pv 3)) pe_int) pa_nil))) pa_nil))) (pg_name (i := 6) sc_first_standing.nd rfl (Or.inl rfl))
            (pss_one (ps_if (PW.pt (pw_and (pt_cmpR op_lt (pe_callB call_len_seq (by rfl) T.n_len (by decide +kernel) (pa_cons (pv 5) pa_nil)) (pe_callB call_len_seq (by rfl) T.n_len (by decide +kernel) (pa_cons (pv 2) pa_nil)) (nomark _)) (pw_and1 (pt_val (pe_call F_fits (hr.mono (by decide)) (by rfl) T.g_fits o_fits.kp b_fits .nil pass0 (pa_cons (pe_ix ix_tup (pv 0) (pv 6) (fun _ _ => rfl)) (pa_cons (pe_ix ix_tup (pv 2) (pe_callB call_len_seq (by rfl) T.n_len (by decide +kernel) (pa_cons (pv 5) pa_nil)) (fun _ _ => rfl)) pa_nil)))))))
              (pss_one (ps_expr (pe_bm PySem.F.plainAttrs_list PySem.F.slot_list_append PySem.F.type_list_append mt_append (pv 5) (pa_cons (pv 6) pa_nil))))
              pss_nil)))
          (pss_one (ps_if (pt_cmpR op_eq (pe_callB call_len_seq (by rfl) T.n_len (by decide +kernel) (pa_cons (pv 5) pa_nil)) (pe_callB call_len_seq (by rfl) T.n_len (by decide +kernel) (pa_cons (pv 2) pa_nil)) (nomark _))
            (pss_one (ps_ret (pe_callTy call_tuple_of (by rfl) T.n_tuple (by decide +kernel) (pa_cons (pv 5) pa_nil))))
            pss_nil))))
          pss_nil)))
      (pss_one (ps_ret pe_non))))), ?_⟩
  obtain ⟨_, _, rfl, doc, ps, g, imd, hdl, imr, ok, kk⟩ := h
  obtain ⟨td, ds, rfl, hD, iad⟩ := im_tup imd
  obtain rfl := ia_strs iad
  obtain ⟨tr, ys, rfl, hR, iy⟩ := im_tup imr
  obtain ⟨v1, r1, rfl, i1, iy⟩ := ia_cons iy
  obtain ⟨v2, r2, rfl, i2, iy⟩ := ia_cons iy
  obtain ⟨v3, r3, rfl, i3, iy⟩ := ia_cons iy
  obtain rfl := ia_nil iy
  obtain rfl := im_str i1
  obtain rfl := im_int i3
  obtain ⟨tp, pv, rfl, hP, iap⟩ := im_tup i2
  obtain ⟨ok1, ok2, ok3, ok4⟩ := ok
  have hpl : pv.length = ps.length := by rw [iap.len, List.length_map]
  have hdl2 : (doc.map V.str).length = doc.length := List.length_map ..
  obtain ⟨w0, hw0, iw0⟩ := pat_at iap (j := 0) ok1
  refine ⟨_, rfl, tr, _, _, _, rfl, rfl, hR, atI_nat (j := 1) rfl, ?_⟩
  refine ⟨_, rfl, tp, _, rfl, .inr hP, _, _, rfl, rfl, _, rfl, tr, _, _, _, rfl, rfl, hR, atI_nat (j := 2) rfl, _, _, rfl, rfl, ?_⟩
  rw [hpl]
  refine ⟨_, rfl, td, _, rfl, .inr hD, _, rfl, by omega, by omega, for_range (n := ((doc.map V.str).length : Int).toNat) (fun i σ H' => ∃ q1 q2 q3, σ = [some (.ref td), some (.ref tr), some (.ref tp), some (.int (lastM ps g)), q1, q2, q3] ∧ Same H H' ∧ ∀ j, j < i → atM doc ps g j = false)
    ⟨none, none, none, rfl, Same.refl H, fun j h => absurd h (Nat.not_lt_zero j)⟩ ?_ ?_⟩
  · rintro i σ H' hi ⟨q1, q2, q3, rfl, sm, hno⟩
    have hi : i < doc.length := by rw [hdl2] at hi; omega
    have e0 : (0 : Int) + (i : Int) = (i : Int) := Int.zero_add _
    have hD' := sqT_tp (tp_same sm) hD
    have hP' := sqT_tp (tp_same sm) hP
    refine ⟨_, rfl, _, rfl, td, _, _, _, rfl, rfl, hD', (by rw [e0]; exact doc_at hi), _, rfl, tp, _, _, _, rfl, rfl, hP', hw0, _, _, rfl, _, patAt ps 0, rfl, iw0.same sm, _, rfl, ?_⟩
    refine ite2 (fun c1 => ?_) (fun c1 => ?_)
    · refine ⟨_, rfl, sz1, fun l hl => ?_⟩
      have s1 := same_new (o := .lst [.int (0 + (i : Int))]) hl
      have hl0 : H l = none := none_of_same sm hl
      refine ⟨_, rfl, _, _, rfl, rfl, _, rfl, td, _, rfl, .inr (sqT_tp (tp_same s1) hD'), _, rfl, _, rfl, _, _, rfl, rfl, _, _, rfl, rfl, _, _, rfl, _, _, rfl, ⟨?_, ?_, ?_, ?_⟩, for_range (lo := 0 + (i : Int) + 1) (n := _) (fun k σ H2 => ∃ (xs : List V) (q : Option V), σ = [some (.ref td), some (.ref tr), some (.ref tp), some (.int (lastM ps g)), some (.int (0 + (i : Int))), some (.ref l), q] ∧ Same H H2 ∧ H2 l = some (.lst xs) ∧ xs.length = cntM doc ps (i + 1) k)
        ⟨_, _, rfl, sm.trans s1, upd_same, rfl⟩ ?_ ?_⟩
      · omega
      · omega
      · rw [hdl2]
        have : 0 ≤ lastM ps g := by unfold lastM; omega
        split <;> omega
      · rw [hdl2]
        have : lastM ps g ≤ 1000 := by unfold lastM; omega
        split <;> omega
      · rintro k σ H2 hk ⟨xs, q, rfl, s2, hL, hx⟩
        have hk2 : i + 1 + k < doc.length := by
          rw [hdl2] at hk
          split at hk <;> omega
        have e1 : 0 + (i : Int) + 1 + (k : Int) = ((i + 1 + k : Nat) : Int) := by omega
        have hD2 := sqT_tp (tp_same s2) hD
        have hP2 := sqT_tp (tp_same s2) hP
        refine ⟨_, rfl, l, _, rfl, .inl (SqL.of hL), _, rfl, tp, _, rfl, .inr hP2, _, _, rfl, rfl, _, rfl, ?_⟩
        rw [hpl, hx]
        refine ite2 (fun c2 => ?_) (fun c2 => ?_)
        · have c2 : cntM doc ps (i + 1) k < ps.length := by have := of_decide_eq_true c2; omega
          obtain ⟨wk, hwk, iwk⟩ := pat_at iap c2
          refine ⟨_, rfl, _, rfl, td, _, _, _, rfl, rfl, hD2, (by rw [e1]; exact doc_at hk2), _, rfl, _, rfl, l, _, rfl, .inl (SqL.of hL), tp, _, _, _, rfl, rfl, hP2, (by rw [hx]; exact hwk), _, _, rfl, _, patAt ps (cntM doc ps (i + 1) k), rfl, iwk.same s2, _, rfl, ?_⟩
          refine ite2 (fun c3 => ?_) (fun c3 => ?_)
          · refine ⟨_, rfl, .inl ⟨rfl, _, SqL.of hL⟩, _, rfl, l, _, _, rfl, rfl, hL, ?_, ?_⟩
            · rw [hx]; exact small_sz (m := 3) (by have := ok2; omega)
            · exact ⟨_, _, rfl, same_mut s2 hl0, upd_same, by rw [List.length_append, List.length_singleton, hx, cntM_succ, stepM, if_pos ⟨c2, c3⟩]⟩
          · exact ⟨_, _, rfl, s2, hL, by rw [hx, cntM_succ, stepM, if_neg (fun z => c3 z.2)]⟩
        · have c2 : ¬ cntM doc ps (i + 1) k < ps.length := fun z => c2 (decide_eq_true (by omega))
          refine iteF ?_
          exact ⟨_, _, rfl, s2, hL, by rw [hx, cntM_succ, stepM, if_neg (fun z => c2 z.1)]⟩
      · rintro σ H2 ⟨xs, q, rfl, s2, hL, hx⟩
        have eN : ((if 0 + (i : Int) + lastM ps g + 1 < ((doc.map V.str).length : Int) then 0 + (i : Int) + lastM ps g + 1 else ((doc.map V.str).length : Int)) - (0 + (i : Int) + 1)).toNat = turnsM doc ps g i := by
          unfold turnsM; rw [hdl2, e0]
        have hx2 : xs.length = cntM doc ps (i + 1) (turnsM doc ps g i) := by rw [← eN]; exact hx
        have hP2 := sqT_tp (tp_same s2) hP
        refine ⟨_, rfl, l, _, rfl, .inl (SqL.of hL), _, rfl, tp, _, rfl, .inr hP2, rfl, _, rfl, ?_⟩
        rw [hpl, hx2, decV]
        refine ite2 (fun c2 => ?_) (fun c2 => ?_)
        · have c2 := of_decide_eq_true c2
          refine ⟨_, rfl, l, _, rfl, .inl ⟨SqL.of hL, fun t ht => ?_⟩⟩
          refine kk _ _ (s2.trans (same_new ht)) ?_
          have hs : standsM doc ps g = true := List.any_eq_true.mpr ⟨i, List.mem_range.mpr hi, by
            unfold atM; rw [c1, Bool.true_and]; exact decide_eq_true (by omega)⟩
          rw [hs]; rfl
        · have c2 := not_dec c2
          refine ⟨_, _, _, rfl, s2, fun j hj => ?_⟩
          by_cases q : j = i
          · subst q
            unfold atM; rw [c1, Bool.true_and]; exact decide_eq_false (by omega)
          · exact hno j (by omega)
    · refine ⟨_, _, _, rfl, sm, fun j hj => ?_⟩
      by_cases q : j = i
      · subst q
        unfold atM; rw [Bool.eq_false_iff.mpr c1, Bool.false_and]
      · exact hno j (by omega)
  · rintro σ H' ⟨q1, q2, q3, rfl, sm, hno⟩
    refine kk _ _ sm ?_
    have hs : standsM doc ps g = false := by
      cases e : standsM doc ps g with
      | false => rfl
      | true =>
        obtain ⟨j, hj, ej⟩ := List.any_eq_true.mp e
        rw [hno j (by rw [hdl2]; have := List.mem_range.mp hj; omega)] at ej
        cases ej
    rw [hs]; rfl
end
end K46

set_option maxHeartbeats 2000000
namespace K46
open PySem PySem.Spec PyProof.Rows L2
/-! ### timelines -/
def tlD (l : List Int) : PyData := .tuple (l.map .int)
def isInM (tl : List Int) (t : Int) : Bool := decide (((tl.filter fun p => decide (p ≤ t)).length : Int) % 2 = 1)
def combStep (one other : List Int) (st : List Int × Bool) (t : Int) : List Int × Bool := if (isInM one t || isInM other t) = st.2 then st else (st.1 ++ [t], isInM one t || isInM other t)
def sortI (ns : List Int) : List Int := ns.mergeSort fun a b => decide (a ≤ b)
theorem sortI_uniq {us ns : List Int} (p : us.Perm ns) (h : us.Pairwise (· ≤ ·)) : us = sortI ns := by
  refine List.Perm.eq_of_pairwise (le := fun a b => decide (a ≤ b) = true) (fun a b _ _ h1 h2 => Int.le_antisymm (of_decide_eq_true h1) (of_decide_eq_true h2)) (h.imp fun q => decide_eq_true q) ?_ (p.trans (List.mergeSort_perm ns _).symm)
  exact List.pairwise_mergeSort (le := fun (a b : Int) => decide (a ≤ b)) (fun a b c h1 h2 => decide_eq_true (Int.le_trans (of_decide_eq_true h1) (of_decide_eq_true h2))) (fun a b => by simp only [Bool.or_eq_true, decide_eq_true_eq]; omega) ns
def joinM (one other : List Int) : List Int := ((sortI (one ++ other)).foldl (combStep one other) ([], false)).1
theorem comb_len (one other : List Int) : ∀ (l : List Int) (st : List Int × Bool), (l.foldl (combStep one other) st).1.length ≤ st.1.length + l.length
  | [], st => by rw [List.foldl_nil]; exact Nat.le_refl _
  | t :: l, st => by
    have ih := comb_len one other l (combStep one other st t)
    rw [List.foldl_cons, List.length_cons]
    have : (combStep one other st t).1.length ≤ st.1.length + 1 := by
      unfold combStep
      split
      · omega
      · rw [List.length_append, List.length_singleton]; exact Nat.le_refl _
    omega
theorem sortI_len (ns : List Int) : (sortI ns).length = ns.length := (List.mergeSort_perm ns _).length_eq
theorem joinM_len (one other : List Int) : (joinM one other).length ≤ one.length + other.length := by
  have h := comb_len one other (sortI (one ++ other)) ([], false)
  rw [sortI_len, List.length_append] at h
  exact Nat.le_trans h (by show 0 + _ ≤ _; omega)
def spanM (s : Int) : Option Int → List Int
  | none => [s]
  | some e => [s, e]
def optI : Option Int → PyData
  | none => .none
  | some e => .int e
section
variable {P : Program} {w : World} {K : PySem.W.Frag} {mg : Str → Option Value} {base : Heap}
def spIsIn (K : PySem.W.Frag) : Sp := sp2 fun a b H Q => ∃ (tl : List Int) (t : Int), Im K H a (tlD tl) ∧ tl.length ≤ 1000 ∧ b = .int t ∧ RetV H (.bl (isInM tl t)) Q
abbrev N_is_in : List Str := ["timeline", "time", "point"]
theorem sc_is_in : FnScope N_is_in ["timeline", "time"] (defScope s_is_in) := ⟨rfl, rfl, rfl, by decide +kernel, rfl, by decide +kernel, by decide +kernel⟩
theorem ok_is_in (T : Ctx K mg) : Ok P w K mg base 1 (He.ga K "is_in") ["timeline", "time"] (spIsIn K) := by
  refine okF T.d_is_in sc_is_in len2 (fun _ _ _ _ _ _ us hl => match us, hl with | [_, _], _ => rfl) (fun cdv A outer s H vs Q E hr h => ?_)
  refine ⟨_,
      (pss_one (ps_ret (pe_cmpR op_eq (pe_op op_mod (pe_callB call_len_seq (by rfl) T.n_len (by decide +kernel) (pa_cons (pe_lc (own := [("point", 2)]) (g := gName 2) (by rfl) sc_is_in.nd (pi_tup (pv 0)) (blkOk_by (own := [("point", 2)]) (N := N_is_in) (sc := defScope s_is_in) (by decide +kernel)) (fun _ _ _ _ _ => pg_name (i := 2) sc_is_in.nd rfl (Or.inl rfl)) (fun _ _ _ _ _ => pts_one (pt_cmpR op_le (pv 2) (pv 1) (nomark _))) (fun _ _ _ _ _ => (pv 2))) pa_nil)) pe_int) pe_int (nomark _)))), ?_⟩
  obtain ⟨_, _, rfl, tl, t, im, hl, rfl, kk⟩ := h
  obtain ⟨ta, xs, rfl, hT, ia⟩ := im_tup im
  obtain rfl := ia_ints ia
  refine ⟨_, rfl, ta, rfl, ⟨_, hT⟩, fun D hD => lc_tup (K := K) (a := ta) (xs := tl.map V.int) (fun i H' => H' D = some (.lst (((tl.take i).filter fun p => decide (p ≤ t)).map V.int)) ∧ Same H H') ⟨upd_same, same_new hD⟩
    (fun i H' _ ⟨_, s⟩ => sqT_tp (tp_same s) hT) ?_ ?_⟩
  · rintro i y H' hy ⟨hd, s⟩
    obtain ⟨p, hp, rfl⟩ := at_map hy
    refine ⟨rfl, _, rfl, _, rfl, _, _, rfl, rfl, _, rfl, ?_⟩
    refine ite2 (fun c => ?_) (fun c => ?_)
    · refine ⟨_, rfl, _, hd, ?_, ?_, same_mut s hD⟩
      · rw [List.length_map]
        exact small1000 (Nat.le_trans (List.length_filter_le _ _) (by rw [List.length_take]; omega))
      · rw [upd_same, take_succ_of hp, List.filter_append, List.filter_cons, if_pos c, map_snoc]; rfl
    · exact ⟨by rw [hd, take_succ_of hp, List.filter_append, List.filter_cons, if_neg c, List.filter_nil, List.append_nil], s⟩
  · rintro H' ⟨hd, s⟩
    rw [List.take_of_length_le (by rw [List.length_map]; exact Nat.le_refl _)] at hd
    refine ⟨D, _, rfl, .inl (SqL.of hd), _, _, rfl, rfl, (by show (0 : Int) < 2; decide), rfl, ?_⟩
    have e : decide (V.int ((((tl.filter fun p => decide (p ≤ t)).map V.int).length : Int) % 2) = V.int 1) = isInM tl t := by
      rw [decV, List.length_map]; rfl
    show Q (.bl (decide (V.int ((((tl.filter fun p => decide (p ≤ t)).map V.int).length : Int) % 2) = V.int 1))) H'
    rw [e]
    exact kk H' s
def spComb (K : PySem.W.Frag) : Sp := sp3 fun a b c H Q => ∃ (one other : List Int), Im K H a (tlD one) ∧ Im K H b (tlD other) ∧ one.length + other.length ≤ 1000 ∧ c = .bl false ∧ RetD K H (tlD (joinM one other)) Q
theorem decB {a b : Bool} : decide (V.bl a = V.bl b) = decide (a = b) := by
  by_cases q : a = b
  · rw [decide_eq_true q, decide_eq_true (congrArg V.bl q)]
  · rw [decide_eq_false q, decide_eq_false fun z => q (V.bl.inj z)]
abbrev N_combined : List Str := ["one", "other", "both", "found", "inside", "time", "first", "second", "now"]
theorem sc_combined : FnScope N_combined ["one", "other", "both"] (defScope s_combined) := ⟨rfl, rfl, rfl, by decide +kernel, rfl, by decide +kernel, by decide +kernel⟩
theorem ok_combined (T : Ctx K mg) (o_is_in : Ok P w K mg base 1 (He.ga K "is_in") ["timeline", "time"] (spIsIn K)) : Ok P w K mg base 2 (He.ga K "_combined") ["one", "other", "both"] (spComb K) := by
  refine okF T.d_combined sc_combined len3 (fun _ _ _ _ _ _ us hl => match us, hl with | [_, _, _], _ => rfl) (fun cdv A outer s H vs Q E hr h => ?_)
  obtain ⟨fd_is_in, F_is_in, b_is_in⟩ := o_is_in.ex
  refine ⟨_,
      (pss_cons (ps_set (i := 3) sc_combined.nd rfl (Or.inl rfl) (pe_lst pa_nil))
      (pss_cons (ps_set (i := 4) sc_combined.nd rfl (Or.inl rfl) pe_bl)
      (pss_cons (ps_for PassesOwn.never rfl (pi_list (pe_callB cr_sortedI (by rfl) T.n_sorted (by decide +kernel) (pa_cons (pe_op op_cat (pe_callTy call_list_of (by rfl) T.n_list (by decide +kernel) (pa_cons (pv 0) pa_nil)) (pe_callTy call_list_of (by rfl) T.n_list (by decide +kernel) (pa_cons (pv 1) pa_nil))) pa_nil))) (pg_name (i := 5) sc_combined.nd rfl (Or.inl rfl))
        (pss_cons (ps_set (i := 6) sc_combined.nd rfl (Or.inl rfl) (pe_call F_is_in (hr.mono (by decide)) (by rfl) T.g_is_in o_is_in.kp b_is_in .nil pass0 (pa_cons (pv 0) (pa_cons (pv 5) pa_nil))))
        (pss_cons (ps_set (i := 7) sc_combined.nd rfl (Or.inl rfl) (pe_call F_is_in (hr.mono (by decide)) (by rfl) T.g_is_in o_is_in.kp b_is_in .nil pass0 (pa_cons (pv 1) (pa_cons (pv 5) pa_nil))))
        (pss_cons (ps_set (i := 8) sc_combined.nd rfl (Or.inl rfl) (pe_or (pv 6) (pe_one (pv 7))))
        (pss_cons (ps_if (pt_val (pv 2))
          (pss_one (ps_set (i := 8) sc_combined.nd rfl (Or.inl rfl) (pe_and (pv 6) (pe_one (pv 7)))))
          pss_nil)
        (pss_one (ps_if (pt_cmpR op_ne (pv 8) (pv 4) (nomark _))
          (pss_cons (ps_expr (pe_bm PySem.F.plainAttrs_list PySem.F.slot_list_append PySem.F.type_list_append mt_append (pv 3) (pa_cons (pv 5) pa_nil)))
          (pss_one (ps_set (i := 4) sc_combined.nd rfl (Or.inl rfl) (pv 8))))
          pss_nil)))))))
      (pss_one (ps_ret (pe_callTy call_tuple_of (by rfl) T.n_tuple (by decide +kernel) (pa_cons (pv 3) pa_nil))))))), ?_⟩
  obtain ⟨_, _, _, rfl, one, other, im1, im2, hl, rfl, kk⟩ := h
  obtain ⟨t1, xs1, rfl, hT1, ia1⟩ := im_tup im1
  obtain rfl := ia_ints ia1
  obtain ⟨t2, xs2, rfl, hT2, ia2⟩ := im_tup im2
  obtain rfl := ia_ints ia2
  refine ⟨Nat.zero_le _, fun l hl0 => ?_⟩
  have s0 := same_new (o := .lst []) hl0
  refine ⟨_, rfl, t1, _, rfl, .inr (sqT_tp (tp_same s0) hT1), fun l1 hl1 => ?_⟩
  have s1 := same_new (o := .lst (one.map V.int)) hl1
  refine ⟨_, rfl, t2, _, rfl, .inr (sqT_tp (tp_same (s0.trans s1)) hT2), fun l2 hl2 => ?_⟩
  have s2 := same_new (o := .lst (other.map V.int)) hl2
  refine ⟨l1, l2, _, _, rfl, rfl, up hl2 upd_same, upd_same, ?_, fun l3 hl3 => ?_⟩
  · rw [List.length_map, List.length_map]; exact Nat.le_trans hl (by decide)
  have s3 := same_new (o := .lst (one.map V.int ++ other.map V.int)) hl3
  refine ⟨l3, one ++ other, rfl, SqL.of (by rw [upd_same, List.map_append]), fun ns p pm pw np => ?_⟩
  obtain rfl := sortI_uniq pm pw
  have s4 := same_new (o := .lst ((sortI (one ++ other)).map V.int)) np
  have sH := s0.trans (s1.trans (s2.trans (s3.trans s4)))
  refine ⟨p, rfl, ⟨_, SqL.of upd_same⟩, for_list (K := K) (a := p) (xs := (sortI (one ++ other)).map V.int) (fun i σ H' => ∃ (st : List Int × Bool) (q1 q2 q3 q4 : Option V), σ = [some (.ref t1), some (.ref t2), some (.bl false), some (.ref l), some (.bl st.2), q1, q2, q3, q4] ∧ Same H H' ∧ H' l = some (.lst (st.1.map V.int)) ∧ H' p = some (.lst ((sortI (one ++ other)).map V.int)) ∧ st = ((sortI (one ++ other)).take i).foldl (combStep one other) ([], false))
    ⟨([], false), none, none, none, none, rfl, sH, s4 _ _ (s3 _ _ (s2 _ _ (s1 _ _ upd_same))), upd_same, rfl⟩ (fun i σ H' _ ⟨_, _, _, _, _, _, _, _, h, _⟩ => SqL.of h) ?_ ?_⟩
  · rintro i y σ H' hy ⟨st, q1, q2, q3, q4, rfl, sm, hL, hP, est⟩
    obtain ⟨t, ht, rfl⟩ := at_map hy
    have e1 : ((sortI (one ++ other)).take (i + 1)).foldl (combStep one other) ([], false) = combStep one other st t := by rw [take_succ_of ht, List.foldl_append, ← est]; rfl
    have hlp : l ≠ p := fun e => by
      subst e
      rw [s3 _ _ (s2 _ _ (s1 _ _ upd_same))] at np
      cases np
    refine ⟨_, rfl, _, rfl, _, _, rfl, one, t, im1.same sm, by omega, rfl, fun H2 sm2 => ?_⟩
    refine ⟨_, rfl, _, rfl, _, _, rfl, other, t, (im2.same sm).same sm2, by omega, rfl, fun H3 sm3 => ?_⟩
    have s23 := sm2.trans sm3
    refine ⟨_, rfl, _, rfl, ?_⟩
    have fin : ∀ now : Bool, now = (isInM one t || isInM other t) → ∀ σ3, σ3 = [some (.ref t1), some (.ref t2), some (.bl false), some (.ref l), some (.bl st.2), some (.int t), some (.bl (isInM one t)), some (.bl (isInM other t)), some (.bl now)] →
        ((!decide (V.bl now = V.bl st.2)) = true → ∃ (st' : List Int × Bool) (q1 q2 q3 q4 : Option V), (σ3.set 4 (some (.bl now))) = [some (.ref t1), some (.ref t2), some (.bl false), some (.ref l), some (.bl st'.2), q1, q2, q3, q4] ∧ Same H (upd H3 l (.lst (st.1.map V.int ++ [V.int t]))) ∧ (upd H3 l (.lst (st.1.map V.int ++ [V.int t]))) l = some (.lst (st'.1.map V.int)) ∧ (upd H3 l (.lst (st.1.map V.int ++ [V.int t]))) p = some (.lst ((sortI (one ++ other)).map V.int)) ∧ st' = ((sortI (one ++ other)).take (i + 1)).foldl (combStep one other) ([], false)) ∧
        (¬ (!decide (V.bl now = V.bl st.2)) = true → ∃ (st' : List Int × Bool) (q1 q2 q3 q4 : Option V), σ3 = [some (.ref t1), some (.ref t2), some (.bl false), some (.ref l), some (.bl st'.2), q1, q2, q3, q4] ∧ Same H H3 ∧ H3 l = some (.lst (st'.1.map V.int)) ∧ H3 p = some (.lst ((sortI (one ++ other)).map V.int)) ∧ st' = ((sortI (one ++ other)).take (i + 1)).foldl (combStep one other) ([], false)) := by
      rintro now rfl σ3 rfl
      rw [decB]
      refine ⟨fun c => ?_, fun c => ?_⟩
      · have c : ¬ (isInM one t || isInM other t) = st.2 := fun z => by rw [decide_eq_true z] at c; cases c
        exact ⟨(st.1 ++ [t], isInM one t || isInM other t), _, _, _, _, rfl, same_mut (sm.trans s23) hl0, by rw [upd_same, map_snoc], by rw [upd_ne (Ne.symm hlp)]; exact s23 _ _ hP, by rw [e1, combStep, if_neg c]⟩
      · have c : (isInM one t || isInM other t) = st.2 := by
          by_cases z : (isInM one t || isInM other t) = st.2
          · exact z
          · rw [decide_eq_false z] at c; exact absurd rfl c
        exact ⟨st, _, _, _, _, rfl, sm.trans s23, s23 _ _ hL, s23 _ _ hP, by rw [e1, combStep, if_pos c]⟩
    have hlen : (st.1.map V.int).length < sizeLine := by
      have h1 : st.1.length ≤ 0 + ((sortI (one ++ other)).take i).length := by rw [est]; exact comb_len one other _ ([], false)
      rw [List.length_map]
      have h2 : ((sortI (one ++ other)).take i).length ≤ (one ++ other).length := by rw [List.length_take, sortI_len]; exact Nat.min_le_right _ _
      rw [List.length_append] at h2
      exact small1000 (by omega)
    cases ea : isInM one t with
    | true =>
      rw [ea] at fin
      refine iteT ?_
      refine ⟨_, rfl, _, rfl, iteF ?_⟩
      refine ⟨_, rfl, _, rfl, rfl, _, rfl, ?_⟩
      obtain ⟨f1, f2⟩ := fin true rfl _ rfl
      refine ite2 (fun c => ?_) (fun c => f2 c)
      exact ⟨_, rfl, .inl ⟨rfl, _, SqL.of (s23 _ _ hL)⟩, _, rfl, l, _, _, rfl, rfl, s23 _ _ hL, hlen, _, rfl, f1 c⟩
    | false =>
      rw [ea] at fin
      refine iteF ?_
      refine ⟨_, rfl, ?_⟩
      refine ⟨_, rfl, _, rfl, iteF ?_⟩
      refine ⟨_, rfl, _, rfl, rfl, _, rfl, ?_⟩
      obtain ⟨f1, f2⟩ := fin (isInM other t) rfl _ rfl
      refine ite2 (fun c => ?_) (fun c => f2 c)
      exact ⟨_, rfl, .inl ⟨rfl, _, SqL.of (s23 _ _ hL)⟩, _, rfl, l, _, _, rfl, rfl, s23 _ _ hL, hlen, _, rfl, f1 c⟩
  · rintro σ H' ⟨st, q1, q2, q3, q4, rfl, sm, hL, hP, est⟩
    rw [List.take_of_length_le (by rw [List.length_map]; exact Nat.le_refl _)] at est
    refine ⟨_, rfl, l, _, rfl, .inl ⟨SqL.of hL, fun t ht => ?_⟩⟩
    refine kk _ _ (sm.trans (same_new ht)) (.tup (SqT.of upd_same) ?_)
    have e : st.1 = joinM one other := by rw [est]; rfl
    rw [e]
    exact ints_ia _
def spJoin (K : PySem.W.Frag) : Sp := sp2 fun a b H Q => ∃ (one other : List Int), Im K H a (tlD one) ∧ Im K H b (tlD other) ∧ one.length + other.length ≤ 1000 ∧ RetD K H (tlD (joinM one other)) Q
abbrev N_join : List Str := ["one", "other"]
theorem sc_join : FnScope N_join ["one", "other"] (defScope s_join) := ⟨rfl, rfl, rfl, by decide +kernel, rfl, by decide +kernel, by decide +kernel⟩
theorem ok_join (T : Ctx K mg) (o_combined : Ok P w K mg base 2 (He.ga K "_combined") ["one", "other", "both"] (spComb K)) : Ok P w K mg base 3 (He.ga K "join") ["one", "other"] (spJoin K) := by
  refine okF T.d_join sc_join len2 (fun _ _ _ _ _ _ us hl => match us, hl with | [_, _], _ => rfl) (fun cdv A outer s H vs Q E hr h => ?_)
  obtain ⟨fd_combined, F_combined, b_combined⟩ := o_combined.ex
  refine ⟨_,
      (pss_one (ps_ret (pe_call F_combined (hr.mono (by decide)) (by rfl) T.g_combined o_combined.kp b_combined .nil pass0 (pa_cons (pv 0) (pa_cons (pv 1) (pa_cons pe_bl pa_nil)))))), ?_⟩
  obtain ⟨_, _, rfl, one, other, im1, im2, hl, kk⟩ := h
  exact ⟨_, rfl, _, rfl, _, _, _, rfl, one, other, im1, im2, hl, rfl, kk⟩
def spSpan (K : PySem.W.Frag) : Sp := sp2 fun a b H Q => ∃ (s : Int) (e : Option Int), a = .int s ∧ Im K H b (optI e) ∧ RetD K H (tlD (spanM s e)) Q
abbrev N_of_span : List Str := ["start", "end"]
theorem sc_of_span : FnScope N_of_span ["start", "end"] (defScope s_of_span) := ⟨rfl, rfl, rfl, by decide +kernel, rfl, by decide +kernel, by decide +kernel⟩
theorem ok_of_span (T : Ctx K mg) : Ok P w K mg base 1 (He.ga K "of_span") ["start", "end"] (spSpan K) := by
  refine okF T.d_of_span sc_of_span len2 (fun _ _ _ _ _ _ us hl => match us, hl with | [_, _], _ => rfl) (fun cdv A outer s H vs Q E hr h => ?_)
  refine ⟨_,
      (pss_cons (ps_if (pt_cmpR op_isN (pv 1) pe_non (nomark _))
        (pss_one (ps_ret (pe_tup (pa_cons (pv 0) pa_nil))))
        pss_nil)
      (pss_one (ps_ret (pe_tup (pa_cons (pv 0) (pa_cons (pv 1) pa_nil)))))), ?_⟩
  obtain ⟨_, _, rfl, s, e, rfl, im, kk⟩ := h
  cases e with
  | none =>
    obtain rfl := im_non im
    refine ⟨_, rfl, rfl, _, rfl, ite2 (fun _ => ?_) (fun c => absurd (by decide) c)⟩
    exact ⟨_, rfl, sz1, fun t ht => kk _ _ (same_new ht) (.tup (SqT.of upd_same) (.cons (.int _) .nil))⟩
  | some e =>
    obtain rfl := im_int im
    refine ⟨_, rfl, rfl, _, rfl, ite2 (fun c => absurd c (by simp)) (fun _ => ?_)⟩
    exact ⟨_, rfl, _, rfl, sz2, fun t ht => kk _ _ (same_new ht) (.tup (SqT.of upd_same) (.cons (.int _) (.cons (.int _) .nil)))⟩
/-! ### matches, by the question's depth -/
def spMatches (K : PySem.W.Frag) (d : Nat) : Sp := sp2 fun a b H Q => ∃ (doc : List Str) (q : Qn), Im K H a (docD doc) ∧ doc.length ≤ 1000 ∧ Im K H b q.dat ∧ q.Ok ∧ q.dep < d ∧ RetV H (.bl (matchM doc q)) Q
end
end K46

set_option maxHeartbeats 2000000
namespace K46
open PySem PySem.Spec PyProof.Rows L2
section
variable {P : Program} {w : World} {K : PySem.W.Frag} {mg : Str → Option Value} {base : Heap}
theorem neS {a b : Str} (h : ¬ a = b) : ¬ decide (V.str a = V.str b) = true := fun c => h (V.str.inj (of_decide_eq_true c))
theorem n1 : ¬ decide (V.str "all" = V.str "row") = true := by decide +kernel
theorem n2 : ¬ decide (V.str "not" = V.str "row") = true := by decide +kernel
theorem n3 : ¬ decide (V.str "and" = V.str "row") = true := by decide +kernel
theorem n4 : ¬ decide (V.str "or" = V.str "row") = true := by decide +kernel
theorem n5 : ¬ decide (V.str "not" = V.str "all") = true := by decide +kernel
theorem n6 : ¬ decide (V.str "and" = V.str "all") = true := by decide +kernel
theorem n7 : ¬ decide (V.str "or" = V.str "all") = true := by decide +kernel
theorem n8 : ¬ decide (V.str "and" = V.str "not") = true := by decide +kernel
theorem n9 : ¬ decide (V.str "or" = V.str "not") = true := by decide +kernel
theorem n10 : ¬ decide (V.str "or" = V.str "and") = true := by decide +kernel
theorem y1 : decide (V.str "row" = V.str "row") = true := by decide +kernel
theorem y2 : decide (V.str "all" = V.str "all") = true := by decide +kernel
theorem y3 : decide (V.str "not" = V.str "not") = true := by decide +kernel
theorem y4 : decide (V.str "and" = V.str "and") = true := by decide +kernel
/-- the first item of a question's tuple -/
theorem q_head {H : Hp} {b : V} {k : Str} {ds : List PyData} (im : Im K H b (.tuple (.str k :: ds))) : ∃ t xs, b = .ref t ∧ SqT K H t (.str k :: xs) ∧ ImAll K H xs ds := by
  obtain ⟨t, ys, rfl, hT, iy⟩ := im_tup im
  obtain ⟨v1, r1, rfl, i1, iz⟩ := ia_cons iy
  obtain rfl := im_str i1
  exact ⟨t, r1, rfl, hT, iz⟩
theorem map_B (bs : List Bool) (b : Bool) : bs.map V.bl ++ [V.bl b] = (bs ++ [b]).map V.bl := by rw [List.map_append]; rfl
abbrev N_matches : List Str := ["document", "question", "kind", "part"]
theorem sc_matches : FnScope N_matches ["document", "question"] (defScope s_matches) := ⟨rfl, rfl, rfl, by decide +kernel, rfl, by decide +kernel, by decide +kernel⟩
theorem ok_matches (T : Ctx K mg) (d : Nat) (o_first_standing : Ok P w K mg base 2 (He.ga K "first_standing") ["document", "row"] (spFirst K)) (o_matches : Ok P w K mg base (2+d) (He.ga K "matches") ["document", "question"] (spMatches K d)) : Ok P w K mg base (2+d+1) (He.ga K "matches") ["document", "question"] (spMatches K (d + 1)) := by
  refine okF T.d_matches sc_matches len2 (fun _ _ _ _ _ _ us hl => match us, hl with | [_, _], _ => rfl) (fun cdv A outer s H vs Q E hr h => ?_)
  obtain ⟨fd_first_standing, F_first_standing, b_first_standing⟩ := o_first_standing.ex
  obtain ⟨fd_matches, F_matches, b_matches⟩ := o_matches.ex
  refine ⟨_,
      (pss_cons (ps_set (i := 2) sc_matches.nd rfl (Or.inl rfl) (pe_ix ix_tup (pv 1) pe_int (fun _ _ => rfl)))
      (pss_cons (ps_if (pt_cmpR op_eq (pv 2) pe_str (nomark _))
        (pss_one (ps_ret (pe_cmpR op_notN (pe_call F_first_standing (hr.mono (by omega)) (by rfl) T.g_first_standing o_first_standing.kp b_first_standing .nil pass0 (pa_cons (pv 0) (pa_cons (pv 1) pa_nil))) pe_non (nomark _))))
        pss_nil)
      (pss_cons (ps_if (pt_cmpR op_eq (pv 2) pe_str (nomark _))
        (pss_one (ps_ret pe_bl))
        pss_nil)
      (pss_cons (ps_if (pt_cmpR op_eq (pv 2) pe_str (nomark _))
        (pss_one (ps_ret (pe_not (pe_call F_matches (hr.mono (by omega)) (by rfl) T.g_matches o_matches.kp b_matches .nil pass0 (pa_cons (pv 0) (pa_cons (pe_ix ix_tup (pv 1) pe_int (fun _ _ => rfl)) pa_nil))))))
        pss_nil)
      (pss_cons (ps_if (pt_cmpR op_eq (pv 2) pe_str (nomark _))
        (pss_one (ps_ret (pe_callB (cr_all rfl) (by rfl) T.n_all (by decide +kernel) (pa_cons (pe_lc (own := [("part", 3)]) (g := gName 3) (by rfl) sc_matches.nd (pi_tup (pe_ix ix_tup (pv 1) pe_int (fun _ _ => rfl))) (blkOk_by (own := [("part", 3)]) (N := N_matches) (sc := defScope s_matches) (by decide +kernel)) (fun _ _ _ _ _ => pg_name (i := 3) sc_matches.nd rfl (Or.inl rfl)) (fun _ _ _ _ _ => pts_nil) (fun _ _ _ _ _ => (pe_call F_matches (hr.mono (by omega)) (by rfl) T.g_matches o_matches.kp b_matches .nil pass0 (pa_cons (pv 0) (pa_cons (pv 3) pa_nil))))) pa_nil))))
        pss_nil)
      (pss_one (ps_ret (pe_callB (cr_any rfl) (by rfl) T.n_any (by decide +kernel) (pa_cons (pe_lc (own := [("part", 3)]) (g := gName 3) (by rfl) sc_matches.nd (pi_tup (pe_ix ix_tup (pv 1) pe_int (fun _ _ => rfl))) (blkOk_by (own := [("part", 3)]) (N := N_matches) (sc := defScope s_matches) (by decide +kernel)) (fun _ _ _ _ _ => pg_name (i := 3) sc_matches.nd rfl (Or.inl rfl)) (fun _ _ _ _ _ => pts_nil) (fun _ _ _ _ _ => (pe_call F_matches (hr.mono (by omega)) (by rfl) T.g_matches o_matches.kp b_matches .nil pass0 (pa_cons (pv 0) (pa_cons (pv 3) pa_nil))))) pa_nil))))))))), ?_⟩
  obtain ⟨_, _, rfl, doc, q, imd, hdl, imq, ok, hq, kk⟩ := h
  cases q with
  | row ps g =>
    obtain ⟨t, xs, rfl, hT, ia⟩ := q_head imq
    refine ⟨_, rfl, t, _, _, _, rfl, rfl, hT, atI_nat (j := 0) rfl, ?_⟩
    refine ⟨_, rfl, rfl, _, rfl, ite2 (fun _ => ?_) (fun c => absurd y1 c)⟩
    refine ⟨_, rfl, _, rfl, _, _, rfl, doc, ps, g, imd, hdl, imq, ok, fun v H' sm e => ⟨rfl, ?_⟩⟩
    show Q (.bl (!decide (v = .non))) H'
    rw [e]
    exact kk H' sm
  | all =>
    obtain ⟨t, xs, rfl, hT, ia⟩ := q_head imq
    refine ⟨_, rfl, t, _, _, _, rfl, rfl, hT, atI_nat (j := 0) rfl, ?_⟩
    refine ⟨_, rfl, rfl, _, rfl, ite2 (fun c => absurd c n1) (fun _ => ?_)⟩
    refine ⟨_, rfl, rfl, _, rfl, ite2 (fun _ => ?_) (fun c => absurd y2 c)⟩
    exact kk H (Same.refl H)
  | no q =>
    obtain ⟨t, xs, rfl, hT, ia⟩ := q_head imq
    obtain ⟨v2, r2, rfl, i2, iy⟩ := ia_cons ia
    obtain rfl := ia_nil iy
    refine ⟨_, rfl, t, _, _, _, rfl, rfl, hT, atI_nat (j := 0) rfl, ?_⟩
    refine ⟨_, rfl, rfl, _, rfl, ite2 (fun c => absurd c n2) (fun _ => ?_)⟩
    refine ⟨_, rfl, rfl, _, rfl, ite2 (fun c => absurd c n5) (fun _ => ?_)⟩
    refine ⟨_, rfl, rfl, _, rfl, ite2 (fun _ => ?_) (fun c => absurd y3 c)⟩
    exact ⟨_, rfl, _, rfl, t, _, _, _, rfl, rfl, hT, atI_nat (j := 1) rfl, _, _, rfl, doc, q, imd, hdl, i2, ok, Nat.lt_of_succ_lt_succ hq, fun H' sm => ⟨_, rfl, kk H' sm⟩⟩
  | both a b =>
    obtain ⟨t, xs, rfl, hT, ia⟩ := q_head imq
    obtain ⟨v2, r2, rfl, i2, iy⟩ := ia_cons ia
    obtain rfl := ia_nil iy
    obtain ⟨u, ys, rfl, hU, iau⟩ := im_tup i2
    refine ⟨_, rfl, t, _, _, _, rfl, rfl, hT, atI_nat (j := 0) rfl, ?_⟩
    refine ⟨_, rfl, rfl, _, rfl, ite2 (fun c => absurd c n3) (fun _ => ?_)⟩
    refine ⟨_, rfl, rfl, _, rfl, ite2 (fun c => absurd c n6) (fun _ => ?_)⟩
    refine ⟨_, rfl, rfl, _, rfl, ite2 (fun c => absurd c n8) (fun _ => ?_)⟩
    refine ⟨_, rfl, rfl, _, rfl, ite2 (fun _ => ?_) (fun c => absurd y4 c)⟩
    have hq2 : max a.dep b.dep < d := Nat.lt_of_succ_lt_succ hq
    refine ⟨_, rfl, t, _, _, _, rfl, rfl, hT, atI_nat (j := 1) rfl, u, rfl, ⟨_, hU⟩, fun D hD => ?_⟩
    refine lc_tup (K := K) (a := u) (xs := ys) (fun i H' => H' D = some (.lst ((([a, b].take i).map (matchM doc)).map V.bl)) ∧ Same H H') ⟨upd_same, same_new hD⟩ (fun i H' _ ⟨_, s⟩ => sqT_tp (tp_same s) hU) ?_ ?_
    · rintro i y H' hy ⟨hd, s⟩
      obtain ⟨dd, hdd, iy⟩ := iau.get hy
      obtain ⟨z, hz, rfl⟩ := at_map (f := Qn.dat) (l := [a, b]) (show ([a, b].map Qn.dat)[i]? = some dd from hdd)
      have mz : z = a ∨ z = b := by
        rcases List.mem_cons.mp (List.mem_of_getElem? hz) with e | e
        · exact .inl e
        · exact .inr (List.mem_singleton.mp e)
      have oz : z.Ok ∧ z.dep < d := by
        rcases mz with rfl | rfl
        · exact ⟨ok.1, by omega⟩
        · exact ⟨ok.2, by omega⟩
      refine ⟨rfl, ?_⟩
      refine ⟨_, rfl, _, rfl, _, _, rfl, doc, z, imd.same s, hdl, iy.same s, oz.1, oz.2, fun H2 s2 => ?_⟩
      refine ⟨_, s2 _ _ hd, ?_, ?_, same_mut (s.trans s2) hD⟩
      · rw [List.length_map, List.length_map, List.length_take]
        exact small_sz (m := 2) (Nat.min_le_right _ _)
      · rw [upd_same, take_succ_of hz, List.map_append, map_B]; rfl
    · rintro H' ⟨hd, s⟩
      have e2 : ys.length = 2 := iau.len
      rw [e2] at hd
      exact ⟨D, _, rfl, SqL.of hd, kk H' s⟩
  | one a b =>
    obtain ⟨t, xs, rfl, hT, ia⟩ := q_head imq
    obtain ⟨v2, r2, rfl, i2, iy⟩ := ia_cons ia
    obtain rfl := ia_nil iy
    obtain ⟨u, ys, rfl, hU, iau⟩ := im_tup i2
    refine ⟨_, rfl, t, _, _, _, rfl, rfl, hT, atI_nat (j := 0) rfl, ?_⟩
    refine ⟨_, rfl, rfl, _, rfl, ite2 (fun c => absurd c n4) (fun _ => ?_)⟩
    refine ⟨_, rfl, rfl, _, rfl, ite2 (fun c => absurd c n7) (fun _ => ?_)⟩
    refine ⟨_, rfl, rfl, _, rfl, ite2 (fun c => absurd c n9) (fun _ => ?_)⟩
    refine ⟨_, rfl, rfl, _, rfl, ite2 (fun c => absurd c n10) (fun _ => ?_)⟩
    have hq2 : max a.dep b.dep < d := Nat.lt_of_succ_lt_succ hq
    refine ⟨_, rfl, t, _, _, _, rfl, rfl, hT, atI_nat (j := 1) rfl, u, rfl, ⟨_, hU⟩, fun D hD => ?_⟩
    refine lc_tup (K := K) (a := u) (xs := ys) (fun i H' => H' D = some (.lst ((([a, b].take i).map (matchM doc)).map V.bl)) ∧ Same H H') ⟨upd_same, same_new hD⟩ (fun i H' _ ⟨_, s⟩ => sqT_tp (tp_same s) hU) ?_ ?_
    · rintro i y H' hy ⟨hd, s⟩
      obtain ⟨dd, hdd, iy⟩ := iau.get hy
      obtain ⟨z, hz, rfl⟩ := at_map (f := Qn.dat) (l := [a, b]) (show ([a, b].map Qn.dat)[i]? = some dd from hdd)
      have mz : z = a ∨ z = b := by
        rcases List.mem_cons.mp (List.mem_of_getElem? hz) with e | e
        · exact .inl e
        · exact .inr (List.mem_singleton.mp e)
      have oz : z.Ok ∧ z.dep < d := by
        rcases mz with rfl | rfl
        · exact ⟨ok.1, by omega⟩
        · exact ⟨ok.2, by omega⟩
      refine ⟨rfl, ?_⟩
      refine ⟨_, rfl, _, rfl, _, _, rfl, doc, z, imd.same s, hdl, iy.same s, oz.1, oz.2, fun H2 s2 => ?_⟩
      refine ⟨_, s2 _ _ hd, ?_, ?_, same_mut (s.trans s2) hD⟩
      · rw [List.length_map, List.length_map, List.length_take]
        exact small_sz (m := 2) (Nat.min_le_right _ _)
      · rw [upd_same, take_succ_of hz, List.map_append, map_B]; rfl
    · rintro H' ⟨hd, s⟩
      have e2 : ys.length = 2 := iau.len
      rw [e2] at hd
      exact ⟨D, _, rfl, SqL.of hd, kk H' s⟩
/-- at every depth -/
theorem ok_matchesD (T : Ctx K mg) (o : Ok P w K mg base 2 (He.ga K "first_standing") ["document", "row"] (spFirst K)) : ∀ d, Ok P w K mg base (2 + d) (He.ga K "matches") ["document", "question"] (spMatches K d)
  | 0 => by
    obtain ⟨fd, F⟩ := T.d_matches
    refine ⟨⟨fd, ⟨len2, fun A outer s H args us vs Q E _ _ _ _ h => ?_⟩, F.bindsN fun _ _ _ _ _ _ us hl => match us, hl with | [_, _], _ => rfl⟩, F.kp⟩
    obtain ⟨_, _, _, _, _, _, _, _, _, h, _⟩ := h
    exact absurd h (Nat.not_lt_zero _)
  | d + 1 => ok_matches T d o (ok_matchesD T o d)
end
end K46

set_option maxHeartbeats 2000000
namespace K46
open PySem PySem.Spec PyProof.Rows L2
/-! ### checking changes -/
theorem isiSS {K : PySem.W.Frag} : PySem.W.kitOne K (.type "str") (.type "str") = some true := kit_ty (by decide +kernel)
theorem isiII {K : PySem.W.Frag} : PySem.W.kitOne K (.type "int") (.type "int") = some true := kit_ty (by decide +kernel)
theorem isiIB {K : PySem.W.Frag} : PySem.W.kitOne K (.type "int") (.type "bool") = some false := kit_ty (by decide +kernel)
def keyC (c : Nat) : Bool := decide (c ∈ (smlS ++ digS).cps.toList)
theorem keyIn_ok : ∀ k ∈ lawKeys, 1 ≤ k.length ∧ k.length ≤ 8 ∧ ∀ c ∈ k.cps.toList, keyC c = true := by decide +kernel
theorem keyIn_facts {k : Str} (h : KeyIn k) : 1 ≤ k.length ∧ k.length ≤ 8 ∧ ∀ c ∈ k.cps.toList, keyC c = true := keyIn_ok k (by
  rcases h with rfl | rfl | rfl
  · exact List.mem_cons_self ..
  · exact List.mem_cons_of_mem _ (List.mem_cons_self ..)
  · exact List.mem_cons_of_mem _ (List.mem_cons_of_mem _ (List.mem_cons_self ..)))
theorem hu_of {k : Nat} {A : Around} (h : Room k A) : A.units + 1 < cLine := by have := h.un; omega
theorem hu64_of {k : Nat} {A : Around} (h : Room k A) : A.units + 64 < cLine := by have := h.un; omega
section
variable {P : Program} {w : World} {K : PySem.W.Frag} {mg : Str → Option Value} {base : Heap}
def spIsKey : Sp := sp1 fun a H Q => ∃ k : Str, a = .str k ∧ KeyIn k ∧ RetV H (.bl true) Q
abbrev N_is_key : List Str := ["key", "char"]
theorem sc_is_key : FnScope N_is_key ["key"] (defScope s_is_key) := ⟨rfl, rfl, rfl, by decide +kernel, rfl, by decide +kernel, by decide +kernel⟩
theorem ok_is_key (T : Ctx K mg) : Ok P w K mg base 1 (He.ga K "_is_key") ["key"] (spIsKey) := by
  refine okF T.d_is_key sc_is_key len1 (fun _ _ _ _ _ _ us hl => match us, hl with | [_], _ => rfl) (fun cdv A outer s H vs Q E hr h => ?_)
  obtain ⟨tk_DIGITS, g_DIGITS⟩ := T.t_DIGITS
  obtain ⟨tk_MOST_KEY, g_MOST_KEY⟩ := T.i_MOST_KEY
  obtain ⟨tk_SMALLS, g_SMALLS⟩ := T.t_SMALLS
  refine ⟨_,
      (pss_cons (ps_if (PW.pt (pw_or (pt_not (pt_val (pe_callB call_isi (by rfl) T.n_isinstance (by decide +kernel) (pa_cons (pv 0) (pa_cons (pe_bltn (v := .ty "str") (u := .type "str") (by rfl) T.n_str (by decide +kernel) rfl) pa_nil))))) (pw_or (pt_cmpR op_lt (pe_callB call_len_str (by rfl) T.n_len (by decide +kernel) (pa_cons (pv 0) pa_nil)) pe_int (nomark _)) (pw_or1 (pt_cmpR op_gt (pe_callB call_len_str (by rfl) T.n_len (by decide +kernel) (pa_cons (pv 0) pa_nil)) (pe_glob (v := .int 8) (by rfl) g_MOST_KEY ⟨_, rfl⟩) (nomark _))))))
        (pss_one (ps_ret pe_bl))
        pss_nil)
      (pss_one (ps_ret (pe_callB (cr_all rfl) (by rfl) T.n_all (by decide +kernel) (pa_cons (pe_lc (own := [("char", 1)]) (g := gName 1) (by rfl) sc_is_key.nd (pi_str (pv 0)) (blkOk_by (own := [("char", 1)]) (N := N_is_key) (sc := defScope s_is_key) (by decide +kernel)) (fun _ _ _ _ _ => pg_name (i := 1) sc_is_key.nd rfl (Or.inl rfl)) (fun _ _ _ _ _ => pts_nil) (fun _ _ _ _ _ => (pe_cmpR op_in_sign (pv 1) (pe_op op_add_str (pe_glob (v := .str smlS) (by rfl) g_SMALLS ⟨_, rfl⟩) (pe_glob (v := .str digS) (by rfl) g_DIGITS ⟨_, rfl⟩)) (by rfl)))) pa_nil))))), ?_⟩
  obtain ⟨_, rfl, k, rfl, hk, kk⟩ := h
  obtain ⟨f1, f2, f3⟩ := keyIn_facts hk
  refine ⟨_, rfl, .str k, .ty "str", .type "str", _, true, rfl, .ty _, .base (.str _), isiSS, ?_⟩
  refine ⟨_, rfl, ?_⟩
  refine iteF ?_
  refine ⟨_, rfl, k, rfl, Nat.le_of_lt (small_sz f2 (by decide)), _, _, rfl, rfl, _, rfl, ?_⟩
  rw [decide_eq_false (by omega)]
  refine iteF ?_
  refine ⟨_, rfl, k, rfl, Nat.le_of_lt (small_sz f2 (by decide)), _, _, rfl, rfl, _, rfl, ?_⟩
  rw [decide_eq_false (by omega)]
  refine iteF ?_
  refine ⟨_, rfl, k, rfl, fun D hD => lc_it walk_str (fun i H' => H' D = some (.lst (((k.cps.toList.take i).map keyC).map V.bl)) ∧ Same H H') ⟨upd_same, same_new hD⟩ (fun _ _ _ _ => trivial) ?_ ?_⟩
  · rintro i x H1 _ hi ⟨hd, sm⟩ ⟨rfl, c, hc, rfl⟩
    have hc' : k.cps.toList[i]? = some c := by rw [Array.getElem?_toList]; exact hc
    have hlt : i < k.cps.toList.length := (List.getElem?_eq_some_iff.mp hc').1
    refine ⟨rfl, _, rfl, _, _, rfl, rfl, by show 36 ≤ sizeLine; decide, c, _, rfl, rfl, _, hd, ?_, ?_, same_mut sm hD⟩
    · rw [List.length_map, List.length_map, List.length_take]
      have hm : min i k.cps.toList.length ≤ 8 := by have h : k.cps.toList.length = k.length := rfl; omega
      exact small_sz hm (by decide)
    · rw [upd_same, take_succ_of hc', List.map_append, List.map_append]; rfl
  · rintro H1 ⟨hd, sm⟩
    refine ⟨D, _, rfl, SqL.of hd, ?_⟩
    have e : ((k.cps.toList.take k.cps.size).map keyC).all id = true := by
      rw [List.all_map]
      exact List.all_eq_true.mpr fun c m => f3 c (List.mem_of_mem_take m)
    rw [e]
    exact kk _ sm
def spIsText (K : PySem.W.Frag) : Sp := sp1 fun a H Q => ∃ x : Option Str, Im K H a (optS x) ∧ (∀ y, x = some y → TextOk y) ∧ RetV H (.bl true) Q
theorem le1 (a b : Nat) : (!decide (([b] : List Nat) < [a])) = decide (a ≤ b) := by
  by_cases h : a ≤ b
  · rw [decide_eq_true h, decide_eq_false (fun z => by rw [List.cons_lt_cons_iff] at z; simp at z; omega)]; rfl
  · rw [decide_eq_false h, decide_eq_true (by rw [List.cons_lt_cons_iff]; exact .inl (by omega))]; rfl
theorem sp32 : (" " : Str).cps.toList = [32] := by decide +kernel
theorem sp126 : ("~" : Str).cps.toList = [126] := by decide +kernel
theorem sp10 : ("\n" : Str) = ⟨#[10]⟩ := by decide +kernel
abbrev N_is_text : List Str := ["text", "char"]
theorem sc_is_text : FnScope N_is_text ["text"] (defScope s_is_text) := ⟨rfl, rfl, rfl, by decide +kernel, rfl, by decide +kernel, by decide +kernel⟩
theorem ok_is_text (T : Ctx K mg) : Ok P w K mg base 1 (He.ga K "_is_text") ["text"] (spIsText K) := by
  refine okF T.d_is_text sc_is_text len1 (fun _ _ _ _ _ _ us hl => match us, hl with | [_], _ => rfl) (fun cdv A outer s H vs Q E hr h => ?_)
  obtain ⟨tk_MOST_TEXT, g_MOST_TEXT⟩ := T.i_MOST_TEXT
  refine ⟨_,
      (pss_cons (ps_if (pt_cmpR op_isN (pv 0) pe_non (nomark _))
        (pss_one (ps_ret pe_bl))
        pss_nil)
      (pss_cons (ps_if (PW.pt (pw_or (pt_not (pt_val (pe_callB call_isi (by rfl) T.n_isinstance (by decide +kernel) (pa_cons (pv 0) (pa_cons (pe_bltn (v := .ty "str") (u := .type "str") (by rfl) T.n_str (by decide +kernel) rfl) pa_nil))))) (pw_or1 (pt_cmpR op_gt (pe_callB call_len_str (by rfl) T.n_len (by decide +kernel) (pa_cons (pv 0) pa_nil)) (pe_glob (v := .int 400) (by rfl) g_MOST_TEXT ⟨_, rfl⟩) (nomark _)))))
        (pss_one (ps_ret pe_bl))
        pss_nil)
      (pss_one (ps_ret (pe_callB (cr_all rfl) (by rfl) T.n_all (by decide +kernel) (pa_cons (pe_lc (own := [("char", 1)]) (g := gName 1) (by rfl) sc_is_text.nd (pi_str (pv 0)) (blkOk_by (own := [("char", 1)]) (N := N_is_text) (sc := defScope s_is_text) (by decide +kernel)) (fun _ _ _ _ _ => pg_name (i := 1) sc_is_text.nd rfl (Or.inl rfl)) (fun _ _ _ _ _ => pts_nil) (fun _ _ _ _ _ => (pe_or (pe_cmpR op_eq (pv 1) pe_str (nomark _)) (pe_one (pe_and (pe_cmpR op_le_str pe_str (pv 1) (nomark _)) (pe_and (pe_cmpR op_le_str (pv 1) pe_str (nomark _)) (pe_one (pe_cmpR op_ne (pe_callB call_ord (by rfl) T.n_ord (by decide +kernel) (pa_cons (pv 1) pa_nil)) pe_int (nomark _))))))))) pa_nil)))))), ?_⟩
  obtain ⟨_, rfl, x, im, hx, kk⟩ := h
  cases x with
  | none =>
    obtain rfl := im_non im
    refine ⟨_, rfl, rfl, _, rfl, ?_⟩
    rw [decide_eq_true rfl]
    exact iteT (kk _ (Same.refl H))
  | some x =>
    obtain rfl := im_str im
    have ok := hx x rfl
    refine ⟨_, rfl, rfl, _, rfl, ?_⟩
    rw [decide_eq_false (fun e => nomatch e)]
    refine iteF ?_
    refine ⟨_, rfl, .str x, .ty "str", .type "str", _, true, rfl, .ty _, .base (.str _), isiSS, ?_⟩
    refine ⟨_, rfl, ?_⟩
    refine iteF ?_
    refine ⟨_, rfl, x, rfl, Nat.le_of_lt (small_sz ok.len (by decide)), _, _, rfl, rfl, _, rfl, ?_⟩
    rw [decide_eq_false (by have := ok.len; omega)]
    refine iteF ?_
    refine ⟨_, rfl, x, rfl, fun D hD => lc_it walk_str (fun i H' => H' D = some (.lst (((x.cps.toList.take i).map okc).map V.bl)) ∧ Same H H') ⟨upd_same, same_new hD⟩ (fun _ _ _ _ => trivial) ?_ ?_⟩
    · rintro i y H0 H1 hi ⟨hd, sm⟩ ⟨rfl, c, hc, rfl⟩
      have hc' : x.cps.toList[i]? = some c := by rw [Array.getElem?_toList]; exact hc
      have hlt : i < x.cps.toList.length := (List.getElem?_eq_some_iff.mp hc').1
      have fin : ∀ b, b = okc c → ∃ acc, H1 D = some (.lst acc) ∧ acc.length < sizeLine ∧ (upd H1 D (.lst (acc ++ [V.bl b]))) D = some (.lst (((x.cps.toList.take (i + 1)).map okc).map V.bl)) ∧ Same H (upd H1 D (.lst (acc ++ [V.bl b]))) := by
        rintro b rfl
        refine ⟨_, hd, ?_, ?_, same_mut sm hD⟩
        · rw [List.length_map, List.length_map, List.length_take]
          have hm : min i x.cps.toList.length ≤ 400 := by have h : x.cps.toList.length = x.length := rfl; have := ok.len; omega
          exact small_sz hm (by decide)
        · rw [upd_same, take_succ_of hc', List.map_append, List.map_append]; rfl
      refine ⟨rfl, _, rfl, rfl, _, rfl, ?_⟩
      refine ite2 (fun q => ?_) (fun q => ?_)
      · have q := V.str.inj (of_decide_eq_true q)
        rw [sp10] at q
        have q : c = 10 := by injection q with q; injection q with q; injection q
        exact fin true (by rw [okc, decide_eq_true q]; rfl)
      · have q : ¬ c = 10 := fun z => q (decide_eq_true (by rw [z, sp10]))
        refine ⟨_, rfl, _, _, rfl, rfl, _, rfl, ?_⟩
        rw [sp32, le1]
        refine ite2 (fun q1 => ?_) (fun q1 => ?_)
        · refine ⟨_, rfl, _, _, rfl, rfl, _, rfl, ?_⟩
          rw [sp126, le1]
          refine ite2 (fun q2 => ?_) (fun q2 => ?_)
          · refine ⟨_, rfl, ⟨#[c]⟩, rfl, rfl, rfl, ?_⟩
            refine fin _ ?_
            rw [okc, decide_eq_false q, q1, q2, Bool.false_or, Bool.true_and, Bool.true_and]
            rw [decV]
            show (!decide ((c : Int) = 37)) = decide (c ≠ 37)
            by_cases z : c = 37
            · rw [z]; rfl
            · rw [decide_eq_true z, decide_eq_false (fun y : (c : Int) = 37 => z (by omega))]; rfl
          · exact fin false (by rw [okc, decide_eq_false q, Bool.eq_false_iff.mpr q2]; simp)
        · exact fin false (by rw [okc, decide_eq_false q, Bool.eq_false_iff.mpr q1]; simp)
    · rintro H1 ⟨hd, sm⟩
      refine ⟨D, _, rfl, SqL.of hd, ?_⟩
      have e : ((x.cps.toList.take x.cps.size).map okc).all id = true := by
        rw [List.all_map]
        exact List.all_eq_true.mpr fun c m => ok.ch c (List.mem_of_mem_take m)
      rw [e]
      exact kk _ sm
def spCheck (K : PySem.W.Frag) : Sp := sp1 fun a H Q => ∃ c, ChgOk c ∧ Im K H a (chgD c) ∧ RetV H .non Q
abbrev N_check_change : List Str := ["change", "time", "key", "text"]
theorem sc_check_change : FnScope N_check_change ["change"] (defScope s_check_change) := ⟨rfl, rfl, rfl, by decide +kernel, rfl, by decide +kernel, by decide +kernel⟩
theorem ok_check_change (T : Ctx K mg) (o_is_key : Ok P w K mg base 1 (He.ga K "_is_key") ["key"] spIsKey) (o_is_text : Ok P w K mg base 1 (He.ga K "_is_text") ["text"] (spIsText K)) : Ok P w K mg base 2 (He.ga K "check_change") ["change"] (spCheck K) := by
  refine okF T.d_check_change sc_check_change len1 (fun _ _ _ _ _ _ us hl => match us, hl with | [_], _ => rfl) (fun cdv A outer s H vs Q E hr h => ?_)
  obtain ⟨fd_is_key, F_is_key, b_is_key⟩ := o_is_key.ex
  obtain ⟨fd_is_text, F_is_text, b_is_text⟩ := o_is_text.ex
  obtain ⟨tk_MOST_TIME, g_MOST_TIME⟩ := T.i_MOST_TIME
  refine ⟨_,
      (pss_cons (ps_asg (pv 0) (pg_tup (by rfl) (pgs_cons (pg_name (i := 1) sc_check_change.nd rfl (Or.inl rfl)) (pgs_cons (pg_name (i := 2) sc_check_change.nd rfl (Or.inl rfl)) (pgs_cons (pg_name (i := 3) sc_check_change.nd rfl (Or.inl rfl)) pgs_nil)))))
      (pss_cons (ps_if (PW.pt (pw_or (pt_not (pt_val (pe_callB call_isi (by rfl) T.n_isinstance (by decide +kernel) (pa_cons (pv 1) (pa_cons (pe_bltn (v := .ty "int") (u := .type "int") (by rfl) T.n_int (by decide +kernel) rfl) pa_nil))))) (pw_or (pt_val (pe_callB call_isi (by rfl) T.n_isinstance (by decide +kernel) (pa_cons (pv 1) (pa_cons (pe_bltn (v := .ty "bool") (u := .type "bool") (by rfl) T.n_bool (by decide +kernel) rfl) pa_nil)))) (pw_or (pt_cmpR op_lt (pv 1) pe_int (nomark _)) (pw_or1 (pt_cmpR op_gt (pv 1) (pe_glob (v := .int 100000) (by rfl) g_MOST_TIME ⟨_, rfl⟩) (nomark _)))))))
        (pss_one ps_never)
        pss_nil)
      (pss_cons (ps_if (pt_not (pt_val (pe_call F_is_key (hr.mono (by decide)) (by rfl) T.g_is_key o_is_key.kp b_is_key .nil pass0 (pa_cons (pv 2) pa_nil))))
        (pss_one ps_never)
        pss_nil)
      (pss_one (ps_if (pt_not (pt_val (pe_call F_is_text (hr.mono (by decide)) (by rfl) T.g_is_text o_is_text.kp b_is_text .nil pass0 (pa_cons (pv 3) pa_nil))))
        (pss_one ps_never)
        pss_nil))))), ?_⟩
  obtain ⟨_, rfl, c, ok, im, kk⟩ := h
  obtain ⟨a, xs, rfl, hT, ia⟩ := im_tup im
  obtain ⟨v1, xs1, rfl, i1, ia⟩ := ia_cons ia
  obtain ⟨v2, xs2, rfl, i2, ia⟩ := ia_cons ia
  obtain ⟨v3, xs3, rfl, i3, ia⟩ := ia_cons ia
  obtain rfl := ia_nil ia
  obtain rfl := im_int i1
  obtain rfl := im_str i2
  refine ⟨_, rfl, a, _, rfl, hT, rfl, _, _, rfl, _, _, rfl, _, _, rfl, rfl, ?_⟩
  refine ⟨_, rfl, .int c.1, .ty "int", .type "int", _, true, rfl, .ty _, .base (.int _), isiII, ?_⟩
  refine ⟨_, rfl, iteF ?_⟩
  refine ⟨_, rfl, .int c.1, .ty "bool", .type "int", _, false, rfl, .ty _, .base (.int _), isiIB, ?_⟩
  refine ⟨_, rfl, iteF ?_⟩
  refine ⟨_, rfl, _, _, rfl, rfl, _, rfl, ?_⟩
  rw [decide_eq_false (by have := ok.t0; omega)]
  refine iteF ?_
  refine ⟨_, rfl, _, _, rfl, rfl, _, rfl, ?_⟩
  rw [decide_eq_false (by have := ok.t1; omega)]
  refine iteF ?_
  refine ⟨_, rfl, _, rfl, _, rfl, ok.key, fun H1 s1 => ?_⟩
  refine ⟨_, rfl, iteF ?_⟩
  refine ⟨_, rfl, _, rfl, _, i3.same s1, ok.txt, fun H2 s2 => ?_⟩
  exact ⟨_, rfl, iteF (kk _ (s1.trans s2))⟩
end
end K46

set_option maxHeartbeats 2000000
namespace K46
open PySem PySem.Spec PyProof.Rows L2
/-! ### changes that count: what is computed, in plain Lean -/
abbrev Chg := Int × Str × Option Str
def sameK (a b : Chg) : Bool := decide (a.2.1 = b.2.1) && decide (a.1 = b.1)
theorem sameK_iff {a b : Chg} : sameK a b = true ↔ a.2.1 = b.2.1 ∧ a.1 = b.1 := by simp [sameK]
def putC (d : List Chg) (c : Chg) : List Chg := if d.any (fun x => sameK x c) = true then d.map (fun x => if sameK x c = true then c else x) else d ++ [c]
def lastC (cs : List Chg) : List Chg := cs.foldl putC []
def txV : Option Str → V
  | none => .non
  | some x => .str x
def ek (c : Chg) : List Key := [.inr c.2.1, .inl c.1]
def ent (c : Chg) : List Key × V := (ek c, txV c.2.2)
theorem ek_iff {a b : Chg} : ek a = ek b ↔ sameK a b = true := by
  rw [sameK_iff]
  unfold ek
  refine ⟨fun h => ?_, fun ⟨h1, h2⟩ => by rw [h1, h2]⟩
  injection h with h1 h2
  injection h2 with h2
  exact ⟨Sum.inr.inj h1, Sum.inl.inj h2⟩
theorem dek (a b : Chg) : decide (ek a = ek b) = sameK a b := by
  by_cases h : sameK a b = true
  · rw [h]; exact decide_eq_true (ek_iff.mpr h)
  · rw [Bool.eq_false_iff.mpr h]; exact decide_eq_false fun z => h (ek_iff.mp z)
theorem ent_same {a b : Chg} (h : sameK a b = true) : (ek a, txV b.2.2) = ent b := by
  unfold ent; rw [ek_iff.mpr h]
theorem putC_ent (d : List Chg) (c : Chg) : putK (d.map ent) (ek c) (txV c.2.2) = (putC d c).map ent := by
  unfold putK putC
  have e : ((d.map ent).any fun kv => decide (kv.1 = ek c)) = d.any fun x => sameK x c := by
    rw [List.any_map]
    congr 1
    funext x
    exact dek x c
  rw [e]
  by_cases h : (d.any fun x => sameK x c) = true
  · rw [if_pos h, if_pos h, List.map_map, List.map_map]
    refine List.map_congr_left fun x _ => ?_
    show (if (ent x).1 = ek c then ((ent x).1, txV c.2.2) else ent x) = ent (if sameK x c = true then c else x)
    by_cases q : sameK x c = true
    · rw [if_pos q, if_pos (show (ent x).1 = ek c from ek_iff.mpr q)]
      exact ent_same q
    · rw [if_neg q, if_neg (fun z : (ent x).1 = ek c => q (ek_iff.mp z))]
  · rw [if_neg h, if_neg h, List.map_append]; rfl
theorem putC_sub {d : List Chg} {c x : Chg} (h : x ∈ putC d c) : x ∈ d ∨ x = c := by
  unfold putC at h
  split at h
  · obtain ⟨y, hy, e⟩ := List.mem_map.mp h
    split at e
    · exact .inr e.symm
    · exact .inl (e ▸ hy)
  · rcases List.mem_append.mp h with h | h
    · exact .inl h
    · exact .inr (List.mem_singleton.mp h)
theorem putC_len (d : List Chg) (c : Chg) : (putC d c).length ≤ d.length + 1 := by
  unfold putC
  split
  · rw [List.length_map]; omega
  · rw [List.length_append]; exact Nat.le_refl _
theorem foldC_sub : ∀ (cs d : List Chg) {x : Chg}, x ∈ cs.foldl putC d → x ∈ d ∨ x ∈ cs
  | [], _, _, h => .inl h
  | c :: cs, d, x, h => by
    rcases foldC_sub cs (putC d c) h with h | h
    · rcases putC_sub h with h | h
      · exact .inl h
      · exact .inr (h ▸ List.mem_cons_self ..)
    · exact .inr (List.mem_cons_of_mem _ h)
theorem lastC_sub {cs : List Chg} {x : Chg} (h : x ∈ lastC cs) : x ∈ cs := (foldC_sub cs [] h).elim (fun z => nomatch z) id
theorem foldC_len : ∀ (cs d : List Chg), (cs.foldl putC d).length ≤ d.length + cs.length
  | [], _ => Nat.le_refl _
  | c :: cs, d => by
    have h1 := foldC_len cs (putC d c)
    have h2 := putC_len d c
    rw [List.foldl_cons, List.length_cons]
    omega
theorem lastC_len (cs : List Chg) : (lastC cs).length ≤ cs.length := by have := foldC_len cs []; rw [List.length_nil] at this; unfold lastC; omega
def kD (c : Chg) : PyData := .tuple [.str c.2.1, .int c.1]
def srtC (cs : List Chg) : List Chg := cs.mergeSort (PySem.W.dataLe false kD)
theorem srtC_mem {cs : List Chg} {x : Chg} : x ∈ srtC cs ↔ x ∈ cs := List.mem_mergeSort
def lookC (d : List Chg) (c : Chg) : Chg := (d.find? fun x => sameK x c).getD c
def countedM (cs : List Chg) : List Chg := (srtC (lastC cs)).map (lookC (lastC cs))
theorem lookC_of {d : List Chg} {c : Chg} (h : c ∈ d) : lookC d c ∈ d ∧ (lookC d c).2.1 = c.2.1 ∧ (lookC d c).1 = c.1 ∧ valV (d.map ent) (ek c) = some (txV (lookC d c).2.2) := by
  cases q : d.find? fun x => sameK x c with
  | none => exact absurd (sameK_iff.mpr ⟨rfl, rfl⟩) (by have := List.find?_eq_none.mp q c h; exact this)
  | some y =>
    have e : lookC d c = y := by unfold lookC; rw [q]; rfl
    have m := List.mem_of_find?_eq_some q
    have k := sameK_iff.mp (List.find?_some (p := fun x => sameK x c) q)
    rw [e]
    refine ⟨m, k.1, k.2, ?_⟩
    unfold valV
    rw [List.find?_map]
    have e2 : ((fun kv : List Key × V => decide (kv.1 = ek c)) ∘ ent) = fun x => sameK x c := by funext x; exact dek x c
    rw [e2, q]
    rfl
theorem countedM_sub {cs : List Chg} {x : Chg} (h : x ∈ countedM cs) : x ∈ cs := by
  obtain ⟨y, hy, rfl⟩ := List.mem_map.mp h
  exact lastC_sub (lookC_of (srtC_mem.mp hy)).1
theorem countedM_len (cs : List Chg) : (countedM cs).length ≤ cs.length := by
  unfold countedM srtC
  rw [List.length_map, List.length_mergeSort]
  exact lastC_len cs
/-! ### what a sort of data hands back -/
theorem srtD_data {α : Type} {zs : List (V × PyData)} {bs : List α} {enc : α → PyData} (e : zs.map (·.2) = bs.map enc) : (srtD zs).map (·.2) = (bs.mergeSort (PySem.W.dataLe false enc)).map enc := by
  have h1 : (srtD zs).map (·.2) = (zs.map (·.2)).mergeSort (PySem.W.dataLe false id) := List.map_mergeSort fun _ _ _ _ => rfl
  have h2 : (bs.mergeSort (PySem.W.dataLe false enc)).map enc = (bs.map enc).mergeSort (PySem.W.dataLe false id) := List.map_mergeSort fun _ _ _ _ => rfl
  rw [h1, h2, e]
theorem ia_of {K : PySem.W.Frag} {H : Hp} : ∀ {zs : List (V × PyData)}, (∀ z ∈ zs, Im K H z.1 z.2) → ImAll K H (zs.map (·.1)) (zs.map (·.2))
  | [], _ => .nil
  | z :: zs, h => .cons (h z (List.mem_cons_self ..)) (ia_of fun y m => h y (List.mem_cons_of_mem _ m))
theorem srtD_im {K : PySem.W.Frag} {H : Hp} {α : Type} {zs : List (V × PyData)} {bs : List α} {enc : α → PyData} (h : ∀ z ∈ zs, Im K H z.1 z.2) (e : zs.map (·.2) = bs.map enc) :
    ImAll K H ((srtD zs).map (·.1)) ((bs.mergeSort (PySem.W.dataLe false enc)).map enc) := by
  rw [← srtD_data e]
  exact ia_of fun z m => h z (List.mem_mergeSort.mp m)
theorem zip_im {K : PySem.W.Frag} {H : Hp} {xs : List V} {ds : List PyData} (h : ImAll K H xs ds) : ∃ zs : List (V × PyData), zs.map (·.1) = xs ∧ zs.map (·.2) = ds ∧ ∀ z ∈ zs, Im K H z.1 z.2 := by
  induction ds generalizing xs with
  | nil => cases h; exact ⟨[], rfl, rfl, fun _ m => nomatch m⟩
  | cons d ds ih =>
    cases h with
    | cons h1 h2 =>
      obtain ⟨zs, e1, e2, e3⟩ := ih h2
      refine ⟨(_, d) :: zs, by rw [List.map_cons, e1], by rw [List.map_cons, e2], fun z m => ?_⟩
      rcases List.mem_cons.mp m with rfl | m
      · exact h1
      · exact e3 z m
theorem keys_im {K : PySem.W.Frag} {H : Hp} : ∀ {d : List Chg} {bs : List Addr}, IsKeys H (d.map ent) bs → ImAll K H (bs.map V.ref) (d.map kD)
  | [], _, h => by cases h; exact .nil
  | c :: d, _, h => by
    cases h with
    | cons h1 h2 => exact .cons (.tup (SqT.of h1) (.cons (.str _) (.cons (.int _) .nil))) (keys_im h2)
theorem kD_alike {cs : List Chg} : PySem.W.AllAlike (cs.map kD) := PySem.W.AllAlike.of fun _ _ => by simp [kD, PySem.W.alike, PySem.W.alikeAll]
theorem kD_sortable {cs : List Chg} : PySem.W.Sortable (cs.map kD) := PySem.W.Sortable.tuples fun c => ⟨.str c.2.1, [.int c.1], rfl⟩
theorem kD_depth (c : Chg) : (kD c).depth ≤ 50 := by simp [kD, PyData.depth, PyData.depthAll]
end K46

set_option maxHeartbeats 2000000
namespace K46
open PySem PySem.Spec PyProof.Rows L2
theorem sz80 {n : Nat} (h : n ≤ 80) : n < sizeLine := small_sz h (by decide)
section
variable {P : Program} {w : World} {K : PySem.W.Frag} {mg : Str → Option Value} {base : Heap}
theorem im_chg {H : Hp} {v : V} {c : Chg} (h : Im K H v (chgD c)) : ∃ a t, v = .ref a ∧ SqT K H a [.int c.1, .str c.2.1, t] ∧ Im K H t (optS c.2.2) ∧ t = txV c.2.2 := by
  obtain ⟨a, xs, rfl, hT, ia⟩ := im_tup h
  obtain ⟨v1, xs1, rfl, i1, ia⟩ := ia_cons ia
  obtain ⟨v2, xs2, rfl, i2, ia⟩ := ia_cons ia
  obtain ⟨v3, xs3, rfl, i3, ia⟩ := ia_cons ia
  obtain rfl := ia_nil ia
  obtain rfl := im_int i1
  obtain rfl := im_str i2
  refine ⟨a, v3, rfl, hT, i3, ?_⟩
  cases e : c.2.2 with
  | none => rw [e] at i3; exact im_non i3
  | some x => rw [e] at i3; exact im_str i3
theorem tx_im {H : Hp} (x : Option Str) : Im K H (txV x) (optS x) := by
  cases x with
  | none => exact .non
  | some x => exact .str x
def spCounted (K : PySem.W.Frag) : Sp := sp1 fun a H Q => ∃ (l : Addr) (xs : List V) (cs : List Chg), a = .ref l ∧ H l = some (.lst xs) ∧ ImAll K H xs (cs.map chgD) ∧ cs.length ≤ 80 ∧ RetN K H ((countedM cs).map chgD) Q
abbrev N_counted : List Str := ["changes", "last", "time", "key", "text"]
theorem sc_counted : FnScope N_counted ["changes"] (defScope s_counted) := ⟨rfl, rfl, rfl, by decide +kernel, rfl, by decide +kernel, by decide +kernel⟩
theorem ok_counted (T : Ctx K mg) : Ok P w K mg base 1 (He.ga K "counted") ["changes"] (spCounted K) := by
  refine okF T.d_counted sc_counted len1 (fun _ _ _ _ _ _ us hl => match us, hl with | [_], _ => rfl) (fun cdv A outer s H vs Q E hr h => ?_)
  have hu := hu_of hr
  have hu64 := hu64_of hr
  refine ⟨_,
      (pss_cons (ps_set (i := 1) sc_counted.nd rfl (Or.inr rfl) pe_dnewT)
      (pss_cons (ps_for PassesOwn.never rfl (pi_list (pv 0)) (pg_tup (by rfl) (pgs_cons (pg_name (i := 2) sc_counted.nd rfl (Or.inl rfl)) (pgs_cons (pg_name (i := 3) sc_counted.nd rfl (Or.inl rfl)) (pgs_cons (pg_name (i := 4) sc_counted.nd rfl (Or.inl rfl)) pgs_nil))))
        (pss_one (ps_dput hu (pv 1) (pe_tup (pa_cons (pv 3) (pa_cons (pv 2) pa_nil))) (pv 4) rfl)))
      (pss_one (ps_ret (pe_lc (own := [("key", 3), ("time", 2)]) (g := gTup K 2 (gCons (gName 3) (gCons (gName 2) gNil))) (by rfl) sc_counted.nd (pi_list (pe_callB (cr_sortedD hu64) (by rfl) T.n_sorted (by decide +kernel) (pa_cons (pe_listKeysT rfl (pv 1) (by rfl) T.n_list (by decide +kernel)) pa_nil))) (blkOk_by (own := [("key", 3), ("time", 2)]) (N := N_counted) (sc := defScope s_counted) (by decide +kernel)) (fun _ _ _ _ _ => pgTK K (n := 2) rfl (by rfl) (pgs_cons (pg_name (i := 3) sc_counted.nd rfl (Or.inl rfl)) (pgs_cons (pg_name (i := 2) sc_counted.nd rfl (Or.inl rfl)) pgs_nil))) (fun _ _ _ _ _ => pts_nil) (fun _ _ _ _ _ => (pe_tup (pa_cons (pv 2) (pa_cons (pv 3) (pa_cons (pe_dget hu (pv 1) (pe_tup (pa_cons (pv 3) (pa_cons (pv 2) pa_nil))) (fun _ _ => rfl)) pa_nil)))))))))), ?_⟩
  obtain ⟨_, rfl, l, xs, cs, rfl, hL, ia, hn, kk⟩ := h
  refine fun d hd => ?_
  have s0 := same_new (o := .dT []) hd
  refine ⟨_, rfl, l, rfl, ⟨_, SqL.of (s0 _ _ hL)⟩, for_list (K := K) (a := l) (xs := xs) (fun i σ H' => ∃ (q2 q3 q4 : Option V), σ = [some (.ref l), some (.ref d), q2, q3, q4] ∧ Same H H' ∧ H' d = some (.dT ((lastC (cs.take i)).map ent)))
    ⟨none, none, none, rfl, s0, upd_same⟩ (fun i σ H' _ ⟨_, _, _, _, sm, _⟩ => SqL.of (sm _ _ hL)) ?_ ?_⟩
  · rintro i y σ H' hy ⟨q2, q3, q4, rfl, sm, hD⟩
    obtain ⟨_, hd2, imy⟩ := ia.get hy
    obtain ⟨c, hc, rfl⟩ := at_map hd2
    obtain ⟨t, v, rfl, hT, _, rfl⟩ := im_chg (imy.same sm)
    have e1 : lastC (cs.take (i + 1)) = putC (lastC (cs.take i)) c := by rw [lastC, take_succ_of hc, List.foldl_append]; rfl
    have hlen : (lastC (cs.take i)).length ≤ 80 := by have := lastC_len (cs.take i); rw [List.length_take] at this; omega
    refine ⟨t, _, rfl, hT, rfl, _, _, rfl, _, _, rfl, _, _, rfl, rfl, ?_⟩
    refine ⟨_, rfl, _, rfl, _, rfl, _, rfl, sz2, fun p hp => ?_⟩
    refine ⟨d, _, rfl, DPut.t (k := ek c) (up hp hD) upd_same (by rw [List.length_map]; exact sz80 hlen), _, _, _, rfl, ?_, ?_⟩
    · exact same_mut (sm.trans (same_new hp)) hd
    · rw [upd_same, putC_ent, e1]
  · rintro σ H' ⟨q2, q3, q4, rfl, sm, hD⟩
    have hxs := ia.len
    rw [List.length_map] at hxs
    rw [List.take_of_length_le (by omega)] at hD
    refine ⟨_, rfl, d, _, rfl, hD, fun p bs hp ik => ?_⟩
    have s1 := same_new (o := .lst (bs.map V.ref)) hp
    obtain ⟨zs, z1, z2, z3⟩ := zip_im (keys_im ik)
    refine ⟨p, zs, rfl, SqL.of (by rw [upd_same, z1]), fun z m => ⟨Im.dp _ _ ((z3 z m).same s1), ?_⟩, by rw [z2]; exact kD_alike, by rw [z2]; exact kD_sortable, fun p2 hp2 => ?_⟩
    · have m2 : z.2 ∈ (lastC cs).map kD := by rw [← z2]; exact List.mem_map.mpr ⟨z, m, rfl⟩
      obtain ⟨c, _, e⟩ := List.mem_map.mp m2
      rw [← e]; exact kD_depth c
    have s2 := same_new (o := .lst ((srtD zs).map (·.1))) hp2
    have iy : ImAll K (upd (upd H' p (.lst (bs.map V.ref))) p2 (.lst ((srtD zs).map (·.1)))) ((srtD zs).map (·.1)) ((srtC (lastC cs)).map kD) := srtD_im (fun z m => ((z3 z m).same s1).same s2) z2
    have hD2 := s2 _ _ (s1 _ _ hD)
    have hP2 : (upd (upd H' p (.lst (bs.map V.ref))) p2 (.lst ((srtD zs).map (·.1)))) p2 = some (.lst ((srtD zs).map (·.1))) := upd_same
    have sA := (sm.trans s1).trans s2
    generalize upd (upd H' p (.lst (bs.map V.ref))) p2 (.lst ((srtD zs).map (·.1))) = HA at iy hD2 hP2 sA ⊢
    generalize (srtD zs).map (·.1) = ys at iy hP2
    refine ⟨p2, rfl, ⟨_, SqL.of hP2⟩, fun D hDn => lc_list (K := K) (a := p2) (xs := ys) (fun i H1 => ∃ acc, H1 D = some (.lst acc) ∧ ImAll K H1 acc (((countedM cs).take i).map chgD) ∧ Same HA H1) ⟨[], upd_same, .nil, same_new hDn⟩
      (fun i H1 _ ⟨_, _, _, s⟩ => SqL.of (s _ _ hP2)) ?_ ?_⟩
    · rintro i y H1 hy ⟨acc, hacc, iacc, sm1⟩
      obtain ⟨_, hd2, imy⟩ := iy.get hy
      obtain ⟨c, hc, rfl⟩ := at_map hd2
      obtain ⟨t, xs2, rfl, hT, ia2⟩ := im_tup (imy.same sm1)
      obtain ⟨v1, _, rfl, i1, ia2⟩ := ia_cons ia2
      obtain ⟨v2, _, rfl, i2, ia2⟩ := ia_cons ia2
      obtain rfl := ia_nil ia2
      obtain rfl := im_str i1
      obtain rfl := im_int i2
      have hm := srtC_mem.mp (List.mem_of_getElem? hc)
      obtain ⟨l1, l2, l3, l4⟩ := lookC_of hm
      refine ⟨t, _, rfl, hT, rfl, _, _, rfl, _, _, rfl, rfl, rfl, ?_⟩
      refine ⟨_, rfl, _, rfl, _, rfl, _, rfl, _, rfl, sz2, fun k hk => ?_⟩
      refine ⟨d, _, rfl, by rw [← l4]; exact DGet.t (k := ek c) (up hk (sm1 _ _ hD2)) upd_same, sz3, fun r hr => ?_⟩
      have sk := same_new (o := .tup [.str c.2.1, .int c.1]) hk
      have sr := same_new (o := .tup [.int c.1, .str c.2.1, txV (lookC (lastC cs) c).2.2]) hr
      have e1 : (countedM cs).take (i + 1) = (countedM cs).take i ++ [lookC (lastC cs) c] := take_succ_of (by rw [countedM, List.getElem?_map, hc]; rfl)
      have hl80 : acc.length ≤ 80 := by
        have h1 := iacc.len
        have h2 := countedM_len cs
        rw [List.length_map, List.length_take] at h1
        omega
      refine ⟨acc, up hr (up hk hacc), sz80 hl80, _, upd_same, ?_, ?_⟩
      · rw [e1, List.map_append]
        refine ImAll.tp (tp_lst (up hr (up hk hacc))) (((iacc.same sk).same sr).snoc ?_)
        show Im K _ _ (.tuple [.int (lookC (lastC cs) c).1, .str (lookC (lastC cs) c).2.1, optS (lookC (lastC cs) c).2.2])
        rw [l2, l3]
        exact .tup (SqT.of upd_same) (.cons (.int _) (.cons (.str _) (.cons (tx_im _) .nil)))
      · exact same_mut (sm1.trans (sk.trans sr)) hDn
    · rintro H1 ⟨acc, hacc, iacc, sm1⟩
      have hl : (countedM cs).length ≤ ys.length := by rw [iy.len, countedM, List.length_map, List.length_map]; exact Nat.le_refl _
      rw [List.take_of_length_le hl] at iacc
      exact kk D acc H1 (none_of_same sA hDn) (sA.trans sm1) hacc iacc
end
end K46

set_option maxHeartbeats 2000000
namespace K46
open PySem PySem.Spec PyProof.Rows L2
/-! ### shelves -/
def sF (v l : V) : List (Str × V) := putF "_changes" l (putF "_endings" v [])
theorem ne_ce : ¬ ("_endings" : Str) = "_changes" := by decide +kernel
theorem sF_e (v l : V) : (sF v l).lookup ("_endings" : Str) = some v := by unfold sF; rw [lookup_putF, if_neg ne_ce, lookup_putF, if_pos rfl]
theorem sF_c (v l : V) : (sF v l).lookup ("_changes" : Str) = some l := by unfold sF; rw [lookup_putF, if_pos rfl]
theorem sF_no (v l : V) {m : Str} (h1 : ¬ m = "_changes") (h2 : ¬ m = "_endings") : (sF v l).lookup m = none := by unfold sF; rw [lookup_putF, if_neg h1, lookup_putF, if_neg h2]; rfl
structure But (l : Addr) (H H' : Hp) : Prop where
  same : ∀ b o, b ≠ l → H b = some o → H' b = some o
  tp : Tp H H'
theorem But.trans {l : Addr} {H H1 H2 : Hp} (a : But l H H1) (b : But l H1 H2) : But l H H2 := ⟨fun c o n e => b.same c o n (a.same c o n e), a.tp.trans b.tp⟩
theorem but_same {H H' : Hp} (s : Same H H') (l : Addr) : But l H H' := ⟨fun b o _ e => s b o e, tp_same s⟩
theorem But.of {l : Addr} {H H' : Hp} {o : HO} {xs : List V} (s : Same H H') (h : H' l = some (.lst xs)) : But l H (upd H' l o) := ⟨fun b u n e => (upd_ne n).trans (s b u e), (tp_same s).trans (tp_lst h)⟩
theorem but_put {H : Hp} {x C dx : Addr} {fs : List (Str × V)} (o : HO) (h : H x = some (.ins C dx fs)) : But x H (upd H x o) := ⟨fun b u n e => (upd_ne n).trans e, tp_ins h⟩
theorem But.fresh {l : Addr} {H0 H H' : Hp} (s : Same H0 H) (n : H0 l = none) (b : But l H H') : Same H0 H' := fun c o e => b.same c o (ne_of_none e n) (s c o e)
def ShelfAt (K : PySem.W.Frag) (H : Hp) (a : Addr) (e : List (Str × Int)) (cs : List Chg) (l : Addr) : Prop :=
  ∃ dx v xs, H a = some (.ins (He.ga K "Shelf") dx (sF v (.ref l))) ∧ Im K H v (endD e) ∧ H l = some (.lst xs) ∧ ImAll K H xs (cs.map chgD)
theorem ShelfAt.same {K : PySem.W.Frag} {H H' : Hp} {a l : Addr} {e : List (Str × Int)} {cs : List Chg} (h : ShelfAt K H a e cs l) (s : Same H H') : ShelfAt K H' a e cs l := by
  obtain ⟨dx, v, xs, h1, h2, h3, h4⟩ := h
  exact ⟨dx, v, xs, s _ _ h1, h2.same s, s _ _ h3, h4.same s⟩
/-! the keys that are known -/
def putS (d : List Str) (k : Str) : List Str := if d.any (fun x => decide (x = k)) = true then d else d ++ [k]
def knownL (cs : List Chg) : List Str := cs.foldl (fun d c => putS d c.2.1) []
def kent (k : Str) : Key × V := (.inr k, .bl true)
theorem putS_ent (d : List Str) (k : Str) : putK (d.map kent) (.inr k) (.bl true) = (putS d k).map kent := by
  unfold putK putS
  have e : ((d.map kent).any fun kv => decide (kv.1 = (.inr k : Key))) = d.any fun x => decide (x = k) := by
    rw [List.any_map]
    congr 1
    funext x
    show decide ((Sum.inr x : Key) = .inr k) = decide (x = k)
    by_cases h : x = k
    · rw [decide_eq_true h, decide_eq_true (by rw [h])]
    · rw [decide_eq_false h, decide_eq_false fun z => h (Sum.inr.inj z)]
  rw [e]
  by_cases h : (d.any fun x => decide (x = k)) = true
  · rw [if_pos h, if_pos h, List.map_map]
    refine List.map_congr_left fun x _ => ?_
    show (if (kent x).1 = .inr k then ((kent x).1, .bl true) else kent x) = kent x
    split
    · rfl
    · rfl
  · rw [if_neg h, if_neg h, List.map_append]; rfl
theorem foldS_len : ∀ (cs : List Chg) (d : List Str), (cs.foldl (fun d c => putS d c.2.1) d).length ≤ d.length + cs.length
  | [], _ => Nat.le_refl _
  | c :: cs, d => by
    have h1 := foldS_len cs (putS d c.2.1)
    have h2 : (putS d c.2.1).length ≤ d.length + 1 := by unfold putS; split; omega; rw [List.length_append]; exact Nat.le_refl _
    rw [List.foldl_cons, List.length_cons]
    omega
theorem knownL_len (cs : List Chg) : (knownL cs).length ≤ cs.length := by have := foldS_len cs []; rw [List.length_nil] at this; unfold knownL; omega
def knownM (cs : List Chg) : List Str := (knownL cs).mergeSort (PySem.W.dataLe false .str)
theorem knownM_len (cs : List Chg) : (knownM cs).length ≤ cs.length := by unfold knownM; rw [List.length_mergeSort]; exact knownL_len cs
section
variable {P : Program} {w : World} {K : PySem.W.Frag} {mg : Str → Option Value} {base : Heap}
def spSInit (K : PySem.W.Frag) : Sp := sp2 fun a b H Q => ∃ x dx e, a = .ref x ∧ H x = some (.ins (He.ga K "Shelf") dx []) ∧ Im K H b (endD e) ∧ ∀ l H', H l = none → But x H H' → ShelfAt K H' x e [] l → Q .non H'
abbrev N_S_init : List Str := ["self", "endings"]
theorem sc_S_init : FnScope N_S_init ["self", "endings"] (defScope s_S_init) := ⟨rfl, rfl, rfl, by decide +kernel, rfl, by decide +kernel, by decide +kernel⟩
theorem ok_S_init (T : Ctx K mg) : Ok P w K mg base 1 (He.ma K (He.ga K "Shelf") "__init__") ["self", "endings"] (spSInit K) := by
  refine okF T.d_S_init sc_S_init len2 (fun _ _ _ _ _ _ us hl => match us, hl with | [_, _], _ => rfl) (fun cdv A outer s H vs Q E hr h => ?_)
  refine ⟨_,
      (pss_cons (ps_fld (pv 0) (pe_callTy call_tuple_of (by rfl) T.n_tuple (by decide +kernel) (pa_cons (pv 1) pa_nil)) rfl)
      (pss_one (ps_fld (pv 0) (pe_lst pa_nil) rfl))), ?_⟩
  obtain ⟨_, _, rfl, x, dx, e, rfl, hx, im, kk⟩ := h
  obtain ⟨t, xs, rfl, hT, ia⟩ := im_tup im
  refine ⟨_, rfl, t, _, rfl, .inr ⟨hT, _, rfl, x, _, dx, [], rfl, hx, T.c_Shelf, T.a_Shelf_endings, by decide, Nat.zero_le _, fun l hl => ?_⟩⟩
  have hxl : x ≠ l := fun z => by rw [z, upd_same] at hl; cases hl
  have hl0 : H l = none := (upd_ne (Ne.symm hxl)).symm.trans hl
  refine ⟨_, rfl, x, _, dx, _, rfl, up hl upd_same, T.c_Shelf, T.a_Shelf_changes, by show 1 < 1000; decide, ?_⟩
  have b0 : But x H (upd H x (.ins (He.ga K "Shelf") dx (putF "_endings" (.ref t) []))) := but_put _ hx
  have b1 := b0.trans (but_same (same_new (o := .lst []) hl) x)
  have b2 := b1.trans (but_put (.ins (He.ga K "Shelf") dx (sF (.ref t) (.ref l))) (up hl upd_same))
  refine kk l _ hl0 b2 ⟨dx, .ref t, [], upd_same, im.tp b2.tp, ?_, .nil⟩
  rw [upd_ne (Ne.symm hxl), upd_same]
def spSChanges (K : PySem.W.Frag) : Sp := sp1 fun a H Q => ∃ s e cs l, a = .ref s ∧ ShelfAt K H s e cs l ∧ RetN K H (cs.map chgD) Q
abbrev N_S_changes : List Str := ["self"]
theorem sc_S_changes : FnScope N_S_changes ["self"] (defScope s_S_changes) := ⟨rfl, rfl, rfl, by decide +kernel, rfl, by decide +kernel, by decide +kernel⟩
theorem ok_S_changes (T : Ctx K mg) : Ok P w K mg base 1 (He.ma K (He.ga K "Shelf") "changes") ["self"] (spSChanges K) := by
  refine okF T.d_S_changes sc_S_changes len1 (fun _ _ _ _ _ _ us hl => match us, hl with | [_], _ => rfl) (fun cdv A outer s H vs Q E hr h => ?_)
  refine ⟨_,
      (pss_one (ps_ret (pe_callTy call_list_of (by rfl) T.n_list (by decide +kernel) (pa_cons (pe_fld (pv 0) rfl) pa_nil)))), ?_⟩
  obtain ⟨_, rfl, s, e, cs, l, rfl, ⟨dx, v, xs, h1, h2, h3, h4⟩, kk⟩ := h
  refine ⟨_, rfl, s, _, dx, _, _, rfl, h1, T.c_Shelf, T.a_Shelf_changes, sF_c _ _, l, xs, rfl, .inl (SqL.of h3), fun p hp => ?_⟩
  exact kk p xs _ hp (same_new hp) upd_same (h4.same (same_new hp))
def spKnown (K : PySem.W.Frag) : Sp := sp1 fun a H Q => ∃ s e cs l, a = .ref s ∧ ShelfAt K H s e cs l ∧ cs.length ≤ 80 ∧ RetN K H ((knownM cs).map .str) Q
abbrev N_S_known_keys : List Str := ["self", "change"]
theorem sc_S_known_keys : FnScope N_S_known_keys ["self"] (defScope s_S_known_keys) := ⟨rfl, rfl, rfl, by decide +kernel, rfl, by decide +kernel, by decide +kernel⟩
theorem ok_S_known_keys (T : Ctx K mg) : Ok P w K mg base 1 (He.ma K (He.ga K "Shelf") "known_keys") ["self"] (spKnown K) := by
  refine okF T.d_S_known_keys sc_S_known_keys len1 (fun _ _ _ _ _ _ us hl => match us, hl with | [_], _ => rfl) (fun cdv A outer s H vs Q E hr h => ?_)
  have hu := hu_of hr
  have hu64 := hu64_of hr
  refine ⟨_,
      (pss_one (ps_ret (pe_callB (cr_sortedD hu64) (by rfl) T.n_sorted (by decide +kernel) (pa_cons (pe_callTy (call_list_dK rfl) (by rfl) T.n_list (by decide +kernel) (pa_cons (pe_dg (o0 := .dK []) (own := [("change", 1)]) (g := gName 1) (Or.inl rfl) (Nat.lt_of_succ_lt hu ) (by rfl) sc_S_known_keys.nd (pi_list (pe_fld (pv 0) rfl)) (blkOk_by (own := [("change", 1)]) (N := N_S_known_keys) (sc := defScope s_S_known_keys) (by decide +kernel)) (fun _ _ _ _ _ => pg_name (i := 1) sc_S_known_keys.nd rfl (Or.inl rfl)) (fun _ _ _ _ _ => pts_nil) (fun _ _ _ _ _ => (pe_ix (ixTK K rfl) (pv 1) pe_int (fun _ _ => rfl))) (fun _ _ _ _ _ => pe_bl)) pa_nil)) pa_nil)))), ?_⟩
  obtain ⟨_, rfl, s, e, cs, l, rfl, ⟨dx, v, xs, h1, h2, h3, h4⟩, hn, kk⟩ := h
  refine ⟨_, rfl, s, _, dx, _, _, rfl, h1, T.c_Shelf, T.a_Shelf_changes, sF_c _ _, l, rfl, ⟨_, SqL.of h3⟩, fun D hD => dg_list (K := K) (a := l) (xs := xs) (fun i H1 => H1 D = some (.dK ((knownL (cs.take i)).map kent)) ∧ Same H H1) ⟨upd_same, same_new hD⟩
    (fun i H1 _ ⟨_, s⟩ => SqL.of (s _ _ h3)) ?_ ?_⟩
  · rintro i y H1 hy ⟨hd, sm⟩
    obtain ⟨_, hd2, imy⟩ := h4.get hy
    obtain ⟨c, hc, rfl⟩ := at_map hd2
    obtain ⟨t, v, rfl, hT, _, rfl⟩ := im_chg (imy.same sm)
    have e1 : knownL (cs.take (i + 1)) = putS (knownL (cs.take i)) c.2.1 := by rw [knownL, take_succ_of hc, List.foldl_append]; rfl
    have hlen : (knownL (cs.take i)).length ≤ 80 := by have := knownL_len (cs.take i); rw [List.length_take] at this; omega
    refine ⟨rfl, _, rfl, t, _, _, _, rfl, rfl, hT, rfl, _, DPut.k (k := .inr c.2.1) hd (by rw [List.length_map]; exact sz80 hlen), ?_, ?_⟩
    · rw [upd_same, putS_ent, e1]
    · exact same_mut sm hD
  · rintro H1 ⟨hd, sm⟩
    have hxs := h4.len
    rw [List.length_map] at hxs
    rw [List.take_of_length_le (by omega)] at hd
    refine ⟨D, _, rfl, hd, fun p hp => ?_⟩
    have e : ((knownL cs).map kent).map (fun kv => kV kv.1) = ((knownL cs).map fun k => (V.str k, PyData.str k)).map (·.1) := by
      rw [List.map_map, List.map_map]; rfl
    have e2 : ((knownL cs).map fun k => (V.str k, PyData.str k)).map (·.2) = (knownL cs).map .str := by rw [List.map_map]; rfl
    refine ⟨p, (knownL cs).map fun k => (V.str k, PyData.str k), rfl, SqL.of (by rw [upd_same, e]), fun z m => ?_, ?_, ?_, fun p2 hp2 => ?_⟩
    · obtain ⟨k, _, rfl⟩ := List.mem_map.mp m
      exact ⟨Im.dp _ _ (.str k), by simp [PyData.depth]⟩
    · rw [e2]; exact PySem.W.AllAlike.of fun _ _ => by simp [PySem.W.alike]
    · rw [e2]; exact PySem.W.Sortable.others fun _ => ⟨fun q => (nomatch q), fun _ q => (nomatch q)⟩
    · have sA := (sm.trans (same_new (o := .lst (((knownL cs).map kent).map fun kv => kV kv.1)) hp)).trans (same_new (o := .lst ((srtD ((knownL cs).map fun k => (V.str k, PyData.str k))).map (·.1))) hp2)
      refine kk p2 _ _ (none_of_same (sm.trans (same_new (o := .lst (((knownL cs).map kent).map fun kv => kV kv.1)) hp)) hp2) sA upd_same ?_
      exact srtD_im (fun z m => by obtain ⟨k, _, rfl⟩ := List.mem_map.mp m; exact .str k) e2
def spSTell (K : PySem.W.Frag) : Sp := sp4 fun a b c d H Q => ∃ s e cs l ch, a = .ref s ∧ ShelfAt K H s e cs l ∧ ChgOk ch ∧ b = .int ch.1 ∧ c = .str ch.2.1 ∧ d = txV ch.2.2 ∧ cs.length < 12 ∧ ∀ H', But l H H' → ShelfAt K H' s e (cs ++ [ch]) l → Q .non H'
abbrev N_S_tell : List Str := ["self", "time", "key", "text", "known"]
theorem sc_S_tell : FnScope N_S_tell ["self", "time", "key", "text"] (defScope s_S_tell) := ⟨rfl, rfl, rfl, by decide +kernel, rfl, by decide +kernel, by decide +kernel⟩
theorem ok_S_tell (T : Ctx K mg) (o_check_change : Ok P w K mg base 2 (He.ga K "check_change") ["change"] (spCheck K)) (o_S_known_keys : Ok P w K mg base 1 (He.ma K (He.ga K "Shelf") "known_keys") ["self"] (spKnown K)) : Ok P w K mg base 3 (He.ma K (He.ga K "Shelf") "tell") ["self", "time", "key", "text"] (spSTell K) := by
  refine okF T.d_S_tell sc_S_tell len4 (fun _ _ _ _ _ _ us hl => match us, hl with | [_, _, _, _], _ => rfl) (fun cdv A outer s H vs Q E hr h => ?_)
  obtain ⟨fd_S_known_keys, F_S_known_keys, b_S_known_keys⟩ := o_S_known_keys.ex
  obtain ⟨fd_check_change, F_check_change, b_check_change⟩ := o_check_change.ex
  obtain ⟨tk_MOST_CHANGES_shelves, g_MOST_CHANGES_shelves⟩ := T.i_MOST_CHANGES_shelves
  obtain ⟨tk_MOST_KEYS_shelves, g_MOST_KEYS_shelves⟩ := T.i_MOST_KEYS_shelves
  refine ⟨_,
      (pss_cons (ps_expr (pe_call F_check_change (hr.mono (by decide)) (by rfl) T.g_check_change o_check_change.kp b_check_change .nil pass0 (pa_cons (pe_tup (pa_cons (pv 1) (pa_cons (pv 2) (pa_cons (pv 3) pa_nil)))) pa_nil)))
      (pss_cons (ps_if (pt_cmpR op_eq (pe_callB call_len_seq (by rfl) T.n_len (by decide +kernel) (pa_cons (pe_fld (pv 0) rfl) pa_nil)) (pe_glob (v := .int 80) (by rfl) g_MOST_CHANGES_shelves ⟨_, rfl⟩) (nomark _))
        (pss_one ps_never)
        pss_nil)
      (pss_cons (ps_set (i := 4) sc_S_tell.nd rfl (Or.inl rfl) (pe_meth0 (pv 0) T.c_Shelf T.m_Shelf_known_keys F_S_known_keys (hr.mono (by decide)) b_S_known_keys .nil pass0))
      (pss_cons (ps_if (PW.pt (pw_and (pt_cmpR op_notIn_seq (pv 2) (pv 4) (by rfl)) (pw_and1 (pt_cmpR op_eq (pe_callB call_len_seq (by rfl) T.n_len (by decide +kernel) (pa_cons (pv 4) pa_nil)) (pe_glob (v := .int 12) (by rfl) g_MOST_KEYS_shelves ⟨_, rfl⟩) (nomark _)))))
        (pss_one ps_never)
        pss_nil)
      (pss_one (ps_expr (pe_bm PySem.F.plainAttrs_list PySem.F.slot_list_append PySem.F.type_list_append mt_append (pe_fld (pv 0) rfl) (pa_cons (pe_tup (pa_cons (pv 1) (pa_cons (pv 2) (pa_cons (pv 3) pa_nil)))) pa_nil)))))))), ?_⟩
  obtain ⟨_, _, _, _, rfl, s, e, cs, l, ch, rfl, ⟨dx, v, xs, h1, h2, h3, h4⟩, ok, rfl, rfl, rfl, hn, kk⟩ := h
  have hxs := h4.len
  rw [List.length_map] at hxs
  refine ⟨_, rfl, _, rfl, _, rfl, sz3, fun p hp => ?_⟩
  have sp := same_new (o := .tup [.int ch.1, .str ch.2.1, txV ch.2.2]) hp
  refine ⟨_, rfl, ch, ok, .tup (SqT.of upd_same) (.cons (.int _) (.cons (.str _) (.cons (tx_im _) .nil))), fun H1 s1 => ?_⟩
  have sA := sp.trans s1
  refine ⟨_, rfl, s, _, dx, _, _, rfl, sA _ _ h1, T.c_Shelf, T.a_Shelf_changes, sF_c _ _, l, xs, rfl, .inl (SqL.of (sA _ _ h3)), rfl, _, rfl, ?_⟩
  rw [decV, decide_eq_false (by omega)]
  refine iteF ?_
  refine ⟨_, rfl, s, dx, _, rfl, sA _ _ h1, sF_no _ _ (by decide +kernel) (by decide +kernel), _, rfl, s, e, cs, l, rfl, ⟨dx, v, xs, sA _ _ h1, h2.same sA, sA _ _ h3, h4.same sA⟩, by omega, fun k ks H2 nk s2 hk ik => ?_⟩
  obtain rfl := ia_strs ik
  have sB := sA.trans s2
  have hkl := knownM_len cs
  have fin : ∀ q, H2 q = none → Q .non (upd (upd H2 q (.tup [.int ch.1, .str ch.2.1, txV ch.2.2])) l (.lst (xs ++ [.ref q]))) := fun q hq => by
    have sq := same_new (o := .tup [.int ch.1, .str ch.2.1, txV ch.2.2]) hq
    have sC := sB.trans sq
    have hl := sC _ _ h3
    refine kk _ (But.of sC hl) ⟨dx, v, _, ?_, (h2.same sC).tp (tp_lst hl), upd_same, ?_⟩
    · rw [upd_ne (ne_of h1 h3 (fun z => nomatch z))]; exact sC _ _ h1
    · rw [List.map_append]
      exact ImAll.tp (tp_lst hl) ((h4.same sC).snoc (.tup (SqT.of upd_same) (.cons (.int _) (.cons (.str _) (.cons (tx_im _) .nil)))))
  refine ⟨_, rfl, _, rfl, k, _, rfl, .inl (SqL.of hk), rfl, ?_, _, rfl, ite2 (fun _ => ?_) (fun _ => ?_)⟩
  · rw [List.all_map]; exact List.all_eq_true.mpr fun _ _ => rfl
  · refine ⟨_, rfl, k, _, rfl, .inl (SqL.of hk), rfl, _, rfl, ?_⟩
    rw [decV, decide_eq_false (by rw [List.length_map]; omega)]
    refine iteF ?_
    refine ⟨_, rfl, s, _, dx, _, _, rfl, sB _ _ h1, T.c_Shelf, T.a_Shelf_changes, sF_c _ _, .inl ⟨rfl, _, SqL.of (sB _ _ h3)⟩, _, rfl, _, rfl, _, rfl, sz3, fun q hq => ?_⟩
    exact ⟨l, xs, _, rfl, rfl, up hq (sB _ _ h3), sz80 (by omega), fin q hq⟩
  · refine ⟨_, rfl, s, _, dx, _, _, rfl, sB _ _ h1, T.c_Shelf, T.a_Shelf_changes, sF_c _ _, .inl ⟨rfl, _, SqL.of (sB _ _ h3)⟩, _, rfl, _, rfl, _, rfl, sz3, fun q hq => ?_⟩
    exact ⟨l, xs, _, rfl, rfl, up hq (sB _ _ h3), sz80 (by omega), fin q hq⟩
end
end K46

set_option maxHeartbeats 2000000
namespace K46
open PySem PySem.Spec PyProof.Rows L2
/-! ### histories and answers: what is computed, in plain Lean -/
abbrev Ver := Int × Option Int × List Str
def verD (v : Ver) : PyData := .tuple [.int v.1, optI v.2.1, docD v.2.2]
theorem strOk_of {x : Str} (h : WOk x) : PyData.strOk x = true := by
  unfold PyData.strOk
  rw [← Array.all_toList]
  exact List.all_eq_true.mpr fun c m => decide_eq_true (by have := h c m; omega)
theorem lay_strs : ∀ {d : List Str}, (∀ x ∈ d, WOk x) → PyData.canLayAll0 (d.map .str) = true
  | [], _ => rfl
  | x :: d, h => by
    show (PyData.canLay0 (.str x) && PyData.canLayAll0 (d.map .str)) = true
    rw [lay_strs fun y m => h y (List.mem_cons_of_mem _ m), Bool.and_true]
    exact strOk_of (h x (List.mem_cons_self ..))
theorem dep_strs : ∀ (d : List Str), PyData.depthAll (d.map .str) = 0
  | [] => rfl
  | x :: d => by
    show max (PyData.depth (.str x)) (PyData.depthAll (d.map .str)) = 0
    rw [dep_strs d]; rfl
theorem doc_shaped {d : List Str} (h : ∀ x ∈ d, WOk x) : SeqAt.shaped (docD d) = true := by
  unfold SeqAt.shaped
  rw [Bool.and_eq_true]
  refine ⟨lay_strs h, decide_eq_true ?_⟩
  show PyData.depthAll (d.map .str) + 1 ≤ 64
  rw [dep_strs]; decide
theorem docM_wok (e : List (Str × Int)) (x : Str) : ∀ y ∈ docM e x, WOk y := fun y m => by
  obtain ⟨z, hz, rfl⟩ := List.mem_map.mp m
  exact wok_cut ((wordsM_ok x).1 z hz)
theorem docM_len (e : List (Str × Int)) (x : Str) : (docM e x).length ≤ x.length + 1 := by
  unfold docM; rw [List.length_map]; exact (wordsM_ok x).2
def verStep (e : List (Str × Int)) (chs : List Chg) (vs : List Ver) (i : Nat) : List Ver :=
  match chs[i]? with
  | none => vs
  | some c => match c.2.2 with
    | none => vs
    | some x => match vs.getLast? with
      | none => vs ++ [(c.1, (chs[i + 1]?).map (·.1), docM e x)]
      | some v => if v.2.1 = some c.1 ∧ PyData.eqv (docD v.2.2) (docD (docM e x)) = true then vs.dropLast ++ [(v.1, (chs[i + 1]?).map (·.1), docM e x)] else vs ++ [(c.1, (chs[i + 1]?).map (·.1), docM e x)]
def chgsOf (cs : List Chg) (k : Str) : List Chg := (countedM cs).filter fun c => decide (c.2.1 = k)
def histM (e : List (Str × Int)) (cs : List Chg) (k : Str) : List Ver := (List.range (chgsOf cs k).length).foldl (verStep e (chgsOf cs k)) []
def VOk (v : Ver) : Prop := (∀ y ∈ v.2.2, WOk y) ∧ v.2.2.length ≤ 500
theorem docOk (e : List (Str × Int)) {x : Str} (h : TextOk x) : (∀ y ∈ docM e x, WOk y) ∧ (docM e x).length ≤ 500 := ⟨docM_wok e x, by have := docM_len e x; have := h.len; omega⟩
theorem verStep_ok {e : List (Str × Int)} {chs : List Chg} {vs : List Ver} {i : Nat} (hc : ∀ c ∈ chs, ChgOk c) (hv : ∀ v ∈ vs, VOk v) : ∀ v ∈ verStep e chs vs i, VOk v := by
  unfold verStep
  split
  · exact hv
  · rename_i c ec
    have ok := hc c (List.mem_of_getElem? ec)
    split
    · exact hv
    · rename_i x ex
      have dk : ∀ (s : Int) (n : Option Int), VOk (s, n, docM e x) := fun s n => docOk e (ok.txt x ex)
      split
      · intro v m
        rcases List.mem_append.mp m with m | m
        · exact hv v m
        · rw [List.mem_singleton.mp m]; exact dk _ _
      · split
        · intro v m
          rcases List.mem_append.mp m with m | m
          · exact hv v ((List.dropLast_subset _) m)
          · rw [List.mem_singleton.mp m]; exact dk _ _
        · intro v m
          rcases List.mem_append.mp m with m | m
          · exact hv v m
          · rw [List.mem_singleton.mp m]; exact dk _ _
theorem verStep_len (e : List (Str × Int)) (chs : List Chg) (vs : List Ver) (i : Nat) : (verStep e chs vs i).length ≤ vs.length + 1 := by
  unfold verStep
  split
  · omega
  · split
    · omega
    · split
      · rw [List.length_append]; exact Nat.le_refl _
      · split
        · rw [List.length_append, List.length_dropLast, List.length_singleton]; omega
        · rw [List.length_append]; exact Nat.le_refl _
theorem verFold {e : List (Str × Int)} {chs : List Chg} (hc : ∀ c ∈ chs, ChgOk c) : ∀ n, (∀ v ∈ (List.range n).foldl (verStep e chs) [], VOk v) ∧ ((List.range n).foldl (verStep e chs) []).length ≤ n
  | 0 => ⟨fun _ m => (nomatch m), Nat.le_refl _⟩
  | n + 1 => by
    obtain ⟨h1, h2⟩ := verFold hc n
    rw [List.range_succ, List.foldl_append]
    refine ⟨verStep_ok hc h1, ?_⟩
    have := verStep_len e chs ((List.range n).foldl (verStep e chs) []) n
    show (verStep e chs _ n).length ≤ n + 1
    omega
theorem chgsOf_ok {cs : List Chg} (h : ∀ c ∈ cs, ChgOk c) (k : Str) : ∀ c ∈ chgsOf cs k, ChgOk c := fun c m => h c (countedM_sub (List.mem_filter.mp m).1)
theorem chgsOf_len (cs : List Chg) (k : Str) : (chgsOf cs k).length ≤ cs.length := Nat.le_trans (List.length_filter_le _ _) (countedM_len cs)
theorem histM_ok (e : List (Str × Int)) {cs : List Chg} (h : ∀ c ∈ cs, ChgOk c) (k : Str) : (∀ v ∈ histM e cs k, VOk v) ∧ (histM e cs k).length ≤ cs.length := by
  obtain ⟨h1, h2⟩ := verFold (e := e) (chgsOf_ok h k) (chgsOf cs k).length
  exact ⟨h1, Nat.le_trans h2 (chgsOf_len cs k)⟩
/-! a known key has a change that counts -/
theorem putC_key1 (d : List Chg) (c : Chg) : ∃ y ∈ putC d c, y.2.1 = c.2.1 := by
  unfold putC
  by_cases h : (d.any fun x => sameK x c) = true
  · rw [if_pos h]
    obtain ⟨x, hx, e⟩ := List.any_eq_true.mp h
    exact ⟨c, List.mem_map.mpr ⟨x, hx, if_pos e⟩, rfl⟩
  · rw [if_neg h]
    exact ⟨c, List.mem_append_right _ (List.mem_singleton.mpr rfl), rfl⟩
theorem putC_key2 (d : List Chg) (c : Chg) {x : Chg} (hx : x ∈ d) : ∃ y ∈ putC d c, y.2.1 = x.2.1 := by
  unfold putC
  by_cases h : (d.any fun x => sameK x c) = true
  · rw [if_pos h]
    by_cases q : sameK x c = true
    · exact ⟨c, List.mem_map.mpr ⟨x, hx, if_pos q⟩, (sameK_iff.mp q).1.symm⟩
    · exact ⟨x, List.mem_map.mpr ⟨x, hx, if_neg q⟩, rfl⟩
  · rw [if_neg h]
    exact ⟨x, List.mem_append_left _ hx, rfl⟩
theorem foldC_key2 : ∀ (cs d : List Chg) {x : Chg}, x ∈ d → ∃ y ∈ cs.foldl putC d, y.2.1 = x.2.1
  | [], _, x, h => ⟨x, h, rfl⟩
  | c :: cs, d, x, h => by
    obtain ⟨y, hy, e⟩ := putC_key2 d c h
    obtain ⟨z, hz, e2⟩ := foldC_key2 cs (putC d c) hy
    exact ⟨z, hz, e2.trans e⟩
theorem foldC_key : ∀ (cs d : List Chg) {x : Chg}, x ∈ cs → ∃ y ∈ cs.foldl putC d, y.2.1 = x.2.1
  | [], _, _, h => nomatch h
  | c :: cs, d, x, h => by
    rcases List.mem_cons.mp h with rfl | h
    · obtain ⟨y, hy, e⟩ := putC_key1 d x
      obtain ⟨z, hz, e2⟩ := foldC_key2 cs (putC d x) hy
      exact ⟨z, hz, e2.trans e⟩
    · exact foldC_key cs (putC d c) h
theorem foldS_mem : ∀ (cs : List Chg) (d : List Str) {k : Str}, k ∈ cs.foldl (fun d c => putS d c.2.1) d → k ∈ d ∨ ∃ c ∈ cs, c.2.1 = k
  | [], _, _, h => .inl h
  | c :: cs, d, k, h => by
    rcases foldS_mem cs (putS d c.2.1) h with h | ⟨x, hx, e⟩
    · unfold putS at h
      split at h
      · exact .inl h
      · rcases List.mem_append.mp h with h | h
        · exact .inl h
        · exact .inr ⟨c, List.mem_cons_self .., (List.mem_singleton.mp h).symm⟩
    · exact .inr ⟨x, List.mem_cons_of_mem _ hx, e⟩
theorem knownM_mem {cs : List Chg} {k : Str} (h : k ∈ knownM cs) : ∃ c ∈ cs, c.2.1 = k := (foldS_mem cs [] (List.mem_mergeSort.mp h)).elim (fun z => nomatch z) id
theorem known_counted {cs : List Chg} {k : Str} (h : k ∈ knownM cs) : chgsOf cs k ≠ [] := fun z => by
  obtain ⟨c, hc, rfl⟩ := knownM_mem h
  obtain ⟨y, hy, e⟩ := foldC_key cs [] hc
  have m : lookC (lastC cs) y ∈ countedM cs := List.mem_map.mpr ⟨y, srtC_mem.mpr hy, rfl⟩
  have m2 : lookC (lastC cs) y ∈ chgsOf cs c.2.1 := List.mem_filter.mpr ⟨m, decide_eq_true ((lookC_of (d := lastC cs) hy).2.1.trans e)⟩
  rw [z] at m2
  exact nomatch m2
end K46

set_option maxHeartbeats 2000000
namespace K46
open PySem PySem.Spec PyProof.Rows L2
section
variable {P : Program} {w : World} {K : PySem.W.Frag} {mg : Str → Option Value} {base : Heap}
theorem ia_snoc {H : Hp} : ∀ {ds : List PyData} {d : PyData} {zs : List V}, ImAll K H zs (ds ++ [d]) → ∃ zs0 z, zs = zs0 ++ [z] ∧ ImAll K H zs0 ds ∧ Im K H z d
  | [], d, zs, h => by
    obtain ⟨v, vs, rfl, h1, h2⟩ := ia_cons h
    obtain rfl := ia_nil h2
    exact ⟨[], v, rfl, .nil, h1⟩
  | _ :: ds, d, zs, h => by
    obtain ⟨v, vs, rfl, h1, h2⟩ := ia_cons h
    obtain ⟨zs0, z, rfl, h3, h4⟩ := ia_snoc h2
    exact ⟨v :: zs0, z, rfl, .cons h1 h3, h4⟩
theorem ix_last {α : Type} (xs : List α) (x : α) : ixN (xs ++ [x]).length (-1) = some xs.length := by
  unfold ixN
  rw [if_neg (by decide), List.length_append, List.length_singleton, if_pos (by omega)]
  congr 1
  omega
theorem at_last {α : Type} (xs : List α) (x : α) : atI (xs ++ [x]) (-1) = some x := by
  unfold atI
  rw [ix_last]
  show (xs ++ [x])[xs.length]? = some x
  rw [List.getElem?_append_right (Nat.le_refl _), Nat.sub_self]; rfl
theorem set_last {α : Type} (xs : List α) (x y : α) : (xs ++ [x]).set xs.length y = xs ++ [y] := by
  rw [List.set_append_right _ _ (Nat.le_refl _), Nat.sub_self]; rfl
def spHist (K : PySem.W.Frag) : Sp := sp2 fun a b H Q => ∃ s e cs l k, a = .ref s ∧ b = .str k ∧ ShelfAt K H s e cs l ∧ cs.length ≤ 80 ∧ EndOk e ∧ (∀ c ∈ cs, ChgOk c) ∧ chgsOf cs k ≠ [] ∧ RetN K H ((histM e cs k).map verD) Q
abbrev N_S_history : List Str := ["self", "key", "changes", "versions", "at", "time", "name", "text", "end", "document", "change"]
theorem sc_S_history : FnScope N_S_history ["self", "key"] (defScope s_S_history) := ⟨rfl, rfl, rfl, by decide +kernel, rfl, by decide +kernel, by decide +kernel⟩
theorem ok_S_history (T : Ctx K mg) (o_counted : Ok P w K mg base 1 (He.ga K "counted") ["changes"] (spCounted K)) (o_document_of : Ok P w K mg base 2 (He.ga K "document_of") ["text", "endings"] (spDoc K)) : Ok P w K mg base 3 (He.ma K (He.ga K "Shelf") "history") ["self", "key"] (spHist K) := by
  refine okF T.d_S_history sc_S_history len2 (fun _ _ _ _ _ _ us hl => match us, hl with | [_, _], _ => rfl) (fun cdv A outer s H vs Q E hr h => ?_)
  obtain ⟨fd_counted, F_counted, b_counted⟩ := o_counted.ex
  obtain ⟨fd_document_of, F_document_of, b_document_of⟩ := o_document_of.ex
  refine ⟨_,
      (pss_cons (ps_setLc (i := 2) (own := [("change", 10)]) (g := gName 10) (by rfl) sc_S_history.nd rfl rfl (sw_true rfl rfl rfl (by decide +kernel)) (pi_list (pe_call F_counted (hr.mono (by decide)) (by rfl) T.g_counted o_counted.kp b_counted .nil pass0 (pa_cons (pe_fld (pv 0) rfl) pa_nil))) (blkOk_by (own := [("change", 10)]) (N := N_S_history) (sc := defScope s_S_history) (by decide +kernel)) (fun _ _ _ _ _ => pg_name (i := 10) sc_S_history.nd rfl (Or.inl rfl)) (fun _ _ _ _ _ => pts_one (pt_cmpR op_eq (pe_ix (ixTK K rfl) (pv 10) pe_int (fun _ _ => rfl)) (pv 1) (nomark _))) (fun _ _ _ _ _ => (pv 10)))
      (pss_cons (ps_if (pt_cmpR op_eq (pe_callB call_len_seq (by rfl) T.n_len (by decide +kernel) (pa_cons (pv 2) pa_nil)) pe_int (nomark _))
        (pss_one ps_never)
        pss_nil)
      (pss_cons (ps_set (i := 3) sc_S_history.nd rfl (Or.inl rfl) (pe_lst pa_nil))
      (pss_cons (ps_for PassesOwn.never rfl (pi_range1 (by rfl) T.n_range (pa_cons (pe_callB call_len_seq (by rfl) T.n_len (by decide +kernel) (pa_cons (pv 2) pa_nil)) pa_nil)) (pg_name (i := 4) sc_S_history.nd rfl (Or.inl rfl))
        (pss_cons (ps_asg (pe_ix ix_list (pv 2) (pv 4) (fun _ _ => rfl)) (pg_tup (by rfl) (pgs_cons (pg_name (i := 5) sc_S_history.nd rfl (Or.inl rfl)) (pgs_cons (pg_name (i := 6) sc_S_history.nd rfl (Or.inl rfl)) (pgs_cons (pg_name (i := 7) sc_S_history.nd rfl (Or.inl rfl)) pgs_nil)))))
        (pss_cons (ps_set (i := 8) sc_S_history.nd rfl (Or.inl rfl) pe_non)
        (Evl.pss_cut (ps_if (pt_cmpR op_lt (pe_op op_add (pv 4) pe_int) (pe_callB call_len_seq (by rfl) T.n_len (by decide +kernel) (pa_cons (pv 2) pa_nil)) (nomark _))
          (pss_one (ps_set (i := 8) sc_S_history.nd rfl (Or.inl rfl) (pe_ix ix_tup (pe_ix ix_list (pv 2) (pe_op op_add (pv 4) pe_int) (fun _ _ => rfl)) pe_int (fun _ _ => rfl))))
          pss_nil)
        (pss_one (ps_if (pt_cmpR op_notN (pv 7) pe_non (nomark _))
          (pss_cons (ps_set (i := 9) sc_S_history.nd rfl (Or.inl rfl) (pe_call F_document_of (hr.mono (by decide)) (by rfl) T.g_document_of o_document_of.kp b_document_of .nil pass0 (pa_cons (pv 7) (pa_cons (pe_fld (pv 0) rfl) pa_nil))))
          (pss_one (ps_if (PW.pt (pw_and (pt_cmpR op_gt (pe_callB call_len_seq (by rfl) T.n_len (by decide +kernel) (pa_cons (pv 3) pa_nil)) pe_int (nomark _)) (pw_and (pt_cmpR op_eq (pe_ix ix_tup (pe_ix ix_list (pv 3) (pe_un un_neg pe_int) (fun _ _ => rfl)) pe_int (fun _ _ => rfl)) (pv 5) (nomark _)) (pw_and1 (pt_cmpR (op_eqD hr.units) (pe_ix ix_tup (pe_ix ix_list (pv 3) (pe_un un_neg pe_int) (fun _ _ => rfl)) pe_int (fun _ _ => rfl)) (pv 9) (nomark _))))))
            (pss_one (ps_asg (pe_tup (pa_cons (pe_ix ix_tup (pe_ix ix_list (pv 3) (pe_un un_neg pe_int) (fun _ _ => rfl)) pe_int (fun _ _ => rfl)) (pa_cons (pv 8) (pa_cons (pv 9) pa_nil)))) (pg_sub (pv 3) (pe_un un_neg pe_int) set_list)))
            (pss_one (ps_expr (pe_bm PySem.F.plainAttrs_list PySem.F.slot_list_append PySem.F.type_list_append mt_append (pv 3) (pa_cons (pe_tup (pa_cons (pv 5) (pa_cons (pv 8) (pa_cons (pv 9) pa_nil)))) pa_nil)))))))
          pss_nil))))))
      (pss_one (ps_ret (pv 3))))))), ?_⟩
  obtain ⟨_, _, rfl, s, e, cs, l, k, rfl, rfl, hS, hn, he, hc, hk, kk⟩ := h
  obtain ⟨dx, v, xs, h1, h2, h3, h4⟩ := id hS
  refine ⟨_, rfl, s, _, dx, _, _, rfl, h1, T.c_Shelf, T.a_Shelf_changes, sF_c _ _, _, rfl, l, xs, cs, rfl, h3, h4, hn, fun cl ys H1 n1 s1 hcl icl => ?_⟩
  refine ⟨cl, rfl, ⟨_, SqL.of hcl⟩, fun D hD => lc_list (K := K) (a := cl) (xs := ys) (fun i H' => ∃ acc, H' D = some (.lst acc) ∧ ImAll K H' acc ((((countedM cs).take i).filter fun c => decide (c.2.1 = k)).map chgD) ∧ Same H1 H') ⟨[], upd_same, .nil, same_new hD⟩
    (fun i H' _ ⟨_, _, _, s⟩ => SqL.of (s _ _ hcl)) ?_ ?_⟩
  · rintro i y H' hy ⟨acc, hacc, iacc, sm⟩
    obtain ⟨_, hd2, imy⟩ := icl.get hy
    obtain ⟨c, ec, rfl⟩ := at_map hd2
    obtain ⟨t, v, rfl, hT, _, rfl⟩ := im_chg (imy.same sm)
    refine ⟨rfl, _, rfl, t, _, _, _, rfl, rfl, hT, rfl, _, rfl, rfl, _, rfl, ?_⟩
    have e1 : (countedM cs).take (i + 1) = (countedM cs).take i ++ [c] := take_succ_of ec
    refine ite2 (fun q => ?_) (fun q => ?_)
    · have q := V.str.inj (of_decide_eq_true q)
      refine ⟨_, rfl, acc, hacc, ?_, _, upd_same, ?_, same_mut sm hD⟩
      · have h1 := iacc.len
        rw [List.length_map] at h1
        have h2 := List.length_filter_le (fun c : Chg => decide (c.2.1 = k)) ((countedM cs).take i)
        have h3 := countedM_len cs
        rw [List.length_take] at h2
        exact sz80 (by omega)
      · rw [e1, List.filter_append, List.map_append, List.filter_cons, if_pos (decide_eq_true q), List.filter_nil]
        exact ImAll.tp (tp_lst hacc) (iacc.snoc (imy.same sm))
    · refine ⟨acc, hacc, ?_, sm⟩
      have q : ¬ c.2.1 = k := fun z => q (decide_eq_true (by rw [z]))
      rw [e1, List.filter_append, List.filter_cons, if_neg (by rw [decide_eq_false q]; decide), List.filter_nil, List.append_nil]
      exact iacc
  · rintro H2 ⟨acc, hacc, iacc, sm⟩
    have hys := icl.len
    rw [List.length_map] at hys
    rw [List.take_of_length_le (by omega)] at iacc
    have iacc : ImAll K H2 acc ((chgsOf cs k).map chgD) := iacc
    have hal : acc.length = (chgsOf cs k).length := by have := iacc.len; rw [List.length_map] at this; exact this
    have hpos : 0 < (chgsOf cs k).length := List.length_pos_iff.mpr hk
    have hle := chgsOf_len cs k
    have cok := chgsOf_ok hc k
    refine ⟨_, rfl, D, acc, rfl, .inl (SqL.of hacc), rfl, _, rfl, ?_⟩
    rw [decV, decide_eq_false (by omega)]
    refine iteF ?_
    refine ⟨Nat.zero_le _, fun vl hvl => ?_⟩
    have sA := s1.trans sm
    have sV := same_new (o := .lst []) hvl
    refine ⟨_, rfl, D, acc, rfl, .inl (SqL.of (sV _ _ hacc)), _, rfl, by omega, by omega, for_range (n := acc.length) (fun i σ H' => ∃ (vs : List Ver) (zs : List V) (q4 q5 q6 q7 q8 q9 q10 : Option V), σ = [some (.ref s), some (.str k), some (.ref D), some (.ref vl), q4, q5, q6, q7, q8, q9, q10] ∧ Same H2 H' ∧ H' vl = some (.lst zs) ∧ ImAll K H' zs (vs.map verD) ∧ vs = (List.range i).foldl (verStep e (chgsOf cs k)) [])
      ⟨[], [], none, none, none, none, none, none, none, rfl, sV, upd_same, .nil, rfl⟩ ?_ ?_⟩
    · rintro i σ H' hi ⟨vs, zs, q4, q5, q6, q7, q8, q9, q10, rfl, sm', hvl', izs, evs⟩
      have hi2 : i < (chgsOf cs k).length := by omega
      obtain ⟨c, ec⟩ : ∃ c, (chgsOf cs k)[i]? = some c := ⟨_, List.getElem?_eq_getElem hi2⟩
      have okc := cok c (List.mem_of_getElem? ec)
      obtain ⟨y, hy, imy⟩ := iacc.at (i := i) (d := chgD c) (by rw [List.getElem?_map, ec]; rfl)
      obtain ⟨t, tv, rfl, hT, imt, rfl⟩ := im_chg (imy.same sm')
      have zi : (0 : Int) + (i : Int) = ((i : Nat) : Int) := by omega
      rw [zi]
      refine ⟨_, rfl, _, rfl, D, acc, _, _, rfl, rfl, SqL.of (sm' _ _ hacc), atI_nat hy, t, _, rfl, hT, rfl, _, _, rfl, _, _, rfl, _, _, rfl, rfl, ?_⟩
      refine ⟨fun σ2 H3 => ∃ en, Im K H3 en (optI (((chgsOf cs k)[i + 1]?).map (·.1))) ∧ σ2 = [some (.ref s), some (.str k), some (.ref D), some (.ref vl), some (.int (i : Int)), some (.int c.1), some (.str c.2.1), some (txV c.2.2), some en, q9, q10] ∧ H3 = H', ?_, ?_⟩
      · refine ⟨_, rfl, _, _, rfl, rfl, _, rfl, D, acc, rfl, .inl (SqL.of (sm' _ _ hacc)), _, _, rfl, rfl, _, rfl, ?_⟩
        refine ite2 (fun q => ?_) (fun q => ?_)
        · have q := of_decide_eq_true q
          have hi3 : i + 1 < (chgsOf cs k).length := by omega
          obtain ⟨c2, ec2⟩ : ∃ c2, (chgsOf cs k)[i + 1]? = some c2 := ⟨_, List.getElem?_eq_getElem hi3⟩
          obtain ⟨y2, hy2, imy2⟩ := iacc.at (i := i + 1) (d := chgD c2) (by rw [List.getElem?_map, ec2]; rfl)
          obtain ⟨t2, tv2, rfl, hT2, imt2, rfl⟩ := im_chg (imy2.same sm')
          refine ⟨_, rfl, _, rfl, _, _, rfl, rfl, D, acc, _, _, rfl, rfl, SqL.of (sm' _ _ hacc), atI_nat (j := i + 1) hy2, t2, _, _, _, rfl, rfl, hT2, rfl, _, ?_, rfl, rfl⟩
          rw [ec2]
          exact .int _
        · have q := of_decide_eq_false (Bool.eq_false_iff.mpr q)
          refine ⟨_, ?_, rfl, rfl⟩
          rw [List.getElem?_eq_none (by omega)]
          exact .non
      · rintro _ H3 ⟨en, ien, rfl, rfl⟩
        have e1 : (List.range (i + 1)).foldl (verStep e (chgsOf cs k)) [] = verStep e (chgsOf cs k) vs i := by rw [List.range_succ, List.foldl_append, ← evs]; rfl
        have hvs : vs.length ≤ i := by rw [evs]; exact (verFold (e := e) cok i).2
        have vok : ∀ v ∈ vs, VOk v := by rw [evs]; exact (verFold (e := e) cok i).1
        have hzs := izs.len
        rw [List.length_map] at hzs
        refine ⟨_, rfl, rfl, _, rfl, ?_⟩
        cases hx : c.2.2 with
        | none =>
          refine iteF ⟨vs, zs, _, _, _, _, _, _, _, rfl, sm', hvl', izs, ?_⟩
          rw [e1, verStep, ec]
          simp only [hx]
        | some x =>
          refine iteT ?_
          have tok := okc.txt x hx
          have sS := sA.trans sm'
          refine ⟨_, rfl, _, rfl, s, _, dx, _, _, rfl, sS _ _ h1, T.c_Shelf, T.a_Shelf_endings, sF_e _ _, _, _, rfl, x, e, rfl, tok.len, h2.same sS, he, fun dv H4 s4 idv => ?_⟩
          have sT := sm'.trans s4
          have hv4 := s4 _ _ hvl'
          have iz4 := izs.same s4
          have ien4 := ien.same s4
          have fin : verStep e (chgsOf cs k) vs i = vs ++ [(c.1, ((chgsOf cs k)[i + 1]?).map (·.1), docM e x)] → ∀ q, H4 q = none →
              ∃ (vs : List Ver) (zs' : List V) (p4 p5 p6 p7 p8 p9 p10 : Option V), [some (.ref s), some (.str k), some (.ref D), some (.ref vl), some (.int (i : Int)), some (.int c.1), some (.str c.2.1), some (txV (some x)), some en, some dv, q10] = [some (.ref s), some (.str k), some (.ref D), some (.ref vl), p4, p5, p6, p7, p8, p9, p10] ∧
              Same H2 (upd (upd H4 q (.tup [.int c.1, en, dv])) vl (.lst (zs ++ [.ref q]))) ∧ (upd (upd H4 q (.tup [.int c.1, en, dv])) vl (.lst (zs ++ [.ref q]))) vl = some (.lst zs') ∧ ImAll K (upd (upd H4 q (.tup [.int c.1, en, dv])) vl (.lst (zs ++ [.ref q]))) zs' (vs.map verD) ∧ vs = (List.range (i + 1)).foldl (verStep e (chgsOf cs k)) [] := fun hst q hq => by
            have sq := same_new (o := .tup [.int c.1, en, dv]) hq
            refine ⟨_, _, _, _, _, _, _, _, _, rfl, same_mut (sT.trans sq) hvl, upd_same, ?_, (e1.trans hst).symm⟩
            rw [List.map_append]
            exact ImAll.tp (tp_lst (up hq hv4)) ((iz4.same sq).snoc (.tup (SqT.of upd_same) (.cons (.int _) (.cons (ien4.same sq) (.cons (idv.same sq) .nil)))))
          have hlen : zs.length < sizeLine := sz80 (by omega)
          refine ⟨_, rfl, vl, zs, rfl, .inl (SqL.of hv4), _, _, rfl, rfl, _, rfl, ?_⟩
          rcases List.eq_nil_or_concat vs with rfl | ⟨vs0, v0, rfl⟩
          · rw [decide_eq_false (by rw [hzs]; decide)]
            refine iteF (iteF ⟨_, rfl, .inl ⟨rfl, _, SqL.of hv4⟩, _, rfl, _, rfl, _, rfl, sz3, fun q hq => ⟨vl, zs, _, rfl, rfl, up hq hv4, hlen, fin ?_ q hq⟩⟩)
            rw [verStep, ec]
            simp only [hx]
            rfl
          · rw [List.concat_eq_append] at *
            rw [List.map_append] at iz4
            obtain ⟨zs0, z, rfl, iz0, iz⟩ := ia_snoc iz4
            obtain ⟨tz, xz, rfl, hTz, iaz⟩ := im_tup iz
            obtain ⟨z1, _, rfl, i1, iaz⟩ := ia_cons iaz
            obtain ⟨z2, _, rfl, i2, iaz⟩ := ia_cons iaz
            obtain ⟨z3, _, rfl, i3, iaz⟩ := ia_cons iaz
            obtain rfl := ia_nil iaz
            obtain rfl := im_int i1
            rw [decide_eq_true (by rw [List.length_append, List.length_singleton]; omega)]
            refine iteT ?_
            refine ⟨_, rfl, _, rfl, vl, _, _, _, rfl, rfl, SqL.of hv4, at_last _ _, tz, _, _, _, rfl, rfl, hTz, rfl, _, rfl, ?_⟩
            have gl : (vs0 ++ [v0]).getLast? = some v0 := List.getLast?_concat
            have hst2 : verStep e (chgsOf cs k) (vs0 ++ [v0]) i = if v0.2.1 = some c.1 ∧ PyData.eqv (docD v0.2.2) (docD (docM e x)) = true then vs0 ++ [(v0.1, ((chgsOf cs k)[i + 1]?).map (·.1), docM e x)] else (vs0 ++ [v0]) ++ [(c.1, ((chgsOf cs k)[i + 1]?).map (·.1), docM e x)] := by
              rw [verStep, ec]
              simp only [hx, gl, List.dropLast_concat]
            cases hv1 : v0.2.1 with
            | none =>
              rw [hv1] at i2
              obtain rfl := im_non i2
              refine ⟨rfl, _, rfl, ?_⟩
              rw [decide_eq_false (fun z => nomatch z)]
              refine iteF (iteF ⟨_, rfl, .inl ⟨rfl, _, SqL.of hv4⟩, _, rfl, _, rfl, _, rfl, sz3, fun q hq => ⟨vl, _, _, rfl, rfl, up hq hv4, hlen, fin ?_ q hq⟩⟩)
              rw [hst2, if_neg fun z => by rw [hv1] at z; exact nomatch z.1]
            | some t1 =>
              rw [hv1] at i2
              obtain rfl := im_int i2
              refine ⟨rfl, _, rfl, ?_⟩
              rw [decV]
              by_cases q1 : t1 = c.1
              · rw [decide_eq_true q1]
                refine iteT ?_
                refine ⟨_, rfl, _, rfl, vl, _, _, _, rfl, rfl, SqL.of hv4, at_last _ _, tz, _, _, _, rfl, rfl, hTz, rfl, _, rfl, docD v0.2.2, docD (docM e x), Im.dp _ _ i3, Im.dp _ _ idv, doc_shaped (vok v0 (List.mem_append_right _ (List.mem_singleton.mpr rfl))).1, doc_shaped (docM_wok e x), _, rfl, ?_⟩
                refine ite2 (fun q2 => ?_) (fun q2 => ?_)
                · refine ⟨_, rfl, _, rfl, vl, _, _, _, rfl, rfl, SqL.of hv4, at_last _ _, tz, _, _, _, rfl, rfl, hTz, rfl, _, rfl, _, rfl, sz3, fun q hq => ⟨_, rfl, _, rfl, vl, _, _, _, rfl, rfl, up hq hv4, ix_last _ _, ?_⟩⟩
                  have sq := same_new (o := .tup [.int v0.1, en, dv]) hq
                  refine ⟨vs0 ++ [(v0.1, ((chgsOf cs k)[i + 1]?).map (·.1), docM e x)], _, _, _, _, _, _, _, _, rfl, same_mut (sT.trans sq) hvl, upd_same, ?_, ?_⟩
                  · rw [set_last, List.map_append]
                    exact ImAll.tp (tp_lst (up hq hv4)) ((iz0.same sq).snoc (.tup (SqT.of upd_same) (.cons (.int _) (.cons (ien4.same sq) (.cons (idv.same sq) .nil)))))
                  · rw [e1, hst2, if_pos ⟨by rw [hv1, q1], q2⟩]
                · refine ⟨_, rfl, .inl ⟨rfl, _, SqL.of hv4⟩, _, rfl, _, rfl, _, rfl, sz3, fun q hq => ⟨vl, _, _, rfl, rfl, up hq hv4, hlen, fin ?_ q hq⟩⟩
                  rw [hst2, if_neg fun z => q2 z.2]
              · rw [decide_eq_false q1]
                refine iteF (iteF ⟨_, rfl, .inl ⟨rfl, _, SqL.of hv4⟩, _, rfl, _, rfl, _, rfl, sz3, fun q hq => ⟨vl, _, _, rfl, rfl, up hq hv4, hlen, fin ?_ q hq⟩⟩)
                rw [hst2, if_neg fun z => by rw [hv1] at z; exact q1 (Option.some.inj z.1)]
    · rintro σ H' ⟨vs, zs, q4, q5, q6, q7, q8, q9, q10, rfl, sm', hvl', izs, evs⟩
      have e2 : vs = histM e cs k := by rw [evs, hal]; rfl
      exact ⟨_, rfl, kk vl zs H' (none_of_same sA hvl) (sA.trans sm') hvl' (e2 ▸ izs)⟩
end
end K46

set_option maxHeartbeats 2000000
namespace K46
open PySem PySem.Spec PyProof.Rows L2
/-! ### the plain answer -/
def tlStep (q : Qn) (tl : List Int) (v : Ver) : List Int := if matchM v.2.2 q = true then joinM tl (spanM v.1 v.2.1) else tl
def tlM (e : List (Str × Int)) (cs : List Chg) (q : Qn) (k : Str) : List Int := (histM e cs k).foldl (tlStep q) []
def putA (m : List (Str × List Int)) (k : Str) (tl : List Int) : List (Str × List Int) := if m.any (fun x => decide (x.1 = k)) = true then m.map (fun x => if x.1 = k then (x.1, tl) else x) else m ++ [(k, tl)]
def ansStep (e : List (Str × Int)) (cs : List Chg) (q : Qn) (m : List (Str × List Int)) (k : Str) : List (Str × List Int) := if 0 < (tlM e cs q k).length then putA m k (tlM e cs q k) else m
def ansM (e : List (Str × Int)) (cs : List Chg) (q : Qn) : List (Str × List Int) := (knownM cs).foldl (ansStep e cs q) []
theorem tlStep_len (q : Qn) (tl : List Int) (v : Ver) : (tlStep q tl v).length ≤ tl.length + 2 := by
  unfold tlStep
  split
  · have h1 := joinM_len tl (spanM v.1 v.2.1)
    have h2 : (spanM v.1 v.2.1).length ≤ 2 := by cases v.2.1 <;> simp [spanM]
    omega
  · omega
theorem tlFold_len (q : Qn) : ∀ (vs : List Ver) (tl : List Int), (vs.foldl (tlStep q) tl).length ≤ tl.length + 2 * vs.length
  | [], _ => Nat.le_refl _
  | v :: vs, tl => by
    have h1 := tlFold_len q vs (tlStep q tl v)
    have h2 := tlStep_len q tl v
    rw [List.foldl_cons, List.length_cons]
    omega
def AnsAt (K : PySem.W.Frag) (H : Hp) (kvs : List (Key × V)) (m : List (Str × List Int)) : Prop := Paired (fun (p : Key × V) (r : Str × List Int) => p.1 = .inr r.1 ∧ Im K H p.2 (tlD r.2)) kvs m
theorem AnsAt.tp {K : PySem.W.Frag} {H H' : Hp} (t : Tp H H') : ∀ {kvs : List (Key × V)} {m : List (Str × List Int)}, AnsAt K H kvs m → AnsAt K H' kvs m
  | _, _, .nil => .nil
  | _, _, .cons h r => .cons ⟨h.1, h.2.tp t⟩ (AnsAt.tp t r)
theorem AnsAt.any {K : PySem.W.Frag} {H : Hp} (k : Str) : ∀ {kvs : List (Key × V)} {m : List (Str × List Int)}, AnsAt K H kvs m → (kvs.any fun kv => decide (kv.1 = (.inr k : Key))) = m.any fun x => decide (x.1 = k)
  | _, _, .nil => rfl
  | p :: _, r :: _, .cons h t => by
    rw [List.any_cons, List.any_cons, AnsAt.any k t]
    congr 1
    rw [h.1]
    by_cases q : r.1 = k
    · rw [decide_eq_true q, decide_eq_true (by rw [q])]
    · rw [decide_eq_false q, decide_eq_false fun z => q (Sum.inr.inj z)]
theorem AnsAt.snoc {K : PySem.W.Frag} {H : Hp} {k : Str} {v : V} {tl : List Int} (hv : Im K H v (tlD tl)) : ∀ {kvs : List (Key × V)} {m : List (Str × List Int)}, AnsAt K H kvs m → AnsAt K H (kvs ++ [(.inr k, v)]) (m ++ [(k, tl)])
  | _, _, .nil => .cons ⟨rfl, hv⟩ .nil
  | _, _, .cons h t => .cons h (AnsAt.snoc hv t)
theorem AnsAt.over {K : PySem.W.Frag} {H : Hp} {k : Str} {v : V} {tl : List Int} (hv : Im K H v (tlD tl)) : ∀ {kvs : List (Key × V)} {m : List (Str × List Int)}, AnsAt K H kvs m →
    AnsAt K H (kvs.map fun kv => if kv.1 = (.inr k : Key) then (kv.1, v) else kv) (m.map fun x => if x.1 = k then (x.1, tl) else x)
  | _, _, .nil => .nil
  | p :: _, r :: _, .cons h t => by
    refine .cons ?_ (AnsAt.over hv t)
    show (if p.1 = (.inr k : Key) then (p.1, v) else p).1 = .inr (if r.1 = k then (r.1, tl) else r).1 ∧ Im K H (if p.1 = (.inr k : Key) then (p.1, v) else p).2 (tlD (if r.1 = k then (r.1, tl) else r).2)
    by_cases q : r.1 = k
    · rw [if_pos q, if_pos (by rw [h.1, q])]
      exact ⟨h.1, hv⟩
    · rw [if_neg q, if_neg (by rw [h.1]; exact fun z => q (Sum.inr.inj z))]
      exact h
theorem AnsAt.put {K : PySem.W.Frag} {H : Hp} {k : Str} {v : V} {tl : List Int} {kvs : List (Key × V)} {m : List (Str × List Int)} (h : AnsAt K H kvs m) (hv : Im K H v (tlD tl)) : AnsAt K H (putK kvs (.inr k) v) (putA m k tl) := by
  unfold putK putA
  rw [AnsAt.any k h]
  by_cases q : (m.any fun x => decide (x.1 = k)) = true
  · rw [if_pos q, if_pos q]; exact AnsAt.over hv h
  · rw [if_neg q, if_neg q]; exact AnsAt.snoc hv h
theorem putK_nodup {kvs : List (Key × V)} {k : Key} {v : V} (h : (kvs.map (·.1)).Nodup) : ((putK kvs k v).map (·.1)).Nodup := by
  unfold putK
  by_cases q : (kvs.any fun kv => decide (kv.1 = k)) = true
  · rw [if_pos q, List.map_map]
    have e : ((fun x : Key × V => x.1) ∘ fun kv => if kv.1 = k then (kv.1, v) else kv) = fun x => x.1 := by
      funext x
      show (if x.1 = k then (x.1, v) else x).1 = x.1
      split <;> rfl
    rw [e]; exact h
  · rw [if_neg q, List.map_append, List.nodup_append]
    refine ⟨h, List.nodup_cons.mpr ⟨fun z => (nomatch z), List.nodup_nil⟩, fun a ha b hb e => ?_⟩
    obtain ⟨x, hx, rfl⟩ := List.mem_map.mp ha
    have hb : b = k := by simpa using hb
    exact q (List.any_eq_true.mpr ⟨x, hx, decide_eq_true (e.trans hb)⟩)
theorem tl_depth : ∀ (l : List Int), PyData.depthAll (l.map .int) = 0 := PySem.W.depth_ints
theorem tl_lay : ∀ (l : List Int), PyData.canLayAll0 (l.map .int) = true
  | [] => rfl
  | x :: l => by
    show (PyData.canLay0 (.int x) && PyData.canLayAll0 (l.map .int)) = true
    rw [tl_lay l]; rfl
theorem tlD_depth (l : List Int) : (tlD l).depth ≤ 60 := by
  show PyData.depthAll (l.map .int) + 1 ≤ 60
  rw [tl_depth]; decide
theorem tlD_shaped (l : List Int) : SeqAt.shaped (tlD l) = true := by
  unfold SeqAt.shaped
  rw [Bool.and_eq_true]
  exact ⟨tl_lay l, decide_eq_true (Nat.le_trans (tlD_depth l) (by decide))⟩
/-- two answers made alike are == -/
theorem ans_alike {K : PySem.W.Frag} {H : Hp} : ∀ {m : List (Str × List Int)} {ks ls : List (Key × V)}, AnsAt K H ks m → AnsAt K H ls m → (ks.map (·.1)).Nodup →
    ∀ p ∈ ks, ∃ u d, valV ls p.1 = some u ∧ Dp K H p.2 d ∧ Dp K H u d ∧ SeqAt.shaped d = true ∧ d.depth ≤ 60
  | [], _, _, .nil, _, _, _, h => nomatch h
  | r :: m, k :: ks, l :: ls, .cons a1 a2, .cons b1 b2, nd, p, h => by
    rw [List.map_cons, List.nodup_cons] at nd
    rcases List.mem_cons.mp h with rfl | h
    · exact ⟨l.2, tlD r.2, valV_pos (b1.1.trans a1.1.symm), Im.dp _ _ a1.2, Im.dp _ _ b1.2, tlD_shaped _, tlD_depth _⟩
    · obtain ⟨u, d, e, q⟩ := ans_alike a2 b2 nd.2 p h
      refine ⟨u, d, ?_, q⟩
      rw [valV_neg fun z => nd.1 (List.mem_map.mpr ⟨p, h, ?_⟩)]
      · exact e
      · rw [← z, b1.1, a1.1]
theorem AnsAt.len {K : PySem.W.Frag} {H : Hp} {ks : List (Key × V)} {m : List (Str × List Int)} (h : AnsAt K H ks m) : ks.length = m.length := Paired.length h
theorem putA_len (m : List (Str × List Int)) (k : Str) (tl : List Int) : (putA m k tl).length ≤ m.length + 1 := by
  unfold putA
  split
  · rw [List.length_map]; omega
  · rw [List.length_append]; exact Nat.le_refl _
theorem ansFold_len (e : List (Str × Int)) (cs : List Chg) (q : Qn) : ∀ (ks : List Str) (m : List (Str × List Int)), (ks.foldl (ansStep e cs q) m).length ≤ m.length + ks.length
  | [], _ => Nat.le_refl _
  | k :: ks, m => by
    have h1 := ansFold_len e cs q ks (ansStep e cs q m k)
    have h2 : (ansStep e cs q m k).length ≤ m.length + 1 := by
      unfold ansStep
      split
      · exact putA_len _ _ _
      · omega
    rw [List.foldl_cons, List.length_cons]
    omega
theorem ShelfAt.but {K : PySem.W.Frag} {H H' : Hp} {a l d : Addr} {e : List (Str × Int)} {cs : List Chg} (h : ShelfAt K H a e cs l) (b : But d H H') (n1 : a ≠ d) (n2 : l ≠ d) : ShelfAt K H' a e cs l := by
  obtain ⟨dx, v, xs, h1, h2, h3, h4⟩ := h
  exact ⟨dx, v, xs, b.same _ _ n1 h1, h2.tp b.tp, b.same _ _ n2 h3, h4.tp b.tp⟩
theorem im_ver {K : PySem.W.Frag} {H : Hp} {v : V} {c : Ver} (h : Im K H v (verD c)) : ∃ a x y, v = .ref a ∧ SqT K H a [.int c.1, x, y] ∧ Im K H x (optI c.2.1) ∧ Im K H y (docD c.2.2) := by
  obtain ⟨a, xs, rfl, hT, ia⟩ := im_tup h
  obtain ⟨v1, xs1, rfl, i1, ia⟩ := ia_cons ia
  obtain ⟨v2, xs2, rfl, i2, ia⟩ := ia_cons ia
  obtain ⟨v3, xs3, rfl, i3, ia⟩ := ia_cons ia
  obtain rfl := ia_nil ia
  obtain rfl := im_int i1
  exact ⟨a, v2, v3, rfl, hT, i2, i3⟩
section
variable {P : Program} {w : World} {K : PySem.W.Frag} {mg : Str → Option Value} {base : Heap}
def spAnswer (K : PySem.W.Frag) : Sp := sp2 fun a b H Q => ∃ s e cs l q, a = .ref s ∧ ShelfAt K H s e cs l ∧ cs.length ≤ 80 ∧ EndOk e ∧ (∀ c ∈ cs, ChgOk c) ∧ Im K H b q.dat ∧ q.Ok ∧ q.dep ≤ 3 ∧
  ∀ d kvs H', H d = none → Same H H' → H' d = some (.dK kvs) → AnsAt K H' kvs (ansM e cs q) → (kvs.map (·.1)).Nodup → Q (.ref d) H'
abbrev N_S_plain_answer : List Str := ["self", "question", "answer", "key", "timeline", "start", "end", "document"]
theorem sc_S_plain_answer : FnScope N_S_plain_answer ["self", "question"] (defScope s_S_plain_answer) := ⟨rfl, rfl, rfl, by decide +kernel, rfl, by decide +kernel, by decide +kernel⟩
theorem ok_S_plain_answer (T : Ctx K mg) (o_S_known_keys : Ok P w K mg base 1 (He.ma K (He.ga K "Shelf") "known_keys") ["self"] (spKnown K)) (o_S_history : Ok P w K mg base 3 (He.ma K (He.ga K "Shelf") "history") ["self", "key"] (spHist K)) (o_matches : Ok P w K mg base 6 (He.ga K "matches") ["document", "question"] (spMatches K 4)) (o_join : Ok P w K mg base 3 (He.ga K "join") ["one", "other"] (spJoin K)) (o_of_span : Ok P w K mg base 1 (He.ga K "of_span") ["start", "end"] (spSpan K)) : Ok P w K mg base 7 (He.ma K (He.ga K "Shelf") "plain_answer") ["self", "question"] (spAnswer K) := by
  refine okF T.d_S_plain_answer sc_S_plain_answer len2 (fun _ _ _ _ _ _ us hl => match us, hl with | [_, _], _ => rfl) (fun cdv A outer s H vs Q E hr h => ?_)
  obtain ⟨fd_S_history, F_S_history, b_S_history⟩ := o_S_history.ex
  obtain ⟨fd_S_known_keys, F_S_known_keys, b_S_known_keys⟩ := o_S_known_keys.ex
  obtain ⟨fd_join, F_join, b_join⟩ := o_join.ex
  obtain ⟨fd_matches, F_matches, b_matches⟩ := o_matches.ex
  obtain ⟨fd_of_span, F_of_span, b_of_span⟩ := o_of_span.ex
  have hu := hu_of hr
  refine ⟨_,
      (pss_cons (ps_set (i := 2) sc_S_plain_answer.nd rfl (Or.inl rfl) pe_dnewK)
      (pss_cons (ps_for PassesOwn.never rfl (pi_list (pe_meth0 (pv 0) T.c_Shelf T.m_Shelf_known_keys F_S_known_keys (hr.mono (by decide)) b_S_known_keys .nil pass0)) (pg_name (i := 3) sc_S_plain_answer.nd rfl (Or.inl rfl))
        (pss_cons (ps_set (i := 4) sc_S_plain_answer.nd rfl (Or.inl rfl) (pe_tup pa_nil))
        (pss_cons (ps_for PassesOwn.never rfl (pi_list (pe_meth (pv 0) T.c_Shelf T.m_Shelf_history F_S_history (hr.mono (by decide)) b_S_history .nil pass0 (pa_cons (pv 3) pa_nil))) (pg_tup (by rfl) (pgs_cons (pg_name (i := 5) sc_S_plain_answer.nd rfl (Or.inl rfl)) (pgs_cons (pg_name (i := 6) sc_S_plain_answer.nd rfl (Or.inl rfl)) (pgs_cons (pg_name (i := 7) sc_S_plain_answer.nd rfl (Or.inl rfl)) pgs_nil))))
          (pss_one (ps_if (pt_val (pe_call F_matches (hr.mono (by decide)) (by rfl) T.g_matches o_matches.kp b_matches .nil pass0 (pa_cons (pv 7) (pa_cons (pv 1) pa_nil))))
            (pss_one (ps_set (i := 4) sc_S_plain_answer.nd rfl (Or.inl rfl) (pe_call F_join (hr.mono (by decide)) (by rfl) T.g_join o_join.kp b_join .nil pass0 (pa_cons (pv 4) (pa_cons (pe_call F_of_span (hr.mono (by decide)) (by rfl) T.g_of_span o_of_span.kp b_of_span .nil pass0 (pa_cons (pv 5) (pa_cons (pv 6) pa_nil))) pa_nil)))))
            pss_nil)))
        (pss_one (ps_if (pt_cmpR op_gt (pe_callB call_len_seq (by rfl) T.n_len (by decide +kernel) (pa_cons (pv 4) pa_nil)) pe_int (nomark _))
          (pss_one (ps_dput hu (pv 2) (pv 3) (pv 4) rfl))
          pss_nil)))))
      (pss_one (ps_ret (pv 2))))), ?_⟩
  obtain ⟨_, qv, rfl, s, e, cs, l, q, rfl, hS, hn, he, hc, iq, qok, qd, kk⟩ := h
  obtain ⟨dx, v, xs, h1, h2, h3, h4⟩ := id hS
  refine fun d hd => ?_
  have s0 := same_new (o := .dK []) hd
  refine ⟨_, rfl, s, dx, _, rfl, s0 _ _ h1, sF_no _ _ (by decide +kernel) (by decide +kernel), _, rfl, s, e, cs, l, rfl, hS.same s0, hn, fun p ks H1 np s1 hp ik => ?_⟩
  obtain rfl := ia_strs ik
  have hd1 : H1 d = some (.dK []) := s1 _ _ upd_same
  have sA := s0.trans s1
  refine ⟨p, rfl, ⟨_, SqL.of hp⟩, for_list (K := K) (a := p) (xs := (knownM cs).map V.str) (fun i σ H' => ∃ (kvs : List (Key × V)) (m : List (Str × List Int)) (q3 q4 q5 q6 q7 : Option V), σ = [some (.ref s), some qv, some (.ref d), q3, q4, q5, q6, q7] ∧ But d H1 H' ∧ H' d = some (.dK kvs) ∧ AnsAt K H' kvs m ∧ (kvs.map (·.1)).Nodup ∧ m = ((knownM cs).take i).foldl (ansStep e cs q) [])
    ⟨[], [], none, none, none, none, none, rfl, but_same (Same.refl _) d, hd1, .nil, List.nodup_nil, rfl⟩ (fun i σ H' _ ⟨_, _, _, _, _, _, _, _, b, _⟩ => SqL.of (b.same _ _ (ne_of hp hd1 (fun z => nomatch z)) hp)) ?_ ?_⟩
  · rintro i y σ H' hy ⟨kvs, m, q3, q4, q5, q6, q7, rfl, b, hdk, ans, nd, em⟩
    obtain ⟨k, ek, rfl⟩ := at_map hy
    have hkm : k ∈ knownM cs := List.mem_of_getElem? ek
    have e1 : ((knownM cs).take (i + 1)).foldl (ansStep e cs q) [] = ansStep e cs q m k := by rw [take_succ_of ek, List.foldl_append, ← em]; rfl
    have nS : s ≠ d := ne_of (sA _ _ h1) hd1 (fun z => nomatch z)
    have nL : l ≠ d := ne_of (sA _ _ h3) hd1 (fun z => nomatch z)
    have hS' := (hS.same sA).but b nS nL
    refine ⟨Nat.zero_le _, fun t0 ht0 => ?_⟩
    have st := same_new (o := .tup []) ht0
    obtain ⟨dx', v', xs', g1, _⟩ := id (hS'.same st)
    refine ⟨_, rfl, s, dx', _, rfl, g1, sF_no _ _ (by decide +kernel) (by decide +kernel), _, rfl, _, _, rfl, s, e, cs, l, k, rfl, rfl, hS'.same st, hn, he, hc, known_counted hkm, fun hl zs H2 n2 s2 hh ih => ?_⟩
    refine ⟨hl, rfl, ⟨_, SqL.of hh⟩, for_list (K := K) (a := hl) (xs := zs) (fun j σ H3 => ∃ (tl : List Int) (tv : V) (q5 q6 q7 : Option V), σ = [some (.ref s), some qv, some (.ref d), some (.str k), some tv, q5, q6, q7] ∧ Same H2 H3 ∧ Im K H3 tv (tlD tl) ∧ tl = ((histM e cs k).take j).foldl (tlStep q) [])
      ⟨[], .ref t0, q5, q6, q7, rfl, Same.refl _, (Im.tup (SqT.of upd_same) .nil : Im K _ (.ref t0) (tlD [])).same s2, rfl⟩ (fun j σ H3 _ ⟨_, _, _, _, _, _, sm, _⟩ => SqL.of (sm _ _ hh)) ?_ ?_⟩
    · rintro j y σ H3 hy ⟨tl, tv, q5, q6, q7, rfl, sm, itl, etl⟩
      obtain ⟨_, hd2, imy⟩ := ih.get hy
      obtain ⟨v, ev, rfl⟩ := at_map hd2
      obtain ⟨t, x2, x3, rfl, hT, i2, i3⟩ := im_ver (imy.same sm)
      have e2 : ((histM e cs k).take (j + 1)).foldl (tlStep q) [] = tlStep q tl v := by rw [take_succ_of ev, List.foldl_append, ← etl]; rfl
      have hok := histM_ok e hc k
      have vok := hok.1 v (List.mem_of_getElem? ev)
      have hj := (List.getElem?_eq_some_iff.mp ev).1
      have htl : tl.length ≤ 160 := by
        have h1 := tlFold_len q ((histM e cs k).take j) []
        rw [← etl, List.length_take, List.length_nil] at h1
        omega
      have sB : Same H1 H1 := Same.refl _
      have iq3 : Im K H3 qv q.dat := (((iq.same sA).tp b.tp).same (st.trans s2)).same sm
      refine ⟨t, _, rfl, hT, rfl, _, _, rfl, _, _, rfl, _, _, rfl, rfl, ?_⟩
      refine ⟨_, rfl, _, rfl, _, _, rfl, v.2.2, q, i3, by have := vok.2; omega, iq3, qok, by omega, fun H5 s5 => ⟨_, rfl, ite2 (fun c => ?_) (fun c => ?_)⟩⟩
      · refine ⟨_, rfl, _, rfl, _, rfl, _, _, rfl, v.1, v.2.1, rfl, i2.same s5, fun sv H6 s6 isv => ?_⟩
        have hsp : (spanM v.1 v.2.1).length ≤ 2 := by cases v.2.1 <;> simp [spanM]
        refine ⟨_, _, rfl, tl, spanM v.1 v.2.1, (itl.same s5).same s6, isv, by omega, fun tv2 H7 s7 itv => ?_⟩
        refine ⟨_, tv2, _, _, _, rfl, ((sm.trans s5).trans s6).trans s7, itv, ?_⟩
        rw [e2, tlStep, if_pos c]
      · refine ⟨tl, tv, _, _, _, rfl, sm.trans s5, itl.same s5, ?_⟩
        rw [e2, tlStep, if_neg c]
    · rintro σ H3 ⟨tl, tv, q5, q6, q7, rfl, sm, itl, etl⟩
      have hzs := ih.len
      rw [List.length_map] at hzs
      rw [List.take_of_length_le (by omega)] at etl
      have etl : tl = tlM e cs q k := etl
      obtain ⟨ta, tx, rfl, hTt, iat⟩ := im_tup itl
      obtain rfl := ia_ints iat
      have s3 := (st.trans s2).trans sm
      have b3 : But d H1 H3 := b.trans (but_same s3 d)
      have hd3 := s3 _ _ hdk
      refine ⟨_, rfl, ta, _, rfl, .inr hTt, _, _, rfl, rfl, _, rfl, ite2 (fun c => ?_) (fun c => ?_)⟩
      · have c := of_decide_eq_true c
        rw [List.length_map] at c
        refine ⟨_, rfl, _, rfl, _, rfl, d, _, rfl, DPut.k (k := .inr k) hd3 ?_, ?_⟩
        · rw [ans.len, em]
          have h1 := ansFold_len e cs q ((knownM cs).take i) []
          have h2 := knownM_len cs
          rw [List.length_take, List.length_nil] at h1
          exact sz80 (by omega)
        · have bt : But d H3 (upd H3 d (.dK (putK kvs (.inr k) (.ref ta)))) := ⟨fun c o n e => (upd_ne n).trans e, tp_dK hd3⟩
          refine ⟨_, _, _, _, _, _, _, rfl, b3.trans bt, upd_same, AnsAt.put ((ans.tp (tp_same s3)).tp bt.tp) (itl.tp bt.tp), putK_nodup nd, ?_⟩
          rw [e1, ansStep, if_pos (by rw [← etl]; omega), etl]
      · have c := of_decide_eq_false (Bool.eq_false_iff.mpr c)
        rw [List.length_map] at c
        refine ⟨kvs, m, _, _, _, _, _, rfl, b3, hd3, ans.tp (tp_same s3), nd, ?_⟩
        rw [e1, ansStep, if_neg (by rw [← etl]; omega)]
  · rintro σ H' ⟨kvs, m, q3, q4, q5, q6, q7, rfl, b, hdk, ans, nd, em⟩
    rw [List.take_of_length_le (by rw [List.length_map]; exact Nat.le_refl _)] at em
    exact ⟨_, rfl, kk d kvs H' hd (But.fresh sA hd b) hdk (by rw [ansM, ← em]; exact ans) nd⟩
end
end K46

set_option maxHeartbeats 2000000
namespace K46
open PySem PySem.Spec PyProof.Rows L2
/-! ### tellings -/
abbrev Tel := Int × Int × Chg
def telD (t : Tel) : PyData := .tuple [.int t.1, .int t.2.1, chgD t.2.2]
def tkD (t : Tel) : PyData := .tuple [.int t.1, .int t.2.1]
theorem im_tel {K : PySem.W.Frag} {H : Hp} {v : V} {t : Tel} (h : Im K H v (telD t)) : ∃ a c, v = .ref a ∧ SqT K H a [.int t.1, .int t.2.1, c] ∧ Im K H c (chgD t.2.2) := by
  obtain ⟨a, xs, rfl, hT, ia⟩ := im_tup h
  obtain ⟨v1, xs1, rfl, i1, ia⟩ := ia_cons ia
  obtain ⟨v2, xs2, rfl, i2, ia⟩ := ia_cons ia
  obtain ⟨v3, xs3, rfl, i3, ia⟩ := ia_cons ia
  obtain rfl := ia_nil ia
  obtain rfl := im_int i1
  obtain rfl := im_int i2
  exact ⟨a, v3, rfl, hT, i3⟩
theorem cut2 (x y z : V) : cutV [x, y, z] none (some 2) = [x, y] := rfl
theorem cut2n (x y z : V) : ¬ (HT.sIx [x, y, z].length 0 none = 0 ∧ HT.sIx [x, y, z].length [x, y, z].length (some 2) = [x, y, z].length) := by
  show ¬ (HT.sIx 3 0 none = 0 ∧ HT.sIx 3 3 (some 2) = 3)
  decide
theorem tkD_le : PySem.W.dataLe false tkD = fun a b : Tel => lexLe (tk a) (tk b) := by
  have h := PySem.W.dataLe_ii (β := Tel) (fun t => t.1) (fun t => t.2.1)
  show PySem.W.dataLe false (fun t : Tel => .tuple [.int t.1, .int t.2.1]) = _
  rw [h]
  funext a b
  unfold lexLe tk
  by_cases h1 : a.1 < b.1 <;> by_cases h2 : a.1 = b.1 <;> by_cases h3 : a.2.1 ≤ b.2.1 <;> simp [h1, h2, h3]
theorem tel_sorted {K : PySem.W.Frag} {H : Hp} {zs : List (V × Tel)} (h : ∀ z ∈ zs, Im K H z.1 (telD z.2)) : ImAll K H ((srtD (zs.map fun z => (z.1, tkD z.2))).map (·.1)) ((sortT (zs.map (·.2))).map telD) := by
  have e1 : srtD (zs.map fun z => (z.1, tkD z.2)) = (zs.mergeSort (PySem.W.dataLe false fun z => tkD z.2)).map fun z => (z.1, tkD z.2) := (List.map_mergeSort (f := fun z : V × Tel => (z.1, tkD z.2)) (l := zs) (r := PySem.W.dataLe false fun z : V × Tel => tkD z.2) (s := PySem.W.dataLe false fun z : V × PyData => z.2) fun _ _ _ _ => rfl).symm
  have e2 : sortT (zs.map (·.2)) = (zs.mergeSort (PySem.W.dataLe false fun z => tkD z.2)).map (·.2) := by
    unfold sortT
    rw [← tkD_le]
    exact (List.map_mergeSort (f := fun z : V × Tel => z.2) (l := zs) (r := PySem.W.dataLe false fun z : V × Tel => tkD z.2) (s := PySem.W.dataLe false tkD) fun _ _ _ _ => rfl).symm
  rw [e1, e2, List.map_map, List.map_map]
  have gen : ∀ {ys : List (V × Tel)}, (∀ z ∈ ys, Im K H z.1 (telD z.2)) → ImAll K H (ys.map ((fun x : V × PyData => x.1) ∘ fun z => (z.1, tkD z.2))) (ys.map (telD ∘ fun z => z.2)) := by
    intro ys
    induction ys with
    | nil => intro _; exact .nil
    | cons y ys ih => intro h; exact .cons (h y (List.mem_cons_self ..)) (ih fun z m => h z (List.mem_cons_of_mem _ m))
  exact gen fun z m => h z (List.mem_mergeSort.mp m)
theorem zip_tel {K : PySem.W.Frag} {H : Hp} : ∀ {ts : List Tel} {xs : List V}, ImAll K H xs (ts.map telD) → ∃ zs : List (V × Tel), zs.map (·.1) = xs ∧ zs.map (·.2) = ts ∧ ∀ z ∈ zs, Im K H z.1 (telD z.2)
  | [], _, h => by cases h; exact ⟨[], rfl, rfl, fun _ m => nomatch m⟩
  | t :: ts, _, h => by
    cases h with
    | cons h1 h2 =>
      obtain ⟨zs, e1, e2, e3⟩ := zip_tel h2
      refine ⟨(_, t) :: zs, by rw [List.map_cons, e1], by rw [List.map_cons, e2], fun z m => ?_⟩
      rcases List.mem_cons.mp m with rfl | m
      · exact h1
      · exact e3 z m
theorem tkD_alike {ts : List Tel} : PySem.W.AllAlike (ts.map tkD) := PySem.W.AllAlike.of fun _ _ => by simp [tkD, PySem.W.alike, PySem.W.alikeAll]
theorem tkD_sortable {ts : List Tel} : PySem.W.Sortable (ts.map tkD) := PySem.W.Sortable.tuples fun c => ⟨.int c.1, [.int c.2.1], rfl⟩
theorem tkD_depth (c : Tel) : (tkD c).depth ≤ 50 := by simp [tkD, PyData.depth, PyData.depthAll]
/-! the stamps' dict -/
def tKey (t : Tel) : List Key := [.inl t.1, .inl t.2.1]
theorem tKey_iff {a b : Tel} : tKey a = tKey b ↔ tk a = tk b := by
  unfold tKey tk
  refine ⟨fun h => ?_, fun h => by rw [(Prod.mk.inj h).1, (Prod.mk.inj h).2]⟩
  injection h with h1 h2
  injection h2 with h2
  rw [Sum.inl.inj h1, Sum.inl.inj h2]
def StAt (K : PySem.W.Frag) (H : Hp) (kvs : List (List Key × V)) (ts : List Tel) : Prop := Paired (fun (p : List Key × V) (t : Tel) => p.1 = tKey t ∧ Im K H p.2 (chgD t.2.2)) kvs ts
theorem StAt.tp {K : PySem.W.Frag} {H H' : Hp} (t : Tp H H') : ∀ {kvs : List (List Key × V)} {m : List Tel}, StAt K H kvs m → StAt K H' kvs m
  | _, _, .nil => .nil
  | _, _, .cons h r => .cons ⟨h.1, h.2.tp t⟩ (StAt.tp t r)
theorem StAt.snoc {K : PySem.W.Frag} {H : Hp} {t : Tel} {v : V} (hv : Im K H v (chgD t.2.2)) : ∀ {kvs : List (List Key × V)} {m : List Tel}, StAt K H kvs m → StAt K H (kvs ++ [(tKey t, v)]) (m ++ [t])
  | _, _, .nil => .cons ⟨rfl, hv⟩ .nil
  | _, _, .cons h r => .cons h (StAt.snoc hv r)
theorem StAt.none {K : PySem.W.Frag} {H : Hp} {t : Tel} : ∀ {kvs : List (List Key × V)} {m : List Tel}, StAt K H kvs m → tk t ∉ m.map tk → valV kvs (tKey t) = none
  | _, _, .nil, _ => rfl
  | p :: _, u :: _, .cons h r, n => by
    rw [List.map_cons, List.mem_cons, not_or] at n
    rw [valV_neg fun z => n.1 (tKey_iff.mp (z.symm.trans h.1))]
    exact StAt.none r n.2
theorem StAt.some {K : PySem.W.Frag} {H : Hp} {t : Tel} : ∀ {kvs : List (List Key × V)} {m : List Tel}, StAt K H kvs m → tk t ∈ m.map tk → ∃ u ∈ m, tk u = tk t ∧ ∃ v, valV kvs (tKey t) = some v ∧ Im K H v (chgD u.2.2)
  | _, _, .nil, h => nomatch h
  | p :: _, u :: _, .cons h r, n => by
    by_cases q : tk u = tk t
    · exact ⟨u, List.mem_cons_self .., q, p.2, valV_pos (h.1.trans (tKey_iff.mpr q)), h.2⟩
    · rw [List.map_cons, List.mem_cons] at n
      obtain ⟨w, hw, e, v, e1, e2⟩ := StAt.some r (n.resolve_left fun z => q z.symm)
      exact ⟨w, List.mem_cons_of_mem _ hw, e, v, by rw [valV_neg fun z => q (tKey_iff.mp (h.1.symm.trans z))]; exact e1, e2⟩
theorem StAt.len {K : PySem.W.Frag} {H : Hp} {ks : List (List Key × V)} {m : List Tel} (h : StAt K H ks m) : ks.length = m.length := Paired.length h
theorem putK_new {kvs : List (List Key × V)} {k : List Key} {v : V} (h : valV kvs k = none) : putK kvs k v = kvs ++ [(k, v)] := by
  unfold putK
  rw [valV_any, h]
  exact if_neg (by decide)
theorem putK_len {κ : Type} [DecidableEq κ] (kvs : List (κ × V)) (k : κ) (v : V) : (putK kvs k v).length ≤ kvs.length + 1 := by
  unfold putK
  split
  · rw [List.length_map]; omega
  · rw [List.length_append]; exact Nat.le_refl _
section
variable {P : Program} {w : World} {K : PySem.W.Frag} {mg : Str → Option Value} {base : Heap}
def spOrderKey (K : PySem.W.Frag) : Sp := sp1 fun a H Q => ∃ t, Im K H a (telD t) ∧ RetD K H (tkD t) Q
abbrev N_order_key : List Str := ["telling"]
theorem sc_order_key : FnScope N_order_key ["telling"] (defScope s_order_key) := ⟨rfl, rfl, rfl, by decide +kernel, rfl, by decide +kernel, by decide +kernel⟩
theorem ok_order_key (T : Ctx K mg) : Ok P w K mg base 1 (He.ga K "order_key") ["telling"] (spOrderKey K) := by
  refine okF T.d_order_key sc_order_key len1 (fun _ _ _ _ _ _ us hl => match us, hl with | [_], _ => rfl) (fun cdv A outer s H vs Q E hr h => ?_)
  refine ⟨_,
      (pss_one (ps_ret (pe_slice sl_tup (pv 0) po_none (po_some pe_int)))), ?_⟩
  obtain ⟨_, rfl, t, im, kk⟩ := h
  obtain ⟨a, c, rfl, hT, ic⟩ := im_tel im
  refine ⟨_, rfl, _, rfl, a, _, rfl, hT, cut2n _ _ _, fun p hp => ?_⟩
  rw [cut2]
  exact kk _ _ (same_new hp) (.tup (SqT.of upd_same) (.cons (.int _) (.cons (.int _) .nil)))
def spInOrder (K : PySem.W.Frag) : Sp := sp1 fun a H Q => ∃ (l : Addr) (xs : List V) (ts : List Tel), a = .ref l ∧ H l = some (.lst xs) ∧ ImAll K H xs (ts.map telD) ∧ RetN K H ((sortT ts).map telD) Q
abbrev N_in_order : List Str := ["tellings"]
theorem sc_in_order : FnScope N_in_order ["tellings"] (defScope s_in_order) := ⟨rfl, rfl, rfl, by decide +kernel, rfl, by decide +kernel, by decide +kernel⟩
theorem ok_in_order (T : Ctx K mg) (o_order_key : Ok P w K mg base 1 (He.ga K "order_key") ["telling"] (spOrderKey K)) : Ok P w K mg base 4 (He.ga K "in_order") ["tellings"] (spInOrder K) := by
  refine okF T.d_in_order sc_in_order len1 (fun _ _ _ _ _ _ us hl => match us, hl with | [_], _ => rfl) (fun cdv A outer s H vs Q E hr h => ?_)
  have hu64 := hu64_of hr
  refine ⟨_,
      (pss_one (ps_ret (pe_callBK (cr_sortedKD o_order_key (hr.mono (by decide)) hu64) (by rfl) T.n_sorted (by decide +kernel) (pa_cons (pv 0) pa_nil) (pk_cons (pe_glob (v := .ref (He.ga K "order_key")) (by rfl) T.g_order_key rfl) pk_nil)))), ?_⟩
  obtain ⟨_, rfl, l, xs, ts, rfl, hL, ia, kk⟩ := h
  obtain ⟨zs, e1, e2, e3⟩ := zip_tel ia
  refine ⟨_, rfl, l, zs.map fun z => (z.1, tkD z.2), rfl, rfl, SqL.of (by rw [hL, List.map_map, ← e1]; rfl), fun b m => ?_, ?_, ?_, fun b m H' sm => ?_, fun p H2 sm np hp => kk p _ H2 np sm hp (e2 ▸ tel_sorted fun z m => (e3 z m).same sm)⟩
  · obtain ⟨z, _, rfl⟩ := List.mem_map.mp m
    exact tkD_depth _
  · have e : (zs.map fun z => (z.1, tkD z.2)).map (·.2) = ts.map tkD := by rw [List.map_map, ← e2, List.map_map]; rfl
    rw [e]; exact tkD_alike
  · have e : (zs.map fun z => (z.1, tkD z.2)).map (·.2) = ts.map tkD := by rw [List.map_map, ← e2, List.map_map]; rfl
    rw [e]; exact tkD_sortable
  · obtain ⟨z, hz, rfl⟩ := List.mem_map.mp m
    exact ⟨_, rfl, z.2, (e3 z hz).same sm, fun v H3 s3 iv => ⟨s3, iv⟩⟩
def spStamps (K : PySem.W.Frag) : Sp := sp1 fun a H Q => ∃ (l : Addr) (xs : List V) (ts : List Tel), a = .ref l ∧ H l = some (.lst xs) ∧ ImAll K H xs (ts.map telD) ∧ (ts.map tk).Nodup ∧ ts.length ≤ 80 ∧
  ∀ d kvs H', H d = none → Same H H' → H' d = some (.dT kvs) → StAt K H' kvs ts → Q (.ref d) H'
abbrev N_stamps_of : List Str := ["tellings", "telling"]
theorem sc_stamps_of : FnScope N_stamps_of ["tellings"] (defScope s_stamps_of) := ⟨rfl, rfl, rfl, by decide +kernel, rfl, by decide +kernel, by decide +kernel⟩
theorem ok_stamps_of (T : Ctx K mg) : Ok P w K mg base 1 (He.ga K "stamps_of") ["tellings"] (spStamps K) := by
  refine okF T.d_stamps_of sc_stamps_of len1 (fun _ _ _ _ _ _ us hl => match us, hl with | [_], _ => rfl) (fun cdv A outer s H vs Q E hr h => ?_)
  have hu := hu_of hr
  refine ⟨_,
      (pss_one (ps_ret (pe_dg (o0 := .dT []) (own := [("telling", 1)]) (g := gName 1) (Or.inr rfl) (Nat.lt_of_succ_lt hu ) (by rfl) sc_stamps_of.nd (pi_list (pv 0)) (blkOk_by (own := [("telling", 1)]) (N := N_stamps_of) (sc := defScope s_stamps_of) (by decide +kernel)) (fun _ _ _ _ _ => pg_name (i := 1) sc_stamps_of.nd rfl (Or.inl rfl)) (fun _ _ _ _ _ => pts_nil) (fun _ _ _ _ _ => (pe_slice (slTK K rfl) (pv 1) po_none (po_some pe_int))) (fun _ _ _ _ _ => (pe_ix (ixTK K rfl) (pv 1) pe_int (fun _ _ => rfl)))))), ?_⟩
  obtain ⟨_, rfl, l, xs, ts, rfl, hL, ia, nd, hn, kk⟩ := h
  refine ⟨_, rfl, l, rfl, ⟨_, SqL.of hL⟩, fun D hD => dg_list (K := K) (a := l) (xs := xs) (fun i H1 => ∃ kvs, H1 D = some (.dT kvs) ∧ StAt K H1 kvs (ts.take i) ∧ Same H H1) ⟨[], upd_same, .nil, same_new hD⟩
    (fun i H1 _ ⟨_, _, _, s⟩ => SqL.of (s _ _ hL)) ?_ ?_⟩
  · rintro i y H1 hy ⟨kvs, hd, st, sm⟩
    obtain ⟨_, hd2, imy⟩ := ia.get hy
    obtain ⟨t, et, rfl⟩ := at_map hd2
    obtain ⟨a, c, rfl, hT, ic⟩ := im_tel (imy.same sm)
    have e1 : ts.take (i + 1) = ts.take i ++ [t] := take_succ_of et
    have hlen : kvs.length ≤ 80 := by rw [st.len, List.length_take]; omega
    have fresh : tk t ∉ (ts.take i).map tk := fun z => by
      have h2 : (ts.take (i + 1)).map tk = (ts.take i).map tk ++ [tk t] := by rw [e1, List.map_append]; rfl
      have h3 : ((ts.take (i + 1)).map tk).Nodup := by rw [List.map_take]; exact List.Nodup.sublist (List.take_sublist _ _) nd
      rw [h2, List.nodup_append] at h3
      exact h3.2.2 _ z _ (List.mem_singleton.mpr rfl) rfl
    refine ⟨rfl, _, rfl, _, rfl, a, _, rfl, hT, cut2n _ _ _, fun p hp => ?_⟩
    rw [cut2]
    have sp := same_new (o := .tup [.int t.1, .int t.2.1]) hp
    refine ⟨_, rfl, a, _, _, _, rfl, rfl, sqT_tp (tp_same sp) hT, rfl, _, DPut.t (k := tKey t) (up hp hd) upd_same (sz80 hlen), _, upd_same, ?_, same_mut (sm.trans sp) hD⟩
    rw [putK_new (StAt.none st fresh), e1]
    exact (StAt.snoc (ic.same sp) (st.tp (tp_same sp))).tp (tp_dT (up hp hd))
  · rintro H1 ⟨kvs, hd, st, sm⟩
    have hxs := ia.len
    rw [List.length_map] at hxs
    rw [List.take_of_length_le (by omega)] at st
    exact kk D kvs H1 hD sm hd st
def spKeysOf (K : PySem.W.Frag) : Sp := sp1 fun a H Q => ∃ (l : Addr) (xs : List V) (ts : List Tel), a = .ref l ∧ H l = some (.lst xs) ∧ ImAll K H xs (ts.map telD) ∧ ts.length ≤ 80 ∧ ∀ d kvs H', H d = none → Same H H' → H' d = some (.dK kvs) → kvs.length ≤ ts.length → Q (.ref d) H'
abbrev N_keys_of : List Str := ["tellings", "found", "stamp", "source", "change"]
theorem sc_keys_of : FnScope N_keys_of ["tellings"] (defScope s_keys_of) := ⟨rfl, rfl, rfl, by decide +kernel, rfl, by decide +kernel, by decide +kernel⟩
theorem ok_keys_of (T : Ctx K mg) : Ok P w K mg base 1 (He.ga K "keys_of") ["tellings"] (spKeysOf K) := by
  refine okF T.d_keys_of sc_keys_of len1 (fun _ _ _ _ _ _ us hl => match us, hl with | [_], _ => rfl) (fun cdv A outer s H vs Q E hr h => ?_)
  have hu := hu_of hr
  refine ⟨_,
      (pss_cons (ps_set (i := 1) sc_keys_of.nd rfl (Or.inl rfl) pe_dnewK)
      (pss_cons (ps_for PassesOwn.never rfl (pi_list (pv 0)) (pg_tup (by rfl) (pgs_cons (pg_name (i := 2) sc_keys_of.nd rfl (Or.inl rfl)) (pgs_cons (pg_name (i := 3) sc_keys_of.nd rfl (Or.inl rfl)) (pgs_cons (pg_name (i := 4) sc_keys_of.nd rfl (Or.inl rfl)) pgs_nil))))
        (pss_one (ps_dput hu (pv 1) (pe_ix ix_tup (pv 4) pe_int (fun _ _ => rfl)) pe_bl rfl)))
      (pss_one (ps_ret (pv 1))))), ?_⟩
  obtain ⟨_, rfl, l, xs, ts, rfl, hL, ia, hn, kk⟩ := h
  refine fun d hd => ?_
  have s0 := same_new (o := .dK []) hd
  have hxs := ia.len
  rw [List.length_map] at hxs
  refine ⟨_, rfl, l, rfl, ⟨_, SqL.of (s0 _ _ hL)⟩, for_list (K := K) (a := l) (xs := xs) (fun i σ H' => ∃ (kvs : List (Key × V)) (q2 q3 q4 : Option V), σ = [some (.ref l), some (.ref d), q2, q3, q4] ∧ Same H H' ∧ H' d = some (.dK kvs) ∧ kvs.length ≤ i)
    ⟨[], none, none, none, rfl, s0, upd_same, Nat.le_refl _⟩ (fun i σ H' _ ⟨_, _, _, _, _, sm, _⟩ => SqL.of (sm _ _ hL)) ?_ ?_⟩
  · rintro i y σ H' hy ⟨kvs, q2, q3, q4, rfl, sm, hD, hle⟩
    obtain ⟨_, hd2, imy⟩ := ia.get hy
    obtain ⟨t, et, rfl⟩ := at_map hd2
    obtain ⟨a, c, rfl, hT, ic⟩ := im_tel (imy.same sm)
    obtain ⟨b, tv, rfl, hT2, _, _⟩ := im_chg ic
    have hi := (List.getElem?_eq_some_iff.mp et).1
    have hl2 := putK_len kvs (.inr t.2.2.2.1 : Key) (.bl true)
    refine ⟨a, _, rfl, hT, rfl, _, _, rfl, _, _, rfl, _, _, rfl, rfl, ?_⟩
    exact ⟨_, rfl, _, rfl, b, _, _, _, rfl, rfl, hT2, rfl, d, _, rfl, DPut.k (k := .inr t.2.2.2.1) hD (sz80 (by omega)), _, _, _, _, rfl, same_mut sm hd, upd_same, by omega⟩
  · rintro σ H' ⟨kvs, q2, q3, q4, rfl, sm, hD, hle⟩
    exact ⟨_, rfl, kk d kvs H' hd sm hD (by omega)⟩
end
end K46

set_option maxHeartbeats 2000000
namespace K46
open PySem PySem.Spec PyProof.Rows L2
/-! ### copies -/
def cF (o c a : V) : List (Str × V) := putF "all" a (putF "cuts" c (putF "own" o []))
theorem ne_oc : ¬ ("own" : Str) = "cuts" := by decide +kernel
theorem ne_oa : ¬ ("own" : Str) = "all" := by decide +kernel
theorem ne_ca : ¬ ("cuts" : Str) = "all" := by decide +kernel
theorem cF_o (o c a : V) : (cF o c a).lookup ("own" : Str) = some o := by unfold cF; rw [lookup_putF, if_neg ne_oa, lookup_putF, if_neg ne_oc, lookup_putF, if_pos rfl]
theorem cF_c (o c a : V) : (cF o c a).lookup ("cuts" : Str) = some c := by unfold cF; rw [lookup_putF, if_neg ne_ca, lookup_putF, if_pos rfl]
theorem cF_a (o c a : V) : (cF o c a).lookup ("all" : Str) = some a := by unfold cF; rw [lookup_putF, if_pos rfl]
theorem cF_no (o c a : V) {m : Str} (h1 : ¬ m = "all") (h2 : ¬ m = "cuts") (h3 : ¬ m = "own") : (cF o c a).lookup m = none := by unfold cF; rw [lookup_putF, if_neg h1, lookup_putF, if_neg h2, lookup_putF, if_neg h3]; rfl
theorem cF_eq (o c a : V) : cF o c a = ([("own", o), ("cuts", c), ("all", a)] : List (Str × V)) := by
  unfold cF
  have e0 : putF "own" o [] = ([("own", o)] : List (Str × V)) := rfl
  have e1 : putF "cuts" c ([("own", o)] : List (Str × V)) = ([("own", o), ("cuts", c)] : List (Str × V)) := by
    show (if ("own" : Str) = "cuts" then [(("own" : Str), c)] else (("own" : Str), o) :: putF "cuts" c []) = _
    rw [if_neg ne_oc]; rfl
  rw [e0, e1]
  show (if ("own" : Str) = "all" then (("own" : Str), a) :: [("cuts", c)] else (("own" : Str), o) :: (if ("cuts" : Str) = "all" then [(("cuts" : Str), a)] else (("cuts" : Str), c) :: putF "all" a [])) = _
  rw [if_neg ne_oa, if_neg ne_ca]; rfl
theorem cF_put (o c a b : V) : putF "all" b (cF o c a) = cF o c b := by
  rw [cF_eq, cF_eq]
  show (if ("own" : Str) = "all" then (("own" : Str), b) :: [("cuts", c), ("all", a)] else (("own" : Str), o) :: (if ("cuts" : Str) = "all" then (("cuts" : Str), b) :: [("all", a)] else (("cuts" : Str), c) :: (if ("all" : Str) = "all" then [(("all" : Str), b)] else (("all" : Str), a) :: putF "all" b []))) = _
  rw [if_neg ne_oa, if_neg ne_ca, if_pos rfl]
theorem putF_len (f : Str) (v : V) : ∀ fs : List (Str × V), (putF f v fs).length ≤ fs.length + 1
  | [] => Nat.le_refl _
  | (g, x) :: r => by
    show (if g = f then (g, v) :: r else (g, x) :: putF f v r).length ≤ _
    split
    · simp
    · have := putF_len f v r
      simp only [List.length_cons]
      omega
theorem cF_len (o c a : V) : (cF o c a).length < 1000 := by rw [cF_eq]; show 3 < 1000; decide
def CopyAt (K : PySem.W.Frag) (H : Hp) (a : Addr) (src : Int) (e : List (Str × Int)) (ts : List Tel) (l : Addr) : Prop :=
  ∃ dx v xs, H a = some (.ins (He.ga K "Copy") dx (cF (.int src) v (.ref l))) ∧ Im K H v (endD e) ∧ H l = some (.lst xs) ∧ ImAll K H xs (ts.map telD)
theorem CopyAt.same {K : PySem.W.Frag} {H H' : Hp} {a l : Addr} {src : Int} {e : List (Str × Int)} {ts : List Tel} (h : CopyAt K H a src e ts l) (s : Same H H') : CopyAt K H' a src e ts l := by
  obtain ⟨dx, v, xs, h1, h2, h3, h4⟩ := h
  exact ⟨dx, v, xs, s _ _ h1, h2.same s, s _ _ h3, h4.same s⟩
theorem CopyAt.but {K : PySem.W.Frag} {H H' : Hp} {a l d : Addr} {src : Int} {e : List (Str × Int)} {ts : List Tel} (h : CopyAt K H a src e ts l) (b : But d H H') (n1 : a ≠ d) (n2 : l ≠ d) : CopyAt K H' a src e ts l := by
  obtain ⟨dx, v, xs, h1, h2, h3, h4⟩ := h
  exact ⟨dx, v, xs, b.same _ _ n1 h1, h2.tp b.tp, b.same _ _ n2 h3, h4.tp b.tp⟩
section
variable {P : Program} {w : World} {K : PySem.W.Frag} {mg : Str → Option Value} {base : Heap}
def spShelfOf (K : PySem.W.Frag) : Sp := sp2 fun a b H Q => ∃ (e : List (Str × Int)) (l : Addr) (xs : List V) (ts : List Tel), Im K H a (endD e) ∧ b = .ref l ∧ H l = some (.lst xs) ∧ ImAll K H xs (ts.map telD) ∧ ts.length ≤ 12 ∧ (∀ t ∈ ts, ChgOk t.2.2) ∧
  ∀ s l2 H', H s = none → H l2 = none → Same H H' → ShelfAt K H' s e (ts.map (·.2.2)) l2 → Q (.ref s) H'
abbrev N_shelf_of : List Str := ["endings", "tellings", "shelf", "stamp", "source", "change"]
theorem sc_shelf_of : FnScope N_shelf_of ["endings", "tellings"] (defScope s_shelf_of) := ⟨rfl, rfl, rfl, by decide +kernel, rfl, by decide +kernel, by decide +kernel⟩
theorem ok_shelf_of (T : Ctx K mg) (o_S_init : Ok P w K mg base 1 (He.ma K (He.ga K "Shelf") "__init__") ["self", "endings"] (spSInit K)) (o_S_tell : Ok P w K mg base 3 (He.ma K (He.ga K "Shelf") "tell") ["self", "time", "key", "text"] (spSTell K)) : Ok P w K mg base 4 (He.ga K "shelf_of") ["endings", "tellings"] (spShelfOf K) := by
  refine okF T.d_shelf_of sc_shelf_of len2 (fun _ _ _ _ _ _ us hl => match us, hl with | [_, _], _ => rfl) (fun cdv A outer s H vs Q E hr h => ?_)
  obtain ⟨fd_S_init, F_S_init, b_S_init⟩ := o_S_init.ex
  obtain ⟨fd_S_tell, F_S_tell, b_S_tell⟩ := o_S_tell.ex
  refine ⟨_,
      (pss_cons (ps_set (i := 2) sc_shelf_of.nd rfl (Or.inl rfl) (pe_make T.k_Shelf F_S_init (hr.mono (by decide)) (by rfl) T.g_Shelf b_S_init .nil pass0 (pa_cons (pv 0) pa_nil)))
      (pss_cons (ps_for PassesOwn.never rfl (pi_list (pv 1)) (pg_tup (by rfl) (pgs_cons (pg_name (i := 3) sc_shelf_of.nd rfl (Or.inl rfl)) (pgs_cons (pg_name (i := 4) sc_shelf_of.nd rfl (Or.inl rfl)) (pgs_cons (pg_name (i := 5) sc_shelf_of.nd rfl (Or.inl rfl)) pgs_nil))))
        (pss_one (ps_expr (pe_meth (pv 2) T.c_Shelf T.m_Shelf_tell F_S_tell (hr.mono (by decide)) b_S_tell .nil pass0 (pa_cons (pe_ix ix_tup (pv 5) pe_int (fun _ _ => rfl)) (pa_cons (pe_ix ix_tup (pv 5) pe_int (fun _ _ => rfl)) (pa_cons (pe_ix ix_tup (pv 5) pe_int (fun _ _ => rfl)) pa_nil)))))))
      (pss_one (ps_ret (pv 2))))), ?_⟩
  obtain ⟨ev, _, rfl, e, l, xs, ts, iv, rfl, hL, ia, hn, ok, kk⟩ := h
  have hxs := ia.len
  rw [List.length_map] at hxs
  refine ⟨_, rfl, fun x dx hx hdx hne => ?_⟩
  have sd := same_new (o := .own x) hdx
  have hx2 : upd H dx (.own x) x = none := (upd_ne (Ne.symm hne)).trans hx
  have sx := sd.trans (same_new (o := .ins (He.ga K "Shelf") dx []) hx2)
  refine ⟨_, _, rfl, x, dx, e, rfl, upd_same, iv.same sx, fun l2 H1 nl b1 st1 => ⟨rfl, ?_⟩⟩
  have s1 : Same H H1 := fun c o ec => b1.same c o (ne_of_none ec hx) (sx _ _ ec)
  have hl2 : H l2 = none := none_of_same sx nl
  refine ⟨_, rfl, l, rfl, ⟨_, SqL.of (s1 _ _ hL)⟩, for_list (K := K) (a := l) (xs := xs) (fun i σ H' => ∃ (q3 q4 q5 : Option V), σ = [some ev, some (.ref l), some (.ref x), q3, q4, q5] ∧ Same H H' ∧ ShelfAt K H' x e ((ts.take i).map (·.2.2)) l2)
    ⟨none, none, none, rfl, s1, st1⟩ (fun i σ H' _ ⟨_, _, _, _, sm, _⟩ => SqL.of (sm _ _ hL)) ?_ ?_⟩
  · rintro i y σ H' hy ⟨q3, q4, q5, rfl, sm, st⟩
    obtain ⟨_, hd2, imy⟩ := ia.get hy
    obtain ⟨t, et, rfl⟩ := at_map hd2
    obtain ⟨a, c, rfl, hT, ic⟩ := im_tel (imy.same sm)
    obtain ⟨b, tv, rfl, hT2, _, rfl⟩ := im_chg ic
    have hi := (List.getElem?_eq_some_iff.mp et).1
    obtain ⟨dx2, v2, xs2, g1, _⟩ := id st
    refine ⟨a, _, rfl, hT, rfl, _, _, rfl, _, _, rfl, _, _, rfl, rfl, ?_⟩
    refine ⟨_, rfl, x, dx2, _, rfl, g1, sF_no _ _ (by decide +kernel) (by decide +kernel), _, rfl, b, _, _, _, rfl, rfl, hT2, rfl, _, rfl, b, _, _, _, rfl, rfl, hT2, rfl, _, rfl, b, _, _, _, rfl, rfl, hT2, rfl, ?_⟩
    refine ⟨_, _, _, _, rfl, x, e, _, l2, t.2.2, rfl, st, ok t (List.mem_of_getElem? et), rfl, rfl, rfl, by rw [List.length_map, List.length_take]; omega, fun H2 b2 st2 => ?_⟩
    refine ⟨_, _, _, rfl, But.fresh sm hl2 b2, ?_⟩
    rw [take_succ_of et, List.map_append]
    exact st2
  · rintro σ H' ⟨q3, q4, q5, rfl, sm, st⟩
    rw [List.take_of_length_le (by omega)] at st
    exact ⟨_, rfl, kk x l2 H' hx hl2 sm st⟩
def spCInit (K : PySem.W.Frag) : Sp := sp3 fun a b c H Q => ∃ (x dx : Addr) (src : Int) (e : List (Str × Int)), a = .ref x ∧ b = .int src ∧ 1 ≤ src ∧ src ≤ 9 ∧ H x = some (.ins (He.ga K "Copy") dx []) ∧ Im K H c (endD e) ∧ ∀ l H', H l = none → But x H H' → CopyAt K H' x src e [] l → Q .non H'
abbrev N_C_init : List Str := ["self", "source", "endings"]
theorem sc_C_init : FnScope N_C_init ["self", "source", "endings"] (defScope s_C_init) := ⟨rfl, rfl, rfl, by decide +kernel, rfl, by decide +kernel, by decide +kernel⟩
theorem ok_C_init (T : Ctx K mg) : Ok P w K mg base 1 (He.ma K (He.ga K "Copy") "__init__") ["self", "source", "endings"] (spCInit K) := by
  refine okF T.d_C_init sc_C_init len3 (fun _ _ _ _ _ _ us hl => match us, hl with | [_, _, _], _ => rfl) (fun cdv A outer s H vs Q E hr h => ?_)
  obtain ⟨tk_MOST_SOURCES, g_MOST_SOURCES⟩ := T.i_MOST_SOURCES
  refine ⟨_,
      (pss_cons (ps_if (PW.pt (pw_or (pt_cmpR op_lt (pv 1) pe_int (nomark _)) (pw_or1 (pt_cmpR op_gt (pv 1) (pe_glob (v := .int 9) (by rfl) g_MOST_SOURCES ⟨_, rfl⟩) (nomark _)))))
        (pss_one ps_never)
        pss_nil)
      (pss_cons (ps_fld (pv 0) (pv 1) rfl)
      (pss_cons (ps_fld (pv 0) (pv 2) rfl)
      (pss_one (ps_fld (pv 0) (pe_lst pa_nil) rfl))))), ?_⟩
  obtain ⟨_, _, cv, rfl, x, dx, src, e, rfl, rfl, p1, p9, hx, im, kk⟩ := h
  refine ⟨_, rfl, _, _, rfl, rfl, _, rfl, ?_⟩
  rw [decide_eq_false (by omega)]
  refine iteF ?_
  refine ⟨_, rfl, _, _, rfl, rfl, _, rfl, ?_⟩
  rw [decide_eq_false (by omega)]
  refine iteF ?_
  refine ⟨_, rfl, _, rfl, x, _, dx, _, rfl, hx, T.c_Copy, T.a_Copy_own, by show 0 < 1000; decide, ?_⟩
  have b0 : But x H (upd H x (.ins (He.ga K "Copy") dx (putF "own" (.int src) []))) := but_put _ hx
  refine ⟨_, rfl, _, rfl, x, _, dx, _, rfl, upd_same, T.c_Copy, T.a_Copy_cuts, by show 1 < 1000; decide, ?_⟩
  have b1 := b0.trans (but_put (.ins (He.ga K "Copy") dx (putF "cuts" cv (putF "own" (.int src) []))) upd_same)
  rw [upd_upd] at b1 ⊢
  refine ⟨Nat.zero_le _, fun l hl => ?_⟩
  have hxl : x ≠ l := fun z => by rw [z, upd_same] at hl; cases hl
  have hl0 : H l = none := (upd_ne (Ne.symm hxl)).symm.trans hl
  refine ⟨_, rfl, x, _, dx, _, rfl, up hl upd_same, T.c_Copy, T.a_Copy_all, ?_, ?_⟩
  · have h1 := putF_len "cuts" cv (putF "own" (.int src) [])
    have h2 := putF_len "own" (.int src) []
    rw [List.length_nil] at h2
    omega
  have b2 := (b1.trans (but_same (same_new (o := .lst []) hl) x)).trans (but_put (.ins (He.ga K "Copy") dx (cF (.int src) cv (.ref l))) (up hl upd_same))
  refine kk l _ hl0 b2 ⟨dx, cv, [], upd_same, im.tp b2.tp, ?_, .nil⟩
  rw [upd_ne (Ne.symm hxl), upd_same]
def spCEnd (K : PySem.W.Frag) : Sp := sp1 fun a H Q => ∃ (p : Addr) (src : Int) (e : List (Str × Int)) (ts : List Tel) (l : Addr), a = .ref p ∧ CopyAt K H p src e ts l ∧ RetD K H (endD e) Q
abbrev N_C_endings : List Str := ["self"]
theorem sc_C_endings : FnScope N_C_endings ["self"] (defScope s_C_endings) := ⟨rfl, rfl, rfl, by decide +kernel, rfl, by decide +kernel, by decide +kernel⟩
theorem ok_C_endings (T : Ctx K mg) : Ok P w K mg base 1 (He.ma K (He.ga K "Copy") "endings") ["self"] (spCEnd K) := by
  refine okF T.d_C_endings sc_C_endings len1 (fun _ _ _ _ _ _ us hl => match us, hl with | [_], _ => rfl) (fun cdv A outer s H vs Q E hr h => ?_)
  refine ⟨_,
      (pss_one (ps_ret (pe_fld (pv 0) rfl))), ?_⟩
  obtain ⟨_, rfl, p, src, e, ts, l, rfl, ⟨dx, v, xs, h1, h2, h3, h4⟩, kk⟩ := h
  exact ⟨_, rfl, p, _, dx, _, _, rfl, h1, T.c_Copy, T.a_Copy_cuts, cF_c _ _ _, kk _ _ (Same.refl _) h2⟩
def spCTellings (K : PySem.W.Frag) : Sp := sp1 fun a H Q => ∃ (p : Addr) (src : Int) (e : List (Str × Int)) (ts : List Tel) (l : Addr), a = .ref p ∧ CopyAt K H p src e ts l ∧ RetN K H ((sortT ts).map telD) Q
abbrev N_C_tellings : List Str := ["self"]
theorem sc_C_tellings : FnScope N_C_tellings ["self"] (defScope s_C_tellings) := ⟨rfl, rfl, rfl, by decide +kernel, rfl, by decide +kernel, by decide +kernel⟩
theorem ok_C_tellings (T : Ctx K mg) (o_in_order : Ok P w K mg base 4 (He.ga K "in_order") ["tellings"] (spInOrder K)) : Ok P w K mg base 5 (He.ma K (He.ga K "Copy") "tellings") ["self"] (spCTellings K) := by
  refine okF T.d_C_tellings sc_C_tellings len1 (fun _ _ _ _ _ _ us hl => match us, hl with | [_], _ => rfl) (fun cdv A outer s H vs Q E hr h => ?_)
  obtain ⟨fd_in_order, F_in_order, b_in_order⟩ := o_in_order.ex
  refine ⟨_,
      (pss_one (ps_ret (pe_call F_in_order (hr.mono (by decide)) (by rfl) T.g_in_order o_in_order.kp b_in_order .nil pass0 (pa_cons (pe_fld (pv 0) rfl) pa_nil)))), ?_⟩
  obtain ⟨_, rfl, p, src, e, ts, l, rfl, ⟨dx, v, xs, h1, h2, h3, h4⟩, kk⟩ := h
  exact ⟨_, rfl, p, _, dx, _, _, rfl, h1, T.c_Copy, T.a_Copy_all, cF_a _ _ _, _, rfl, l, xs, ts, rfl, h3, h4, kk⟩
def spCShelf (K : PySem.W.Frag) : Sp := sp1 fun a H Q => ∃ (p : Addr) (src : Int) (e : List (Str × Int)) (ts : List Tel) (l : Addr), a = .ref p ∧ CopyAt K H p src e ts l ∧ ts.length ≤ 12 ∧ (∀ t ∈ ts, ChgOk t.2.2) ∧
  ∀ s l2 H', H s = none → H l2 = none → Same H H' → ShelfAt K H' s e ((sortT ts).map (·.2.2)) l2 → Q (.ref s) H'
abbrev N_C_shelf : List Str := ["self"]
theorem sc_C_shelf : FnScope N_C_shelf ["self"] (defScope s_C_shelf) := ⟨rfl, rfl, rfl, by decide +kernel, rfl, by decide +kernel, by decide +kernel⟩
theorem ok_C_shelf (T : Ctx K mg) (o_shelf_of : Ok P w K mg base 4 (He.ga K "shelf_of") ["endings", "tellings"] (spShelfOf K)) (o_C_tellings : Ok P w K mg base 5 (He.ma K (He.ga K "Copy") "tellings") ["self"] (spCTellings K)) : Ok P w K mg base 6 (He.ma K (He.ga K "Copy") "shelf") ["self"] (spCShelf K) := by
  refine okF T.d_C_shelf sc_C_shelf len1 (fun _ _ _ _ _ _ us hl => match us, hl with | [_], _ => rfl) (fun cdv A outer s H vs Q E hr h => ?_)
  obtain ⟨fd_C_tellings, F_C_tellings, b_C_tellings⟩ := o_C_tellings.ex
  obtain ⟨fd_shelf_of, F_shelf_of, b_shelf_of⟩ := o_shelf_of.ex
  refine ⟨_,
      (pss_one (ps_ret (pe_call F_shelf_of (hr.mono (by decide)) (by rfl) T.g_shelf_of o_shelf_of.kp b_shelf_of .nil pass0 (pa_cons (pe_fld (pv 0) rfl) (pa_cons (pe_meth0 (pv 0) T.c_Copy T.m_Copy_tellings F_C_tellings (hr.mono (by decide)) b_C_tellings .nil pass0) pa_nil))))), ?_⟩
  obtain ⟨_, rfl, p, src, e, ts, l, rfl, hC, hn, ok, kk⟩ := h
  obtain ⟨dx, v, xs, h1, h2, h3, h4⟩ := id hC
  refine ⟨_, rfl, p, _, dx, _, _, rfl, h1, T.c_Copy, T.a_Copy_cuts, cF_c _ _ _, _, rfl, p, dx, _, rfl, h1, cF_no _ _ _ (by decide +kernel) (by decide +kernel) (by decide +kernel), _, rfl, p, src, e, ts, l, rfl, hC, fun l1 ys H1 n1 s1 hl ia => ?_⟩
  refine ⟨_, _, rfl, e, l1, ys, sortT ts, h2.same s1, rfl, hl, ia, ?_, fun t m => ok t (mem_sortT.mp m), fun s l2 H' ns nl sm st => kk s l2 H' (none_of_same s1 ns) (none_of_same s1 nl) (s1.trans sm) st⟩
  unfold sortT
  rw [List.length_mergeSort]
  exact hn
def spCHold (K : PySem.W.Frag) : Sp := sp2 fun a b H Q => ∃ (p : Addr) (src : Int) (e : List (Str × Int)) (ts us : List Tel) (l l2 : Addr) (ys : List V), a = .ref p ∧ CopyAt K H p src e ts l ∧ b = .ref l2 ∧ H l2 = some (.lst ys) ∧ ImAll K H ys (us.map telD) ∧ ts.length + us.length ≤ 80 ∧
  ∀ l' H', H l' = none → But p H H' → CopyAt K H' p src e (ts ++ us) l' → Q .non H'
abbrev N_C_hold : List Str := ["self", "tellings"]
theorem sc_C_hold : FnScope N_C_hold ["self", "tellings"] (defScope s_C_hold) := ⟨rfl, rfl, rfl, by decide +kernel, rfl, by decide +kernel, by decide +kernel⟩
theorem ok_C_hold (T : Ctx K mg) : Ok P w K mg base 1 (He.ma K (He.ga K "Copy") "hold") ["self", "tellings"] (spCHold K) := by
  refine okF T.d_C_hold sc_C_hold len2 (fun _ _ _ _ _ _ us hl => match us, hl with | [_, _], _ => rfl) (fun cdv A outer s H vs Q E hr h => ?_)
  refine ⟨_,
      (pss_one (ps_fld (pv 0) (pe_op op_cat (pe_fld (pv 0) rfl) (pe_callTy call_list_of (by rfl) T.n_list (by decide +kernel) (pa_cons (pv 1) pa_nil))) rfl)), ?_⟩
  obtain ⟨_, _, rfl, p, src, e, ts, us, l, l2, ys, rfl, hC, rfl, hl2, iu, hn, kk⟩ := h
  obtain ⟨dx, v, xs, h1, h2, h3, h4⟩ := id hC
  have n1 := h4.len
  have n2 := iu.len
  rw [List.length_map] at n1 n2
  refine ⟨_, rfl, p, _, dx, _, _, rfl, h1, T.c_Copy, T.a_Copy_all, cF_a _ _ _, _, rfl, l2, ys, rfl, .inl (SqL.of hl2), fun l3 hl3 => ?_⟩
  have s3 := same_new (o := .lst ys) hl3
  refine ⟨l, l3, xs, ys, rfl, rfl, s3 _ _ h3, upd_same, ?_, fun l4 hl4 => ?_⟩
  · exact Nat.le_of_lt (sz80 (by omega))
  have s4 := same_new (o := .lst (xs ++ ys)) hl4
  have s34 := s3.trans s4
  have hp := s34 _ _ h1
  refine ⟨_, rfl, p, _, dx, _, rfl, hp, T.c_Copy, T.a_Copy_all, cF_len _ _ _, ?_⟩
  rw [cF_put]
  have hl40 : H l4 = none := none_of_same s3 hl4
  have npl : p ≠ l4 := ne_of_none h1 hl40
  have bp := (but_same s34 p).trans (but_put (.ins (He.ga K "Copy") dx (cF (.int src) v (.ref l4))) hp)
  refine kk l4 _ hl40 bp ⟨dx, v, _, upd_same, h2.tp bp.tp, (upd_ne (Ne.symm npl)).trans upd_same, ?_⟩
  rw [List.map_append]
  exact ((h4.tp bp.tp).app (iu.tp bp.tp))
def spCTell (K : PySem.W.Frag) : Sp := sp4 fun a b c d H Q => ∃ (p : Addr) (src : Int) (e : List (Str × Int)) (ts : List Tel) (l : Addr) (ch : Chg), a = .ref p ∧ CopyAt K H p src e ts l ∧ ChgOk ch ∧ b = .int ch.1 ∧ c = .str ch.2.1 ∧ d = txV ch.2.2 ∧ ts.length < 12 ∧ (∀ t ∈ ts, ChgOk t.2.2) ∧
  ∀ (m : Int) r H', (∀ t ∈ ts, t.1 ≤ m) → But l H H' → CopyAt K H' p src e (ts ++ [(1 + m, src, ch)]) l → Q r H'
abbrev N_C_tell : List Str := ["self", "time", "key", "text", "telling", "stamp"]
theorem sc_C_tell : FnScope N_C_tell ["self", "time", "key", "text"] (defScope s_C_tell) := ⟨rfl, rfl, rfl, by decide +kernel, rfl, by decide +kernel, by decide +kernel⟩
theorem ok_C_tell (T : Ctx K mg) (o_C_shelf : Ok P w K mg base 6 (He.ma K (He.ga K "Copy") "shelf") ["self"] (spCShelf K)) (o_S_tell : Ok P w K mg base 3 (He.ma K (He.ga K "Shelf") "tell") ["self", "time", "key", "text"] (spSTell K)) : Ok P w K mg base 7 (He.ma K (He.ga K "Copy") "tell") ["self", "time", "key", "text"] (spCTell K) := by
  refine okF T.d_C_tell sc_C_tell len4 (fun _ _ _ _ _ _ us hl => match us, hl with | [_, _, _, _], _ => rfl) (fun cdv A outer s H vs Q E hr h => ?_)
  obtain ⟨fd_C_shelf, F_C_shelf, b_C_shelf⟩ := o_C_shelf.ex
  obtain ⟨fd_S_tell, F_S_tell, b_S_tell⟩ := o_S_tell.ex
  refine ⟨_,
      (pss_cons (ps_expr (pe_meth (pe_meth0 (pv 0) T.c_Copy T.m_Copy_shelf F_C_shelf (hr.mono (by decide)) b_C_shelf .nil pass0) T.c_Shelf T.m_Shelf_tell F_S_tell (hr.mono (by decide)) b_S_tell .nil pass0 (pa_cons (pv 1) (pa_cons (pv 2) (pa_cons (pv 3) pa_nil)))))
      (pss_cons (ps_set (i := 5) sc_C_tell.nd rfl (Or.inl rfl) (pe_op op_add pe_int (pe_callB (cr_max rfl) (by rfl) T.n_max (by decide +kernel) (pa_cons (pe_op op_cat (pe_lst (pa_cons pe_int pa_nil)) (pe_lc (own := [("telling", 4)]) (g := gName 4) (by rfl) sc_C_tell.nd (pi_list (pe_fld (pv 0) rfl)) (blkOk_by (own := [("telling", 4)]) (N := N_C_tell) (sc := defScope s_C_tell) (by decide +kernel)) (fun _ _ _ _ _ => pg_name (i := 4) sc_C_tell.nd rfl (Or.inl rfl)) (fun _ _ _ _ _ => pts_nil) (fun _ _ _ _ _ => (pe_ix (ixTK K rfl) (pv 4) pe_int (fun _ _ => rfl))))) pa_nil))))
      (pss_cons (ps_set (i := 4) sc_C_tell.nd rfl (Or.inl rfl) (pe_tup (pa_cons (pv 5) (pa_cons (pe_fld (pv 0) rfl) (pa_cons (pe_tup (pa_cons (pv 1) (pa_cons (pv 2) (pa_cons (pv 3) pa_nil)))) pa_nil)))))
      (pss_cons (ps_expr (pe_bm PySem.F.plainAttrs_list PySem.F.slot_list_append PySem.F.type_list_append mt_append (pe_fld (pv 0) rfl) (pa_cons (pv 4) pa_nil)))
      (pss_one (ps_ret (pv 4))))))), ?_⟩
  obtain ⟨_, _, _, _, rfl, p, src, e, ts, l, ch, rfl, hC, ok, rfl, rfl, rfl, hn, oks, kk⟩ := h
  obtain ⟨dx, v, xs, h1, h2, h3, h4⟩ := id hC
  have n1 := h4.len
  rw [List.length_map] at n1
  refine ⟨_, rfl, p, dx, _, rfl, h1, cF_no _ _ _ (by decide +kernel) (by decide +kernel) (by decide +kernel), _, rfl, p, src, e, ts, l, rfl, hC, by omega, oks, fun s l2 H1 ns nl sm st => ?_⟩
  obtain ⟨dx2, v2, xs2, g1, _⟩ := id st
  refine ⟨s, dx2, _, rfl, g1, sF_no _ _ (by decide +kernel) (by decide +kernel), _, rfl, _, rfl, _, rfl, ?_⟩
  refine ⟨_, _, _, _, rfl, s, e, _, l2, ch, rfl, st, ok, rfl, rfl, rfl, ?_, fun H2 b2 _ => ?_⟩
  · rw [List.length_map]; unfold sortT; rw [List.length_mergeSort]; exact hn
  have sA := But.fresh sm nl b2
  have hC2 := hC.same sA
  refine ⟨sz1, fun l3 hl3 => ?_⟩
  have s3 := same_new (o := .lst [.int 0]) hl3
  refine ⟨_, rfl, p, _, dx, _, _, rfl, (sA.trans s3) _ _ h1, T.c_Copy, T.a_Copy_all, cF_a _ _ _, l, rfl, ⟨_, SqL.of ((sA.trans s3) _ _ h3)⟩, fun D hD => lc_list (K := K) (a := l) (xs := xs) (fun i H' => H' D = some (.lst ((ts.take i).map fun t => V.int t.1)) ∧ Same (upd H2 l3 (.lst [.int 0])) H') ⟨upd_same, same_new hD⟩
    (fun i H' _ ⟨_, s⟩ => SqL.of (s _ _ ((sA.trans s3) _ _ h3))) ?_ ?_⟩
  · rintro i y H' hy ⟨hd, sm1⟩
    obtain ⟨_, hd2, imy⟩ := h4.get hy
    obtain ⟨t, et, rfl⟩ := at_map hd2
    obtain ⟨a, c, rfl, hT, ic⟩ := im_tel (((imy.same sA).same s3).same sm1)
    refine ⟨rfl, _, rfl, a, _, _, _, rfl, rfl, hT, rfl, _, hd, ?_, ?_, same_mut sm1 hD⟩
    · rw [List.length_map, List.length_take]
      exact sz80 (by omega)
    · rw [upd_same, take_succ_of et, List.map_append]; rfl
  · rintro H' ⟨hd, sm1⟩
    rw [List.take_of_length_le (by omega)] at hd
    refine ⟨l3, D, _, _, rfl, rfl, sm1 _ _ upd_same, hd, ?_, fun l4 hl4 => ?_⟩
    · rw [List.length_map]; exact Nat.le_of_lt (sz80 (by show 1 + ts.length ≤ 80; omega))
    have s4 := same_new (o := .lst ([.int 0] ++ ts.map fun t => V.int t.1)) hl4
    refine ⟨l4, 0 :: ts.map (·.1), rfl, SqL.of (by rw [upd_same, List.map_cons, List.map_map]; rfl), by rw [List.length_cons]; omega, fun m hm hall => ?_⟩
    have sB := (sA.trans s3).trans (sm1.trans s4)
    have hpB := sB _ _ h1
    refine ⟨_, _, rfl, rfl, ?_⟩
    refine ⟨_, rfl, _, rfl, p, _, dx, _, _, rfl, hpB, T.c_Copy, T.a_Copy_own, cF_o _ _ _, _, rfl, _, rfl, _, rfl, sz3, fun q hq => ⟨sz3, fun r hr => ?_⟩⟩
    have sq := same_new (o := .tup [.int ch.1, .str ch.2.1, txV ch.2.2]) hq
    have sr := same_new (o := .tup [.int (1 + m), .int src, .ref q]) hr
    have sC := (sB.trans sq).trans sr
    have hlC := sC _ _ h3
    have b := But.of (o := .lst (xs ++ [.ref r])) sC hlC
    refine ⟨_, rfl, p, _, dx, _, _, rfl, sC _ _ h1, T.c_Copy, T.a_Copy_all, cF_a _ _ _, .inl ⟨rfl, _, SqL.of hlC⟩, _, rfl, l, xs, _, rfl, rfl, hlC, sz80 (by omega), _, rfl, ?_⟩
    refine kk m _ _ (fun t ht => hall t.1 (List.mem_cons_of_mem _ (List.mem_map.mpr ⟨t, ht, rfl⟩))) b ⟨dx, v, _, b.same _ _ (ne_of h1 h3 (fun z => nomatch z)) h1, h2.tp b.tp, upd_same, ?_⟩
    rw [List.map_append]
    refine ImAll.tp (tp_lst hlC) ((h4.same sC).snoc ?_)
    exact .tup (SqT.of upd_same) (.cons (.int _) (.cons (.int _) (.cons (.tup (SqT.of (up hr upd_same)) (.cons (.int _) (.cons (.str _) (.cons (tx_im _) .nil)))) .nil)))
end
end K46

set_option maxHeartbeats 2000000
namespace K46
open PySem PySem.Spec PyProof.Rows L2
/-! ### merging -/
theorem okc_wok {x : Str} (h : TextOk x) : WOk x := fun c m => by
  have := h.ch c m
  unfold okc at this
  simp at this
  omega
theorem key_wok {k : Str} (h : KeyIn k) : WOk k := by
  have all : ∀ k ∈ lawKeys, ∀ c ∈ k.cps.toList, c < 1000 := by decide +kernel
  refine all k ?_
  rcases h with rfl | rfl | rfl
  · exact List.mem_cons_self ..
  · exact List.mem_cons_of_mem _ (List.mem_cons_self ..)
  · exact List.mem_cons_of_mem _ (List.mem_cons_of_mem _ (List.mem_cons_self ..))
theorem chg_lay {c : Chg} (h : ChgOk c) : (chgD c).canLay0 = true := by
  show (PyData.canLay0 (.int c.1) && (PyData.canLay0 (.str c.2.1) && (PyData.canLay0 (optS c.2.2) && true))) = true
  have e1 : PyData.canLay0 (.int c.1) = true := rfl
  have e2 : PyData.canLay0 (.str c.2.1) = true := strOk_of (key_wok h.key)
  have e3 : PyData.canLay0 (optS c.2.2) = true := by
    cases e : c.2.2 with
    | none => rfl
    | some x => exact strOk_of (okc_wok (h.txt x e))
  rw [e1, e2, e3]; rfl
theorem chg_depth (c : Chg) : (chgD c).depth = 1 := by
  have e : (optS c.2.2).depth = 0 := by cases c.2.2 <;> rfl
  show max 0 (max 0 (max (optS c.2.2).depth 0)) + 1 = 1
  rw [e]; rfl
theorem chg_shaped {c : Chg} (h : ChgOk c) : SeqAt.shaped (chgD c) = true := by
  unfold SeqAt.shaped
  rw [chg_lay h, chg_depth]; rfl
theorem eqv_self {d : PyData} (h : SeqAt.shaped d = true) : PyData.eqv d d = true := SeqAt.eqv_refl d (SeqAt.canLay_of_shaped h)
theorem newT_len (A B : List Tel) : (newT A B).length ≤ B.length := by
  unfold newT sortT
  exact Nat.le_trans (List.length_filter_le _ _) (Nat.le_of_eq (List.length_mergeSort ..))
section
variable {P : Program} {w : World} {K : PySem.W.Frag} {mg : Str → Option Value} {base : Heap}
def spCMerge (K : PySem.W.Frag) : Sp := sp2 fun a b H Q => ∃ (p q : Addr) (sp sq : Int) (e : List (Str × Int)) (A B : List Tel) (lp lq : Addr), a = .ref p ∧ b = .ref q ∧ CopyAt K H p sp e A lp ∧ CopyAt K H q sq e B lq ∧ SeqAt.shaped (endD e) = true ∧ (A.map tk).Nodup ∧
  (∀ t ∈ A, ∀ u ∈ B, tk t = tk u → t = u) ∧ (∀ t ∈ A, ChgOk t.2.2) ∧ (∀ t ∈ B, ChgOk t.2.2) ∧ (mergeT A B).length ≤ 12 ∧ B.length ≤ 12 ∧
  ∀ l' H', H l' = none → But p H H' → CopyAt K H' p sp e (mergeT A B) l' → Q (.int ((newT A B).length : Nat)) H'
abbrev N_C_merge : List Str := ["self", "other", "known", "new", "telling"]
theorem sc_C_merge : FnScope N_C_merge ["self", "other"] (defScope s_C_merge) := ⟨rfl, rfl, rfl, by decide +kernel, rfl, by decide +kernel, by decide +kernel⟩
theorem ok_C_merge (T : Ctx K mg) (o_C_endings : Ok P w K mg base 1 (He.ma K (He.ga K "Copy") "endings") ["self"] (spCEnd K)) (o_stamps_of : Ok P w K mg base 1 (He.ga K "stamps_of") ["tellings"] (spStamps K)) (o_C_tellings : Ok P w K mg base 5 (He.ma K (He.ga K "Copy") "tellings") ["self"] (spCTellings K)) (o_keys_of : Ok P w K mg base 1 (He.ga K "keys_of") ["tellings"] (spKeysOf K)) (o_C_hold : Ok P w K mg base 1 (He.ma K (He.ga K "Copy") "hold") ["self", "tellings"] (spCHold K)) : Ok P w K mg base 6 (He.ma K (He.ga K "Copy") "merge") ["self", "other"] (spCMerge K) := by
  refine okF T.d_C_merge sc_C_merge len2 (fun _ _ _ _ _ _ us hl => match us, hl with | [_, _], _ => rfl) (fun cdv A outer s H vs Q E hr h => ?_)
  obtain ⟨fd_C_endings, F_C_endings, b_C_endings⟩ := o_C_endings.ex
  obtain ⟨fd_C_hold, F_C_hold, b_C_hold⟩ := o_C_hold.ex
  obtain ⟨fd_C_tellings, F_C_tellings, b_C_tellings⟩ := o_C_tellings.ex
  obtain ⟨fd_keys_of, F_keys_of, b_keys_of⟩ := o_keys_of.ex
  obtain ⟨fd_stamps_of, F_stamps_of, b_stamps_of⟩ := o_stamps_of.ex
  obtain ⟨tk_MOST_CHANGES_merging, g_MOST_CHANGES_merging⟩ := T.i_MOST_CHANGES_merging
  obtain ⟨tk_MOST_KEYS_merging, g_MOST_KEYS_merging⟩ := T.i_MOST_KEYS_merging
  have hu := hu_of hr
  refine ⟨_,
      (pss_cons (ps_if (pt_cmpR (op_neD hr.units) (pe_meth0 (pv 1) T.c_Copy T.m_Copy_endings F_C_endings (hr.mono (by decide)) b_C_endings .nil pass0) (pe_fld (pv 0) rfl) (nomark _))
        (pss_one ps_never)
        pss_nil)
      (pss_cons (ps_set (i := 2) sc_C_merge.nd rfl (Or.inl rfl) (pe_call F_stamps_of (hr.mono (by decide)) (by rfl) T.g_stamps_of o_stamps_of.kp b_stamps_of .nil pass0 (pa_cons (pe_fld (pv 0) rfl) pa_nil)))
      (pss_cons (ps_set (i := 3) sc_C_merge.nd rfl (Or.inl rfl) (pe_lst pa_nil))
      (pss_cons (ps_for PassesOwn.never rfl (pi_list (pe_meth0 (pv 1) T.c_Copy T.m_Copy_tellings F_C_tellings (hr.mono (by decide)) b_C_tellings .nil pass0)) (pg_name (i := 4) sc_C_merge.nd rfl (Or.inl rfl))
        (pss_one (ps_if (pt_cmp (pc_dnotin hu (pe_slice sl_tup (pv 4) po_none (po_some pe_int)) (pv 2)))
          (pss_one (ps_expr (pe_bm PySem.F.plainAttrs_list PySem.F.slot_list_append PySem.F.type_list_append mt_append (pv 3) (pa_cons (pv 4) pa_nil))))
          (pss_one (ps_if (pt_cmpR (op_neD hr.units) (pe_dget hu (pv 2) (pe_slice sl_tup (pv 4) po_none (po_some pe_int)) (fun _ _ => rfl)) (pe_ix ix_tup (pv 4) pe_int (fun _ _ => rfl)) (nomark _))
            (pss_one ps_never)
            pss_nil)))))
      (pss_cons (ps_if (pt_cmpR op_gt (pe_op op_add (pe_callB call_len_seq (by rfl) T.n_len (by decide +kernel) (pa_cons (pe_fld (pv 0) rfl) pa_nil)) (pe_callB call_len_seq (by rfl) T.n_len (by decide +kernel) (pa_cons (pv 3) pa_nil))) (pe_glob (v := .int 80) (by rfl) g_MOST_CHANGES_merging ⟨_, rfl⟩) (nomark _))
        (pss_one ps_never)
        pss_nil)
      (pss_cons (ps_if (pt_cmpR op_gt (pe_callB call_lenD (by rfl) T.n_len (by decide +kernel) (pa_cons (pe_call F_keys_of (hr.mono (by decide)) (by rfl) T.g_keys_of o_keys_of.kp b_keys_of .nil pass0 (pa_cons (pe_op op_cat (pe_fld (pv 0) rfl) (pv 3)) pa_nil)) pa_nil)) (pe_glob (v := .int 12) (by rfl) g_MOST_KEYS_merging ⟨_, rfl⟩) (nomark _))
        (pss_one ps_never)
        pss_nil)
      (pss_cons (ps_expr (pe_meth (pv 0) T.c_Copy T.m_Copy_hold F_C_hold (hr.mono (by decide)) b_C_hold .nil pass0 (pa_cons (pv 3) pa_nil)))
      (pss_one (ps_ret (pe_callB call_len_seq (by rfl) T.n_len (by decide +kernel) (pa_cons (pv 3) pa_nil))))))))))), ?_⟩
  obtain ⟨_, _, rfl, p, q, srcP, srcQ, e, A, B, lp, lq, rfl, rfl, hP, hQ, she, ndA, agr, okA, okB, hm, hB, kk⟩ := h
  obtain ⟨dx, v, xs, h1, h2, h3, h4⟩ := id hP
  obtain ⟨dxq, vq, xq, g1, g2, g3, g4⟩ := id hQ
  have nx := h4.len
  rw [List.length_map] at nx
  have hAB : A.length + (newT A B).length ≤ 12 := by unfold mergeT at hm; rw [List.length_append] at hm; exact hm
  refine ⟨_, rfl, q, dxq, _, rfl, g1, cF_no _ _ _ (by decide +kernel) (by decide +kernel) (by decide +kernel), _, rfl, q, srcQ, e, B, lq, rfl, hQ, fun v1 H1 s1 iv1 => ?_⟩
  refine ⟨_, rfl, p, _, dx, _, _, rfl, s1 _ _ h1, T.c_Copy, T.a_Copy_cuts, cF_c _ _ _, endD e, endD e, Im.dp _ _ iv1, Im.dp _ _ (h2.same s1), she, she, _, rfl, ?_⟩
  rw [eqv_self she]
  refine iteF ?_
  refine ⟨_, rfl, p, _, dx, _, _, rfl, s1 _ _ h1, T.c_Copy, T.a_Copy_all, cF_a _ _ _, _, rfl, lp, xs, A, rfl, s1 _ _ h3, h4.same s1, ndA, by omega, fun d kvs H2 nd s2 hd st => ?_⟩
  refine ⟨Nat.zero_le _, fun nl hnl => ?_⟩
  have sA := s1.trans s2
  have hnl0 : H nl = none := none_of_same sA hnl
  have sn := same_new (o := .lst []) hnl
  have sB := sA.trans sn
  refine ⟨_, rfl, q, dxq, _, rfl, sB _ _ g1, cF_no _ _ _ (by decide +kernel) (by decide +kernel) (by decide +kernel), _, rfl, q, srcQ, e, B, lq, rfl, hQ.same sB, fun tl zs H3 n3 s3 htl itl => ?_⟩
  have sC := sB.trans s3
  have hn3 : H3 nl = some (.lst []) := s3 _ _ upd_same
  have hd3 : H3 d = some (.dT kvs) := s3 _ _ (sn _ _ hd)
  have ntl : tl ≠ nl := fun z => by rw [z, upd_same] at n3; cases n3
  have ndl : d ≠ nl := ne_of hd3 hn3 (fun z => nomatch z)
  have st3 : StAt K H3 kvs A := st.tp ((tp_same sn).trans (tp_same s3))
  refine ⟨tl, rfl, ⟨_, SqL.of htl⟩, for_list (K := K) (a := tl) (xs := zs) (fun i σ H' => ∃ (ws : List V) (q4 : Option V), σ = [some (.ref p), some (.ref q), some (.ref d), some (.ref nl), q4] ∧ But nl H3 H' ∧ H' nl = some (.lst ws) ∧ ImAll K H' ws ((((sortT B).take i).filter fun t => !(A.map tk).contains (tk t)).map telD))
    ⟨[], none, rfl, but_same (Same.refl _) _, hn3, .nil⟩ (fun i σ H' _ ⟨_, _, _, b, _⟩ => SqL.of (b.same _ _ ntl htl)) ?_ ?_⟩
  · rintro i y σ H' hy ⟨ws, q4, rfl, b, hw, iw⟩
    obtain ⟨_, hd2, imy⟩ := itl.get hy
    obtain ⟨t, et, rfl⟩ := at_map hd2
    have htB : t ∈ B := mem_sortT.mp (List.mem_of_getElem? et)
    have imt := imy.tp b.tp
    obtain ⟨a, c, rfl, hT, ic⟩ := im_tel imt
    have e1 : (sortT B).take (i + 1) = (sortT B).take i ++ [t] := take_succ_of et
    have hdk := b.same _ _ ndl hd3
    refine ⟨_, rfl, _, rfl, a, _, rfl, hT, cut2n _ _ _, fun k hk => ?_⟩
    rw [cut2]
    have sk := same_new (o := .tup [.int t.1, .int t.2.1]) hk
    refine ⟨_, rfl, d, valV kvs (tKey t), rfl, DGet.t (k := tKey t) (up hk hdk) upd_same, _, rfl, ?_⟩
    by_cases hin : tk t ∈ A.map tk
    · obtain ⟨u, hu1, hu2, vv, hv1, hv2⟩ := StAt.some st3 hin
      obtain rfl := agr u hu1 t htB hu2
      rw [hv1]
      refine iteF ?_
      refine ⟨_, rfl, _, rfl, _, rfl, a, _, rfl, sqT_tp (tp_same sk) hT, cut2n _ _ _, fun k2 hk2 => ?_⟩
      rw [cut2]
      have sk2 := same_new (o := .tup [.int u.1, .int u.2.1]) hk2
      refine ⟨d, vv, rfl, by rw [← hv1]; exact DGet.t (k := tKey u) (up hk2 (up hk hdk)) upd_same, _, rfl, a, _, _, c, rfl, rfl, sqT_tp (tp_same sk2) (sqT_tp (tp_same sk) hT), rfl, chgD u.2.2, chgD u.2.2, Im.dp _ _ (((hv2.tp b.tp).same sk).same sk2), Im.dp _ _ ((ic.same sk).same sk2), chg_shaped (okB u htB), chg_shaped (okB u htB), _, rfl, ?_⟩
      rw [eqv_self (chg_shaped (okB u htB))]
      refine iteF ⟨ws, _, rfl, b.trans (but_same (sk.trans sk2) nl), up hk2 (up hk hw), ?_⟩
      rw [e1, List.filter_append, List.filter_cons, if_neg (by rw [List.contains_eq_mem, decide_eq_true hin]; decide), List.filter_nil, List.append_nil]
      exact (iw.same sk).same sk2
    · rw [StAt.none st3 hin]
      refine iteT ?_
      have hlen : ws.length ≤ 80 := by
        have h1 := iw.len
        rw [List.length_map] at h1
        have h2 := List.length_filter_le (fun t : Tel => !(A.map tk).contains (tk t)) ((sortT B).take i)
        have h4 : ws.length ≤ ((sortT B).take i).length := Nat.le_trans (Nat.le_of_eq h1) h2
        rw [List.length_take] at h4
        have h3 : (sortT B).length = B.length := by unfold sortT; exact List.length_mergeSort ..
        omega
      refine ⟨_, rfl, .inl ⟨rfl, _, SqL.of (up hk hw)⟩, _, rfl, nl, ws, _, rfl, rfl, up hk hw, sz80 hlen, _, _, rfl, ?_, upd_same, ?_⟩
      · exact b.trans (But.of sk (up hk hw))
      · rw [e1, List.filter_append, List.map_append, List.filter_cons, if_pos (by rw [List.contains_eq_mem, decide_eq_false hin]; rfl), List.filter_nil]
        exact ImAll.tp (tp_lst (up hk hw)) ((iw.same sk).snoc (imt.same sk))
  · rintro σ H' ⟨ws, q4, rfl, b, hw, iw⟩
    have hzs := itl.len
    rw [List.length_map] at hzs
    rw [List.take_of_length_le (by omega)] at iw
    have iw : ImAll K H' ws ((newT A B).map telD) := iw
    have nw := iw.len
    rw [List.length_map] at nw
    have sD : Same H H' := But.fresh sC hnl0 b
    have hP' := hP.same sD
    refine ⟨_, rfl, p, _, dx, _, _, rfl, sD _ _ h1, T.c_Copy, T.a_Copy_all, cF_a _ _ _, lp, xs, rfl, .inl (SqL.of (sD _ _ h3)), _, rfl, nl, ws, rfl, .inl (SqL.of hw), _, _, rfl, rfl, _, _, rfl, rfl, _, rfl, ?_⟩
    rw [decide_eq_false (by omega)]
    refine iteF ?_
    refine ⟨_, rfl, p, _, dx, _, _, rfl, sD _ _ h1, T.c_Copy, T.a_Copy_all, cF_a _ _ _, _, rfl, lp, nl, xs, ws, rfl, rfl, sD _ _ h3, hw, Nat.le_of_lt (sz80 (by omega)), fun l5 hl5 => ?_⟩
    have s5 := same_new (o := .lst (xs ++ ws)) hl5
    refine ⟨_, rfl, l5, xs ++ ws, A ++ newT A B, rfl, upd_same, by rw [List.map_append]; exact ((h4.same sD).same s5).app (iw.same s5), by rw [List.length_append]; omega, fun dk kv2 H5 nk s6 hdk hle => ?_⟩
    rw [List.length_append] at hle
    refine ⟨dk, kv2, rfl, hdk, _, _, rfl, rfl, _, rfl, ?_⟩
    rw [decide_eq_false (by omega)]
    refine iteF ?_
    have sE := sD.trans (s5.trans s6)
    have hw5 := (s5.trans s6) _ _ hw
    refine ⟨_, rfl, p, dx, _, rfl, sE _ _ h1, cF_no _ _ _ (by decide +kernel) (by decide +kernel) (by decide +kernel), _, rfl, _, _, rfl, p, srcP, e, A, newT A B, lp, nl, ws, rfl, hP.same sE, rfl, hw5, iw.same (s5.trans s6), by omega, fun l' H6 nl' b6 hC6 => ?_⟩
    have hw6 := b6.same _ _ (ne_of hw5 (sE _ _ h1) (fun z => nomatch z)) hw5
    refine ⟨_, rfl, nl, ws, rfl, .inl (SqL.of hw6), ?_⟩
    rw [nw]
    exact kk l' H6 (none_of_same sE nl') ((but_same sE p).trans b6) hC6
end
end K46

set_option maxHeartbeats 2000000
namespace K46
open PySem PySem.Spec PyProof.Rows L2
/-! ### two copies with the same tellings are alike -/
theorem layAll {α : Type} {f : α → PyData} : ∀ {l : List α}, (∀ x ∈ l, (f x).canLay0 = true) → PyData.canLayAll0 (l.map f) = true
  | [], _ => rfl
  | x :: l, h => by
    show ((f x).canLay0 && PyData.canLayAll0 (l.map f)) = true
    rw [h x (List.mem_cons_self ..), layAll fun y m => h y (List.mem_cons_of_mem _ m)]; rfl
theorem depAll {α : Type} {f : α → PyData} {n : Nat} : ∀ {l : List α}, (∀ x ∈ l, (f x).depth ≤ n) → PyData.depthAll (l.map f) ≤ n
  | [], _ => Nat.zero_le _
  | x :: l, h => by
    show max (f x).depth (PyData.depthAll (l.map f)) ≤ n
    have h1 := h x (List.mem_cons_self ..)
    have h2 := depAll fun y m => h y (List.mem_cons_of_mem _ m)
    exact Nat.max_le.mpr ⟨h1, h2⟩
theorem lst_shaped {α : Type} {f : α → PyData} {l : List α} (h1 : ∀ x ∈ l, (f x).canLay0 = true) (h2 : ∀ x ∈ l, (f x).depth ≤ 50) : SeqAt.shaped (.list (l.map f)) = true := by
  unfold SeqAt.shaped
  rw [Bool.and_eq_true]
  refine ⟨layAll h1, decide_eq_true ?_⟩
  show PyData.depthAll (l.map f) + 1 ≤ 64
  have := depAll h2
  omega
theorem tel_lay {t : Tel} (h : ChgOk t.2.2) : (telD t).canLay0 = true := by
  show (true && (true && ((chgD t.2.2).canLay0 && true))) = true
  rw [chg_lay h]; rfl
theorem tel_depth (t : Tel) : (telD t).depth ≤ 50 := by
  show max 0 (max 0 (max (chgD t.2.2).depth 0)) + 1 ≤ 50
  rw [chg_depth]; decide
theorem ver_lay {v : Ver} (h : VOk v) : (verD v).canLay0 = true := by
  show (true && ((optI v.2.1).canLay0 && ((docD v.2.2).canLay0 && true))) = true
  have e1 : (optI v.2.1).canLay0 = true := by cases v.2.1 <;> rfl
  have e2 : (docD v.2.2).canLay0 = true := lay_strs h.1
  rw [e1, e2]; rfl
theorem ver_depth (v : Ver) : (verD v).depth ≤ 50 := by
  have e1 : (optI v.2.1).depth = 0 := by cases v.2.1 <;> rfl
  have e2 : (docD v.2.2).depth = 1 := by show PyData.depthAll (v.2.2.map .str) + 1 = 1; rw [dep_strs]
  show max 0 (max (optI v.2.1).depth (max (docD v.2.2).depth 0)) + 1 ≤ 50
  rw [e1, e2]; decide
section
variable {P : Program} {w : World} {K : PySem.W.Frag} {mg : Str → Option Value} {base : Heap}
theorem dp_lst {H : Hp} {l : Addr} {xs : List V} {ds : List PyData} (h : H l = some (.lst xs)) (ia : ImAll K H xs ds) : Dp K H (.ref l) (.list ds) := .lst (SqL.of h) (ImAll.dp _ _ ia)
def spAlike (K : PySem.W.Frag) : Sp := sp3 fun a b c H Q => ∃ (p q : Addr) (sp sq : Int) (e : List (Str × Int)) (A B : List Tel) (lp lq : Addr) (qn : Qn), a = .ref p ∧ b = .ref q ∧ CopyAt K H p sp e A lp ∧ CopyAt K H q sq e B lq ∧ sortT A = sortT B ∧ A.length ≤ 12 ∧ B.length ≤ 12 ∧ EndOk e ∧
  (∀ t ∈ A, ChgOk t.2.2) ∧ (∀ t ∈ B, ChgOk t.2.2) ∧ Im K H c qn.dat ∧ qn.Ok ∧ qn.dep ≤ 3 ∧ RetV H (.bl true) Q
abbrev N_law_alike : List Str := ["_law_one", "_law_other", "_law_question_here", "_law_shelf", "_law_more", "_law_key"]
theorem sc_law_alike : FnScope N_law_alike ["_law_one", "_law_other", "_law_question_here"] (defScope s_law_alike) := ⟨rfl, rfl, rfl, by decide +kernel, rfl, by decide +kernel, by decide +kernel⟩
theorem ok_law_alike (T : Ctx K mg) (o_C_tellings : Ok P w K mg base 5 (He.ma K (He.ga K "Copy") "tellings") ["self"] (spCTellings K)) (o_C_shelf : Ok P w K mg base 6 (He.ma K (He.ga K "Copy") "shelf") ["self"] (spCShelf K)) (o_S_changes : Ok P w K mg base 1 (He.ma K (He.ga K "Shelf") "changes") ["self"] (spSChanges K)) (o_S_known_keys : Ok P w K mg base 1 (He.ma K (He.ga K "Shelf") "known_keys") ["self"] (spKnown K)) (o_S_history : Ok P w K mg base 3 (He.ma K (He.ga K "Shelf") "history") ["self", "key"] (spHist K)) (o_S_plain_answer : Ok P w K mg base 7 (He.ma K (He.ga K "Shelf") "plain_answer") ["self", "question"] (spAnswer K)) : Ok P w K mg base 8 (He.ga K "_law_alike") ["_law_one", "_law_other", "_law_question_here"] (spAlike K) := by
  refine okF T.d_law_alike sc_law_alike len3 (fun _ _ _ _ _ _ us hl => match us, hl with | [_, _, _], _ => rfl) (fun cdv A outer s H vs Q E hr h => ?_)
  obtain ⟨fd_C_shelf, F_C_shelf, b_C_shelf⟩ := o_C_shelf.ex
  obtain ⟨fd_C_tellings, F_C_tellings, b_C_tellings⟩ := o_C_tellings.ex
  obtain ⟨fd_S_changes, F_S_changes, b_S_changes⟩ := o_S_changes.ex
  obtain ⟨fd_S_history, F_S_history, b_S_history⟩ := o_S_history.ex
  obtain ⟨fd_S_known_keys, F_S_known_keys, b_S_known_keys⟩ := o_S_known_keys.ex
  obtain ⟨fd_S_plain_answer, F_S_plain_answer, b_S_plain_answer⟩ := o_S_plain_answer.ex
  refine ⟨_,
      (pss_cons (ps_if (pt_cmpR (op_neD hr.units) (pe_meth0 (pv 0) T.c_Copy T.m_Copy_tellings F_C_tellings (hr.mono (by decide)) b_C_tellings .nil pass0) (pe_meth0 (pv 1) T.c_Copy T.m_Copy_tellings F_C_tellings (hr.mono (by decide)) b_C_tellings .nil pass0) (nomark _))
        (pss_one (ps_ret pe_bl))
        pss_nil)
      (pss_cons (ps_set (i := 3) sc_law_alike.nd rfl (Or.inl rfl) (pe_meth0 (pv 0) T.c_Copy T.m_Copy_shelf F_C_shelf (hr.mono (by decide)) b_C_shelf .nil pass0))
      (pss_cons (ps_set (i := 4) sc_law_alike.nd rfl (Or.inl rfl) (pe_meth0 (pv 1) T.c_Copy T.m_Copy_shelf F_C_shelf (hr.mono (by decide)) b_C_shelf .nil pass0))
      (pss_cons (ps_if (PW.pt (pw_or (pt_cmpR (op_neD hr.units) (pe_meth0 (pv 3) T.c_Shelf T.m_Shelf_changes F_S_changes (hr.mono (by decide)) b_S_changes .nil pass0) (pe_meth0 (pv 4) T.c_Shelf T.m_Shelf_changes F_S_changes (hr.mono (by decide)) b_S_changes .nil pass0) (nomark _)) (pw_or1 (pt_cmpR (op_neD hr.units) (pe_meth0 (pv 3) T.c_Shelf T.m_Shelf_known_keys F_S_known_keys (hr.mono (by decide)) b_S_known_keys .nil pass0) (pe_meth0 (pv 4) T.c_Shelf T.m_Shelf_known_keys F_S_known_keys (hr.mono (by decide)) b_S_known_keys .nil pass0) (nomark _)))))
        (pss_one (ps_ret pe_bl))
        pss_nil)
      (pss_cons (ps_for PassesOwn.never rfl (pi_list (pe_meth0 (pv 3) T.c_Shelf T.m_Shelf_known_keys F_S_known_keys (hr.mono (by decide)) b_S_known_keys .nil pass0)) (pg_name (i := 5) sc_law_alike.nd rfl (Or.inl rfl))
        (pss_one (ps_if (pt_cmpR (op_neD hr.units) (pe_meth (pv 3) T.c_Shelf T.m_Shelf_history F_S_history (hr.mono (by decide)) b_S_history .nil pass0 (pa_cons (pv 5) pa_nil)) (pe_meth (pv 4) T.c_Shelf T.m_Shelf_history F_S_history (hr.mono (by decide)) b_S_history .nil pass0 (pa_cons (pv 5) pa_nil)) (nomark _))
          (pss_one (ps_ret pe_bl))
          pss_nil)))
      (pss_one (ps_ret (pe_cmpR (op_eqDD hr.units) (pe_meth (pv 3) T.c_Shelf T.m_Shelf_plain_answer F_S_plain_answer (hr.mono (by decide)) b_S_plain_answer .nil pass0 (pa_cons (pv 2) pa_nil)) (pe_meth (pv 4) T.c_Shelf T.m_Shelf_plain_answer F_S_plain_answer (hr.mono (by decide)) b_S_plain_answer .nil pass0 (pa_cons (pv 2) pa_nil)) (nomark _))))))))), ?_⟩
  obtain ⟨_, _, qv, rfl, p, q, sp, sq, e, A, B, lp, lq, qn, rfl, rfl, hP, hQ, hAB, nA, nB, he, okA, okB, iq, qok, qd, kk⟩ := h
  obtain ⟨dx, v, xs, h1, h2, h3, h4⟩ := id hP
  obtain ⟨dxq, vq, xq, g1, g2, g3, g4⟩ := id hQ
  have okS : ∀ t ∈ sortT B, ChgOk t.2.2 := fun t m => okB t (mem_sortT.mp m)
  have shT : SeqAt.shaped (.list ((sortT B).map telD)) = true := lst_shaped (fun t m => tel_lay (okS t m)) (fun t _ => tel_depth t)
  refine ⟨_, rfl, p, dx, _, rfl, h1, cF_no _ _ _ (by decide +kernel) (by decide +kernel) (by decide +kernel), _, rfl, p, sp, e, A, lp, rfl, hP, fun t1 z1 H1 n1 s1 ht1 it1 => ?_⟩
  rw [hAB] at it1
  refine ⟨_, rfl, q, dxq, _, rfl, s1 _ _ g1, cF_no _ _ _ (by decide +kernel) (by decide +kernel) (by decide +kernel), _, rfl, q, sq, e, B, lq, rfl, hQ.same s1, fun t2 z2 H2 n2 s2 ht2 it2 => ?_⟩
  refine ⟨_, _, dp_lst (s2 _ _ ht1) (it1.same s2), dp_lst ht2 it2, shT, shT, _, rfl, ?_⟩
  rw [eqv_self shT]
  refine iteF ?_
  have sA := s1.trans s2
  refine ⟨_, rfl, p, dx, _, rfl, sA _ _ h1, cF_no _ _ _ (by decide +kernel) (by decide +kernel) (by decide +kernel), _, rfl, p, sp, e, A, lp, rfl, hP.same sA, nA, okA, fun s l H3 ns nl s3 stA => ?_⟩
  rw [hAB] at stA
  have sB := sA.trans s3
  refine ⟨_, rfl, q, dxq, _, rfl, sB _ _ g1, cF_no _ _ _ (by decide +kernel) (by decide +kernel) (by decide +kernel), _, rfl, q, sq, e, B, lq, rfl, hQ.same sB, nB, okB, fun u m H4 nu nm s4 stB => ?_⟩
  have sC := sB.trans s4
  have stA := stA.same s4
  have hcs : ∀ c ∈ (sortT B).map (·.2.2), ChgOk c := fun c m => by obtain ⟨t, ht, rfl⟩ := List.mem_map.mp m; exact okS t ht
  have ncs : ((sortT B).map (·.2.2)).length ≤ 12 := by rw [List.length_map]; unfold sortT; rw [List.length_mergeSort]; exact nB
  generalize (sortT B).map (·.2.2) = cs at stA stB hcs ncs
  have ncs8 : cs.length ≤ 80 := by omega
  obtain ⟨da, va, xa, a1, a2, a3, a4⟩ := id stA
  obtain ⟨db, vb, xb, b1, b2, b3, b4⟩ := id stB
  have shC : SeqAt.shaped (.list (cs.map chgD)) = true := lst_shaped (fun c m => chg_lay (hcs c m)) (fun c _ => by rw [chg_depth]; decide)
  have shK : SeqAt.shaped (.list ((knownM cs).map .str)) = true := lst_shaped (fun k m => by obtain ⟨c, hc, rfl⟩ := knownM_mem m; exact strOk_of (key_wok (hcs c hc).key)) (fun k _ => Nat.zero_le _)
  refine ⟨_, rfl, s, da, _, rfl, a1, sF_no _ _ (by decide +kernel) (by decide +kernel), _, rfl, s, e, cs, l, rfl, stA, fun c1 w1 H5 m1 s5 hc1 ic1 => ?_⟩
  refine ⟨_, rfl, u, db, _, rfl, s5 _ _ b1, sF_no _ _ (by decide +kernel) (by decide +kernel), _, rfl, u, e, cs, m, rfl, stB.same s5, fun c2 w2 H6 m2 s6 hc2 ic2 => ?_⟩
  refine ⟨_, _, dp_lst (s6 _ _ hc1) (ic1.same s6), dp_lst hc2 ic2, shC, shC, _, rfl, ?_⟩
  rw [eqv_self shC]
  refine iteF ?_
  have sD := s5.trans s6
  refine ⟨_, rfl, s, da, _, rfl, sD _ _ a1, sF_no _ _ (by decide +kernel) (by decide +kernel), _, rfl, s, e, cs, l, rfl, stA.same sD, ncs8, fun k1 y1 H7 m3 s7 hk1 ik1 => ?_⟩
  have sE := sD.trans s7
  refine ⟨_, rfl, u, db, _, rfl, sE _ _ b1, sF_no _ _ (by decide +kernel) (by decide +kernel), _, rfl, u, e, cs, m, rfl, stB.same sE, ncs8, fun k2 y2 H8 m4 s8 hk2 ik2 => ?_⟩
  refine ⟨_, _, dp_lst (s8 _ _ hk1) (ik1.same s8), dp_lst hk2 ik2, shK, shK, _, rfl, ?_⟩
  rw [eqv_self shK]
  refine iteF ?_
  have sF := sE.trans s8
  refine ⟨_, rfl, s, da, _, rfl, sF _ _ a1, sF_no _ _ (by decide +kernel) (by decide +kernel), _, rfl, s, e, cs, l, rfl, stA.same sF, ncs8, fun k3 y3 H9 m5 s9 hk3 ik3 => ?_⟩
  have sG := sF.trans s9
  obtain rfl := ia_strs ik3
  refine ⟨k3, rfl, ⟨_, SqL.of hk3⟩, for_list (K := K) (a := k3) (xs := (knownM cs).map V.str) (fun i σ H' => ∃ q5 : Option V, σ = [some (.ref p), some (.ref q), some qv, some (.ref s), some (.ref u), q5] ∧ Same H9 H') ⟨none, rfl, Same.refl _⟩ (fun i σ H' _ ⟨_, _, sm⟩ => SqL.of (sm _ _ hk3)) ?_ ?_⟩
  · rintro i y σ H' hy ⟨q5, rfl, sm⟩
    obtain ⟨k, ek, rfl⟩ := at_map hy
    have hne := known_counted (List.mem_of_getElem? ek)
    have vok := histM_ok e hcs k
    have shH : SeqAt.shaped (.list ((histM e cs k).map verD)) = true := lst_shaped (fun v m => ver_lay (vok.1 v m)) (fun v _ => ver_depth v)
    have sI := sG.trans sm
    refine ⟨_, rfl, s, da, _, rfl, sI _ _ a1, sF_no _ _ (by decide +kernel) (by decide +kernel), _, rfl, _, _, rfl, s, e, cs, l, k, rfl, rfl, stA.same sI, ncs8, he, hcs, hne, fun x1 w3 Ha m6 sa hx1 ix1 => ?_⟩
    have sJ := sI.trans sa
    refine ⟨_, rfl, u, db, _, rfl, sJ _ _ b1, sF_no _ _ (by decide +kernel) (by decide +kernel), _, rfl, _, _, rfl, u, e, cs, m, k, rfl, rfl, stB.same sJ, ncs8, he, hcs, hne, fun x2 w4 Hb m7 sb hx2 ix2 => ?_⟩
    refine ⟨_, _, dp_lst (sb _ _ hx1) (ix1.same sb), dp_lst hx2 ix2, shH, shH, _, rfl, ?_⟩
    rw [eqv_self shH]
    exact iteF ⟨_, rfl, (sm.trans sa).trans sb⟩
  · rintro σ H' ⟨q5, rfl, sm⟩
    have sI := sG.trans sm
    have iq' := iq.same (sC.trans sI)
    refine ⟨_, rfl, s, da, _, rfl, sI _ _ a1, sF_no _ _ (by decide +kernel) (by decide +kernel), _, rfl, _, _, rfl, s, e, cs, l, qn, rfl, stA.same sI, ncs8, he, hcs, iq', qok, qd, fun d1 kv1 Ha m6 sa hd1 an1 nd1 => ?_⟩
    have sJ := sI.trans sa
    refine ⟨_, rfl, u, db, _, rfl, sJ _ _ b1, sF_no _ _ (by decide +kernel) (by decide +kernel), _, rfl, _, _, rfl, u, e, cs, m, qn, rfl, stB.same sJ, ncs8, he, hcs, iq'.same sa, qok, qd, fun d2 kv2 Hb m7 sb hd2 an2 nd2 => ?_⟩
    have an1 := an1.tp (tp_same sb)
    exact ⟨d1, d2, kv1, kv2, rfl, rfl, sb _ _ hd1, hd2, by rw [an1.len, an2.len], ans_alike an1 an2 nd1, kk _ (sC.trans (sJ.trans sb))⟩
end
end K46

set_option maxHeartbeats 2000000
namespace K46
open PySem PySem.Spec PyProof.Rows L2
/-! ### the three copies -/
def putL (f : Nat → Addr) (i : Nat) (a : Addr) : Nat → Addr := fun j => if j = i then a else f j
theorem putL_same {f : Nat → Addr} {i : Nat} {a : Addr} : putL f i a i = a := if_pos rfl
theorem putL_ne {f : Nat → Addr} {i j : Nat} {a : Addr} (h : j ≠ i) : putL f i a j = f j := if_neg h
structure Cps (K : PySem.W.Frag) (H : Hp) (e : List (Str × Int)) (ps ls : Nat → Addr) (T : Nat → List Tel) (D : Addr) : Prop where
  lst : H D = some (.lst [.ref (ps 0), .ref (ps 1), .ref (ps 2)])
  cp : ∀ i : Nat, i < 3 → CopyAt K H (ps i) ((i : Int) + 1) e (T i) (ls i)
  pinj : ∀ i j : Nat, i < 3 → j < 3 → ps i = ps j → i = j
  linj : ∀ i j : Nat, i < 3 → j < 3 → ls i = ls j → i = j
  lD : ∀ i : Nat, i < 3 → ls i ≠ D
section
variable {K : PySem.W.Frag} {H H' : Hp} {e : List (Str × Int)} {ps ls : Nat → Addr} {T : Nat → List Tel} {D : Addr}
theorem CopyAt.insA {a l : Addr} {s : Int} {ts : List Tel} (h : CopyAt K H a s e ts l) : ∃ dx fs, H a = some (.ins (He.ga K "Copy") dx fs) := by obtain ⟨dx, _, _, h, _⟩ := h; exact ⟨_, _, h⟩
theorem CopyAt.lstA {a l : Addr} {s : Int} {ts : List Tel} (h : CopyAt K H a s e ts l) : ∃ xs, H l = some (.lst xs) := by obtain ⟨_, _, _, _, _, h, _⟩ := h; exact ⟨_, h⟩
theorem Cps.pl (c : Cps K H e ps ls T D) {i j : Nat} (hi : i < 3) (hj : j < 3) : ps i ≠ ls j := by
  obtain ⟨_, _, h1⟩ := (c.cp i hi).insA
  obtain ⟨_, h2⟩ := (c.cp j hj).lstA
  exact ne_of h1 h2 fun z => nomatch z
theorem Cps.pD (c : Cps K H e ps ls T D) {i : Nat} (hi : i < 3) : ps i ≠ D := by
  obtain ⟨_, _, h1⟩ := (c.cp i hi).insA
  exact ne_of h1 c.lst fun z => nomatch z
theorem Cps.same (c : Cps K H e ps ls T D) (s : Same H H') : Cps K H' e ps ls T D := ⟨s _ _ c.lst, fun i hi => (c.cp i hi).same s, c.pinj, c.linj, c.lD⟩
theorem Cps.tell (c : Cps K H e ps ls T D) {i : Nat} (hi : i < 3) {A : List Tel} (b : But (ls i) H H') (new : CopyAt K H' (ps i) ((i : Int) + 1) e A (ls i)) : Cps K H' e ps ls (put3 T i A) D := by
  refine ⟨b.same _ _ (Ne.symm (c.lD i hi)) c.lst, fun j hj => ?_, c.pinj, c.linj, c.lD⟩
  by_cases q : j = i
  · subst q
    rw [put3_same]; exact new
  · rw [put3_ne q]
    exact (c.cp j hj).but b (c.pl hj hi) fun z => q (c.linj j i hj hi z)
theorem Cps.merge (c : Cps K H e ps ls T D) {i : Nat} (hi : i < 3) {A : List Tel} {l' : Addr} (n : H l' = none) (b : But (ps i) H H') (new : CopyAt K H' (ps i) ((i : Int) + 1) e A l') : Cps K H' e ps (putL ls i l') (put3 T i A) D := by
  have nl : ∀ j, j < 3 → ls j ≠ l' := fun j hj => by
    obtain ⟨_, h2⟩ := (c.cp j hj).lstA
    exact ne_of_none h2 n
  have nD : l' ≠ D := Ne.symm (ne_of_none c.lst n)
  refine ⟨b.same _ _ (Ne.symm (c.pD hi)) c.lst, fun j hj => ?_, c.pinj, fun j k hj hk z => ?_, fun j hj => ?_⟩
  · by_cases q : j = i
    · subst q
      rw [put3_same, putL_same]; exact new
    · rw [put3_ne q, putL_ne q]
      exact (c.cp j hj).but b (fun z => q (c.pinj j i hj hi z)) (Ne.symm (c.pl hi hj))
  · by_cases q : j = i <;> by_cases r : k = i
    · rw [q, r]
    · rw [q, putL_same, putL_ne r] at z
      exact absurd z.symm (nl k hk)
    · rw [r, putL_same, putL_ne q] at z
      exact absurd z (nl j hj)
    · rw [putL_ne q, putL_ne r] at z
      exact c.linj j k hj hk z
  · by_cases q : j = i
    · rw [q, putL_same]; exact nD
    · rw [putL_ne q]; exact c.lD j hj
theorem Cps.at (c : Cps K H e ps ls T D) {z : Int} (h0 : 0 ≤ z) (h1 : z < 3) : ∃ i : Nat, i < 3 ∧ z = (i : Int) ∧ atI [V.ref (ps 0), V.ref (ps 1), V.ref (ps 2)] z = some (.ref (ps i)) := by
  have : z = 0 ∨ z = 1 ∨ z = 2 := by omega
  rcases this with rfl | rfl | rfl
  · exact ⟨0, by decide, rfl, rfl⟩
  · exact ⟨1, by decide, rfl, rfl⟩
  · exact ⟨2, by decide, rfl, rfl⟩
end
theorem ends_ok (ns : List Int) : EndOk (endsM ns) ∧ SeqAt.shaped (endD (endsM ns)) = true := by
  unfold endsM
  split
  · exact ⟨fun _ m => (nomatch m), by decide +kernel⟩
  · split
    · exact ⟨by unfold EndOk; decide +kernel, by decide +kernel⟩
    · exact ⟨by unfold EndOk; decide +kernel, by decide +kernel⟩
section
variable {P : Program} {w : World} {K : PySem.W.Frag} {mg : Str → Option Value} {base : Heap}
def spLTell (K : PySem.W.Frag) : Sp := sp3 fun a b c H Q => ∃ (p : Addr) (src : Int) (e : List (Str × Int)) (ts : List Tel) (l : Addr) (i : Int) (j : Nat), a = .ref p ∧ CopyAt K H p src e ts l ∧ b = .int i ∧ c = .int (j : Int) ∧ j < 1000 ∧ ts.length < 12 ∧ (∀ t ∈ ts, ChgOk t.2.2) ∧
  ∀ (m : Int) (ch : Chg) H', ChgOk ch → (∀ t ∈ ts, t.1 ≤ m) → But l H H' → CopyAt K H' p src e (ts ++ [(1 + m, src, ch)]) l → Q .non H'
abbrev N_law_tell : List Str := ["_law_copy", "_law_cell_here", "_law_k", "_law_change_here"]
theorem sc_law_tell : FnScope N_law_tell ["_law_copy", "_law_cell_here", "_law_k"] (defScope s_law_tell) := ⟨rfl, rfl, rfl, by decide +kernel, rfl, by decide +kernel, by decide +kernel⟩
theorem ok_law_tell (T : Ctx K mg) (o_law_change : Ok P w K mg base 3 (He.ga K "_law_change") ["_law_cell_here", "_law_k"] (spChange K)) (o_C_tell : Ok P w K mg base 7 (He.ma K (He.ga K "Copy") "tell") ["self", "time", "key", "text"] (spCTell K)) : Ok P w K mg base 8 (He.ga K "_law_tell") ["_law_copy", "_law_cell_here", "_law_k"] (spLTell K) := by
  refine okF T.d_law_tell sc_law_tell len3 (fun _ _ _ _ _ _ us hl => match us, hl with | [_, _, _], _ => rfl) (fun cdv A outer s H vs Q E hr h => ?_)
  obtain ⟨fd_C_tell, F_C_tell, b_C_tell⟩ := o_C_tell.ex
  obtain ⟨fd_law_change, F_law_change, b_law_change⟩ := o_law_change.ex
  refine ⟨_,
      (pss_cons (ps_set (i := 3) sc_law_tell.nd rfl (Or.inl rfl) (pe_call F_law_change (hr.mono (by decide)) (by rfl) T.g_law_change o_law_change.kp b_law_change .nil pass0 (pa_cons (pv 1) (pa_cons (pv 2) pa_nil))))
      (pss_one (ps_expr (pe_meth (pv 0) T.c_Copy T.m_Copy_tell F_C_tell (hr.mono (by decide)) b_C_tell .nil pass0 (pa_cons (pe_ix ix_tup (pv 3) pe_int (fun _ _ => rfl)) (pa_cons (pe_ix ix_tup (pv 3) pe_int (fun _ _ => rfl)) (pa_cons (pe_ix ix_tup (pv 3) pe_int (fun _ _ => rfl)) pa_nil))))))), ?_⟩
  obtain ⟨_, _, _, rfl, p, src, e, ts, l, i, j, rfl, hC, rfl, rfl, hj, hn, oks, kk⟩ := h
  obtain ⟨dx, v, xs, h1, _⟩ := id hC
  refine ⟨_, rfl, _, rfl, _, _, rfl, i, j, rfl, rfl, hj, fun ch cv H1 ok s1 ic => ?_⟩
  obtain ⟨t, tv, rfl, hT, _, rfl⟩ := im_chg ic
  refine ⟨_, rfl, p, dx, _, rfl, s1 _ _ h1, cF_no _ _ _ (by decide +kernel) (by decide +kernel) (by decide +kernel), _, rfl, t, _, _, _, rfl, rfl, hT, rfl, _, rfl, t, _, _, _, rfl, rfl, hT, rfl, _, rfl, t, _, _, _, rfl, rfl, hT, rfl, ?_⟩
  exact ⟨_, _, _, _, rfl, p, src, e, ts, l, ch, rfl, hC.same s1, ok, rfl, rfl, rfl, hn, oks, fun m r H' hm b hC2 => kk m ch H' ok hm ((but_same s1 l).trans b) hC2⟩
def spCopies (K : PySem.W.Frag) : Sp := sp1 fun a H Q => ∃ (p : Addr) (ns : List Int), a = .ref p ∧ SqL K H p (ns.map V.int) ∧
  ∀ D ps ls T G H', H D = none → Same H H' → Cps K H' (endsM ns) ps ls T D → Sys ChgOk G T → G.length ≤ 12 → (∀ j, j < 3 → H (ls j) = none ∧ H (ps j) = none) → Q (.ref D) H'
abbrev N_law_copies : List Str := ["_law_script", "_law_k", "_law_copies_here", "_law_cell_here", "_law_who"]
theorem sc_law_copies : FnScope N_law_copies ["_law_script"] (defScope s_law_copies) := ⟨rfl, rfl, rfl, by decide +kernel, rfl, by decide +kernel, by decide +kernel⟩
theorem ok_law_copies (T : Ctx K mg) (o_C_init : Ok P w K mg base 1 (He.ma K (He.ga K "Copy") "__init__") ["self", "source", "endings"] (spCInit K)) (o_law_endings : Ok P w K mg base 2 (He.ga K "_law_endings") ["_law_script"] (spEndings K)) (o_law_cell : Ok P w K mg base 1 (He.ga K "_law_cell") ["_law_script", "_law_k"] (spCell K)) (o_C_merge : Ok P w K mg base 6 (He.ma K (He.ga K "Copy") "merge") ["self", "other"] (spCMerge K)) (o_law_tell : Ok P w K mg base 8 (He.ga K "_law_tell") ["_law_copy", "_law_cell_here", "_law_k"] (spLTell K)) : Ok P w K mg base 9 (He.ga K "_law_copies") ["_law_script"] (spCopies K) := by
  refine okF T.d_law_copies sc_law_copies len1 (fun _ _ _ _ _ _ us hl => match us, hl with | [_], _ => rfl) (fun cdv A outer s H vs Q E hr h => ?_)
  obtain ⟨fd_C_init, F_C_init, b_C_init⟩ := o_C_init.ex
  obtain ⟨fd_C_merge, F_C_merge, b_C_merge⟩ := o_C_merge.ex
  obtain ⟨fd_law_cell, F_law_cell, b_law_cell⟩ := o_law_cell.ex
  obtain ⟨fd_law_endings, F_law_endings, b_law_endings⟩ := o_law_endings.ex
  obtain ⟨fd_law_tell, F_law_tell, b_law_tell⟩ := o_law_tell.ex
  refine ⟨_,
      (pss_cons (ps_setLc (i := 2) (own := [("_law_k", 1)]) (g := gName 1) (by rfl) sc_law_copies.nd rfl rfl (sw_true rfl rfl rfl (by decide +kernel)) (pi_range1 (by rfl) T.n_range (pa_cons pe_int pa_nil)) (blkOk_by (own := [("_law_k", 1)]) (N := N_law_copies) (sc := defScope s_law_copies) (by decide +kernel)) (fun _ _ _ _ _ => pg_name (i := 1) sc_law_copies.nd rfl (Or.inl rfl)) (fun _ _ _ _ _ => pts_nil) (fun _ _ _ _ _ => (pe_make T.k_Copy F_C_init (hr.mono (by decide)) (by rfl) T.g_Copy b_C_init .nil pass0 (pa_cons (pe_op op_add pe_int (pv 1)) (pa_cons (pe_call F_law_endings (hr.mono (by decide)) (by rfl) T.g_law_endings o_law_endings.kp b_law_endings .nil pass0 (pa_cons (pv 0) pa_nil)) pa_nil)))))
      (pss_cons (ps_for PassesOwn.never rfl (pi_range2 (by rfl) T.n_range (pa_cons pe_int (pa_cons pe_int pa_nil))) (pg_name (i := 1) sc_law_copies.nd rfl (Or.inl rfl))
        (pss_cons (ps_set (i := 3) sc_law_copies.nd rfl (Or.inl rfl) (pe_call F_law_cell (hr.mono (by decide)) (by rfl) T.g_law_cell o_law_cell.kp b_law_cell .nil pass0 (pa_cons (pv 0) (pa_cons (pv 1) pa_nil))))
        (pss_cons (ps_set (i := 4) sc_law_copies.nd rfl (Or.inl rfl) (pe_op op_mod (pe_callTy call_int1 (by rfl) T.n_int (by decide +kernel) (pa_cons (pe_op op_fdiv (pv 3) pe_int) pa_nil)) pe_int))
        (pss_one (ps_if (pt_cmpR op_eq (pe_op op_mod (pe_callTy call_int1 (by rfl) T.n_int (by decide +kernel) (pa_cons (pe_op op_fdiv (pv 3) pe_int) pa_nil)) pe_int) pe_int (nomark _))
          (pss_one (ps_expr (pe_meth (pe_ix ix_list (pv 2) (pv 4) (fun _ _ => rfl)) T.c_Copy T.m_Copy_merge F_C_merge (hr.mono (by decide)) b_C_merge .nil pass0 (pa_cons (pe_ix ix_list (pv 2) (pe_op op_mod (pe_callTy call_int1 (by rfl) T.n_int (by decide +kernel) (pa_cons (pe_op op_add (pe_op op_add (pv 4) pe_int) (pe_op op_fdiv (pv 3) pe_int)) pa_nil)) pe_int) (fun _ _ => rfl)) pa_nil))))
          (pss_one (ps_if (pt_cmpR op_lt (pv 1) (pe_callB call_len_seq (by rfl) T.n_len (by decide +kernel) (pa_cons (pv 0) pa_nil)) (nomark _))
            (pss_one (ps_expr (pe_call F_law_tell (hr.mono (by decide)) (by rfl) T.g_law_tell o_law_tell.kp b_law_tell .nil pass0 (pa_cons (pe_ix ix_list (pv 2) (pv 4) (fun _ _ => rfl)) (pa_cons (pv 3) (pa_cons (pv 1) pa_nil))))))
            pss_nil)))))))
      (pss_one (ps_ret (pv 2))))), ?_⟩
  obtain ⟨_, rfl, p, ns, rfl, hS, kk⟩ := h
  obtain ⟨endOk, endSh⟩ := ends_ok ns
  refine ⟨3, rfl, by decide, by decide, fun D hD => lc_range (n := 3) (fun i H' => ∃ ps ls : Nat → Addr, H' D = some (.lst ((List.range i).map fun j => V.ref (ps j))) ∧ (∀ j : Nat, j < i → CopyAt K H' (ps j) ((j : Int) + 1) (endsM ns) [] (ls j)) ∧ (∀ j k : Nat, j < i → k < i → ps j = ps k → j = k) ∧ (∀ j k : Nat, j < i → k < i → ls j = ls k → j = k) ∧ (∀ j, j < i → ls j ≠ D) ∧ Same H H' ∧ (∀ j, j < i → H (ls j) = none ∧ H (ps j) = none))
    ⟨fun _ => 0, fun _ => 0, upd_same, fun _ z => absurd z (Nat.not_lt_zero _), fun _ _ z => absurd z (Nat.not_lt_zero _), fun _ _ z => absurd z (Nat.not_lt_zero _), fun _ z => absurd z (Nat.not_lt_zero _), same_new hD, fun _ z => absurd z (Nat.not_lt_zero _)⟩ ?_ ?_⟩
  · rintro i H1 hi ⟨ps, ls, hd, cp, pin, lin, lD, sm, fr⟩
    refine ⟨rfl, _, rfl, _, _, rfl, rfl, ?_⟩
    refine ⟨_, rfl, _, rfl, p, ns, rfl, sm.seq hS, fun v H2 s2 iv x dx hx hdx hne => ?_⟩
    have sd := same_new (o := .own x) hdx
    have hx2 : upd H2 dx (.own x) x = none := (upd_ne (Ne.symm hne)).trans hx
    have s3 := sd.trans (same_new (o := .ins (He.ga K "Copy") dx []) hx2)
    have s13 := s2.trans s3
    refine ⟨_, _, _, rfl, x, dx, 1 + (0 + (i : Int)), endsM ns, rfl, rfl, by omega, by omega, upd_same, iv.same s3, fun l H4 nl b4 cC => ⟨rfl, ?_⟩⟩
    have e1 : 1 + (0 + (i : Int)) = (i : Int) + 1 := by omega
    rw [e1] at cC
    have hx1 : H1 x = none := none_of_same s2 hx
    have hl1 : H1 l = none := none_of_same s13 nl
    have s14 : Same H1 H4 := fun c o ec => b4.same c o (ne_of_none ec hx1) (s13 _ _ ec)
    have hd4 := s14 _ _ hd
    have b5 : ∀ o, But D H4 (upd H4 D o) := fun o => ⟨fun c u n ec => (upd_ne n).trans ec, tp_lst hd4⟩
    have xD : x ≠ D := Ne.symm (ne_of_none hd hx1)
    have lnD : l ≠ D := Ne.symm (ne_of_none hd hl1)
    have px : ∀ j, j < i → ps j ≠ x := fun j hj => by
      obtain ⟨_, _, h⟩ := (cp j hj).insA
      exact ne_of_none h hx1
    have lx : ∀ j, j < i → ls j ≠ l := fun j hj => by
      obtain ⟨_, h⟩ := (cp j hj).lstA
      exact ne_of_none h hl1
    have pD : ∀ j, j < i → ps j ≠ D := fun j hj => by
      obtain ⟨_, _, h⟩ := (cp j hj).insA
      exact ne_of h hd fun z => nomatch z
    refine ⟨_, hd4, ?_, putL ps i x, putL ls i l, ?_, fun j hj => ?_, fun j k hj hk z => ?_, fun j k hj hk z => ?_, fun j hj => ?_, same_mut (sm.trans s14) hD, fun j hj => ?_⟩
    · rw [List.length_map, List.length_range]; exact sz80 (by omega)
    · rw [upd_same, List.range_succ, List.map_append, List.map_singleton, putL_same]
      congr 3
      exact List.map_congr_left fun j m => by rw [putL_ne (Nat.ne_of_lt (List.mem_range.mp m))]
    · by_cases q : j = i
      · subst q
        rw [putL_same, putL_same]
        exact cC.but (b5 _) xD lnD
      · have hj2 : j < i := by omega
        rw [putL_ne q, putL_ne q]
        exact ((cp j hj2).same s14).but (b5 _) (pD j hj2) (lD j hj2)
    · by_cases q : j = i <;> by_cases r : k = i
      · rw [q, r]
      · rw [q, putL_same, putL_ne r] at z
        exact absurd z.symm (px k (by omega))
      · rw [r, putL_same, putL_ne q] at z
        exact absurd z (px j (by omega))
      · rw [putL_ne q, putL_ne r] at z
        exact pin j k (by omega) (by omega) z
    · by_cases q : j = i <;> by_cases r : k = i
      · rw [q, r]
      · rw [q, putL_same, putL_ne r] at z
        exact absurd z.symm (lx k (by omega))
      · rw [r, putL_same, putL_ne q] at z
        exact absurd z (lx j (by omega))
      · rw [putL_ne q, putL_ne r] at z
        exact lin j k (by omega) (by omega) z
    · by_cases q : j = i
      · rw [q, putL_same]; exact lnD
      · rw [putL_ne q]; exact lD j (by omega)
    · by_cases q : j = i
      · rw [q, putL_same, putL_same]; exact ⟨none_of_same sm hl1, none_of_same sm hx1⟩
      · rw [putL_ne q, putL_ne q]; exact fr j (by omega)
  · rintro H1 ⟨ps, ls, hd, cp, pin, lin, lD, sm, fr⟩
    have cps : Cps K H1 (endsM ns) ps ls (fun _ => []) D := ⟨hd, cp, pin, lin, lD⟩
    refine ⟨_, _, rfl, ⟨by decide, by decide, by decide, by decide⟩, for_range (n := 12) (fun i σ H' => ∃ (ls : Nat → Addr) (T : Nat → List Tel) (G : List Tel) (q1 q3 q4 : Option V), σ = [some (.ref p), q1, some (.ref D), q3, q4] ∧ Same H H' ∧ Cps K H' (endsM ns) ps ls T D ∧ Sys ChgOk G T ∧ G.length ≤ i ∧ (∀ j, j < 3 → H (ls j) = none ∧ H (ps j) = none))
      ⟨ls, fun _ => [], [], none, none, none, rfl, sm, cps, Sys.start, Nat.le_refl _, fr⟩ ?_ ?_⟩
    · rintro i σ H' hi ⟨ls, T, G, q1, q3, q4, rfl, sm, cps, S, hG, fr⟩
      have e2 : (2 : Int) + (i : Int) = ((2 + i : Nat) : Int) := by omega
      rw [e2]
      refine ⟨_, rfl, _, rfl, _, _, rfl, p, ns, 2 + i, rfl, sm.seq hS, rfl, ?_⟩
      generalize cellM ns (2 + i) = c
      refine ⟨_, rfl, _, _, rfl, rfl, ⟨by decide, by decide⟩, .inl ⟨_, rfl, _, _, rfl, rfl, (by show (0 : Int) < 3; decide), ?_⟩⟩
      refine ⟨_, rfl, _, _, rfl, rfl, ⟨by decide, by decide⟩, .inl ⟨_, rfl, _, _, rfl, rfl, (by show (0 : Int) < 3; decide), rfl, _, rfl, ?_⟩⟩
      have r3 := mod_in (c / 36) 3
      obtain ⟨iw, hiw, ew, haw⟩ := cps.at r3.1 r3.2
      obtain ⟨dw, fw, hw⟩ := (cps.cp iw hiw).insA
      obtain ⟨dxw, vw, xw, w1, w2, w3, w4⟩ := id (cps.cp iw hiw)
      have gw := S.good iw hiw
      refine ite2 (fun _ => ?_) (fun _ => ?_)
      · refine ⟨_, rfl, _, rfl, D, _, _, _, rfl, rfl, SqL.of cps.lst, haw, ps iw, dxw, _, rfl, w1, cF_no _ _ _ (by decide +kernel) (by decide +kernel) (by decide +kernel), ?_⟩
        refine ⟨_, rfl, _, rfl, _, _, rfl, rfl, _, rfl, _, _, rfl, rfl, ⟨by decide, by decide⟩, _, _, rfl, rfl, .inl ⟨_, rfl, _, _, rfl, rfl, (by show (0 : Int) < 3; decide), ?_⟩⟩
        have ro := mod_in (c / 36 % 3 + 1 + c / 324) 3
        obtain ⟨io, hio, eo, hao⟩ := cps.at ro.1 ro.2
        have go := S.good io hio
        have hmg := (gw.merge go).len
        have hlo := go.len
        refine ⟨D, _, _, _, rfl, rfl, SqL.of cps.lst, hao, _, _, rfl, ps iw, ps io, _, _, endsM ns, T iw, T io, ls iw, ls io, rfl, rfl, cps.cp iw hiw, cps.cp io hio, endSh, gw.nd, Good.agree S.nd gw go, fun t m => S.ok t (gw.sub m), fun t m => S.ok t (go.sub m), by omega, by omega, fun l' H2 nl b hC => ?_⟩
        have sm2 := But.fresh sm (fr iw hiw).2 b
        refine ⟨putL ls iw l', _, G, _, _, _, rfl, sm2, cps.merge hiw nl b hC, S.merge hiw hio, by omega, fun j hj => ?_⟩
        by_cases q : j = iw
        · rw [q, putL_same]; exact ⟨none_of_same sm nl, (fr iw hiw).2⟩
        · rw [putL_ne q]; exact fr j hj
      · refine ⟨_, rfl, _, rfl, p, _, rfl, .inl (sm.seq hS), _, _, rfl, rfl, _, rfl, ?_⟩
        refine ite2 (fun _ => ?_) (fun _ => ?_)
        · refine ⟨_, rfl, _, rfl, D, _, _, _, rfl, rfl, SqL.of cps.lst, haw, _, rfl, _, rfl, ?_⟩
          refine ⟨_, _, _, rfl, ps iw, _, endsM ns, T iw, ls iw, c, 2 + i, rfl, cps.cp iw hiw, rfl, rfl, by omega, by have := gw.len; omega, fun t m => S.ok t (gw.sub m), fun m ch H2 ok hm b hC => ?_⟩
          refine ⟨ls, _, G ++ [(1 + m, (iw : Int) + 1, ch)], _, _, _, rfl, But.fresh sm (fr iw hiw).1 b, cps.tell hiw b hC, S.tell hiw hm ok, by rw [List.length_append, List.length_singleton]; omega, fr⟩
        · exact ⟨ls, T, G, _, _, _, rfl, sm, cps, S, by omega, fr⟩
    · rintro σ H' ⟨ls, T, G, q1, q3, q4, rfl, sm, cps, S, hG, fr⟩
      exact ⟨_, rfl, kk D ps ls T G H' hD sm cps S hG fr⟩
end
end K46

set_option maxHeartbeats 2000000
namespace K46
open PySem PySem.Spec PyProof.Rows L2
/-! ### the law -/
section
variable {K : PySem.W.Frag} {H H' : Hp} {e : List (Str × Int)} {ps ls : Nat → Addr} {T : Nat → List Tel} {D : Addr}
theorem Cps.but (c : Cps K H e ps ls T D) {d : Addr} (b : But d H H') (h1 : ∀ i, i < 3 → ps i ≠ d) (h2 : ∀ i, i < 3 → ls i ≠ d) (h3 : D ≠ d) : Cps K H' e ps ls T D :=
  ⟨b.same _ _ h3 c.lst, fun i hi => (c.cp i hi).but b (h1 i hi) (h2 i hi), c.pinj, c.linj, c.lD⟩
end
/-- what the last loop keeps -/
def LawInv (K : PySem.W.Frag) (H : Hp) (e : List (Str × Int)) (ps : Nat → Addr) (D p x r : Addr) (G : List Tel) (q2 q3 : Option V) (qv : V) (qn : Qn) (σ : L2.St) (H' : Hp) : Prop :=
  ∃ (ls : Nat → Addr) (T : Nat → List Tel) (L : List Tel) (lx : Addr) (q6 : Option V), σ = [some (.ref p), some (.ref D), q2, q3, some (.ref x), some qv, q6] ∧ Same H H' ∧ Cps K H' e ps ls T D ∧ Sys ChgOk G T ∧ (∀ j, j < 3 → Full G (T j)) ∧
    CopyAt K H' x 9 e L lx ∧ Good G L ∧ Full G L ∧ H' r = some (.lst [.ref (ps 1), .ref (ps 2), .ref x]) ∧ Im K H' qv qn.dat
section
variable {P : Program} {w : World} {K : PySem.W.Frag} {mg : Str → Option Value} {base : Heap}
theorem okD {x qual : Str} {st : Stmt} {f : Addr} {fd : FuncData} {N ps : List Str} {k : Nat} {sp : Sp} (F : FnP K x qual st f fd) (S : FnScope N ps (defScope st)) (len : ∀ vs H Q E, sp vs H Q E → vs.length = ps.length)
    (body : ∀ (cdv : Value) (A : Around) (outer : List Env) (s : Shared) (H : Hp) (vs : List V) (Q : VK) (E : XK), Room k (A.deeper (envOfC qual (defScope st) s.heap.objs.size f cdv)) → sp vs H Q E →
      ∃ t, PSs (cxOf CX0 P w K mg base N qual (defScope st) f cdv A outer s H E).nox (defBody st) t ∧ t { nx := fun _ H' => Q .non H', rt := Q } (start N vs) H) : FnOk P w K mg base CX0 (k + 1) f fd ps sp := by
  refine F.ok S len fun cdv A outer s H vs Q E hr h => ?_
  obtain ⟨t, h1, h2⟩ := body cdv A outer s H vs Q E hr h
  exact ⟨t, PSs.nox h1, h2⟩
def spLaw (K : PySem.W.Frag) : Sp := sp1 fun a H Q => ∃ (p : Addr) (ns : List Int), a = .ref p ∧ SqL K H p (ns.map V.int) ∧ RetV H (.bl true) Q
abbrev N_law : List Str := ["_law_script", "_law_copies_here", "_law_turn", "_law_k", "_law_late", "_law_question_here", "_law_other"]
theorem sc_law : FnScope N_law ["_law_script"] (defScope s_law) := ⟨rfl, rfl, rfl, by decide +kernel, rfl, by decide +kernel, by decide +kernel⟩
theorem ok_law (T : Ctx K mg) (o_law_copies : Ok P w K mg base 9 (He.ga K "_law_copies") ["_law_script"] (spCopies K)) (o_C_merge : Ok P w K mg base 6 (He.ma K (He.ga K "Copy") "merge") ["self", "other"] (spCMerge K)) (o_C_init : Ok P w K mg base 1 (He.ma K (He.ga K "Copy") "__init__") ["self", "source", "endings"] (spCInit K)) (o_law_endings : Ok P w K mg base 2 (He.ga K "_law_endings") ["_law_script"] (spEndings K)) (o_law_cell : Ok P w K mg base 1 (He.ga K "_law_cell") ["_law_script", "_law_k"] (spCell K)) (o_law_question : Ok P w K mg base 3 (He.ga K "_law_question") ["_law_script", "_law_k"] (spQuestion K)) (o_law_alike : Ok P w K mg base 8 (He.ga K "_law_alike") ["_law_one", "_law_other", "_law_question_here"] (spAlike K)) {fd : FuncData} (F : FnP K "law" "law" s_law (He.ga K "law") fd) : FnOk P w K mg base CX0 10 (He.ga K "law") fd ["_law_script"] (spLaw K) := by
  refine okD F sc_law len1 (fun cdv A outer s H vs Q E hr h => ?_)
  obtain ⟨fd_C_init, F_C_init, b_C_init⟩ := o_C_init.ex
  obtain ⟨fd_C_merge, F_C_merge, b_C_merge⟩ := o_C_merge.ex
  obtain ⟨fd_law_alike, F_law_alike, b_law_alike⟩ := o_law_alike.ex
  obtain ⟨fd_law_cell, F_law_cell, b_law_cell⟩ := o_law_cell.ex
  obtain ⟨fd_law_copies, F_law_copies, b_law_copies⟩ := o_law_copies.ex
  obtain ⟨fd_law_endings, F_law_endings, b_law_endings⟩ := o_law_endings.ex
  obtain ⟨fd_law_question, F_law_question, b_law_question⟩ := o_law_question.ex
  refine ⟨_,
      (pss_cons (ps_set (i := 1) sc_law.nd rfl (Or.inl rfl) (pe_call F_law_copies (hr.mono (by decide)) (by rfl) T.g_law_copies o_law_copies.kp b_law_copies .nil pass0 (pa_cons (pv 0) pa_nil)))
      (Evl.pss_cut (ps_for PassesOwn.never rfl (pi_range1 (by rfl) T.n_range (pa_cons pe_int pa_nil)) (pg_name (i := 2) sc_law.nd rfl (Or.inl rfl))
        (pss_one (ps_for PassesOwn.never rfl (pi_range1 (by rfl) T.n_range (pa_cons pe_int pa_nil)) (pg_name (i := 3) sc_law.nd rfl (Or.inl rfl))
          (pss_cons (ps_expr (pe_meth (pe_ix ix_list (pv 1) (pv 3) (fun _ _ => rfl)) T.c_Copy T.m_Copy_merge F_C_merge (hr.mono (by decide)) b_C_merge .nil pass0 (pa_cons (pe_ix ix_list (pv 1) (pe_op op_mod (pe_callTy call_int1 (by rfl) T.n_int (by decide +kernel) (pa_cons (pe_op op_add (pe_op op_add (pv 3) pe_int) (pe_op op_mod (pe_callTy call_int1 (by rfl) T.n_int (by decide +kernel) (pa_cons (pe_call F_law_cell (hr.mono (by decide)) (by rfl) T.g_law_cell o_law_cell.kp b_law_cell .nil pass0 (pa_cons (pv 0) (pa_cons (pe_op op_add pe_int (pv 2)) pa_nil))) pa_nil)) pe_int)) pa_nil)) pe_int) (fun _ _ => rfl)) pa_nil)))
          (pss_one (ps_expr (pe_meth (pe_ix ix_list (pv 1) (pv 3) (fun _ _ => rfl)) T.c_Copy T.m_Copy_merge F_C_merge (hr.mono (by decide)) b_C_merge .nil pass0 (pa_cons (pe_ix ix_list (pv 1) (pe_op op_mod (pe_callTy call_int1 (by rfl) T.n_int (by decide +kernel) (pa_cons (pe_op op_sub (pe_op op_add (pv 3) pe_int) (pe_op op_mod (pe_callTy call_int1 (by rfl) T.n_int (by decide +kernel) (pa_cons (pe_call F_law_cell (hr.mono (by decide)) (by rfl) T.g_law_cell o_law_cell.kp b_law_cell .nil pass0 (pa_cons (pv 0) (pa_cons (pe_op op_add pe_int (pv 2)) pa_nil))) pa_nil)) pe_int)) pa_nil)) pe_int) (fun _ _ => rfl)) pa_nil))))))))
      (pss_cons (ps_set (i := 4) sc_law.nd rfl (Or.inl rfl) (pe_make T.k_Copy F_C_init (hr.mono (by decide)) (by rfl) T.g_Copy b_C_init .nil pass0 (pa_cons pe_int (pa_cons (pe_call F_law_endings (hr.mono (by decide)) (by rfl) T.g_law_endings o_law_endings.kp b_law_endings .nil pass0 (pa_cons (pv 0) pa_nil)) pa_nil))))
      (pss_cons (ps_for PassesOwn.never rfl (pi_range3 (by rfl) T.n_range (pa_cons pe_int (pa_cons (pe_un un_neg pe_int) (pa_cons (pe_un un_neg pe_int) pa_nil)))) (pg_name (i := 3) sc_law.nd rfl (Or.inl rfl))
        (pss_one (ps_expr (pe_meth (pv 4) T.c_Copy T.m_Copy_merge F_C_merge (hr.mono (by decide)) b_C_merge .nil pass0 (pa_cons (pe_ix ix_list (pv 1) (pv 3) (fun _ _ => rfl)) pa_nil)))))
      (pss_cons (ps_set (i := 5) sc_law.nd rfl (Or.inl rfl) (pe_call F_law_question (hr.mono (by decide)) (by rfl) T.g_law_question o_law_question.kp b_law_question .nil pass0 (pa_cons (pv 0) (pa_cons pe_int pa_nil))))
      (pss_cons (ps_for PassesOwn.never rfl (pi_list (pe_op op_cat (pe_slice sl_list (pv 1) (po_some pe_int) po_none) (pe_lst (pa_cons (pv 4) pa_nil)))) (pg_name (i := 6) sc_law.nd rfl (Or.inl rfl))
        (pss_one (ps_if (PW.pt (pw_or (pt_not (pt_val (pe_call F_law_alike (hr.mono (by decide)) (by rfl) T.g_law_alike o_law_alike.kp b_law_alike .nil pass0 (pa_cons (pe_ix ix_list (pv 1) pe_int (fun _ _ => rfl)) (pa_cons (pv 6) (pa_cons (pv 5) pa_nil)))))) (pw_or1 (pt_cmpR op_ne (pe_meth (pv 6) T.c_Copy T.m_Copy_merge F_C_merge (hr.mono (by decide)) b_C_merge .nil pass0 (pa_cons (pe_ix ix_list (pv 1) pe_int (fun _ _ => rfl)) pa_nil)) pe_int (nomark _)))))
          (pss_one (ps_ret pe_bl))
          pss_nil)))
      (pss_one (ps_ret pe_bl)))))))), ?_⟩
  obtain ⟨_, rfl, p, ns, rfl, hS, kk⟩ := h
  obtain ⟨endOk, endSh⟩ := ends_ok ns
  refine ⟨_, rfl, _, rfl, p, ns, rfl, hS, fun D ps ls T G H1 hD s1 cps S hG fr => ?_⟩
  have frp : ∀ j, j < 3 → H (ps j) = none := fun j hj => (fr j hj).2
  refine ⟨fun σ H' => ∃ (ls : Nat → Addr) (T : Nat → List Tel) (q2 q3 : Option V), σ = [some (.ref p), some (.ref D), q2, q3, none, none, none] ∧ Same H H' ∧ Cps K H' (endsM ns) ps ls T D ∧ Sys ChgOk G T ∧ ∀ j, j < 3 → Full G (T j), ?_, ?_⟩
  · refine ⟨2, rfl, by decide, by decide, for_range (n := 2) (fun t σ H' => ∃ (ls : Nat → Addr) (T : Nat → List Tel) (q2 q3 : Option V), σ = [some (.ref p), some (.ref D), q2, q3, none, none, none] ∧ Same H H' ∧ Cps K H' (endsM ns) ps ls T D ∧ Sys ChgOk G T ∧ (1 ≤ t → ∀ j, j < 3 → Full G (T j)))
      ⟨ls, T, none, none, rfl, s1, cps, S, fun z => absurd z (by decide)⟩ ?_ ?_⟩
    · rintro t σ H' ht ⟨ls, T, q2, q3, rfl, sm, cps, S, _⟩
      refine ⟨3, rfl, by decide, by decide, for_range (n := 3) (fun k σ H' => ∃ (ls : Nat → Addr) (T : Nat → List Tel) (q3 : Option V), σ = [some (.ref p), some (.ref D), some (.int (0 + (t : Int))), q3, none, none, none] ∧ Same H H' ∧ Cps K H' (endsM ns) ps ls T D ∧ Sys ChgOk G T ∧ ∀ j, j < k → Full G (T j))
        ⟨ls, T, q3, rfl, sm, cps, S, fun _ z => absurd z (Nat.not_lt_zero _)⟩ ?_ ?_⟩
      · rintro k σ H' hk ⟨ls, T, q3, rfl, sm, cps, S, fu⟩
        have zk : (0 : Int) + (k : Int) = (k : Int) := by omega
        rw [zk]
        obtain ⟨k', hk', ek, hak⟩ := cps.at (z := (k : Int)) (by omega) (by omega)
        obtain rfl : k' = k := by omega
        have b2 := mod_in (cellM ns (20 + t)) 2
        obtain ⟨dx, v, xs, w1, _⟩ := id (cps.cp k' hk)
        have gk := S.good k' hk
        refine ⟨_, rfl, _, rfl, D, _, _, _, rfl, rfl, SqL.of cps.lst, hak, ps k', dx, _, rfl, w1, cF_no _ _ _ (by decide +kernel) (by decide +kernel) (by decide +kernel), ?_⟩
        refine ⟨_, rfl, _, rfl, _, _, rfl, rfl, _, rfl, _, rfl, _, _, rfl, rfl, _, _, rfl, p, ns, 20 + t, rfl, sm.seq hS, congrArg V.int (by omega), ?_⟩
        generalize hc : cellM ns (20 + t) = c at b2 ⊢
        refine .inl ⟨_, rfl, _, _, rfl, rfl, (by show (0 : Int) < 2; decide), _, _, rfl, rfl, .inl ⟨_, rfl, _, _, rfl, rfl, (by show (0 : Int) < 3; decide), ?_⟩⟩
        have r1 := mod_in ((k' : Int) + 1 + c % 2) 3
        obtain ⟨j1, hj1, e1, ha1⟩ := cps.at r1.1 r1.2
        have g1 := S.good j1 hj1
        have hm1 := (gk.merge g1).len
        have hl1 := g1.len
        refine ⟨D, _, _, _, rfl, rfl, SqL.of cps.lst, ha1, _, _, rfl, ps k', ps j1, _, _, endsM ns, T k', T j1, ls k', ls j1, rfl, rfl, cps.cp k' hk, cps.cp j1 hj1, endSh, gk.nd, Good.agree S.nd gk g1, fun t m => S.ok t (gk.sub m), fun t m => S.ok t (g1.sub m), by omega, by omega, fun l1 H2 nl1 bb1 hC1 => ?_⟩
        have sm2 := But.fresh sm (frp k' hk) bb1
        have cps2 := cps.merge hk nl1 bb1 hC1
        have S2 := S.merge hk hj1
        obtain ⟨dx2, v2, xs2, w2, _⟩ := id (cps2.cp k' hk)
        refine ⟨_, rfl, _, rfl, D, _, _, _, rfl, rfl, SqL.of cps2.lst, hak, ps k', dx2, _, rfl, w2, cF_no _ _ _ (by decide +kernel) (by decide +kernel) (by decide +kernel), ?_⟩
        refine ⟨_, rfl, _, rfl, _, _, rfl, rfl, _, rfl, _, rfl, _, _, rfl, rfl, _, _, rfl, p, ns, 20 + t, rfl, sm2.seq hS, congrArg V.int (by omega), ?_⟩
        rw [hc]
        refine .inl ⟨_, rfl, _, _, rfl, rfl, (by show (0 : Int) < 2; decide), _, _, rfl, rfl, .inl ⟨_, rfl, _, _, rfl, rfl, (by show (0 : Int) < 3; decide), ?_⟩⟩
        have r2 := mod_in ((k' : Int) + 2 - c % 2) 3
        obtain ⟨j2, hj2, e2, ha2⟩ := cps2.at r2.1 r2.2
        have n1 : k' ≠ j1 := by omega
        have n2 : k' ≠ j2 := by omega
        have n3 : j1 ≠ j2 := by omega
        have gk2 := S2.good k' hk
        have g2 := S2.good j2 hj2
        have hm2 := (gk2.merge g2).len
        have hl2 := g2.len
        refine ⟨D, _, _, _, rfl, rfl, SqL.of cps2.lst, ha2, _, _, rfl, ps k', ps j2, _, _, endsM ns, _, _, _, _, rfl, rfl, cps2.cp k' hk, cps2.cp j2 hj2, endSh, gk2.nd, Good.agree S.nd gk2 g2, fun t m => S.ok t (gk2.sub m), fun t m => S.ok t (g2.sub m), by omega, by omega, fun l2 H3 nl2 bb2 hC2 => ?_⟩
        refine ⟨_, _, _, rfl, But.fresh sm2 (frp k' hk) bb2, cps2.merge hk nl2 bb2 hC2, S2.merge hk hj2, fun j hj => ?_⟩
        by_cases q : j = k'
        · rw [q, put3_same, put3_same, put3_ne (Ne.symm n2)]
          exact S.full hk hj1 hj2 n1 n2 n3
        · rw [put3_ne q, put3_ne q]
          exact fu j (by omega)
      · rintro σ H' ⟨ls, T, q3, rfl, sm, cps, S, fu⟩
        exact ⟨ls, T, _, _, rfl, sm, cps, S, fun _ => fu⟩
    · rintro σ H' ⟨ls, T, q2, q3, rfl, sm, cps, S, fu⟩
      exact ⟨ls, T, _, _, rfl, sm, cps, S, fu (by decide)⟩
  · rintro _ H2 ⟨ls, T, q2, q3, rfl, s2, cps, S, fu⟩
    refine ⟨_, rfl, _, rfl, p, ns, rfl, s2.seq hS, fun ev H3 s3 iv x dx hx hdx hne => ?_⟩
    have sd := same_new (o := .own x) hdx
    have hx2 : upd H3 dx (.own x) x = none := (upd_ne (Ne.symm hne)).trans hx
    have s4 := sd.trans (same_new (o := .ins (He.ga K "Copy") dx []) hx2)
    have s34 := s3.trans s4
    refine ⟨_, _, _, rfl, x, dx, 9, endsM ns, rfl, rfl, by decide, by decide, upd_same, iv.same s4, fun lx H4 nl b4 cC => ⟨rfl, ?_⟩⟩
    have hx0 : H2 x = none := none_of_same s3 hx
    have s24 : Same H2 H4 := fun c o ec => b4.same c o (ne_of_none ec hx0) (s34 _ _ ec)
    have sA := s2.trans s24
    have hxH : H x = none := none_of_same s2 hx0
    have xp : ∀ j, j < 3 → ps j ≠ x := fun j hj => by
      obtain ⟨_, _, h⟩ := (cps.cp j hj).insA
      exact ne_of_none h hx0
    have cps4 := cps.same s24
    refine ⟨_, rfl, _, rfl, 2, -1, -1, 3, rfl, (show RgC 2 (-1) (-1) 3 from RgC.neg (by decide) (by decide) (by decide) (by decide)), for_rangeC (lo := 2) (c := -1) (n := 3) (fun i σ H' => ∃ (L : List Tel) (lx : Addr) (q3 : Option V), σ = [some (.ref p), some (.ref D), q2, q3, some (.ref x), none, none] ∧ Same H H' ∧ Cps K H' (endsM ns) ps ls T D ∧ CopyAt K H' x 9 (endsM ns) L lx ∧ Good G L ∧ (1 ≤ i → Full G L))
      ⟨[], lx, q3, rfl, sA, cps4, cC, ⟨fun _ m => (nomatch m), List.nodup_nil⟩, fun z => absurd z (by decide)⟩ ?_ ?_⟩
    · rintro i σ H' hi ⟨L, lx, q3, rfl, sm, cps, cL, gL, fL⟩
      obtain ⟨k, hk, ek, hak⟩ := cps.at (z := 2 + (i : Int) * -1) (by omega) (by omega)
      obtain ⟨dx2, v2, xs2, w2, _⟩ := id cL
      have gk := S.good k hk
      have hm := (gL.merge gk).len
      have hl := gk.len
      refine ⟨_, rfl, x, dx2, _, rfl, w2, cF_no _ _ _ (by decide +kernel) (by decide +kernel) (by decide +kernel), _, rfl, _, rfl, D, _, _, _, rfl, rfl, SqL.of cps.lst, hak, _, _, rfl, x, ps k, 9, _, endsM ns, L, T k, lx, ls k, rfl, rfl, cL, cps.cp k hk, endSh, gL.nd, Good.agree S.nd gL gk, fun t m => S.ok t (gL.sub m), fun t m => S.ok t (gk.sub m), by omega, by omega, fun l' H5 nl' b5 hC => ?_⟩
      refine ⟨_, _, _, rfl, But.fresh sm hxH b5, cps.but b5 xp (fun j hj => ?_) ?_, hC, gL.merge gk, fun _ => Full.take S.nd gL gk (fu k hk)⟩
      · obtain ⟨_, h⟩ := (cps.cp j hj).lstA
        exact ne_of h w2 fun z => nomatch z
      · exact ne_of cps.lst w2 fun z => nomatch z
    · rintro σ H' ⟨L, lx, q3, rfl, sm, cps, cL, gL, fL⟩
      refine ⟨_, rfl, _, _, rfl, p, ns, 22, rfl, sm.seq hS, rfl, by decide, fun qn qv H5 qok qd s5 iq => ?_⟩
      refine ⟨_, rfl, _, rfl, D, _, rfl, SqL.of (s5 _ _ cps.lst), fun p1 hp1 => ?_⟩
      have ec : cutV [V.ref (ps 0), V.ref (ps 1), V.ref (ps 2)] (some 1) none = [V.ref (ps 1), V.ref (ps 2)] := rfl
      rw [ec]
      have t1 := same_new (o := .lst [.ref (ps 1), .ref (ps 2)]) hp1
      refine ⟨_, rfl, sz1, fun p2 hp2 => ?_⟩
      have t2 := same_new (o := .lst [.ref x]) hp2
      refine ⟨p1, p2, _, _, rfl, rfl, t2 _ _ upd_same, upd_same, by show 3 ≤ sizeLine; decide, fun r hr => ?_⟩
      have t3 := same_new (o := .lst ([.ref (ps 1), .ref (ps 2)] ++ [.ref x])) hr
      have sB := s5.trans (t1.trans (t2.trans t3))
      refine ⟨r, rfl, ⟨_, SqL.of upd_same⟩, for_list (K := K) (a := r) (xs := [.ref (ps 1), .ref (ps 2), .ref x]) (fun i σ H' => LawInv K H (endsM ns) ps D p x r G q2 q3 qv qn σ H')
        ⟨ls, T, L, lx, none, rfl, sm.trans sB, cps.same sB, S, fu, cL.same sB, gL, fL (by decide), upd_same, iq.same (t1.trans (t2.trans t3))⟩ (fun i σ H' _ ⟨_, _, _, _, _, _, _, _, _, _, _, _, _, hr, _⟩ => SqL.of hr) ?_ ?_⟩
      · rintro i y σ H' hy ⟨ls, T, L, lx, q6, rfl, sm, cps, S, fu, cL, gL, fL, hr, iq⟩
        obtain ⟨dxx, vx, xsx, wx, _⟩ := id cL
        have ofP : ∀ j, j < 3 → ∃ (o : Addr) (so : Int) (B : List Tel) (lo : Addr), V.ref (ps j) = V.ref o ∧ CopyAt K H' o so (endsM ns) B lo ∧ Good G B ∧ Full G B ∧ ∀ H3 l' H4, Same H' H3 → H3 l' = none → But o H3 H4 → CopyAt K H4 o so (endsM ns) (mergeT B (T 0)) l' →
            LawInv K H (endsM ns) ps D p x r G q2 q3 qv qn [some (.ref p), some (.ref D), q2, q3, some (.ref x), some qv, some (.ref o)] H4 := fun j hj =>
          ⟨ps j, (j : Int) + 1, T j, ls j, rfl, cps.cp j hj, S.good j hj, fu j hj, fun H3 l' H4 s n b hC => by
            obtain ⟨_, _, hpj⟩ := (cps.cp j hj).insA
            obtain ⟨_, hlx⟩ := cL.lstA
            refine ⟨_, _, L, lx, _, rfl, But.fresh (sm.trans s) (frp j hj) b, (cps.same s).merge hj n b hC, S.merge hj (by decide), fun k hk => ?_, (cL.same s).but b (Ne.symm (xp j hj)) (ne_of hlx hpj fun z => nomatch z), gL, fL, b.same _ _ (ne_of hr hpj fun z => nomatch z) (s _ _ hr), (iq.same s).tp b.tp⟩
            by_cases q : k = j
            · rw [q, put3_same]; exact (fu j hj).grow
            · rw [put3_ne q]; exact fu k hk⟩
        have ofX : ∃ (o : Addr) (so : Int) (B : List Tel) (lo : Addr), V.ref x = V.ref o ∧ CopyAt K H' o so (endsM ns) B lo ∧ Good G B ∧ Full G B ∧ ∀ H3 l' H4, Same H' H3 → H3 l' = none → But o H3 H4 → CopyAt K H4 o so (endsM ns) (mergeT B (T 0)) l' →
            LawInv K H (endsM ns) ps D p x r G q2 q3 qv qn [some (.ref p), some (.ref D), q2, q3, some (.ref x), some qv, some (.ref o)] H4 :=
          ⟨x, 9, L, lx, rfl, cL, gL, fL, fun H3 l' H4 s n b hC => by
            refine ⟨ls, T, _, l', _, rfl, But.fresh (sm.trans s) hxH b, (cps.same s).but b xp (fun k hk => ?_) ?_, S, fu, hC, gL.merge (S.good 0 (by decide)), fL.grow, b.same _ _ (ne_of hr wx fun z => nomatch z) (s _ _ hr), (iq.same s).tp b.tp⟩
            · obtain ⟨_, h⟩ := (cps.cp k hk).lstA
              exact ne_of h wx fun z => nomatch z
            · exact ne_of cps.lst wx fun z => nomatch z⟩
        have hlt := (List.getElem?_eq_some_iff.mp hy).1
        have all : ∃ (o : Addr) (so : Int) (B : List Tel) (lo : Addr), y = V.ref o ∧ CopyAt K H' o so (endsM ns) B lo ∧ Good G B ∧ Full G B ∧ ∀ H3 l' H4, Same H' H3 → H3 l' = none → But o H3 H4 → CopyAt K H4 o so (endsM ns) (mergeT B (T 0)) l' →
            LawInv K H (endsM ns) ps D p x r G q2 q3 qv qn [some (.ref p), some (.ref D), q2, q3, some (.ref x), some qv, some (.ref o)] H4 := by
          have hi : i = 0 ∨ i = 1 ∨ i = 2 := by
            have : i < 3 := hlt
            omega
          rcases hi with rfl | rfl | rfl
          · cases hy; exact ofP 1 (by decide)
          · cases hy; exact ofP 2 (by decide)
          · cases hy; exact ofX
        obtain ⟨o, so, B, lo, rfl, hC, gB, fB, next⟩ := all
        have g0 := S.good 0 (by decide)
        have f0 := fu 0 (by decide)
        have l0 := g0.len
        have lB := gB.len
        have lm := (gB.merge g0).len
        have es : sortT (T 0) = sortT B := (sortT_eq (g0.perm S.nd f0) S.nd).trans (sortT_eq (gB.perm S.nd fB) S.nd).symm
        have c0 := cps.cp 0 (by decide)
        refine ⟨_, rfl, D, _, _, _, rfl, rfl, SqL.of cps.lst, rfl, _, rfl, _, rfl, _, _, _, rfl, ps 0, o, _, so, endsM ns, T 0, B, ls 0, lo, qn, rfl, rfl, c0, hC, es, by omega, by omega, endOk, fun t m => S.ok t (g0.sub m), fun t m => S.ok t (gB.sub m), iq, qok, qd, fun H3 s3 => ?_⟩
        refine ⟨_, rfl, iteF ?_⟩
        obtain ⟨dxo, vo, xso, wo, _⟩ := id (hC.same s3)
        refine ⟨_, rfl, o, dxo, _, rfl, wo, cF_no _ _ _ (by decide +kernel) (by decide +kernel) (by decide +kernel), _, rfl, D, _, _, _, rfl, rfl, SqL.of (s3 _ _ cps.lst), rfl, _, _, rfl, o, ps 0, so, _, endsM ns, B, T 0, lo, ls 0, rfl, rfl, hC.same s3, c0.same s3, endSh, gB.nd, Good.agree S.nd gB g0, fun t m => S.ok t (gB.sub m), fun t m => S.ok t (g0.sub m), by omega, by omega, fun l' H4 nl' b hC2 => ?_⟩
        refine ⟨rfl, _, rfl, ?_⟩
        rw [newT_nil (fun t m => fB (g0.sub m))]
        exact iteF (next H3 l' H4 s3 nl' b hC2)
      · rintro σ H' ⟨ls, T, L, lx, q6, rfl, sm, cps, S, fu, cL, gL, fL, hr, iq⟩
        exact kk _ sm
end
end K46

set_option maxHeartbeats 0
namespace K46
open PySem PySem.Spec PyProof.Rows L2
/-! ### the head -/
def dd_words_of : He.DefD := ⟨("words_of", none), "words_of", "words_of", defArgs s_words_of, defBody s_words_of, defScope s_words_of, [], []⟩
def dd_cut : He.DefD := ⟨("cut", none), "cut", "cut", defArgs s_cut, defBody s_cut, defScope s_cut, [], []⟩
def dd_document_of : He.DefD := ⟨("document_of", none), "document_of", "document_of", defArgs s_document_of, defBody s_document_of, defScope s_document_of, [], []⟩
def dd_is_key : He.DefD := ⟨("_is_key", none), "_is_key", "_is_key", defArgs s_is_key, defBody s_is_key, defScope s_is_key, [], []⟩
def dd_is_text : He.DefD := ⟨("_is_text", none), "_is_text", "_is_text", defArgs s_is_text, defBody s_is_text, defScope s_is_text, [], []⟩
def dd_check_change : He.DefD := ⟨("check_change", none), "check_change", "check_change", defArgs s_check_change, defBody s_check_change, defScope s_check_change, [], []⟩
def dd_counted : He.DefD := ⟨("counted", none), "counted", "counted", defArgs s_counted, defBody s_counted, defScope s_counted, [], []⟩
def dd_fits : He.DefD := ⟨("fits", none), "fits", "fits", defArgs s_fits, defBody s_fits, defScope s_fits, [], []⟩
def dd_first_standing : He.DefD := ⟨("first_standing", none), "first_standing", "first_standing", defArgs s_first_standing, defBody s_first_standing, defScope s_first_standing, [], []⟩
def dd_matches : He.DefD := ⟨("matches", none), "matches", "matches", defArgs s_matches, defBody s_matches, defScope s_matches, [], []⟩
def dd_is_in : He.DefD := ⟨("is_in", none), "is_in", "is_in", defArgs s_is_in, defBody s_is_in, defScope s_is_in, [], []⟩
def dd_combined : He.DefD := ⟨("_combined", none), "_combined", "_combined", defArgs s_combined, defBody s_combined, defScope s_combined, [], []⟩
def dd_join : He.DefD := ⟨("join", none), "join", "join", defArgs s_join, defBody s_join, defScope s_join, [], []⟩
def dd_of_span : He.DefD := ⟨("of_span", none), "of_span", "of_span", defArgs s_of_span, defBody s_of_span, defScope s_of_span, [], []⟩
def dd_shelf_of : He.DefD := ⟨("shelf_of", none), "shelf_of", "shelf_of", defArgs s_shelf_of, defBody s_shelf_of, defScope s_shelf_of, [], []⟩
def dd_keys_of : He.DefD := ⟨("keys_of", none), "keys_of", "keys_of", defArgs s_keys_of, defBody s_keys_of, defScope s_keys_of, [], []⟩
def dd_stamps_of : He.DefD := ⟨("stamps_of", none), "stamps_of", "stamps_of", defArgs s_stamps_of, defBody s_stamps_of, defScope s_stamps_of, [], []⟩
def dd_in_order : He.DefD := ⟨("in_order", none), "in_order", "in_order", defArgs s_in_order, defBody s_in_order, defScope s_in_order, [], []⟩
def dd_order_key : He.DefD := ⟨("order_key", none), "order_key", "order_key", defArgs s_order_key, defBody s_order_key, defScope s_order_key, [], []⟩
def dd_law_cell : He.DefD := ⟨("_law_cell", none), "_law_cell", "_law_cell", defArgs s_law_cell, defBody s_law_cell, defScope s_law_cell, [], []⟩
def dd_law_digits : He.DefD := ⟨("_law_digits", none), "_law_digits", "_law_digits", defArgs s_law_digits, defBody s_law_digits, defScope s_law_digits, [], []⟩
def dd_law_padded : He.DefD := ⟨("_law_padded", none), "_law_padded", "_law_padded", defArgs s_law_padded, defBody s_law_padded, defScope s_law_padded, [], []⟩
def dd_law_text : He.DefD := ⟨("_law_text", none), "_law_text", "_law_text", defArgs s_law_text, defBody s_law_text, defScope s_law_text, [], []⟩
def dd_law_endings : He.DefD := ⟨("_law_endings", none), "_law_endings", "_law_endings", defArgs s_law_endings, defBody s_law_endings, defScope s_law_endings, [], []⟩
def dd_law_change : He.DefD := ⟨("_law_change", none), "_law_change", "_law_change", defArgs s_law_change, defBody s_law_change, defScope s_law_change, [], []⟩
def dd_law_tell : He.DefD := ⟨("_law_tell", none), "_law_tell", "_law_tell", defArgs s_law_tell, defBody s_law_tell, defScope s_law_tell, [], []⟩
def dd_law_copies : He.DefD := ⟨("_law_copies", none), "_law_copies", "_law_copies", defArgs s_law_copies, defBody s_law_copies, defScope s_law_copies, [], []⟩
def dd_law_pattern : He.DefD := ⟨("_law_pattern", none), "_law_pattern", "_law_pattern", defArgs s_law_pattern, defBody s_law_pattern, defScope s_law_pattern, [], []⟩
def dd_law_row : He.DefD := ⟨("_law_row", none), "_law_row", "_law_row", defArgs s_law_row, defBody s_law_row, defScope s_law_row, [], []⟩
def dd_law_question : He.DefD := ⟨("_law_question", none), "_law_question", "_law_question", defArgs s_law_question, defBody s_law_question, defScope s_law_question, [], []⟩
def dd_law_alike : He.DefD := ⟨("_law_alike", none), "_law_alike", "_law_alike", defArgs s_law_alike, defBody s_law_alike, defScope s_law_alike, [], []⟩
def dd_law : He.DefD := ⟨("law", none), "law", "law", defArgs s_law, defBody s_law, defScope s_law, [], []⟩
def dd_S_init : He.DefD := ⟨("Shelf", some "__init__"), "__init__", "Shelf.__init__", defArgs s_S_init, defBody s_S_init, defScope s_S_init, [], []⟩
def dd_S_endings : He.DefD := ⟨("Shelf", some "endings"), "endings", "Shelf.endings", defArgs s_S_endings, defBody s_S_endings, defScope s_S_endings, [], []⟩
def dd_S_changes : He.DefD := ⟨("Shelf", some "changes"), "changes", "Shelf.changes", defArgs s_S_changes, defBody s_S_changes, defScope s_S_changes, [], []⟩
def dd_S_known_keys : He.DefD := ⟨("Shelf", some "known_keys"), "known_keys", "Shelf.known_keys", defArgs s_S_known_keys, defBody s_S_known_keys, defScope s_S_known_keys, [], []⟩
def dd_S_tell : He.DefD := ⟨("Shelf", some "tell"), "tell", "Shelf.tell", defArgs s_S_tell, defBody s_S_tell, defScope s_S_tell, [], []⟩
def dd_S_history : He.DefD := ⟨("Shelf", some "history"), "history", "Shelf.history", defArgs s_S_history, defBody s_S_history, defScope s_S_history, [], []⟩
def dd_S_plain_answer : He.DefD := ⟨("Shelf", some "plain_answer"), "plain_answer", "Shelf.plain_answer", defArgs s_S_plain_answer, defBody s_S_plain_answer, defScope s_S_plain_answer, [], []⟩
def dd_C_init : He.DefD := ⟨("Copy", some "__init__"), "__init__", "Copy.__init__", defArgs s_C_init, defBody s_C_init, defScope s_C_init, [], []⟩
def dd_C_source : He.DefD := ⟨("Copy", some "source"), "source", "Copy.source", defArgs s_C_source, defBody s_C_source, defScope s_C_source, [], []⟩
def dd_C_endings : He.DefD := ⟨("Copy", some "endings"), "endings", "Copy.endings", defArgs s_C_endings, defBody s_C_endings, defScope s_C_endings, [], []⟩
def dd_C_tellings : He.DefD := ⟨("Copy", some "tellings"), "tellings", "Copy.tellings", defArgs s_C_tellings, defBody s_C_tellings, defScope s_C_tellings, [], []⟩
def dd_C_shelf : He.DefD := ⟨("Copy", some "shelf"), "shelf", "Copy.shelf", defArgs s_C_shelf, defBody s_C_shelf, defScope s_C_shelf, [], []⟩
def dd_C_hold : He.DefD := ⟨("Copy", some "hold"), "hold", "Copy.hold", defArgs s_C_hold, defBody s_C_hold, defScope s_C_hold, [], []⟩
def dd_C_tell : He.DefD := ⟨("Copy", some "tell"), "tell", "Copy.tell", defArgs s_C_tell, defBody s_C_tell, defScope s_C_tell, [], []⟩
def dd_C_merge : He.DefD := ⟨("Copy", some "merge"), "merge", "Copy.merge", defArgs s_C_merge, defBody s_C_merge, defScope s_C_merge, [], []⟩
def fn0 : List He.DefD := [dd_words_of, dd_cut, dd_document_of, dd_is_key, dd_is_text, dd_check_change, dd_counted, dd_fits, dd_first_standing, dd_matches, dd_is_in, dd_combined, dd_join, dd_of_span, dd_shelf_of, dd_keys_of, dd_stamps_of, dd_in_order, dd_order_key, dd_law_cell, dd_law_digits, dd_law_padded, dd_law_text, dd_law_endings, dd_law_change, dd_law_tell, dd_law_copies, dd_law_pattern, dd_law_row, dd_law_question]
def fn1 : List He.DefD := [dd_law_alike, dd_law, dd_S_init, dd_S_endings, dd_S_changes, dd_S_known_keys, dd_S_tell, dd_S_history, dd_S_plain_answer, dd_C_init, dd_C_source, dd_C_endings, dd_C_tellings, dd_C_shelf, dd_C_hold, dd_C_tell, dd_C_merge]
def fn : List He.DefD := fn0 ++ (fn1)
def fa0 : List He.Fa := [.glo "words_of", .glo "cut", .glo "document_of", .glo "_is_key", .glo "_is_text", .glo "check_change", .glo "counted", .glo "fits", .glo "first_standing", .glo "matches", .glo "is_in", .glo "_combined", .glo "join", .glo "of_span", .glo "shelf_of", .glo "keys_of", .glo "stamps_of", .glo "in_order", .glo "order_key", .glo "_law_cell", .glo "_law_digits", .glo "_law_padded", .glo "_law_text", .glo "_law_endings", .glo "_law_change", .glo "_law_tell", .glo "_law_copies", .glo "_law_pattern", .glo "_law_row", .glo "_law_question"]
def fa1 : List He.Fa := [.glo "_law_alike", .glo "law", .glo "Shelf", .glo "Copy", .free "len", .free "list", .free "int", .free "str", .free "bool", .free "isinstance", .free "all", .free "any", .free "sorted", .free "tuple", .free "ord", .free "max", .free "min", .free "range", .int "WORD_LENGTH" 12, .int "MOST_TIME" 100000, .int "MOST_KEY" 8, .int "MOST_TEXT" 400, .int "MOST_CHANGES_shelves" 80, .int "MOST_KEYS_shelves" 12, .int "MOST_CHANGES_merging" 80, .int "MOST_KEYS_merging" 12, .int "MOST_SOURCES" 9, .str "SMALLS" "abcdefghijklmnopqrstuvwxyz", .str "CAPITALS" "ABCDEFGHIJKLMNOPQRSTUVWXYZ", .str "DIGITS" "0123456789"]
def fa2 : List He.Fa := [.cls "Shelf", .mkr "Shelf", .noat "Shelf" "_endings", .noat "Shelf" "_changes", .meth "Shelf" "endings", .meth "Shelf" "changes", .meth "Shelf" "known_keys", .meth "Shelf" "tell", .meth "Shelf" "history", .meth "Shelf" "plain_answer", .cls "Copy", .mkr "Copy", .noat "Copy" "own", .noat "Copy" "cuts", .noat "Copy" "all", .meth "Copy" "source", .meth "Copy" "endings", .meth "Copy" "tellings", .meth "Copy" "shelf", .meth "Copy" "hold", .meth "Copy" "tell", .meth "Copy" "merge"]
def fa : List He.Fa := fa0 ++ (fa1 ++ (fa2))
def loose0 : List Str := ["_wall", "__name__", "ShelfError", "InvalidChange", "OtherShelf", "TooMany", "NoSuchKey", "SMALLS", "CAPITALS", "DIGITS", "WORD_LENGTH", "words_of", "cut", "document_of", "MOST_TIME", "MOST_KEY", "MOST_TEXT", "_is_key", "_is_text", "check_change", "counted", "fits", "first_standing", "matches", "is_in", "_combined", "join", "of_span", "MOST_CHANGES_shelves", "MOST_KEYS_shelves"]
def loose1 : List Str := ["Shelf", "MOST_CHANGES_merging", "MOST_KEYS_merging", "MOST_SOURCES", "shelf_of", "keys_of", "stamps_of", "in_order", "order_key", "Copy", "_law_cell", "_law_digits", "_law_padded", "_law_text", "_law_endings", "_law_change", "_law_tell", "_law_copies", "_law_pattern", "_law_row", "_law_question", "_law_alike"]
def loose : List Str := loose0 ++ (loose1)
abbrev R : PySem.W.OpenRow := PySem.W.OpenLaw.row PySem.Challenge.rw_timeshelf_k46_whole_copies_agree
abbrev hk : PySem.W.Hook := He.hookD 5 fa fn
def ob (s : PySem.W.SharedT) : He.AlD := He.obsDG 5 fa fn (HandSHeadRun.getT s)
theorem ob_eq (s : PySem.W.SharedT) : ob s = hk.obs s.abs := He.obsDG_eq (HandSHeadRun.getT_eq s)
theorem run (w : World) : HandSHeadRun.RunEq R (PySem.W.view R.prog [59]) hk ob 4000 loose w := by
  intro os
  kernel_rfl
theorem ctx {K : PySem.W.Frag} {h : Heap} {mg : Str → Option Value} (X : K.In h) (G : h.Ns mainGlobals mg) (c : He.SaysD fa fn K) : Ctx K mg :=
  ⟨He.glo_ok X G (c.fact 0 (f := .glo "words_of") rfl),
   He.glo_ok X G (c.fact 1 (f := .glo "cut") rfl),
   He.glo_ok X G (c.fact 2 (f := .glo "document_of") rfl),
   He.glo_ok X G (c.fact 3 (f := .glo "_is_key") rfl),
   He.glo_ok X G (c.fact 4 (f := .glo "_is_text") rfl),
   He.glo_ok X G (c.fact 5 (f := .glo "check_change") rfl),
   He.glo_ok X G (c.fact 6 (f := .glo "counted") rfl),
   He.glo_ok X G (c.fact 7 (f := .glo "fits") rfl),
   He.glo_ok X G (c.fact 8 (f := .glo "first_standing") rfl),
   He.glo_ok X G (c.fact 9 (f := .glo "matches") rfl),
   He.glo_ok X G (c.fact 10 (f := .glo "is_in") rfl),
   He.glo_ok X G (c.fact 11 (f := .glo "_combined") rfl),
   He.glo_ok X G (c.fact 12 (f := .glo "join") rfl),
   He.glo_ok X G (c.fact 13 (f := .glo "of_span") rfl),
   He.glo_ok X G (c.fact 14 (f := .glo "shelf_of") rfl),
   He.glo_ok X G (c.fact 15 (f := .glo "keys_of") rfl),
   He.glo_ok X G (c.fact 16 (f := .glo "stamps_of") rfl),
   He.glo_ok X G (c.fact 17 (f := .glo "in_order") rfl),
   He.glo_ok X G (c.fact 18 (f := .glo "order_key") rfl),
   He.glo_ok X G (c.fact 19 (f := .glo "_law_cell") rfl),
   He.glo_ok X G (c.fact 20 (f := .glo "_law_digits") rfl),
   He.glo_ok X G (c.fact 21 (f := .glo "_law_padded") rfl),
   He.glo_ok X G (c.fact 22 (f := .glo "_law_text") rfl),
   He.glo_ok X G (c.fact 23 (f := .glo "_law_endings") rfl),
   He.glo_ok X G (c.fact 24 (f := .glo "_law_change") rfl),
   He.glo_ok X G (c.fact 25 (f := .glo "_law_tell") rfl),
   He.glo_ok X G (c.fact 26 (f := .glo "_law_copies") rfl),
   He.glo_ok X G (c.fact 27 (f := .glo "_law_pattern") rfl),
   He.glo_ok X G (c.fact 28 (f := .glo "_law_row") rfl),
   He.glo_ok X G (c.fact 29 (f := .glo "_law_question") rfl),
   He.glo_ok X G (c.fact 30 (f := .glo "_law_alike") rfl),
   He.glo_ok X G (c.fact 31 (f := .glo "law") rfl),
   He.glo_ok X G (c.fact 32 (f := .glo "Shelf") rfl),
   He.glo_ok X G (c.fact 33 (f := .glo "Copy") rfl),
   He.free_ok X G (c.fact 34 (f := .free "len") rfl),
   He.free_ok X G (c.fact 35 (f := .free "list") rfl),
   He.free_ok X G (c.fact 36 (f := .free "int") rfl),
   He.free_ok X G (c.fact 37 (f := .free "str") rfl),
   He.free_ok X G (c.fact 38 (f := .free "bool") rfl),
   He.free_ok X G (c.fact 39 (f := .free "isinstance") rfl),
   He.free_ok X G (c.fact 40 (f := .free "all") rfl),
   He.free_ok X G (c.fact 41 (f := .free "any") rfl),
   He.free_ok X G (c.fact 42 (f := .free "sorted") rfl),
   He.free_ok X G (c.fact 43 (f := .free "tuple") rfl),
   He.free_ok X G (c.fact 44 (f := .free "ord") rfl),
   He.free_ok X G (c.fact 45 (f := .free "max") rfl),
   He.free_ok X G (c.fact 46 (f := .free "min") rfl),
   He.free_ok X G (c.fact 47 (f := .free "range") rfl),
   He.int_ok X G (c.fact 48 (f := .int "WORD_LENGTH" 12) rfl),
   He.int_ok X G (c.fact 49 (f := .int "MOST_TIME" 100000) rfl),
   He.int_ok X G (c.fact 50 (f := .int "MOST_KEY" 8) rfl),
   He.int_ok X G (c.fact 51 (f := .int "MOST_TEXT" 400) rfl),
   He.int_ok X G (c.fact 52 (f := .int "MOST_CHANGES_shelves" 80) rfl),
   He.int_ok X G (c.fact 53 (f := .int "MOST_KEYS_shelves" 12) rfl),
   He.int_ok X G (c.fact 54 (f := .int "MOST_CHANGES_merging" 80) rfl),
   He.int_ok X G (c.fact 55 (f := .int "MOST_KEYS_merging" 12) rfl),
   He.int_ok X G (c.fact 56 (f := .int "MOST_SOURCES" 9) rfl),
   He.str_ok X G (c.fact 57 (f := .str "SMALLS" "abcdefghijklmnopqrstuvwxyz") rfl),
   He.str_ok X G (c.fact 58 (f := .str "CAPITALS" "ABCDEFGHIJKLMNOPQRSTUVWXYZ") rfl),
   He.str_ok X G (c.fact 59 (f := .str "DIGITS" "0123456789") rfl),
   He.cls_ok (c.fact 60 (f := .cls "Shelf") rfl),
   He.mkr_ok (c.fact 61 (f := .mkr "Shelf") rfl),
   He.noat_ok (c.fact 62 (f := .noat "Shelf" "_endings") rfl),
   He.noat_ok (c.fact 63 (f := .noat "Shelf" "_changes") rfl),
   He.meth_ok (c.fact 64 (f := .meth "Shelf" "endings") rfl),
   He.meth_ok (c.fact 65 (f := .meth "Shelf" "changes") rfl),
   He.meth_ok (c.fact 66 (f := .meth "Shelf" "known_keys") rfl),
   He.meth_ok (c.fact 67 (f := .meth "Shelf" "tell") rfl),
   He.meth_ok (c.fact 68 (f := .meth "Shelf" "history") rfl),
   He.meth_ok (c.fact 69 (f := .meth "Shelf" "plain_answer") rfl),
   He.cls_ok (c.fact 70 (f := .cls "Copy") rfl),
   He.mkr_ok (c.fact 71 (f := .mkr "Copy") rfl),
   He.noat_ok (c.fact 72 (f := .noat "Copy" "own") rfl),
   He.noat_ok (c.fact 73 (f := .noat "Copy" "cuts") rfl),
   He.noat_ok (c.fact 74 (f := .noat "Copy" "all") rfl),
   He.meth_ok (c.fact 75 (f := .meth "Copy" "source") rfl),
   He.meth_ok (c.fact 76 (f := .meth "Copy" "endings") rfl),
   He.meth_ok (c.fact 77 (f := .meth "Copy" "tellings") rfl),
   He.meth_ok (c.fact 78 (f := .meth "Copy" "shelf") rfl),
   He.meth_ok (c.fact 79 (f := .meth "Copy" "hold") rfl),
   He.meth_ok (c.fact 80 (f := .meth "Copy" "tell") rfl),
   He.meth_ok (c.fact 81 (f := .meth "Copy" "merge") rfl),
   c.def_ 0 (d := dd_words_of) rfl,
   c.def_ 1 (d := dd_cut) rfl,
   c.def_ 2 (d := dd_document_of) rfl,
   c.def_ 3 (d := dd_is_key) rfl,
   c.def_ 4 (d := dd_is_text) rfl,
   c.def_ 5 (d := dd_check_change) rfl,
   c.def_ 6 (d := dd_counted) rfl,
   c.def_ 7 (d := dd_fits) rfl,
   c.def_ 8 (d := dd_first_standing) rfl,
   c.def_ 9 (d := dd_matches) rfl,
   c.def_ 10 (d := dd_is_in) rfl,
   c.def_ 11 (d := dd_combined) rfl,
   c.def_ 12 (d := dd_join) rfl,
   c.def_ 13 (d := dd_of_span) rfl,
   c.def_ 14 (d := dd_shelf_of) rfl,
   c.def_ 15 (d := dd_keys_of) rfl,
   c.def_ 16 (d := dd_stamps_of) rfl,
   c.def_ 17 (d := dd_in_order) rfl,
   c.def_ 18 (d := dd_order_key) rfl,
   c.def_ 19 (d := dd_law_cell) rfl,
   c.def_ 20 (d := dd_law_digits) rfl,
   c.def_ 21 (d := dd_law_padded) rfl,
   c.def_ 22 (d := dd_law_text) rfl,
   c.def_ 23 (d := dd_law_endings) rfl,
   c.def_ 24 (d := dd_law_change) rfl,
   c.def_ 25 (d := dd_law_tell) rfl,
   c.def_ 26 (d := dd_law_copies) rfl,
   c.def_ 27 (d := dd_law_pattern) rfl,
   c.def_ 28 (d := dd_law_row) rfl,
   c.def_ 29 (d := dd_law_question) rfl,
   c.def_ 30 (d := dd_law_alike) rfl,
   c.def_ 31 (d := dd_law) rfl,
   c.def_ 32 (d := dd_S_init) rfl,
   c.def_ 33 (d := dd_S_endings) rfl,
   c.def_ 34 (d := dd_S_changes) rfl,
   c.def_ 35 (d := dd_S_known_keys) rfl,
   c.def_ 36 (d := dd_S_tell) rfl,
   c.def_ 37 (d := dd_S_history) rfl,
   c.def_ 38 (d := dd_S_plain_answer) rfl,
   c.def_ 39 (d := dd_C_init) rfl,
   c.def_ 40 (d := dd_C_source) rfl,
   c.def_ 41 (d := dd_C_endings) rfl,
   c.def_ 42 (d := dd_C_tellings) rfl,
   c.def_ 43 (d := dd_C_shelf) rfl,
   c.def_ 44 (d := dd_C_hold) rfl,
   c.def_ 45 (d := dd_C_tell) rfl,
   c.def_ 46 (d := dd_C_merge) rfl⟩
end K46

set_option maxHeartbeats 0
namespace K46
open PySem PySem.Spec PyProof.Rows L2
section
variable {P : Program} {w : World} {K : PySem.W.Frag} {mg : Str → Option Value} {base : Heap}
/-- each def keeps its promise, the law at last -/
theorem law_kept (T : Ctx K mg) {fd : FuncData} (F : FnP K "law" "law" s_law (He.ga K "law") fd) : FnOk P w K mg base CX0 10 (He.ga K "law") fd ["_law_script"] (spLaw K) := by
  have cell : Ok P w K mg base 1 _ _ _ := ok_cell T
  have digits : Ok P w K mg base 1 _ _ _ := ok_law_digits T
  have padded : Ok P w K mg base 2 _ _ _ := ok_law_padded T digits
  have text : Ok P w K mg base 1 _ _ _ := ok_law_text T
  have ends : Ok P w K mg base 2 _ _ _ := ok_law_endings T cell
  have change : Ok P w K mg base 3 _ _ _ := ok_law_change T padded text
  have pattern : Ok P w K mg base 1 _ _ _ := ok_law_pattern T
  have row : Ok P w K mg base 2 _ _ _ := ok_law_row T pattern
  have question : Ok P w K mg base 3 _ _ _ := ok_law_question T cell padded row
  have words : Ok P w K mg base 1 _ _ _ := ok_words_of T
  have cut : Ok P w K mg base 1 _ _ _ := ok_cut T
  have doc : Ok P w K mg base 2 _ _ _ := ok_document_of T words cut
  have fits : Ok P w K mg base 1 _ _ _ := ok_fits T
  have first : Ok P w K mg base 2 _ _ _ := ok_first_standing T fits
  have isin : Ok P w K mg base 1 _ _ _ := ok_is_in T
  have comb : Ok P w K mg base 2 _ _ _ := ok_combined T isin
  have join : Ok P w K mg base 3 _ _ _ := ok_join T comb
  have span : Ok P w K mg base 1 _ _ _ := ok_of_span T
  have matches4 : Ok P w K mg base 6 _ _ _ := ok_matchesD T first 4
  have iskey : Ok P w K mg base 1 _ _ _ := ok_is_key T
  have istext : Ok P w K mg base 1 _ _ _ := ok_is_text T
  have check : Ok P w K mg base 2 _ _ _ := ok_check_change T iskey istext
  have counted : Ok P w K mg base 1 _ _ _ := ok_counted T
  have sinit : Ok P w K mg base 1 _ _ _ := ok_S_init T
  have schanges : Ok P w K mg base 1 _ _ _ := ok_S_changes T
  have sknown : Ok P w K mg base 1 _ _ _ := ok_S_known_keys T
  have stell : Ok P w K mg base 3 _ _ _ := ok_S_tell T check sknown
  have shist : Ok P w K mg base 3 _ _ _ := ok_S_history T counted doc
  have sans : Ok P w K mg base 7 _ _ _ := ok_S_plain_answer T sknown shist matches4 join span
  have okey : Ok P w K mg base 1 _ _ _ := ok_order_key T
  have order : Ok P w K mg base 4 _ _ _ := ok_in_order T okey
  have stamps : Ok P w K mg base 1 _ _ _ := ok_stamps_of T
  have keys : Ok P w K mg base 1 _ _ _ := ok_keys_of T
  have shelfof : Ok P w K mg base 4 _ _ _ := ok_shelf_of T sinit stell
  have cinit : Ok P w K mg base 1 _ _ _ := ok_C_init T
  have cend : Ok P w K mg base 1 _ _ _ := ok_C_endings T
  have ctels : Ok P w K mg base 5 _ _ _ := ok_C_tellings T order
  have cshelf : Ok P w K mg base 6 _ _ _ := ok_C_shelf T shelfof ctels
  have chold : Ok P w K mg base 1 _ _ _ := ok_C_hold T
  have ctell : Ok P w K mg base 7 _ _ _ := ok_C_tell T cshelf stell
  have cmerge : Ok P w K mg base 6 _ _ _ := ok_C_merge T cend stamps ctels keys chold
  have alike : Ok P w K mg base 8 _ _ _ := ok_law_alike T ctels cshelf schanges sknown shist sans
  have ltell : Ok P w K mg base 8 _ _ _ := ok_law_tell T change ctell
  have copies : Ok P w K mg base 9 _ _ _ := ok_law_copies T cinit ends cell cmerge ltell
  exact ok_law T copies cmerge cinit ends cell question alike F
end
theorem facts {P : Program} {w : World} {K : PySem.W.Frag} {h : Heap} {mg : Str → Option Value} {f : Addr} (X : K.In h) (G : h.Ns mainGlobals mg) (hfa : mg ("law" : Str) = some (.ref f)) (c : He.SaysD fa fn K) :
    ∃ fd : FuncData, (∀ (s : Shared) (v : Value), BindsTo s fd ⟨[v], []⟩ [("_law_script", v)]) ∧ ∀ base : Heap, FnOk P w K mg base CX0 10 f fd ["_law_script"] (spLaw K) := by
  have T : Ctx K mg := ctx X G c
  obtain ⟨fd, F⟩ := T.d_law
  have e := hfa.symm.trans T.g_law
  cases e
  have b := FunD.bindsA (ps := ["_law_script"]) F fun _ _ _ _ _ _ us hl => match us, hl with | [_], _ => rfl
  exact ⟨fd, fun s v => b s [v] rfl, fun base => law_kept T F⟩
end K46
open PySem PySem.W PySem.Calls PyProof.Rows
theorem PySem.Challenge.cw_timeshelf_k46_whole_copies_agree_holds : PySem.Challenge.rw_timeshelf_k46_whole_copies_agree.Holds := by
  w_on; o_law
  refine HandSHeadRun.head_any (r := OpenLaw.row PySem.Challenge.rw_timeshelf_k46_whole_copies_agree) (q := view (OpenLaw.row PySem.Challenge.rw_timeshelf_k46_whole_copies_agree).prog [59]) (H := K46.hk) (ob := K46.ob) (M := 4000) (loose := K46.loose)
    (d := HandSHeadRun.topDef (OpenLaw.row PySem.Challenge.rw_timeshelf_k46_whole_copies_agree).prog 59) (kwd := []) K46.ob_eq
    (by kernel_rfl) (fun s => by kernel_rfl) K46.run (by kernel_rfl) (by kernel_rfl) (by kernel_rfl) (by rfl) (by first | assumption | decide +kernel) (by decide +kernel) ⟨rfl, rfl, rfl, rfl, rfl, by decide +kernel⟩ ?hw ?hc
  case hw => w_witness2
  case hc =>
    refine L2.walk_ofE (l := PySem.Challenge.rw_timeshelf_k46_whole_copies_agree) (n := 63) (k := 10) (x := "_law_script") (CX := L2.CX0) rfl (by decide) (by kernel_rfl) ⟨rfl, by decide, by decide⟩ ?F (fun _ _ _ _ z => z)
    intro w mg fa h Y G hmg0
    obtain ⟨K, KX, c⟩ := Y
    have hmg : mg ("law" : PySem.Str) = some (.ref fa) := by
      have e : (HandSHeadRun.topDef (OpenLaw.row PySem.Challenge.rw_timeshelf_k46_whole_copies_agree).prog 59).name = ("law" : PySem.Str) := by kernel_rfl
      rw [← e]
      exact hmg0
    obtain ⟨fd, hb, hF⟩ := K46.facts (P := (PySem.Challenge.rw_timeshelf_k46_whole_copies_agree).prog) (w := w) KX G hmg c
    exact ⟨K, fd, K46.spLaw K, KX, hb, fun H a ns hl _ hS => ⟨_, rfl, a, ns, rfl, hS, fun _ _ => rfl⟩, fun base _ _ => hF base⟩

