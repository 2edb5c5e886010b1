import PyProof.Rows.All
import Wide.All
import OpenK.AllK
import Wide.FinOn
import KE.KStateDown
import Lean
import HandS.ForExc
import HandS.More
import HandS.Defaults
import HandS.Head0
import HandS.Head1
import HandS.Head2
import HandS.HeadEnd
import HandS.HeadHook1
import HandS.HeadHook2
import HandS.HeadHook3
import HandS.HeadHook4
import HandS.ForMost
import HandS.Wide
import HandS.Star
import HandS.SortInts
import HandS.SortRule
import HandS.Style
import HandS.IsInst
import HandS.Deep
import HandS.Zip
import HandS.Conv
import HandS.TupSets
import HandS.WordsExc
import HandS.Exc
import HandS.TryOnly
import HandS.Evl
import KE.GoesMore
import KE.GoesEnum
import HandS.ExcOwn
import KE.KSuper
import KE.KExcSuper
import HandS.ExcCtx
import PySem.Challenge.RW_givesifgets_k56_whole_runs_give_nothing
set_option Elab.async false
set_option linter.all false
set_option maxRecDepth 100000
set_option maxHeartbeats 0
namespace Gv
open PySem PySem.Spec PyProof.Rows L2
/-! ### the text by places -/
def top (i : Nat) : Stmt := PySem.Challenge.pw_givesifgets_k56_whole_runs_give_nothing.main.body.getD i (.Pass ⟨0, 0, 0, 0⟩)
abbrev s_is_integer : Stmt := top 4
abbrev s_is_number : Stmt := top 5
abbrev s_is_index : Stmt := top 6
abbrev s_is_row_of : Stmt := top 7
abbrev s_is_word_of : Stmt := top 8
abbrev s_is_pair_of : Stmt := top 9
abbrev s_has_tie : Stmt := top 11
abbrev s_friends_of : Stmt := top 12
abbrev s_free_friends : Stmt := top 13
abbrev s_barred_more : Stmt := top 14
abbrev s_start_world : Stmt := top 16
abbrev s_owner_of : Stmt := top 17
abbrev s_people_left : Stmt := top 18
abbrev s_givers_left : Stmt := top 19
abbrev s_links_left : Stmt := top 20
abbrev s_need : Stmt := top 26
abbrev s_put_in : Stmt := top 27
abbrev s_is_tie : Stmt := top 28
abbrev s_is_ring : Stmt := top 29
abbrev s_tested : Stmt := top 30
abbrev s_ringed : Stmt := top 31
abbrev s_linked : Stmt := top 32
abbrev s_come : Stmt := top 33
abbrev s_do_deed : Stmt := top 34
abbrev s_can_do : Stmt := top 35
abbrev s_l_draw : Stmt := top 37
abbrev s_l_any : Stmt := top 38
abbrev s_l_of : Stmt := top 39
abbrev s_l_mixed : Stmt := top 40
abbrev s_l_registry : Stmt := top 41
abbrev s_l_is_number : Stmt := top 42
abbrev s_l_tie_in : Stmt := top 43
abbrev s_l_friends : Stmt := top 44
abbrev s_l_ring_fits : Stmt := top 45
abbrev s_l_link_fits : Stmt := top 46
abbrev s_l_some_ring : Stmt := top 47
abbrev s_l_some_deed : Stmt := top 48
abbrev s_l_holds : Stmt := top 49
abbrev s_l_gifts : Stmt := top 50
abbrev s_law : Stmt := top 51
abbrev s_init : Stmt := inClass (top 2) 0
abbrev FnP (K : PySem.W.Frag) (x : Str) (st : Stmt) (f : Addr) (fd : FuncData) : Prop := FunD K x x (defArgs st) (defBody st) (defScope st) [] [] f fd
abbrev mkD (x : Str) (st : Stmt) : He.DefD := ⟨(x, none), x, x, defArgs st, defBody st, defScope st, [], []⟩
def fn : List He.DefD := [mkD "is_integer" s_is_integer, mkD "is_number" s_is_number, mkD "is_index" s_is_index, mkD "is_row_of" s_is_row_of, mkD "is_word_of" s_is_word_of, mkD "is_pair_of" s_is_pair_of, mkD "has_tie" s_has_tie, mkD "friends_of" s_friends_of, mkD "free_friends" s_free_friends, mkD "barred_more" s_barred_more, mkD "start_world" s_start_world, mkD "owner_of" s_owner_of, mkD "people_left" s_people_left, mkD "givers_left" s_givers_left, mkD "links_left" s_links_left, mkD "need" s_need, mkD "put_in" s_put_in, mkD "is_tie" s_is_tie, mkD "is_ring" s_is_ring, mkD "tested" s_tested, mkD "ringed" s_ringed, mkD "linked" s_linked, mkD "come" s_come, mkD "do_deed" s_do_deed, mkD "can_do" s_can_do, mkD "_law_draw" s_l_draw, mkD "_law_any" s_l_any, mkD "_law_of" s_l_of, mkD "_law_mixed" s_l_mixed, mkD "_law_registry" s_l_registry, mkD "_law_is_number" s_l_is_number, mkD "_law_tie_in" s_l_tie_in, mkD "_law_friends" s_l_friends, mkD "_law_ring_fits" s_l_ring_fits, mkD "_law_link_fits" s_l_link_fits, mkD "_law_some_ring" s_l_some_ring, mkD "_law_some_deed" s_l_some_deed, mkD "_law_holds" s_l_holds, mkD "_law_gifts" s_l_gifts, mkD "law" s_law]
def faG1 : List He.Fa := [.glo "is_integer", .glo "is_number", .glo "is_index", .glo "is_row_of", .glo "is_word_of", .glo "is_pair_of", .glo "has_tie", .glo "friends_of", .glo "free_friends", .glo "barred_more", .glo "start_world", .glo "owner_of", .glo "people_left", .glo "givers_left", .glo "links_left", .glo "need", .glo "put_in", .glo "is_tie", .glo "is_ring", .glo "tested", .glo "ringed", .glo "linked", .glo "come", .glo "do_deed"]
def faG2 : List He.Fa := [.glo "can_do", .glo "_law_draw", .glo "_law_any", .glo "_law_of", .glo "_law_mixed", .glo "_law_registry", .glo "_law_is_number", .glo "_law_tie_in", .glo "_law_friends", .glo "_law_ring_fits", .glo "_law_link_fits", .glo "_law_some_ring", .glo "_law_some_deed", .glo "_law_holds", .glo "_law_gifts", .glo "law"]
def faB : List He.Fa := [.free "len", .free "range", .free "isinstance", .free "tuple", .free "all", .free "set", .free "sorted", .free "enumerate", .free "int", .free "bool", .free "str", .free "abs", .free "list", .free "zip", .free "super", .free "ValueError"]
def faC : List He.Fa := [.glo "InvalidDeed", .glo "GiveError", .glo "WORDS", .glo "SIZES", .int "MOST_PEOPLE" 60, .int "MOST_FRIENDS" 120, .exm "InvalidDeed" "InvalidDeed" true, .keep "InvalidDeed", .noat "InvalidDeed" "at"]
def fa : List He.Fa := faG1 ++ faG2 ++ faB ++ faC
abbrev R : PySem.W.OpenRow := PySem.W.OpenLaw.row PySem.Challenge.rw_givesifgets_k56_whole_runs_give_nothing
def names0 : List PySem.Str := ["GiveError", "InvalidDeed", "is_integer", "is_number", "is_index", "is_row_of", "is_word_of", "is_pair_of", "has_tie", "friends_of", "free_friends", "barred_more", "start_world", "owner_of", "people_left", "givers_left", "links_left", "WORDS", "SIZES", "MOST_PEOPLE"]
def names1 : List PySem.Str := ["MOST_FRIENDS", "need", "put_in", "is_tie", "is_ring", "tested", "ringed", "linked", "come", "do_deed", "can_do", "_law_draw", "_law_any", "_law_of", "_law_mixed", "_law_registry", "_law_is_number", "_law_tie_in", "_law_friends", "_law_ring_fits"]
def names2 : List PySem.Str := ["_law_link_fits", "_law_some_ring", "_law_some_deed", "_law_holds", "_law_gifts"]
def names : List PySem.Str := names0 ++ names1 ++ names2
def lawAt : Nat := 51
end Gv

/-! Data, what a value stands for, readings told by data. -/
namespace Gv
open PySem PySem.Spec PyProof.Rows L2

/-- plain data -/
inductive D where
  | non | bl (b : Bool) | int (i : Int) | str (s : Str) | tup (l : List D) | lst (l : List D) | adr (a : Addr)

/-- a tuple of the written part -/
def KTup (K : PySem.W.Frag) (a : Addr) (xs : List V) : Prop :=
  ∃ (o : Obj) (its : Array Value) (n : Nat), K.lookup a = some o ∧ o.cls = .type "tuple" ∧ o.data = .seq its n ∧ its.size ≤ sizeLine ∧ Vals xs its.toList
/-- a tuple that stands outside of M, or in the written part -/
def TupAt (K : PySem.W.Frag) (M : Addr → Prop) (H : Hp) (a : Addr) (xs : List V) : Prop := (¬ M a ∧ Rd H a (.tup xs)) ∨ KTup K a xs
def LstAt (M : Addr → Prop) (H : Hp) (a : Addr) (xs : List V) : Prop := ¬ M a ∧ H a = some (.lst xs)
theorem TupAt.sq {K : PySem.W.Frag} {M : Addr → Prop} {H : Hp} {a : Addr} {xs : List V} (h : TupAt K M H a xs) : SqT K H a xs := by
  rcases h with h | h
  · exact .inl h.2
  · exact .inr h
theorem LstAt.sq {K : PySem.W.Frag} {M : Addr → Prop} {H : Hp} {a : Addr} {xs : List V} (h : LstAt M H a xs) : SqL K H a xs := .inl (.inl h.2)

mutual
inductive IsD (K : PySem.W.Frag) (M : Addr → Prop) (H : Hp) : V → D → Prop
  | non : IsD K M H .non .non
  | bl (b : Bool) : IsD K M H (.bl b) (.bl b)
  | int (i : Int) : IsD K M H (.int i) (.int i)
  | str (s : Str) : IsD K M H (.str s) (.str s)
  | tup {a : Addr} {xs : List V} {ds : List D} : TupAt K M H a xs → IsDs K M H xs ds → IsD K M H (.ref a) (.tup ds)
  | lst {a : Addr} {xs : List V} {ds : List D} : LstAt M H a xs → IsDs K M H xs ds → IsD K M H (.ref a) (.lst ds)
  | adr (a : Addr) : IsD K M H (.ref a) (.adr a)
inductive IsDs (K : PySem.W.Frag) (M : Addr → Prop) (H : Hp) : List V → List D → Prop
  | nil : IsDs K M H [] []
  | cons {v : V} {vs : List V} {d : D} {ds : List D} : IsD K M H v d → IsDs K M H vs ds → IsDs K M H (v :: vs) (d :: ds)
end

section
variable {K : PySem.W.Frag} {M M' : Addr → Prop} {H H' : Hp}
/-- carried to a heap that keeps all outside of M, and to a lesser M -/
theorem TupAt.to {a : Addr} {xs : List V} (hm : ∀ p, M' p → M p) (hk : ∀ p o, ¬ M p → H p = some o → H' p = some o) (h : TupAt K M H a xs) : TupAt K M' H' a xs := by
  rcases h with ⟨h1, h2⟩ | h
  · refine .inl ⟨fun z => h1 (hm _ z), ?_⟩
    rcases h2 with h2 | ⟨o, h2⟩
    · exact .inl (hk _ _ h1 h2)
    · exact .inr ⟨o, hk _ _ h1 h2⟩
  · exact .inr h
theorem LstAt.to {a : Addr} {xs : List V} (hm : ∀ p, M' p → M p) (hk : ∀ p o, ¬ M p → H p = some o → H' p = some o) (h : LstAt M H a xs) : LstAt M' H' a xs := by
  obtain ⟨h1, h2⟩ := h
  exact ⟨fun z => h1 (hm _ z), hk _ _ h1 h2⟩
mutual
theorem IsD.to (hm : ∀ p, M' p → M p) (hk : ∀ p o, ¬ M p → H p = some o → H' p = some o) : ∀ {d : D} {v : V}, IsD K M H v d → IsD K M' H' v d
  | .non, _, h => by cases h; exact .non
  | .bl _, _, h => by cases h; exact .bl _
  | .int _, _, h => by cases h; exact .int _
  | .str _, _, h => by cases h; exact .str _
  | .tup ds, _, h => by
    cases h with
    | tup h1 h2 => exact .tup (h1.to hm hk) (IsDs.to hm hk h2)
  | .lst ds, _, h => by
    cases h with
    | lst h1 h2 => exact .lst (h1.to hm hk) (IsDs.to hm hk h2)
  | .adr _, _, h => by cases h; exact .adr _
theorem IsDs.to (hm : ∀ p, M' p → M p) (hk : ∀ p o, ¬ M p → H p = some o → H' p = some o) : ∀ {ds : List D} {vs : List V}, IsDs K M H vs ds → IsDs K M' H' vs ds
  | [], _, h => by cases h; exact .nil
  | d :: ds, _, h => by
    cases h with
    | cons h1 h2 => exact .cons (IsD.to hm hk h1) (IsDs.to hm hk h2)
end
theorem IsDs.len : ∀ {ds : List D} {vs : List V}, IsDs K M H vs ds → vs.length = ds.length
  | [], _, h => by cases h; rfl
  | d :: ds, _, h => by
    cases h with
    | cons h1 h2 => rw [List.length_cons, List.length_cons, IsDs.len h2]
theorem IsDs.at_ : ∀ {ds : List D} {vs : List V} {i : Nat} {d : D}, IsDs K M H vs ds → ds[i]? = some d → ∃ v, vs[i]? = some v ∧ IsD K M H v d
  | [], _, _, _, _, e => by simp at e
  | _ :: ds, _, 0, d, h, e => by
    cases h with
    | cons h1 h2 =>
      have e' := Option.some.inj (show some _ = some d from e)
      subst e'
      exact ⟨_, rfl, h1⟩
  | _ :: ds, _, i + 1, d, h, e => by
    cases h with
    | cons h1 h2 => exact IsDs.at_ (i := i) h2 e
theorem IsDs.back : ∀ {ds : List D} {vs : List V} {i : Nat} {v : V}, IsDs K M H vs ds → vs[i]? = some v → ∃ d, ds[i]? = some d ∧ IsD K M H v d
  | [], _, _, _, h, e => by cases h; simp at e
  | _ :: ds, _, 0, v, h, e => by
    cases h with
    | cons h1 h2 =>
      have e' := Option.some.inj (show some _ = some v from e)
      subst e'
      exact ⟨_, rfl, h1⟩
  | _ :: ds, _, i + 1, v, h, e => by
    cases h with
    | cons h1 h2 => exact IsDs.back (i := i) h2 e
theorem IsDs.app : ∀ {ds es : List D} {vs ws : List V}, IsDs K M H vs ds → IsDs K M H ws es → IsDs K M H (vs ++ ws) (ds ++ es)
  | [], _, _, _, h, g => by cases h; exact g
  | d :: ds, _, _, _, h, g => by
    cases h with
    | cons h1 h2 => exact .cons h1 (IsDs.app h2 g)
theorem IsDs.take : ∀ (n : Nat) {ds : List D} {vs : List V}, IsDs K M H vs ds → IsDs K M H (vs.take n) (ds.take n)
  | 0, _, _, _ => .nil
  | n + 1, [], _, h => by cases h; exact .nil
  | n + 1, d :: ds, _, h => by
    cases h with
    | cons h1 h2 => exact .cons h1 (IsDs.take n h2)
theorem IsDs.drop : ∀ (n : Nat) {ds : List D} {vs : List V}, IsDs K M H vs ds → IsDs K M H (vs.drop n) (ds.drop n)
  | 0, _, _, h => h
  | n + 1, [], _, h => by cases h; exact .nil
  | n + 1, d :: ds, _, h => by
    cases h with
    | cons h1 h2 => exact IsDs.drop n h2
theorem IsDs.rev : ∀ {ds : List D} {vs : List V}, IsDs K M H vs ds → IsDs K M H vs.reverse ds.reverse
  | [], _, h => by cases h; exact .nil
  | d :: ds, _, h => by
    cases h with
    | cons h1 h2 =>
      rw [List.reverse_cons, List.reverse_cons]
      exact IsDs.app (IsDs.rev h2) (.cons h1 .nil)
/-- lists of scalars -/
theorem IsDs.ints : ∀ {ns : List Int} {vs : List V}, IsDs K M H vs (ns.map D.int) → vs = ns.map V.int
  | [], _, h => by cases h; rfl
  | n :: ns, _, h => by
    cases h with
    | cons h1 h2 =>
      cases h1
      rw [IsDs.ints h2, List.map_cons]
theorem IsDs.of_ints : ∀ (ns : List Int), IsDs K M H (ns.map V.int) (ns.map D.int)
  | [] => .nil
  | n :: ns => .cons (.int n) (IsDs.of_ints ns)
theorem IsDs.bls : ∀ {ns : List Bool} {vs : List V}, IsDs K M H vs (ns.map D.bl) → vs = ns.map V.bl
  | [], _, h => by cases h; rfl
  | n :: ns, _, h => by
    cases h with
    | cons h1 h2 =>
      cases h1
      rw [IsDs.bls h2, List.map_cons]
end

/-! ### regions, steps -/
/-- what a part of the program may change, and what holds of it -/
structure Rg where
  m : Addr → Prop
  inv : Hp → Prop
  stab : ∀ H H', (∀ p, m p → H' p = H p) → inv H → inv H'
def Rg.none : Rg := ⟨fun _ => False, fun _ => True, fun _ _ _ _ => trivial⟩
abbrev R0 : Rg := Rg.none
/-- kept outside of W, and all that stood stands -/
structure Stp (W : Addr → Prop) (H H' : Hp) : Prop where
  keep : ∀ p o, ¬ W p → H p = some o → H' p = some o
  there : ∀ p, H p ≠ Option.none → H' p ≠ Option.none
theorem Stp.refl (W : Addr → Prop) (H : Hp) : Stp W H H := ⟨fun _ _ _ h => h, fun _ h => h⟩
theorem Stp.trans {W : Addr → Prop} {H H1 H2 : Hp} (a : Stp W H H1) (b : Stp W H1 H2) : Stp W H H2 := ⟨fun p o h e => b.keep p o h (a.keep p o h e), fun p h => b.there p (a.there p h)⟩
theorem Stp.of {W : Addr → Prop} {H H' : Hp} (h : Same H H') : Stp W H H' := ⟨fun p o _ e => h p o e, fun p hp => by
  cases e : H p with
  | none => exact absurd e hp
  | some o => rw [h p o e]; exact fun z => nomatch z⟩
theorem Stp.mono {W W' : Addr → Prop} {H H' : Hp} (h : Stp W H H') (hw : ∀ p, W p → W' p) : Stp W' H H' := ⟨fun p o hp e => h.keep p o (fun z => hp (hw p z)) e, h.there⟩
theorem same_new {H : Hp} {p : Addr} {o : HO} (h : H p = Option.none) : Same H (upd H p o) := fun a u e => by
  rw [upd_ne (ne_of_none e h)]
  exact e
/-- all of M stands -/
def Ok (M : Addr → Prop) (H : Hp) : Prop := ∀ p, M p → H p ≠ Option.none
theorem Ok.stp {M W : Addr → Prop} {H H' : Hp} (h : Ok M H) (s : Stp W H H') : Ok M H' := fun p hp => s.there p (h p hp)
theorem Ok.out {M : Addr → Prop} {H : Hp} {p : Addr} (h : Ok M H) (hp : H p = Option.none) : ¬ M p := fun z => h p z hp
section
variable {K : PySem.W.Frag} {M W : Addr → Prop} {H H' : Hp} {v : V} {d : D} {vs : List V} {ds : List D}
theorem IsD.stp (h : IsD K M H v d) (hw : ∀ p, W p → M p) (s : Stp W H H') : IsD K M H' v d := h.to (fun _ z => z) fun p o hp e => s.keep p o (fun z => hp (hw p z)) e
theorem IsDs.stp (h : IsDs K M H vs ds) (hw : ∀ p, W p → M p) (s : Stp W H H') : IsDs K M H' vs ds := h.to (fun _ z => z) fun p o hp e => s.keep p o (fun z => hp (hw p z)) e
theorem IsD.same (h : IsD K M H v d) (s : Same H H') : IsD K M H' v d := h.to (fun _ z => z) fun p o _ e => s p o e
theorem IsDs.same (h : IsDs K M H vs ds) (s : Same H H') : IsDs K M H' vs ds := h.to (fun _ z => z) fun p o _ e => s p o e
end

/-! ### slots -/
/-- what a slot holds: data, or a list of this def's own that it may change -/
inductive SD where
  | d (x : D) | own (a : Addr) (l : List D)
abbrev REnv := List (Option SD)
def SlotOk (K : PySem.W.Frag) (rm M : Addr → Prop) (H : Hp) (o : Option V) : Option SD → Prop
  | some (.d x) => ∃ v, o = some v ∧ IsD K M H v x
  | some (.own a ds) => o = some (.ref a) ∧ M a ∧ ¬ rm a ∧ ∃ xs, H a = some (.lst xs) ∧ IsDs K M H xs ds
  | none => True
structure EnvOk (K : PySem.W.Frag) (rm M : Addr → Prop) (H : Hp) (σ : L2.St) (r : REnv) : Prop where
  len : σ.length = r.length
  at_ : ∀ (i : Nat) (o : Option V) (s : Option SD), σ[i]? = some o → r[i]? = some s → SlotOk K rm M H o s
section
variable {K : PySem.W.Frag} {rm M M' W : Addr → Prop} {H H' : Hp} {σ : L2.St} {r : REnv} {i : Nat} {x : D}
theorem EnvOk.get (e : EnvOk K rm M H σ r) (h : r[i]? = some (some (.d x))) : ∃ v, σ[i]? = some (some v) ∧ IsD K M H v x := by
  have hi : i < σ.length := by rw [e.len]; exact (List.getElem?_eq_some_iff.mp h).1
  have h1 : σ[i]? = some σ[i] := List.getElem?_eq_getElem hi
  obtain ⟨v, e1, e2⟩ := e.at_ i _ _ h1 h
  exact ⟨v, by rw [h1, e1], e2⟩
theorem EnvOk.own (e : EnvOk K rm M H σ r) {a : Addr} {ds : List D} (h : r[i]? = some (some (.own a ds))) : σ[i]? = some (some (.ref a)) ∧ M a ∧ ¬ rm a ∧ ∃ xs, H a = some (.lst xs) ∧ IsDs K M H xs ds := by
  have hi : i < σ.length := by rw [e.len]; exact (List.getElem?_eq_some_iff.mp h).1
  have h1 : σ[i]? = some σ[i] := List.getElem?_eq_getElem hi
  obtain ⟨e1, e2⟩ := e.at_ i _ _ h1 h
  exact ⟨by rw [h1, e1], e2⟩
theorem EnvOk.stp (e : EnvOk K rm M H σ r) (hw : ∀ p, rm p → M p) (s : Stp rm H H') : EnvOk K rm M H' σ r := ⟨e.len, fun i o sd h1 h2 => by
  have q := e.at_ i o sd h1 h2
  cases sd with
  | none => trivial
  | some sd =>
    cases sd with
    | d x =>
      obtain ⟨v, a, b⟩ := q
      exact ⟨v, a, b.stp hw s⟩
    | own a ds =>
      obtain ⟨a1, a2, a3, xs, a4, a5⟩ := q
      exact ⟨a1, a2, a3, xs, s.keep _ _ a3 a4, a5.stp hw s⟩⟩
theorem EnvOk.same (e : EnvOk K rm M H σ r) (s : Same H H') : EnvOk K rm M H' σ r := ⟨e.len, fun i o sd h1 h2 => by
  have q := e.at_ i o sd h1 h2
  cases sd with
  | none => trivial
  | some sd =>
    cases sd with
    | d x =>
      obtain ⟨v, a, b⟩ := q
      exact ⟨v, a, b.same s⟩
    | own a ds =>
      obtain ⟨a1, a2, a3, xs, a4, a5⟩ := q
      exact ⟨a1, a2, a3, xs, s _ _ a4, a5.same s⟩⟩
/-- a greater M, by an address that was free -/
def Add (M : Addr → Prop) (p : Addr) : Addr → Prop := fun a => M a ∨ a = p
/-- a greater M, by addresses that are free -/
theorem IsD.grow {M1 : Addr → Prop} {v : V} {d : D} (h : IsD K M H v d) (hp : ∀ p, M1 p → M p ∨ H p = Option.none) : IsD K M1 H v d := by
  have key : ∀ {a : Addr} {xs : List V}, TupAt K M H a xs → TupAt K M1 H a xs := fun {a xs} h => by
    rcases h with ⟨h1, h2⟩ | h
    · refine .inl ⟨fun z => ?_, h2⟩
      rcases hp _ z with z | z
      · exact h1 z
      · rcases h2 with h2 | ⟨o, h2⟩ <;> rw [z] at h2 <;> cases h2
    · exact .inr h
  have keyL : ∀ {a : Addr} {xs : List V}, LstAt M H a xs → LstAt M1 H a xs := fun {a xs} h => by
    obtain ⟨h1, h2⟩ := h
    refine ⟨fun z => ?_, h2⟩
    rcases hp _ z with z | z
    · exact h1 z
    · rw [z] at h2; cases h2
  refine IsD.rec (motive_1 := fun v d _ => IsD K M1 H v d) (motive_2 := fun vs ds _ => IsDs K M1 H vs ds) ?_ ?_ ?_ ?_ ?_ ?_ ?_ ?_ ?_ h
  · exact .non
  · exact fun b => .bl b
  · exact fun i => .int i
  · exact fun s => .str s
  · exact fun h1 _ h2 => .tup (key h1) h2
  · exact fun h1 _ h2 => .lst (keyL h1) h2
  · exact fun a => .adr a
  · exact .nil
  · exact fun _ _ h1 h2 => .cons h1 h2
theorem IsDs.grow {M1 : Addr → Prop} (hp : ∀ p, M1 p → M p ∨ H p = Option.none) : ∀ {ds : List D} {vs : List V}, IsDs K M H vs ds → IsDs K M1 H vs ds
  | [], _, h => by cases h; exact .nil
  | d :: ds, _, h => by
    cases h with
    | cons h1 h2 => exact .cons (h1.grow hp) (IsDs.grow hp h2)
theorem add_or {p : Addr} (hp : H p = Option.none) : ∀ q, Add M p q → M q ∨ H q = Option.none := fun q z => by
  rcases z with z | z
  · exact .inl z
  · subst z; exact .inr hp
theorem IsD.add {v : V} {d : D} {p : Addr} (h : IsD K M H v d) (hp : H p = Option.none) : IsD K (Add M p) H v d := h.grow (add_or hp)
theorem IsDs.add {p : Addr} (hp : H p = Option.none) {ds : List D} {vs : List V} (h : IsDs K M H vs ds) : IsDs K (Add M p) H vs ds := h.grow (add_or hp)
theorem EnvOk.add {p : Addr} (e : EnvOk K rm M H σ r) (hp : H p = Option.none) : EnvOk K rm (Add M p) H σ r := ⟨e.len, fun i o sd h1 h2 => by
  have q := e.at_ i o sd h1 h2
  cases sd with
  | none => trivial
  | some sd =>
    cases sd with
    | d x =>
      obtain ⟨v, a, b⟩ := q
      exact ⟨v, a, b.add hp⟩
    | own a ds =>
      obtain ⟨a1, a2, a3, xs, a4, a5⟩ := q
      exact ⟨a1, .inl a2, a3, xs, a4, a5.add hp⟩⟩
theorem EnvOk.set {v : V} (e : EnvOk K rm M H σ r) (h : IsD K M H v x) : EnvOk K rm M H (σ.set i (some v)) (r.set i (some (.d x))) := ⟨by rw [List.length_set, List.length_set, e.len], fun j o sd h1 h2 => by
  rw [List.getElem?_set] at h1 h2
  by_cases hij : i = j
  · rw [if_pos hij] at h1 h2
    split at h1
    · split at h2
      · cases h1; cases h2
        exact ⟨v, rfl, h⟩
      · cases h2
    · cases h1
  · rw [if_neg hij] at h1 h2
    exact e.at_ j o sd h1 h2⟩
theorem EnvOk.setOwn {a : Addr} {xs : List V} {ds : List D} (e : EnvOk K rm M H σ r) (hm : M a) (hr : ¬ rm a) (hh : H a = some (.lst xs)) (hs : IsDs K M H xs ds) : EnvOk K rm M H (σ.set i (some (.ref a))) (r.set i (some (.own a ds))) :=
  ⟨by rw [List.length_set, List.length_set, e.len], fun j o sd h1 h2 => by
  rw [List.getElem?_set] at h1 h2
  by_cases hij : i = j
  · rw [if_pos hij] at h1 h2
    split at h1
    · split at h2
      · cases h1; cases h2
        exact ⟨rfl, hm, hr, xs, hh, hs⟩
      · cases h2
    · cases h1
  · rw [if_neg hij] at h1 h2
    exact e.at_ j o sd h1 h2⟩
/-- slots forgotten -/
def wipeR (r : REnv) : List Nat → REnv
  | [] => r
  | v :: vs => (wipeR r vs).set v none
theorem EnvOk.setN (e : EnvOk K rm M H σ r) : EnvOk K rm M H (σ.set i none) (r.set i none) := ⟨by rw [List.length_set, List.length_set, e.len], fun j o sd h1 h2 => by
  rw [List.getElem?_set] at h1 h2
  by_cases hij : i = j
  · rw [if_pos hij] at h1 h2
    split at h1
    · split at h2
      · cases h1; cases h2
        trivial
      · cases h2
    · cases h1
  · rw [if_neg hij] at h1 h2
    exact e.at_ j o sd h1 h2⟩
theorem EnvOk.wipe (e : EnvOk K rm M H σ r) : ∀ vs : List Nat, EnvOk K rm M H (wipe σ vs) (wipeR r vs)
  | [] => e
  | v :: vs => (EnvOk.wipe e vs).setN
theorem EnvOk.lessRm {rm' : Addr → Prop} (e : EnvOk K rm M H σ r) (h : ∀ p, rm' p → rm p) : EnvOk K rm' M H σ r := ⟨e.len, fun i o sd h1 h2 => by
  have q := e.at_ i o sd h1 h2
  cases sd with
  | none => trivial
  | some sd =>
    cases sd with
    | d x => exact q
    | own a ds =>
      obtain ⟨a1, a2, a3, z⟩ := q
      exact ⟨a1, a2, fun w => a3 (h _ w), z⟩⟩
end
end Gv

/-! Expressions by data. -/
namespace Gv
open PySem PySem.Spec PyProof.Rows L2
section
variable {K : PySem.W.Frag} {R : Rg} {M : Addr → Prop} {H H' : Hp} {r : REnv}
/-- an operand: data, or a list of one's own -/
def IsV (K : PySem.W.Frag) (rm M : Addr → Prop) (H : Hp) (v : V) (d : D) : Prop :=
  IsD K M H v d ∨ ∃ a xs ds, v = .ref a ∧ d = .lst ds ∧ ¬ rm a ∧ H a = some (.lst xs) ∧ IsDs K M H xs ds
theorem IsV.stp {rm : Addr → Prop} {v : V} {d : D} (h : IsV K rm M H v d) (hw : ∀ p, rm p → M p) (s : Stp rm H H') : IsV K rm M H' v d := by
  rcases h with h | ⟨a, xs, ds, h1, h2, h3, h4, h5⟩
  · exact .inl (h.stp hw s)
  · exact .inr ⟨a, xs, ds, h1, h2, h3, s.keep _ _ h3 h4, h5.stp hw s⟩
/-- the reading te comes to data of P -/
def Ev (K : PySem.W.Frag) (R : Rg) (te : TE) (r : REnv) (P : D → Prop) : Prop :=
  ∀ (M : Addr → Prop) (σ : L2.St) (H : Hp), (∀ p, R.m p → M p) → Ok M H → R.inv H → EnvOk K R.m M H σ r →
    ∀ Q : VK, (∀ v H' d, P d → Stp R.m H H' → R.inv H' → IsD K M H' v d → Q v H') → te σ H Q
def EvV (K : PySem.W.Frag) (R : Rg) (te : TE) (r : REnv) (P : D → Prop) : Prop :=
  ∀ (M : Addr → Prop) (σ : L2.St) (H : Hp), (∀ p, R.m p → M p) → Ok M H → R.inv H → EnvOk K R.m M H σ r →
    ∀ Q : VK, (∀ v H' d, P d → Stp R.m H H' → R.inv H' → IsV K R.m M H' v d → Q v H') → te σ H Q
/-- a new list -/
def EvF (K : PySem.W.Frag) (R : Rg) (te : TE) (r : REnv) (P : List D → Prop) : Prop :=
  ∀ (M : Addr → Prop) (σ : L2.St) (H : Hp), (∀ p, R.m p → M p) → Ok M H → R.inv H → EnvOk K R.m M H σ r →
    ∀ Q : VK, (∀ p H' xs ds, P ds → H p = Option.none → Stp R.m H H' → R.inv H' → H' p = some (.lst xs) → IsDs K (Add M p) H' xs ds → Q (.ref p) H') → te σ H Q
def EvT (K : PySem.W.Frag) (R : Rg) (tt : TT) (r : REnv) (P : Bool → Prop) : Prop :=
  ∀ (M : Addr → Prop) (σ : L2.St) (H : Hp), (∀ p, R.m p → M p) → Ok M H → R.inv H → EnvOk K R.m M H σ r →
    ∀ Q : Bool → Hp → Prop, (∀ b H', P b → Stp R.m H H' → R.inv H' → Q b H') → tt σ H Q
def EvA (K : PySem.W.Frag) (R : Rg) (ta : TA) (r : REnv) (P : List D → Prop) : Prop :=
  ∀ (M : Addr → Prop) (σ : L2.St) (H : Hp), (∀ p, R.m p → M p) → Ok M H → R.inv H → EnvOk K R.m M H σ r →
    ∀ Q : List V → Hp → Prop, (∀ vs H' ds, P ds → Stp R.m H H' → R.inv H' → IsDs K M H' vs ds → Q vs H') → ta σ H Q
def EvO (K : PySem.W.Frag) (R : Rg) (to : TO) (r : REnv) (o : Option Int) : Prop :=
  ∀ (M : Addr → Prop) (σ : L2.St) (H : Hp), (∀ p, R.m p → M p) → Ok M H → R.inv H → EnvOk K R.m M H σ r →
    ∀ Q : Option Int → Hp → Prop, (∀ H', Stp R.m H H' → R.inv H' → Q o H') → to σ H Q

theorem Ok.rm {W : Addr → Prop} (ok : Ok M H) (hw : ∀ p, W p → M p) (s : Same H H') : ∀ p, W p → H' p = H p := fun p hp => by
  cases e : H p with
  | none => exact absurd e (ok p (hw p hp))
  | some o => exact s p o e
theorem inv_same (hR : ∀ p, R.m p → M p) (ok : Ok M H) (s : Same H H') (i : R.inv H) : R.inv H' := R.stab H H' (ok.rm hR s) i

variable {te ta tb : TE} {tt tu : TT} {P P' : D → Prop} {x y d : D}
theorem Ev.imp (h : Ev K R te r P) (hp : ∀ d, P d → P' d) : Ev K R te r P' := fun M σ H a b c e Q q => h M σ H a b c e Q fun v H' d p => q v H' d (hp d p)
theorem EvV.imp (h : EvV K R te r P) (hp : ∀ d, P d → P' d) : EvV K R te r P' := fun M σ H a b c e Q q => h M σ H a b c e Q fun v H' d p => q v H' d (hp d p)
theorem EvT.imp {P P' : Bool → Prop} (h : EvT K R tt r P) (hp : ∀ d, P d → P' d) : EvT K R tt r P' := fun M σ H a b c e Q q => h M σ H a b c e Q fun v H' p => q v H' (hp v p)
theorem EvF.imp {P P' : List D → Prop} (h : EvF K R te r P) (hp : ∀ d, P d → P' d) : EvF K R te r P' := fun M σ H a b c e Q q => h M σ H a b c e Q fun v H' xs d p => q v H' xs d (hp d p)
theorem EvA.imp {ta : TA} {P P' : List D → Prop} (h : EvA K R ta r P) (hp : ∀ d, P d → P' d) : EvA K R ta r P' := fun M σ H a b c e Q q => h M σ H a b c e Q fun v H' d p => q v H' d (hp d p)
theorem Ev.is (h : Ev K R te r (· = x)) (e : x = y) : Ev K R te r (· = y) := h.imp fun d z => z.trans e
theorem EvT.is {b c : Bool} (h : EvT K R tt r (· = b)) (e : b = c) : EvT K R tt r (· = c) := h.imp fun d z => z.trans e
theorem Ev.v (h : Ev K R te r P) : EvV K R te r P := fun M σ H a b c e Q q => h M σ H a b c e Q fun v H' d p s i z => q v H' d p s i (.inl z)
theorem EvF.v {P : List D → Prop} (h : EvF K R te r P) : Ev K R te r (fun d => ∃ ds, P ds ∧ d = .lst ds) := fun M σ H a b c e Q q =>
  h M σ H a b c e Q fun p H' xs ds hp hn s i e1 e2 => q (.ref p) H' _ ⟨ds, hp, rfl⟩ s i (.lst ⟨b.out hn, e1⟩ (e2.to (fun _ z => .inl z) fun _ _ _ z => z))
theorem EvF.v1 {ds : List D} (h : EvF K R te r (· = ds)) : Ev K R te r (· = .lst ds) := h.v.imp fun d z => by
  obtain ⟨_, rfl, rfl⟩ := z
  rfl

theorem ev_var {i : Nat} (h : r[i]? = some (some (.d x))) : Ev K R (tVar i) r (· = x) := fun M σ H _ _ c e Q q => by
  obtain ⟨v, e1, e2⟩ := e.get h
  exact ⟨v, e1, q v H x rfl (Stp.refl _ _) c e2⟩
theorem ev_own {i : Nat} {a : Addr} {ds : List D} (h : r[i]? = some (some (.own a ds))) : EvV K R (tVar i) r (· = .lst ds) := fun M σ H _ _ c e Q q => by
  obtain ⟨e1, _, e3, xs, e4, e5⟩ := e.own h
  exact ⟨_, e1, q _ H _ rfl (Stp.refl _ _) c (.inr ⟨a, xs, ds, rfl, rfl, e3, e4, e5⟩)⟩
theorem ev_int {i : Int} : Ev K R (tC (.int i)) r (· = .int i) := fun M σ H _ _ c e Q q => q _ H _ rfl (Stp.refl _ _) c (.int i)
theorem ev_non : Ev K R (tC .non) r (· = .non) := fun M σ H _ _ c e Q q => q _ H _ rfl (Stp.refl _ _) c .non
theorem ev_bl {b : Bool} : Ev K R (tC (.bl b)) r (· = .bl b) := fun M σ H _ _ c e Q q => q _ H _ rfl (Stp.refl _ _) c (.bl b)
theorem ev_str {s : Str} : Ev K R (tC (.str s)) r (· = .str s) := fun M σ H _ _ c e Q q => q _ H _ rfl (Stp.refl _ _) c (.str s)

/-! ### operators by values -/
def OpD (K : PySem.W.Frag) (o : R2) (x y : D) (P : D → Prop) : Prop :=
  ∀ (rm M : Addr → Prop) (H : Hp) (v w : V), Ok M H → IsV K rm M H v x → IsV K rm M H w y → ∀ Q : VK, (∀ z H' d, P d → Same H H' → IsD K M H' z d → Q z H') → o v w H Q
theorem ev_op {o : R2} {Px : D → Prop} {Py : D → D → Prop} (ha : EvV K R ta r Px) (hb : ∀ x, Px x → EvV K R tb r (Py x)) (ho : ∀ x y, Px x → Py x y → OpD K o x y P) : Ev K R (tOp o ta tb) r P := fun M σ H hR ok inv e Q q =>
  ha M σ H hR ok inv e _ fun v H1 x px s1 i1 d1 => hb x px M σ H1 hR (ok.stp s1) i1 (e.stp hR s1) _ fun w H2 y py s2 i2 d2 =>
    ho x y px py R.m M H2 v w ((ok.stp s1).stp s2) (d1.stp hR s2) d2 Q fun z H3 d pd s3 d3 =>
      q z H3 d pd ((s1.trans s2).trans (Stp.of s3)) (inv_same hR ((ok.stp s1).stp s2) s3 i2) d3
theorem ev_op1 {o : R2} (ha : EvV K R ta r (· = x)) (hb : EvV K R tb r (· = y)) (ho : OpD K o x y P) : Ev K R (tOp o ta tb) r P :=
  ev_op ha (fun _ _ => hb) fun a b ea eb => by rw [ea, eb]; exact ho
/-- scalars -/
theorem isV_int {rm : Addr → Prop} {v : V} {i : Int} (h : IsV K rm M H v (.int i)) : v = .int i := by
  rcases h with h | ⟨_, _, _, _, z, _⟩
  · cases h; rfl
  · cases z
theorem isV_bl {rm : Addr → Prop} {v : V} {b : Bool} (h : IsV K rm M H v (.bl b)) : v = .bl b := by
  rcases h with h | ⟨_, _, _, _, z, _⟩
  · cases h; rfl
  · cases z
theorem isV_non {rm : Addr → Prop} {v : V} (h : IsV K rm M H v .non) : v = .non := by
  rcases h with h | ⟨_, _, _, _, z, _⟩
  · cases h; rfl
  · cases z
theorem isV_str {rm : Addr → Prop} {v : V} {s : Str} (h : IsV K rm M H v (.str s)) : v = .str s := by
  rcases h with h | ⟨_, _, _, _, z, _⟩
  · cases h; rfl
  · cases z
theorem isV_tup {rm : Addr → Prop} {v : V} {l : List D} (h : IsV K rm M H v (.tup l)) : ∃ a xs, v = .ref a ∧ TupAt K M H a xs ∧ IsDs K M H xs l := by
  rcases h with h | ⟨_, _, _, _, z, _⟩
  · cases h with
    | tup h1 h2 => exact ⟨_, _, rfl, h1, h2⟩
  · cases z
theorem isV_lst {rm : Addr → Prop} {v : V} {l : List D} (h : IsV K rm M H v (.lst l)) : ∃ a xs, v = .ref a ∧ H a = some (.lst xs) ∧ IsDs K M H xs l := by
  rcases h with h | ⟨a, xs, ds, e1, z, _, e2, e3⟩
  · cases h with
    | lst h1 h2 => exact ⟨_, _, rfl, h1.2, h2⟩
  · cases z
    exact ⟨_, _, e1, e2, e3⟩
theorem isV_adr {rm : Addr → Prop} {v : V} {a : Addr} (h : IsV K rm M H v (.adr a)) : v = .ref a := by
  rcases h with h | ⟨_, _, _, _, z, _⟩
  · cases h; rfl
  · cases z
/-- scalar data as values -/
def D.sc : D → Option V
  | .non => some .non
  | .bl b => some (.bl b)
  | .int i => some (.int i)
  | .str s => some (.str s)
  | _ => Option.none
theorem isV_sc {rm : Addr → Prop} {v w : V} (h : IsV K rm M H v d) (e : d.sc = some w) : v = w := by
  cases d with
  | non => cases e; exact isV_non h
  | bl b => cases e; exact isV_bl h
  | int i => cases e; exact isV_int h
  | str s => cases e; exact isV_str h
  | tup l => cases e
  | lst l => cases e
  | adr a => cases e
theorem same_refl (H : Hp) : Same H H := fun _ _ h => h
theorem op_i0 {g : Int → Int → Int} {i j : Int} : OpD K (rI0 fun i j => .int (g i j)) (.int i) (.int j) (· = .int (g i j)) := fun rm M H v w ok hv hw Q q =>
  ⟨i, j, isV_int hv, isV_int hw, q _ H _ rfl (same_refl H) (.int _)⟩
theorem op_ib {g : Int → Int → Bool} {i j : Int} : OpD K (rI0 fun i j => .bl (g i j)) (.int i) (.int j) (· = .bl (g i j)) := fun rm M H v w ok hv hw Q q =>
  ⟨i, j, isV_int hv, isV_int hw, q _ H _ rfl (same_refl H) (.bl _)⟩
theorem op_iC {C : Int → Int → Prop} {g : Int → Int → Int} {i j : Int} (hc : C i j) : OpD K (rI C fun i j => .int (g i j)) (.int i) (.int j) (· = .int (g i j)) := fun rm M H v w ok hv hw Q q =>
  ⟨i, j, isV_int hv, isV_int hw, hc, q _ H _ rfl (same_refl H) (.int _)⟩
theorem op_eqS {v w : V} (hx : x.sc = some v) (hy : y.sc = some w) (hs : scal v w = true) : OpD K rEq x y (· = .bl (decide (v = w))) := fun rm M H v' w' ok hv hw Q q => by
  rw [isV_sc hv hx, isV_sc hw hy]
  exact ⟨hs, q _ H _ rfl (same_refl H) (.bl _)⟩
theorem op_neS {v w : V} (hx : x.sc = some v) (hy : y.sc = some w) (hs : scal v w = true) : OpD K rNe x y (· = .bl (!decide (v = w))) := fun rm M H v' w' ok hv hw Q q => by
  rw [isV_sc hv hx, isV_sc hw hy]
  exact ⟨hs, q _ H _ rfl (same_refl H) (.bl _)⟩
theorem op_ixT {l : List D} {i : Int} (h : atI l i = some d) : OpD K (rIxT K) (.tup l) (.int i) (· = d) := fun rm M H v w ok hv hw Q q => by
  obtain ⟨a, xs, rfl, h1, h2⟩ := isV_tup hv
  rw [isV_int hw]
  obtain ⟨j, e1, e2, e3, e4, e5⟩ := atI_get h
  obtain ⟨u, e6, e7⟩ := h2.at_ e2
  refine ⟨a, xs, i, u, rfl, rfl, h1.sq, ?_, q u H d rfl (same_refl H) e7⟩
  have hl := h2.len
  unfold atI at h ⊢
  rw [hl]
  cases q1 : ixN l.length i with
  | none => rw [q1] at h; cases h
  | some k =>
    rw [q1] at h
    have h' : l[k]? = some d := h
    obtain ⟨u', e6', e7'⟩ := h2.at_ h'
    obtain ⟨k1, k2, _⟩ := ixN_seq q1
    rw [k1] at e1
    cases e1
    rw [e6] at e6'
    cases e6'
    exact e6
theorem op_ixL {l : List D} {i : Int} (h : atI l i = some d) : OpD K (rIxL K) (.lst l) (.int i) (· = d) := fun rm M H v w ok hv hw Q q => by
  obtain ⟨a, xs, rfl, h1, h2⟩ := isV_lst hv
  rw [isV_int hw]
  obtain ⟨j, e1, e2, e3, e4, e5⟩ := atI_get h
  obtain ⟨u, e6, e7⟩ := h2.at_ e2
  refine ⟨a, xs, i, u, rfl, rfl, SqL.of h1, ?_, q u H d rfl (same_refl H) e7⟩
  have hl := h2.len
  unfold atI at h ⊢
  rw [hl]
  cases q1 : ixN l.length i with
  | none => rw [q1] at h; cases h
  | some k =>
    rw [q1] at h
    have h' : l[k]? = some d := h
    obtain ⟨u', e6', e7'⟩ := h2.at_ h'
    obtain ⟨k1, k2, _⟩ := ixN_seq q1
    rw [k1] at e1
    cases e1
    rw [e6] at e6'
    cases e6'
    exact e6
/-- flat data: in -/
def D.flat : D → Bool
  | .non => true
  | .bl _ => true
  | .int _ => true
  | .str _ => true
  | _ => false
def eqF : D → D → Bool
  | .non, .non => true
  | .bl a, .bl b => a == b
  | .bl a, .int b => (if a then 1 else 0) == b
  | .int a, .bl b => a == (if b then 1 else 0)
  | .int a, .int b => a == b
  | .str a, .str b => a == b
  | _, _ => false
theorem flat_of {v : V} (h : IsD K M H v d) (f : d.flat = true) : flatV v = true := by
  cases h with
  | non => rfl
  | bl b => rfl
  | int i => rfl
  | str s => rfl
  | tup _ _ => cases f
  | lst _ _ => cases f
  | adr a => cases f
theorem eqF_of {v w : V} (h : IsD K M H v x) (g : IsD K M H w y) (fx : x.flat = true) (fy : y.flat = true) : eqV v w = eqF x y := by
  cases h with
  | tup _ _ => cases fx
  | lst _ _ => cases fx
  | adr a => cases fx
  | _ => cases g with
    | tup _ _ => cases fy
    | lst _ _ => cases fy
    | adr a => cases fy
    | _ => rfl
theorem isV_flat {rm : Addr → Prop} {v : V} (h : IsV K rm M H v d) (f : d.flat = true) : IsD K M H v d := by
  rcases h with h | ⟨_, _, _, _, z, _⟩
  · exact h
  · subst z; cases f
theorem flats_of : ∀ {l : List D} {xs : List V}, IsDs K M H xs l → l.all D.flat = true → xs.all flatV = true
  | [], _, h, _ => by cases h; rfl
  | d :: l, _, h, f => by
    cases h with
    | cons h1 h2 =>
      rw [List.all_cons, Bool.and_eq_true] at f
      rw [List.all_cons, Bool.and_eq_true]
      exact ⟨flat_of h1 f.1, flats_of h2 f.2⟩
theorem inV_of {v : V} (h : IsD K M H v x) (fx : x.flat = true) : ∀ {l : List D} {xs : List V}, IsDs K M H xs l → l.all D.flat = true → inV v xs = l.any fun y => eqF y x
  | [], _, g, _ => by cases g; rfl
  | d :: l, _, g, f => by
    cases g with
    | cons g1 g2 =>
      rw [List.all_cons, Bool.and_eq_true] at f
      have ih := inV_of h fx g2 f.2
      unfold inV at ih ⊢
      rw [List.any_cons, List.any_cons, ih, eqF_of g1 h f.1 fx]
theorem op_in {neg : Bool} {l : List D} (fx : x.flat = true) (fl : l.all D.flat = true) (hy : y = .tup l ∨ y = .lst l) : OpD K (rIn K neg) x y (· = .bl (if neg then !(l.any fun z => eqF z x) else l.any fun z => eqF z x)) := fun rm M H v w ok hv hw Q q => by
  have hx := isV_flat hv fx
  rcases hy with rfl | rfl
  · obtain ⟨a, xs, rfl, h1, h2⟩ := isV_tup hw
    refine ⟨a, xs, rfl, .inr h1.sq, flat_of hx fx, flats_of h2 fl, ?_⟩
    rw [inV_of hx fx h2 fl]
    exact q _ H _ rfl (same_refl H) (.bl _)
  · obtain ⟨a, xs, rfl, h1, h2⟩ := isV_lst hw
    refine ⟨a, xs, rfl, .inl (SqL.of h1), flat_of hx fx, flats_of h2 fl, ?_⟩
    rw [inV_of hx fx h2 fl]
    exact q _ H _ rfl (same_refl H) (.bl _)
theorem op_catL {l m : List D} (hz : l.length + m.length ≤ sizeLine) : OpD K rCat (.lst l) (.lst m) (· = .lst (l ++ m)) := fun rm M H v w ok hv hw Q q => by
  obtain ⟨a, xs, rfl, h1, h2⟩ := isV_lst hv
  obtain ⟨b, ys, rfl, g1, g2⟩ := isV_lst hw
  refine ⟨a, b, xs, ys, rfl, rfl, h1, g1, by rw [h2.len, g2.len]; exact hz, fun p hp => ?_⟩
  exact q _ _ _ rfl (same_new hp) (.lst ⟨ok.out hp, upd_same⟩ ((h2.app g2).same (same_new hp)))
/-- is None -/
def D.isNon : D → Bool
  | .non => true
  | _ => false
theorem isNon_of {v : V} (h : IsD K M H v d) : decide (v = V.non) = d.isNon := by
  cases h <;> first | rfl | exact decide_eq_false (fun z => nomatch z)
theorem op_isN0 : OpD K (fun x y H Q => y = .non ∧ Q (.bl (decide (x = .non))) H) x .non (· = .bl x.isNon) := fun rm M H v w ok hv hw Q q => by
  refine ⟨isV_non hw, ?_⟩
  rcases hv with hv | ⟨a, _, _, rfl, rfl, _⟩
  · rw [isNon_of hv]
    exact q _ H _ rfl (same_refl H) (.bl _)
  · exact q _ H _ rfl (same_refl H) (.bl _)

/-! ### displays, arguments -/
theorem ea_nil : EvA K R tNil r (· = []) := fun M σ H _ _ c e Q q => q [] H [] rfl (Stp.refl _ _) c .nil
theorem ea_cons {tr : TA} {Pd : D → Prop} {Pr : D → List D → Prop} (h : Ev K R te r Pd) (hr : ∀ d, Pd d → EvA K R tr r (Pr d)) : EvA K R (tCons te tr) r (fun l => ∃ d ds, Pd d ∧ Pr d ds ∧ l = d :: ds) := fun M σ H hR ok inv e Q q =>
  h M σ H hR ok inv e _ fun v H1 d pd s1 i1 d1 => hr d pd M σ H1 hR (ok.stp s1) i1 (e.stp hR s1) _ fun vs H2 ds pr s2 i2 d2 =>
    q (v :: vs) H2 _ ⟨d, ds, pd, pr, rfl⟩ (s1.trans s2) i2 (.cons (d1.stp hR s2) d2)
theorem ea_c {tr : TA} {ds : List D} (h : Ev K R te r (· = d)) (hr : EvA K R tr r (· = ds)) : EvA K R (tCons te tr) r (· = d :: ds) := (ea_cons h fun _ _ => hr).imp fun l z => by
  obtain ⟨_, _, rfl, rfl, rfl⟩ := z
  rfl
theorem ea_star {tr : TA} {l ds : List D} (h : EvV K R te r (fun d => d = .tup l ∨ d = .lst l)) (hr : EvA K R tr r (· = ds)) : EvA K R (StX.tStar K te tr) r (· = l ++ ds) := fun M σ H hR ok inv e Q q =>
  h M σ H hR ok inv e _ fun v H1 d pd s1 i1 d1 => by
    rcases pd with rfl | rfl
    · obtain ⟨a, xs, rfl, h1, h2⟩ := isV_tup d1
      refine ⟨a, xs, rfl, .inl h1.sq, hr M σ H1 hR (ok.stp s1) i1 (e.stp hR s1) _ fun vs H2 ds' er s2 i2 d2 => ?_⟩
      subst er
      exact q _ H2 _ rfl (s1.trans s2) i2 ((h2.stp hR s2).app d2)
    · obtain ⟨a, xs, rfl, h1, h2⟩ := isV_lst d1
      refine ⟨a, xs, rfl, .inr (SqL.of h1), hr M σ H1 hR (ok.stp s1) i1 (e.stp hR s1) _ fun vs H2 ds' er s2 i2 d2 => ?_⟩
      subst er
      exact q _ H2 _ rfl (s1.trans s2) i2 ((h2.stp hR s2).app d2)
theorem ev_tup {ta : TA} {P : List D → Prop} (h : EvA K R ta r P) (hz : ∀ ds, P ds → ds.length ≤ sizeLine) : Ev K R (tTup ta) r (fun d => ∃ ds, P ds ∧ d = .tup ds) := fun M σ H hR ok inv e Q q =>
  h M σ H hR ok inv e _ fun vs H1 ds pd s1 i1 d1 => ⟨by rw [d1.len]; exact hz ds pd, fun p hp =>
    q _ _ _ ⟨ds, pd, rfl⟩ (s1.trans (Stp.of (same_new hp))) (inv_same hR (ok.stp s1) (same_new hp) i1) (.tup (.inl ⟨(ok.stp s1).out hp, .inl upd_same⟩) (d1.same (same_new hp)))⟩
theorem ev_tup1 {ta : TA} {ds : List D} (h : EvA K R ta r (· = ds)) (hz : ds.length ≤ sizeLine) : Ev K R (tTup ta) r (· = .tup ds) := (ev_tup h (fun _ e => by rw [e]; exact hz)).imp fun d z => by
  obtain ⟨_, rfl, rfl⟩ := z
  rfl
theorem none_back {W : Addr → Prop} {p : Addr} (s : Stp W H H') (h : H' p = Option.none) : H p = Option.none := by
  cases e : H p with
  | none => rfl
  | some o => exact absurd h (s.there p (by rw [e]; exact fun z => nomatch z))
theorem ev_lst {ta : TA} {P : List D → Prop} (h : EvA K R ta r P) (hz : ∀ ds, P ds → ds.length ≤ sizeLine) : EvF K R (tLst ta) r P := fun M σ H hR ok inv e Q q =>
  h M σ H hR ok inv e _ fun vs H1 ds pd s1 i1 d1 => ⟨by rw [d1.len]; exact hz ds pd, fun p hp =>
    q p _ vs ds pd (none_back s1 hp) (s1.trans (Stp.of (same_new hp))) (inv_same hR (ok.stp s1) (same_new hp) i1) upd_same ((d1.add hp).same (same_new hp))⟩

/-! ### tests, conditions -/
theorem et_test {P : Bool → Prop} (h : Ev K R te r (fun d => ∃ b, P b ∧ d = .bl b)) : EvT K R (tTest te) r P := fun M σ H hR ok inv e Q q =>
  h M σ H hR ok inv e _ fun v H1 d pd s1 i1 d1 => by
    obtain ⟨b, pb, rfl⟩ := pd
    exact ⟨b, by cases d1; rfl, q b H1 pb s1 i1⟩
theorem et_B {P : Bool → Prop} (h : Ev K R te r (fun d => ∃ b, P b ∧ d = .bl b)) : EvT K R (tB te) r P := fun M σ H hR ok inv e Q q =>
  h M σ H hR ok inv e _ fun v H1 d pd s1 i1 d1 => by
    obtain ⟨b, pb, rfl⟩ := pd
    exact ⟨b, by cases d1; rfl, q b H1 pb s1 i1⟩
theorem bl1 {b : Bool} (h : Ev K R te r (· = .bl b)) : Ev K R te r (fun d => ∃ c, c = b ∧ d = .bl c) := h.imp fun d z => ⟨b, rfl, z⟩
theorem et_test1 {b : Bool} (h : Ev K R te r (· = .bl b)) : EvT K R (tTest te) r (· = b) := et_test (bl1 h)
theorem et_B1 {b : Bool} (h : Ev K R te r (· = .bl b)) : EvT K R (tB te) r (· = b) := et_B (bl1 h)
theorem et_yes : EvT K R tYes r (· = true) := fun M σ H _ _ c e Q q => q true H rfl (Stp.refl _ _) c
theorem et_not {b : Bool} (h : EvT K R tt r (· = b)) : EvT K R (tNot tt) r (· = !b) := fun M σ H hR ok inv e Q q =>
  h M σ H hR ok inv e _ fun c H1 pc s1 i1 => q _ H1 (by rw [pc]) s1 i1
theorem et_and {P P' : Bool → Prop} (h : EvT K R tt r P) (g : P true → EvT K R tu r P') : EvT K R (tAnd tt tu) r (fun b => (b = false ∧ P false) ∨ (P true ∧ P' b)) := fun M σ H hR ok inv e Q q =>
  h M σ H hR ok inv e _ fun c H1 pc s1 i1 => by
    cases c with
    | true =>
      show tu σ H1 Q
      exact g pc M σ H1 hR (ok.stp s1) i1 (e.stp hR s1) Q fun b H2 pb s2 i2 => q b H2 (.inr ⟨pc, pb⟩) (s1.trans s2) i2
    | false =>
      show Q false H1
      exact q false H1 (.inl ⟨rfl, pc⟩) s1 i1
theorem et_and1 {a b : Bool} (h : EvT K R tt r (· = a)) (g : a = true → EvT K R tu r (· = b)) : EvT K R (tAnd tt tu) r (· = (a && b)) := (et_and h fun z => g z.symm).imp fun c z => by
  rcases z with ⟨rfl, z⟩ | ⟨z, rfl⟩
  · subst z; rfl
  · subst z; rfl
theorem et_or {P P' : Bool → Prop} (h : EvT K R tt r P) (g : P false → EvT K R tu r P') : EvT K R (tOr tt tu) r (fun b => (b = true ∧ P true) ∨ (P false ∧ P' b)) := fun M σ H hR ok inv e Q q =>
  h M σ H hR ok inv e _ fun c H1 pc s1 i1 => by
    cases c with
    | false =>
      show tu σ H1 Q
      exact g pc M σ H1 hR (ok.stp s1) i1 (e.stp hR s1) Q fun b H2 pb s2 i2 => q b H2 (.inr ⟨pc, pb⟩) (s1.trans s2) i2
    | true =>
      show Q true H1
      exact q true H1 (.inl ⟨rfl, pc⟩) s1 i1
theorem et_or1 {a b : Bool} (h : EvT K R tt r (· = a)) (g : a = false → EvT K R tu r (· = b)) : EvT K R (tOr tt tu) r (· = (a || b)) := (et_or h fun z => g z.symm).imp fun c z => by
  rcases z with ⟨rfl, z⟩ | ⟨z, rfl⟩
  · subst z; rfl
  · subst z; rfl
theorem ev_not {b : Bool} (h : Ev K R te r (· = .bl b)) : Ev K R (tNotV te) r (· = .bl !b) := fun M σ H hR ok inv e Q q =>
  h M σ H hR ok inv e _ fun v H1 d pd s1 i1 d1 => by
    subst pd
    exact ⟨b, by cases d1; rfl, q _ H1 _ rfl s1 i1 (.bl _)⟩
theorem ev_and {P P' : Bool → Prop} (h : Ev K R ta r (fun d => ∃ b, P b ∧ d = .bl b)) (g : P true → Ev K R tb r (fun d => ∃ b, P' b ∧ d = .bl b)) : Ev K R (tAndV ta tb) r (fun d => ∃ b, ((b = false ∧ P false) ∨ (P true ∧ P' b)) ∧ d = .bl b) := fun M σ H hR ok inv e Q q =>
  h M σ H hR ok inv e _ fun v H1 d pd s1 i1 d1 => by
    obtain ⟨c, pc, rfl⟩ := pd
    refine ⟨c, by cases d1; rfl, ?_⟩
    cases c with
    | true =>
      show tb σ H1 Q
      exact g pc M σ H1 hR (ok.stp s1) i1 (e.stp hR s1) Q fun v H2 d pd s2 i2 d2 => by
        obtain ⟨b, pb, rfl⟩ := pd
        exact q v H2 _ ⟨b, .inr ⟨pc, pb⟩, rfl⟩ (s1.trans s2) i2 d2
    | false =>
      show Q (.bl false) H1
      exact q _ H1 _ ⟨false, .inl ⟨rfl, pc⟩, rfl⟩ s1 i1 (.bl _)
theorem ev_or {P P' : Bool → Prop} (h : Ev K R ta r (fun d => ∃ b, P b ∧ d = .bl b)) (g : P false → Ev K R tb r (fun d => ∃ b, P' b ∧ d = .bl b)) : Ev K R (tOrV ta tb) r (fun d => ∃ b, ((b = true ∧ P true) ∨ (P false ∧ P' b)) ∧ d = .bl b) := fun M σ H hR ok inv e Q q =>
  h M σ H hR ok inv e _ fun v H1 d pd s1 i1 d1 => by
    obtain ⟨c, pc, rfl⟩ := pd
    refine ⟨c, by cases d1; rfl, ?_⟩
    cases c with
    | false =>
      show tb σ H1 Q
      exact g pc M σ H1 hR (ok.stp s1) i1 (e.stp hR s1) Q fun v H2 d pd s2 i2 d2 => by
        obtain ⟨b, pb, rfl⟩ := pd
        exact q v H2 _ ⟨b, .inr ⟨pc, pb⟩, rfl⟩ (s1.trans s2) i2 d2
    | true =>
      show Q (.bl true) H1
      exact q _ H1 _ ⟨true, .inl ⟨rfl, pc⟩, rfl⟩ s1 i1 (.bl _)
theorem bl0 {b : Bool} (h : Ev K R te r (fun d => ∃ c, c = b ∧ d = .bl c)) : Ev K R te r (· = .bl b) := h.imp fun d z => by
  obtain ⟨_, rfl, rfl⟩ := z
  rfl
theorem ev_and1 {a b : Bool} (h : Ev K R ta r (· = .bl a)) (g : a = true → Ev K R tb r (· = .bl b)) : Ev K R (tAndV ta tb) r (· = .bl (a && b)) :=
  bl0 ((ev_and (bl1 h) fun z => bl1 (g z.symm)).imp fun d z => by
    obtain ⟨c, z, rfl⟩ := z
    refine ⟨c, ?_, rfl⟩
    rcases z with ⟨rfl, z⟩ | ⟨z, rfl⟩ <;> subst z <;> rfl)
theorem ev_or1 {a b : Bool} (h : Ev K R ta r (· = .bl a)) (g : a = false → Ev K R tb r (· = .bl b)) : Ev K R (tOrV ta tb) r (· = .bl (a || b)) :=
  bl0 ((ev_or (bl1 h) fun z => bl1 (g z.symm)).imp fun d z => by
    obtain ⟨c, z, rfl⟩ := z
    refine ⟨c, ?_, rfl⟩
    rcases z with ⟨rfl, z⟩ | ⟨z, rfl⟩ <;> subst z <;> rfl)
theorem ev_if {Pt : Bool → Prop} (h : EvT K R tt r Pt) (h1 : Pt true → Ev K R ta r P) (h2 : Pt false → Ev K R tb r P) : Ev K R (tIf tt ta tb) r P := fun M σ H hR ok inv e Q q =>
  h M σ H hR ok inv e _ fun c H1 pc s1 i1 => by
    cases c with
    | true =>
      show ta σ H1 Q
      exact h1 pc M σ H1 hR (ok.stp s1) i1 (e.stp hR s1) Q fun v H2 d pd s2 i2 d2 => q v H2 d pd (s1.trans s2) i2 d2
    | false =>
      show tb σ H1 Q
      exact h2 pc M σ H1 hR (ok.stp s1) i1 (e.stp hR s1) Q fun v H2 d pd s2 i2 d2 => q v H2 d pd (s1.trans s2) i2 d2
theorem ev_chain {o o' : R2} {tc : TE} {b : Bool} {z : D} {c : Bool} (ha : Ev K R ta r (· = x)) (hb : Ev K R tb r (· = y)) (ho : OpD K o x y (· = .bl b)) (hc : b = true → Ev K R tc r (· = z)) (ho' : b = true → OpD K o' y z (· = .bl c)) : Ev K R (tChain o o' ta tb tc) r (· = .bl (b && c)) := fun M σ H hR ok inv e Q q =>
  ha M σ H hR ok inv e _ fun v H1 x' px s1 i1 d1 => hb M σ H1 hR (ok.stp s1) i1 (e.stp hR s1) _ fun w H2 y' py s2 i2 d2 => by
    subst px; subst py
    refine ho R.m M H2 v w ((ok.stp s1).stp s2) (.inl (d1.stp hR s2)) (.inl d2) _ fun u H3 d pd s3 d3 => ?_
    subst pd
    have ok3 := ((ok.stp s1).stp s2).stp (Stp.of (W := R.m) s3)
    refine ⟨b, by cases d3; rfl, ?_⟩
    cases b with
    | true =>
      show tc σ H3 _
      refine hc rfl M σ H3 hR ok3 (inv_same hR ((ok.stp s1).stp s2) s3 i2) (((e.stp hR s1).stp hR s2).same s3) _ fun u' H4 z' pz s4 i4 d4 => ?_
      subst pz
      refine ho' rfl R.m M H4 w u' (ok3.stp s4) (.inl ((d2.same s3).stp hR s4)) (.inl d4) Q fun z2 H5 d pd s5 d5 => ?_
      subst pd
      exact q z2 H5 _ rfl ((((s1.trans s2).trans (Stp.of s3)).trans s4).trans (Stp.of s5)) (inv_same hR (ok3.stp s4) s5 i4) d5
    | false =>
      show Q (.bl false) H3
      exact q _ H3 _ rfl ((s1.trans s2).trans (Stp.of s3)) (inv_same hR ((ok.stp s1).stp s2) s3 i2) (.bl _)

/-! ### slices -/
theorem eo_none : EvO K R tNoPart r Option.none := fun M σ H _ _ c e Q q => q H (Stp.refl _ _) c
theorem eo_some {i : Int} (h : Ev K R te r (· = .int i)) : EvO K R (tPart te) r (some i) := fun M σ H hR ok inv e Q q =>
  h M σ H hR ok inv e _ fun v H1 d pd s1 i1 d1 => by
    subst pd
    exact ⟨i, by cases d1; rfl, q H1 s1 i1⟩
def cutD (l : List D) (lo hi : Option Int) : List D := (l.drop (HT.sIx l.length 0 lo)).take (HT.sIx l.length l.length hi - HT.sIx l.length 0 lo)
theorem IsDs.cut {l : List D} {xs : List V} (h : IsDs K M H xs l) (lo hi : Option Int) : IsDs K M H (cutV xs lo hi) (cutD l lo hi) := by
  unfold cutV cutD
  rw [h.len]
  exact (h.drop _).take _
theorem ev_slL {tl th : TO} {lo hi : Option Int} {l : List D} (h : EvV K R te r (· = .lst l)) (h1 : EvO K R tl r lo) (h2 : EvO K R th r hi) : EvF K R (tSl (rSlL K) te tl th) r (· = cutD l lo hi) := fun M σ H hR ok inv e Q q =>
  h M σ H hR ok inv e _ fun v H1 d pd s1 i1 d1 => h1 M σ H1 hR (ok.stp s1) i1 (e.stp hR s1) _ fun H2 s2 i2 => h2 M σ H2 hR ((ok.stp s1).stp s2) i2 ((e.stp hR s1).stp hR s2) _ fun H3 s3 i3 => by
    subst pd
    have d3 := (d1.stp hR s2).stp hR s3
    obtain ⟨a, xs, rfl, e1, e2⟩ := isV_lst d3
    have s123 := (s1.trans s2).trans s3
    refine ⟨a, xs, rfl, SqL.of e1, fun p hp => q p _ _ _ rfl (none_back s123 hp) (s123.trans (Stp.of (same_new hp))) (inv_same hR (ok.stp s123) (same_new hp) i3) upd_same ?_⟩
    exact ((e2.cut lo hi).add hp).same (same_new hp)
theorem ev_slT {tl th : TO} {lo hi : Option Int} {l : List D} (h : EvV K R te r (· = .tup l)) (h1 : EvO K R tl r lo) (h2 : EvO K R th r hi) (hw : ¬ (HT.sIx l.length 0 lo = 0 ∧ HT.sIx l.length l.length hi = l.length)) : Ev K R (tSl (rSlT K) te tl th) r (· = .tup (cutD l lo hi)) := fun M σ H hR ok inv e Q q =>
  h M σ H hR ok inv e _ fun v H1 d pd s1 i1 d1 => h1 M σ H1 hR (ok.stp s1) i1 (e.stp hR s1) _ fun H2 s2 i2 => h2 M σ H2 hR ((ok.stp s1).stp s2) i2 ((e.stp hR s1).stp hR s2) _ fun H3 s3 i3 => by
    subst pd
    have d3 := (d1.stp hR s2).stp hR s3
    obtain ⟨a, xs, rfl, e1, e2⟩ := isV_tup d3
    have s123 := (s1.trans s2).trans s3
    refine ⟨a, xs, rfl, e1.sq, by rw [e2.len]; exact hw, fun p hp => q _ _ _ rfl (s123.trans (Stp.of (same_new hp))) (inv_same hR (ok.stp s123) (same_new hp) i3) ?_⟩
    exact .tup (.inl ⟨(ok.stp s123).out hp, .inl upd_same⟩) ((e2.cut lo hi).same (same_new hp))
theorem ev_rev {l : List D} (h : EvV K R te r (· = .lst l)) : EvF K R (tRevL K te) r (· = l.reverse) := fun M σ H hR ok inv e Q q =>
  h M σ H hR ok inv e _ fun v H1 d pd s1 i1 d1 => by
    subst pd
    obtain ⟨a, xs, rfl, e1, e2⟩ := isV_lst d1
    refine ⟨a, xs, rfl, SqL.of e1, fun p hp => q p _ _ _ rfl (none_back s1 hp) (s1.trans (Stp.of (same_new hp))) (inv_same hR (ok.stp s1) (same_new hp) i1) upd_same ?_⟩
    exact (e2.rev.add hp).same (same_new hp)

/-! ### built-ins of one argument -/
theorem ev_cb1 {o : List V → Hp → VK → Prop} (h : EvV K R te r (· = x)) (ho : ∀ (rm M : Addr → Prop) (H : Hp) (v : V), Ok M H → IsV K rm M H v x → ∀ Q : VK, (∀ z H' d, P d → Same H H' → IsD K M H' z d → Q z H') → o [v] H Q) : Ev K R (tCB o (tCons te tNil)) r P := fun M σ H hR ok inv e Q q =>
  h M σ H hR ok inv e _ fun v H1 d pd s1 i1 d1 => by
    subst pd
    exact ho R.m M H1 v (ok.stp s1) d1 Q fun z H2 d pd s2 d2 => q z H2 d pd (s1.trans (Stp.of s2)) (inv_same hR (ok.stp s1) s2 i1) d2
abbrev rLenQ (K : PySem.W.Frag) : List V → Hp → VK → Prop := fun xs H Q => ∃ p ys, xs = [.ref p] ∧ (SqL K H p ys ∨ SqT K H p ys) ∧ Q (.int ys.length) H
theorem ev_len {l : List D} (h : EvV K R te r (· = x)) (hx : x = .tup l ∨ x = .lst l) : Ev K R (tCB (rLenQ K) (tCons te tNil)) r (· = .int l.length) :=
  ev_cb1 h fun rm M H v ok hv Q q => by
    rcases hx with rfl | rfl
    · obtain ⟨a, xs, rfl, h1, h2⟩ := isV_tup hv
      refine ⟨a, xs, rfl, .inr h1.sq, ?_⟩
      rw [h2.len]
      exact q _ H _ rfl (same_refl H) (.int _)
    · obtain ⟨a, xs, rfl, h1, h2⟩ := isV_lst hv
      refine ⟨a, xs, rfl, .inl (SqL.of h1), ?_⟩
      rw [h2.len]
      exact q _ H _ rfl (same_refl H) (.int _)
abbrev rTupleQ (K : PySem.W.Frag) : List V → Hp → VK → Prop := fun xs H Q => ∃ p ys, xs = [.ref p] ∧ ((SqL K H p ys ∧ ∀ l, H l = Option.none → Q (.ref l) (upd H l (.tup ys))) ∨ (SqT K H p ys ∧ Q (.ref p) H))
theorem ev_tuple {l : List D} (h : EvV K R te r (· = .lst l)) : Ev K R (tCB (rTupleQ K) (tCons te tNil)) r (· = .tup l) :=
  ev_cb1 h fun rm M H v ok hv Q q => by
    obtain ⟨a, xs, rfl, h1, h2⟩ := isV_lst hv
    refine ⟨a, xs, rfl, .inl ⟨SqL.of h1, fun p hp => q _ _ _ rfl (same_new hp) ?_⟩⟩
    exact .tup (.inl ⟨ok.out hp, .inl upd_same⟩) (h2.same (same_new hp))
theorem ev_all {bs : List Bool} (h : EvV K R te r (· = .lst (bs.map .bl))) : Ev K R (tCB (rAll K) (tCons te tNil)) r (· = .bl (bs.all id)) :=
  ev_cb1 h fun rm M H v ok hv Q q => by
    obtain ⟨a, xs, rfl, h1, h2⟩ := isV_lst hv
    have e := h2.bls
    subst e
    exact ⟨a, bs, rfl, SqL.of h1, q _ H _ rfl (same_refl H) (.bl _)⟩
end
end Gv

/-! Walks, targets, comprehensions, calls by data. -/
namespace Gv
open PySem PySem.Spec PyProof.Rows L2
section
variable {K : PySem.W.Frag} {R : Rg} {M : Addr → Prop} {H H' : Hp} {r : REnv} {te ta tb : TE} {tt tu : TT}
/-! ### what is walked -/
/-- from the heap H0 on the walk J yields the items ds, as long as all outside of M1 stands -/
def ItOk (K : PySem.W.Frag) (M : Addr → Prop) (J : It) (H0 : Hp) (ds : List D) : Prop :=
  ∀ (M1 : Addr → Prop) (H : Hp), (∀ p, M1 p → M p ∨ H0 p = Option.none) → Ok M1 H → (∀ p o, ¬ M1 p → H0 p = some o → H p = some o) → ∀ i,
    (i < ds.length → J.go i H) ∧ (ds.length ≤ i → J.stop i H) ∧ ∀ x H', J.yld i H x H' → Same H H' ∧ ∀ d, ds[i]? = some d → IsD K M1 H' x d
def EvI (K : PySem.W.Frag) (R : Rg) (wi : TI) (r : REnv) (P : List D → Prop) : Prop :=
  ∀ (M : Addr → Prop) (σ : L2.St) (H : Hp), (∀ p, R.m p → M p) → Ok M H → R.inv H → EnvOk K R.m M H σ r →
    ∀ Q : It → Hp → Prop, (∀ J H' ds, P ds → Stp R.m H H' → R.inv H' → ItOk K M J H' ds → Q J H') → wi σ H Q
theorem EvI.imp {wi : TI} {P P' : List D → Prop} (h : EvI K R wi r P) (hp : ∀ d, P d → P' d) : EvI K R wi r P' := fun M σ H a b c e Q q => h M σ H a b c e Q fun v H' d p => q v H' d (hp d p)
theorem ei_tup {l : List D} (h : Ev K R te r (· = .tup l)) : EvI K R (iTup K te) r (· = l) := fun M σ H hR ok inv e Q q =>
  h M σ H hR ok inv e _ fun v H1 d pd s1 i1 d1 => by
    subst pd
    obtain ⟨a, xs, rfl, h1, h2⟩ := isV_tup (rm := R.m) (.inl d1)
    refine ⟨a, rfl, ⟨xs, h1.sq⟩, q _ H1 l rfl s1 i1 ?_⟩
    intro M1 H2 hM ok2 kp i
    have g1 : SqT K H2 a xs := by
      rcases h1 with ⟨n, g⟩ | g
      · have n1 : ¬ M1 a := fun z => by
          rcases hM a z with z | z
          · exact n z
          · rcases g with g | ⟨o, g⟩ <;> rw [z] at g <;> cases g
        rcases g with g | ⟨o, g⟩
        · exact .inl (.inl (kp _ _ n1 g))
        · exact .inl (.inr ⟨o, kp _ _ n1 g⟩)
      · exact .inr g
    have g2 : IsDs K M1 H2 xs l := (h2.grow hM).to (fun _ z => z) kp
    refine ⟨fun hi => ?_, fun hi => ⟨xs, g1, by rw [g2.len]; exact hi⟩, fun x H' hy => ?_⟩
    · obtain ⟨v, e1, _⟩ := g2.at_ (List.getElem?_eq_getElem hi)
      exact ⟨xs, v, g1, e1⟩
    · obtain ⟨rfl, hy⟩ := hy
      refine ⟨same_refl _, fun d hd => ?_⟩
      obtain ⟨v, e1, e2⟩ := g2.at_ hd
      have e3 := hy xs g1
      rw [e1] at e3
      cases e3
      exact e2
theorem ei_lst {l : List D} (h : Ev K R te r (· = .lst l)) : EvI K R (iList K te) r (· = l) := fun M σ H hR ok inv e Q q =>
  h M σ H hR ok inv e _ fun v H1 d pd s1 i1 d1 => by
    subst pd
    have d1' := d1
    cases d1' with
    | @lst a xs _ h1 h2 =>
    refine ⟨a, rfl, ⟨xs, h1.sq⟩, q _ H1 l rfl s1 i1 ?_⟩
    intro M1 H2 hM ok2 kp i
    have g1 : SqL K H2 a xs := by
      obtain ⟨n, g⟩ := h1
      have n1 : ¬ M1 a := fun z => by
        rcases hM a z with z | z
        · exact n z
        · rw [z] at g; cases g
      exact SqL.of (kp _ _ n1 g)
    have g2 : IsDs K M1 H2 xs l := (h2.grow hM).to (fun _ z => z) kp
    refine ⟨fun hi => ?_, fun hi => ⟨xs, g1, by rw [g2.len]; exact hi⟩, fun x H' hy => ?_⟩
    · obtain ⟨v, e1, _⟩ := g2.at_ (List.getElem?_eq_getElem hi)
      exact ⟨xs, v, g1, e1⟩
    · obtain ⟨rfl, hy⟩ := hy
      refine ⟨same_refl _, fun d hd => ?_⟩
      obtain ⟨v, e1, e2⟩ := g2.at_ hd
      have e3 := hy xs g1
      rw [e1] at e3
      cases e3
      exact e2
def rangeD (n : Nat) : List D := (List.range n).map fun (i : Nat) => D.int (i : Int)
theorem ei_rng {P : Nat → Prop} (h : Ev K R te r (fun d => ∃ n : Nat, P n ∧ n < 2 ^ 62 ∧ d = .int n)) : EvI K R (iRng1 (tCons te tNil)) r (fun l => ∃ n, P n ∧ l = rangeD n) := fun M σ H hR ok inv e Q q =>
  h M σ H hR ok inv e _ fun v H1 d pd s1 i1 d1 => by
    obtain ⟨n, pn, hn, rfl⟩ := pd
    refine ⟨(n : Int), by cases d1; rfl, by omega, by omega, q _ H1 _ ⟨n, pn, rfl⟩ s1 i1 ?_⟩
    intro M1 H2 hM ok2 kp i
    have hl : (rangeD n).length = n := by unfold rangeD; rw [List.length_map, List.length_range]
    rw [hl]
    refine ⟨fun hi => by show i < ((n : Int)).toNat; omega, fun hi => by show ((n : Int)).toNat ≤ i; omega, fun x H' hy => ?_⟩
    obtain ⟨rfl, rfl⟩ := hy
    refine ⟨same_refl _, fun d hd => ?_⟩
    unfold rangeD at hd
    rw [List.getElem?_map] at hd
    cases e1 : (List.range n)[i]? with
    | none => rw [e1] at hd; cases hd
    | some j =>
      rw [e1] at hd
      cases hd
      have e2 := List.getElem?_eq_some_iff.mp e1
      obtain ⟨h1, h2⟩ := e2
      rw [List.getElem_range] at h2
      subst h2
      show IsD K M1 H' (.int ((0 : Int) + (i : Int))) (.int (i : Int))
      rw [Int.zero_add]
      exact .int _
theorem ei_rng1 {n : Nat} (h : Ev K R te r (· = .int n)) (hn : n < 2 ^ 62) : EvI K R (iRng1 (tCons te tNil)) r (· = rangeD n) :=
  (ei_rng (P := (· = n)) (h.imp fun d z => ⟨n, rfl, hn, z⟩)).imp fun l z => by
    obtain ⟨_, rfl, z⟩ := z
    exact z

/-! ### targets -/
def TgD (K : PySem.W.Frag) (g : TG) (x : D) (js : List Nat) (f : REnv → REnv) : Prop :=
  ∀ (rm M : Addr → Prop) (H : Hp) (σ : L2.St) (r : REnv) (v : V) (Q : L2.St → Hp → Prop), EnvOk K rm M H σ r → IsD K M H v x →
    (∀ σ', EnvOk K rm M H σ' (f r) → (∀ vs, (∀ j ∈ js, j ∈ vs) → wipe σ' vs = wipe σ vs) → Q σ' H) → g v σ H Q
theorem wipe_set_none (σ : L2.St) (j : Nat) (y : Option V) : ∀ vs : List Nat, (wipe (σ.set j y) vs).set j none = (wipe σ vs).set j none
  | [] => by
    show (σ.set j y).set j none = σ.set j none
    rw [List.set_set]
  | v :: vs => by
    show ((wipe (σ.set j y) vs).set v none).set j none = ((wipe σ vs).set v none).set j none
    by_cases h : v = j
    · subst h
      rw [List.set_set, List.set_set]
      exact wipe_set_none σ v y vs
    · rw [List.set_comm _ _ h, List.set_comm _ _ h, wipe_set_none σ j y vs]
theorem wipe_set {σ : L2.St} {j : Nat} {y : Option V} : ∀ {vs : List Nat}, j ∈ vs → wipe (σ.set j y) vs = wipe σ vs
  | v :: vs, h => by
    rcases List.mem_cons.mp h with e | h
    · subst e
      exact wipe_set_none σ j y vs
    · show (wipe (σ.set j y) vs).set v none = (wipe σ vs).set v none
      rw [wipe_set h]
theorem tg_name {i : Nat} {x : D} : TgD K (gName i) x [i] (fun r => r.set i (some (.d x))) := fun rm M H σ r v Q e h q =>
  q _ (e.set h) fun vs hv => wipe_set (hv i (by simp))
def TgsD (K : PySem.W.Frag) (g : TGs) (xs : List D) (js : List Nat) (f : REnv → REnv) : Prop :=
  ∀ (rm M : Addr → Prop) (H : Hp) (σ : L2.St) (r : REnv) (vs : List V) (Q : L2.St → Hp → Prop), EnvOk K rm M H σ r → IsDs K M H vs xs →
    (∀ σ', EnvOk K rm M H σ' (f r) → (∀ ws, (∀ j ∈ js, j ∈ ws) → wipe σ' ws = wipe σ ws) → Q σ' H) → g vs σ H Q
theorem tgs_nil : TgsD K gNil [] [] id := fun rm M H σ r vs Q e h q => by
  cases h
  exact ⟨rfl, q σ e fun _ _ => rfl⟩
theorem tgs_cons {g : TG} {u : TGs} {x : D} {xs : List D} {js ks : List Nat} {f h : REnv → REnv} (h1 : TgD K g x js f) (h2 : TgsD K u xs ks h) : TgsD K (gCons g u) (x :: xs) (js ++ ks) (fun r => h (f r)) := fun rm M H σ r vs Q e hs q => by
  cases hs with
  | cons a b =>
    refine ⟨_, _, rfl, h1 rm M H σ r _ _ e a fun σ' e' w' => h2 rm M H σ' (f r) _ Q e' b fun σ2 e2 w2 => q σ2 e2 fun ws hw => ?_⟩
    rw [w2 ws fun j hj => hw j (List.mem_append_right _ hj), w' ws fun j hj => hw j (List.mem_append_left _ hj)]
theorem tg_tup {n : Nat} {u : TGs} {xs : List D} {js : List Nat} {f : REnv → REnv} (h : TgsD K u xs js f) (hn : xs.length = n) : TgD K (gTup K n u) (.tup xs) js f := fun rm M H σ r v Q e hv q => by
  obtain ⟨a, ys, rfl, h1, h2⟩ := isV_tup (rm := rm) (.inl hv)
  exact ⟨a, ys, rfl, h1.sq, by rw [h2.len]; exact hn, h rm M H σ r ys Q e h2 q⟩
theorem tg_tup2 {i j : Nat} {x y : D} : TgD K (gTup K 2 (gCons (gName i) (gCons (gName j) gNil))) (.tup [x, y]) [i, j] (fun r => (r.set i (some (.d x))).set j (some (.d y))) :=
  tg_tup (tgs_cons tg_name (tgs_cons tg_name tgs_nil)) rfl

/-! ### comprehensions -/
section
variable {α : Type}
/-- what a comprehension makes of items: B says whether one is taken, F what is made of it -/
inductive LcOut (B : α → Bool → Prop) (F : α → D → Prop) : List α → List D → Prop
  | nil : LcOut B F [] []
  | yes {l : List α} {out : List D} {x : α} {y : D} : LcOut B F l out → B x true → F x y → LcOut B F (l ++ [x]) (out ++ [y])
  | no {l : List α} {out : List D} {x : α} : LcOut B F l out → B x false → LcOut B F (l ++ [x]) out
theorem LcOut.len {B : α → Bool → Prop} {F : α → D → Prop} {l : List α} {out : List D} (h : LcOut B F l out) : out.length ≤ l.length := by
  induction h with
  | nil => exact Nat.le_refl _
  | yes _ _ _ ih => rw [List.length_append, List.length_append]; exact Nat.add_le_add_right ih 1
  | no _ _ ih => rw [List.length_append]; exact Nat.le_succ_of_le ih
theorem LcOut.eq {b : α → Bool} {f : α → D} {l : List α} {out : List D} (h : LcOut (fun x c => c = b x) (fun x y => y = f x) l out) : out = (l.filter b).map f := by
  induction h with
  | nil => rfl
  | @yes l out x y _ h1 h2 ih => rw [List.filter_append, List.map_append, ← ih, h2, List.filter_cons, if_pos h1.symm] <;> rfl
  | @no l out x _ h1 ih =>
    rw [List.filter_append, List.map_append, ← ih, List.filter_cons, if_neg (by rw [← h1]; decide)]
    show out = out ++ []
    rw [List.append_nil]
theorem LcOut.all {B : α → Bool → Prop} {F : α → D → Prop} {l : List α} {out : List D} (h : LcOut B F l out) : ∀ y ∈ out, ∃ x ∈ l, B x true ∧ F x y := by
  induction h with
  | nil => exact fun y hy => absurd hy (by simp)
  | yes _ h1 h2 ih =>
    intro y hy
    rcases List.mem_append.mp hy with hy | hy
    · obtain ⟨x, a, b⟩ := ih y hy
      exact ⟨x, List.mem_append_left _ a, b⟩
    · rw [List.mem_singleton] at hy
      subst hy
      exact ⟨_, by simp, h1, h2⟩
  | no _ _ ih =>
    intro y hy
    obtain ⟨x, a, b⟩ := ih y hy
    exact ⟨x, List.mem_append_left _ a, b⟩
theorem LcOut.full {B : α → Bool → Prop} {F : α → D → Prop} {l : List α} {out : List D} (h : LcOut B F l out) (hb : ∀ x, ¬ B x false) : out.length = l.length := by
  induction h with
  | nil => rfl
  | yes _ _ _ ih => rw [List.length_append, List.length_append, ih]; rfl
  | no _ h1 _ => exact absurd h1 (hb _)
theorem take_succ_at {β : Type} {l : List β} {i : Nat} {x : β} (h : l[i]? = some x) : l.take (i + 1) = l.take i ++ [x] := by
  rw [List.take_add_one, h]
  rfl
/-- THE RULE: a comprehension over items enc x, x of one of the lists of P -/
theorem ef_lc {wi : TI} {g : TG} {vs : List Nat} {enc : α → D} {P : List α → Prop} {B : α → Bool → Prop} {F : α → D → Prop} (hi : EvI K R wi r (fun ds => ∃ l, P l ∧ ds = l.map enc)) (hz : ∀ l, P l → l.length < sizeLine)
    (turn : ∀ l, P l → ∀ x ∈ l, ∃ js f, TgD K g (enc x) js f ∧ (∀ j ∈ js, j ∈ vs) ∧ EvT K R tt (f (wipeR r vs)) (B x) ∧ (B x true → Ev K R te (f (wipeR r vs)) (F x))) :
    EvF K R (tLc wi g tt te vs) r (fun out => ∃ l, P l ∧ LcOut B F l out) := fun M σ H hR ok inv e Q q =>
  hi M σ H hR ok inv e _ fun J H1 ds pd s1 i1 hJ => by
    obtain ⟨l, pl, rfl⟩ := pd
    intro D0 hD
    have nM : ¬ M D0 := (ok.stp s1).out hD
    have nR : ¬ R.m D0 := fun z => nM (hR _ z)
    have ok1 := ok.stp s1
    -- the state at turn i
    let St (i : Nat) (Hc : Hp) : Prop := ∃ out acc, LcOut B F (l.take i) out ∧ Hc D0 = some (.lst acc) ∧ IsDs K (Add M D0) Hc acc out ∧ Stp (Add R.m D0) H1 Hc ∧ R.inv Hc
    refine ⟨fun i m Hc => i + m = l.length ∧ St i Hc, ⟨l.length, Nat.zero_add _, [], [], ?_, upd_same, .nil, Stp.of (same_new hD), inv_same hR ok1 (same_new hD) i1⟩, fun i m Hc hW => ?_⟩
    · rw [List.take_zero]; exact .nil
    obtain ⟨him, out, acc, lo, eD, ds, st, inv1⟩ := hW
    have okc : Ok (Add M D0) Hc := fun p hp => by
      rcases hp with hp | hp
      · exact st.there p (ok1 p hp)
      · subst hp; rw [eD]; exact fun z => nomatch z
    have hRa : ∀ p, R.m p → Add M D0 p := fun p hp => .inl (hR p hp)
    have kp : ∀ p o, ¬ Add M D0 p → H1 p = some o → Hc p = some o := fun p o hp e1 => st.keep p o (fun z => hp (by
      rcases z with z | z
      · exact .inl (hR p z)
      · exact .inr z)) e1
    obtain ⟨g1, g2, g3⟩ := hJ (Add M D0) Hc (add_or hD) okc kp i
    rw [List.length_map] at g1 g2
    by_cases hi : i < l.length
    · refine .inr ⟨g1 hi, fun Hn => i + 1 + (m - 1) = l.length ∧ St (i + 1) Hn, fun Hn hn => ⟨m - 1, by omega, hn⟩, fun x Hx hy => ?_⟩
      obtain ⟨sx, hx⟩ := g3 x Hx hy
      have ex : l[i]? = some l[i] := List.getElem?_eq_getElem hi
      have dx : IsD K (Add M D0) Hx x (enc l[i]) := hx _ (by rw [List.getElem?_map, ex]; rfl)
      obtain ⟨js, f, tg, hjs, ht, he⟩ := turn l pl l[i] (List.getElem_mem hi)
      have okx : Ok (Add M D0) Hx := okc.stp (Stp.of (W := R.m) sx)
      -- the slots, wiped
      have e1 : EnvOk K R.m M H1 σ r := e.stp hR s1
      have e2 : EnvOk K R.m (Add M D0) H1 σ r := e1.add hD
      have e3 : EnvOk K R.m (Add M D0) Hx (wipe σ vs) (wipeR r vs) := by
        have z : EnvOk K R.m (Add M D0) Hx σ r := ⟨e2.len, fun i o sd h1 h2 => by
          have qq := e2.at_ i o sd h1 h2
          have kpx : ∀ p o, ¬ Add M D0 p → H1 p = some o → Hx p = some o := fun p o hp e1 => sx p o (kp p o hp e1)
          cases sd with
          | none => trivial
          | some sd =>
            cases sd with
            | d y =>
              obtain ⟨v, a, b⟩ := qq
              exact ⟨v, a, b.to (fun _ z => z) kpx⟩
            | own a ds' =>
              obtain ⟨a1, a2, a3, xs, a4, a5⟩ := qq
              refine ⟨a1, a2, a3, xs, sx _ _ (st.keep _ _ (fun z => ?_) a4), a5.to (fun _ z => z) kpx⟩
              rcases z with z | z
              · exact a3 z
              · subst z; rw [hD] at a4; cases a4⟩
        exact z.wipe vs
      refine tg R.m (Add M D0) Hx (wipe σ vs) (wipeR r vs) x _ e3 dx fun σ2 e4 w4 => ⟨?_, ?_⟩
      · rw [w4 vs hjs]
        have idem : ∀ us : List Nat, (∀ j ∈ us, j ∈ vs) → wipe (wipe σ vs) us = wipe σ vs := by
          intro us
          induction us with
          | nil => intro _; rfl
          | cons u us ih =>
            intro hu
            show (wipe (wipe σ vs) us).set u none = wipe σ vs
            rw [ih fun j hj => hu j (List.mem_cons_of_mem _ hj)]
            have hu1 := hu u (by simp)
            have zz : ∀ ws : List Nat, u ∈ ws → (wipe σ ws).set u none = wipe σ ws := by
              intro ws
              induction ws with
              | nil => intro h; cases h
              | cons w ws ih2 =>
                intro h
                show ((wipe σ ws).set w none).set u none = (wipe σ ws).set w none
                by_cases huw : w = u
                · subst huw; rw [List.set_set]
                · have h' : u ∈ ws := by
                    rcases List.mem_cons.mp h with h | h
                    · exact absurd h.symm huw
                    · exact h
                  rw [List.set_comm _ _ huw, ih2 h']
            exact zz vs hu1
        exact idem vs fun j hj => hj
      · refine ht (Add M D0) σ2 Hx hRa okx (inv_same hRa okc sx inv1) e4 _ fun b Hb pb sb ib => ?_
        have eDb : Hb D0 = some (.lst acc) := sb.keep _ _ nR (sx _ _ eD)
        have stb : Stp (Add R.m D0) H1 Hb := (st.trans (Stp.of sx)).trans (sb.mono fun p hp => .inl hp)
        cases b with
        | false =>
          show i + 1 + (m - 1) = l.length ∧ St (i + 1) Hb
          refine ⟨by omega, out, acc, ?_, eDb, (ds.same sx).stp hRa sb, stb, ib⟩
          rw [take_succ_at ex]
          exact .no lo pb
        | true =>
          refine he pb (Add M D0) σ2 Hb hRa (okx.stp sb) ib (e4.stp hRa sb) _ fun y Hy dy py sy iy hy => ?_
          have eDy : Hy D0 = some (.lst acc) := sy.keep _ _ nR eDb
          have lz : acc.length < sizeLine := by
            have z1 := lo.len
            have z2 := ds.len
            have z3 := hz l pl
            rw [List.length_take] at z1
            omega
          refine ⟨acc, eDy, lz, by omega, out ++ [dy], acc ++ [y], ?_, upd_same, ?_, ?_, ?_⟩
          · rw [take_succ_at ex]
            exact .yes lo pb py
          · have kpD : ∀ p o, ¬ Add M D0 p → Hy p = some o → upd Hy D0 (.lst (acc ++ [y])) p = some o := fun p o hp e1 => by
              rw [upd_ne (fun z => hp (.inr z))]
              exact e1
            exact (((ds.same sx).stp hRa sb).stp hRa sy |>.app (.cons hy .nil)).to (fun _ z => z) kpD
          · have sN : Stp (Add R.m D0) Hy (upd Hy D0 (.lst (acc ++ [y]))) := ⟨fun p o hp e1 => by
              rw [upd_ne (fun z => hp (.inr z))]
              exact e1, fun p hp => by
              by_cases z : p = D0
              · subst z; rw [upd_same]; exact fun z => nomatch z
              · rw [upd_ne z]; exact hp⟩
            exact (stb.trans (sy.mono fun p hp => .inl hp)).trans sN
          · exact R.stab Hy _ (fun p hp => upd_ne (fun z => nR (by rw [← z]; exact hp))) iy
    · refine .inl ⟨g2 (by omega), ?_⟩
      have z : l.take i = l := List.take_of_length_le (by omega)
      rw [z] at lo
      have hS : Stp R.m H1 Hc := ⟨fun p o hp e1 => st.keep p o (fun z => by
        rcases z with z | z
        · exact hp z
        · subst z; rw [hD] at e1; cases e1) e1, st.there⟩
      exact q D0 Hc acc out ⟨l, pl, lo⟩ (none_back s1 hD) (s1.trans hS) inv1 eD ds
theorem ef_lcN {wi : TI} {vs : List Nat} {j : Nat} {l : List α} {enc : α → D} {b : α → Bool} {f : α → D} (hi : EvI K R wi r (· = l.map enc)) (hz : l.length < sizeLine) (hj : j ∈ vs)
    (ht : ∀ x ∈ l, EvT K R tt ((wipeR r vs).set j (some (.d (enc x)))) (· = b x)) (he : ∀ x ∈ l, b x = true → Ev K R te ((wipeR r vs).set j (some (.d (enc x)))) (· = f x)) :
    EvF K R (tLc wi (gName j) tt te vs) r (· = (l.filter b).map f) :=
  (ef_lc (P := (· = l)) (enc := enc) (B := fun x c => c = b x) (F := fun x y => y = f x) (hi.imp fun ds z => ⟨l, rfl, z⟩) (fun _ e => by rw [e]; exact hz) (fun l' e x hx => by
    subst e
    exact ⟨[j], _, tg_name, fun k hk => by simp at hk; rw [hk]; exact hj, ht x hx, fun z => he x hx z.symm⟩)).imp fun out z => by
    obtain ⟨_, rfl, z⟩ := z
    exact z.eq
/-- without a test -/
theorem ef_lcM {wi : TI} {vs : List Nat} {j : Nat} {l : List α} {enc : α → D} {f : α → D} (hi : EvI K R wi r (· = l.map enc)) (hz : l.length < sizeLine) (hj : j ∈ vs)
    (he : ∀ x ∈ l, Ev K R te ((wipeR r vs).set j (some (.d (enc x)))) (· = f x)) : EvF K R (tLc wi (gName j) tYes te vs) r (· = l.map f) :=
  (ef_lcN (b := fun _ => true) hi hz hj (fun _ _ => et_yes) (fun x hx _ => he x hx)).imp fun out z => by
    rw [z, List.filter_eq_self.mpr (fun _ _ => rfl)]
/-- over pairs -/
theorem ef_lcP {wi : TI} {vs : List Nat} {i j : Nat} {l : List α} {e1 e2 : α → D} {b : α → Bool} {f : α → D} (hi : EvI K R wi r (· = l.map fun x => .tup [e1 x, e2 x])) (hz : l.length < sizeLine) (hi1 : i ∈ vs) (hj : j ∈ vs)
    (ht : ∀ x ∈ l, EvT K R tt (((wipeR r vs).set i (some (.d (e1 x)))).set j (some (.d (e2 x)))) (· = b x)) (he : ∀ x ∈ l, b x = true → Ev K R te (((wipeR r vs).set i (some (.d (e1 x)))).set j (some (.d (e2 x)))) (· = f x)) :
    EvF K R (tLc wi (gTup K 2 (gCons (gName i) (gCons (gName j) gNil))) tt te vs) r (· = (l.filter b).map f) :=
  (ef_lc (P := (· = l)) (enc := fun x => .tup [e1 x, e2 x]) (B := fun x c => c = b x) (F := fun x y => y = f x) (hi.imp fun ds z => ⟨l, rfl, z⟩) (fun _ e => by rw [e]; exact hz) (fun l' e x hx => by
    subst e
    exact ⟨[i, j], _, tg_tup2, fun k hk => by simp at hk; rcases hk with hk | hk <;> rw [hk] <;> assumption, ht x hx, fun z => he x hx z.symm⟩)).imp fun out z => by
    obtain ⟨_, rfl, z⟩ := z
    exact z.eq
end

/-! ### promises, calls -/
/-- how a def's call ends: with data of P, or by an InvalidDeed -/
abbrev Oc := Option (D → Prop)
def OcOk (K : PySem.W.Frag) (C : Addr) (R : Rg) (M : Addr → Prop) (H : Hp) (Q : VK) (E : XK) : Oc → Prop
  | some P => ∀ v H' d, P d → Stp R.m H H' → R.inv H' → IsD K M H' v d → Q v H'
  | none => ∀ d H', Stp R.m H H' → R.inv H' → E (.ref C) (some d) H'
/-- the promise: arguments ds with G ds oc end as oc says -/
def SpD (K : PySem.W.Frag) (C : Addr) (R : Rg) (G : List D → Oc → Prop) : Sp := fun vs H Q E =>
  ∃ M ds oc, (∀ p, R.m p → M p) ∧ Ok M H ∧ R.inv H ∧ IsDs K M H vs ds ∧ G ds oc ∧ OcOk K C R M H Q E oc
theorem SpD.len {C : Addr} {G : List D → Oc → Prop} {n : Nat} (h : ∀ ds oc, G ds oc → ds.length = n) : ∀ vs H Q E, SpD K C R G vs H Q E → vs.length = n := fun vs H Q E ⟨M, ds, oc, _, _, _, d, g, _⟩ => by
  rw [d.len]
  exact h ds oc g
section
variable {C : Addr} {G : List D → Oc → Prop} {E : XK} {t : TA} {ds : List D} {P : D → Prop}
theorem ev_call {A : List D → Prop} (ha : EvA K R t r A) (hg : ∀ ds, A ds → G ds (some P)) : Ev K R (tCall (SpD K C R G) [] E t) r P := fun M σ H hR ok inv e Q q =>
  ha M σ H hR ok inv e _ fun vs H1 ds' ed s1 i1 d1 => by
    refine ⟨M, ds', some P, hR, ok.stp s1, i1, by rw [List.append_nil]; exact d1, hg ds' ed, fun v H' d pd s i z => q v H' d pd (s1.trans s) i z⟩
/-- a def that changes nothing, called in a region -/
theorem ev_callP {A : List D → Prop} (ha : EvA K R t r A) (hg : ∀ ds, A ds → G ds (some P)) : Ev K R (tCall (SpD K C R0 G) [] E t) r P := fun M σ H hR ok inv e Q q =>
  ha M σ H hR ok inv e _ fun vs H1 ds' ed s1 i1 d1 => by
    refine ⟨M, ds', some P, fun _ z => z.elim, ok.stp s1, trivial, by rw [List.append_nil]; exact d1, hg ds' ed, fun v H' d pd s i z => ?_⟩
    have sm : Stp R.m H1 H' := s.mono fun _ z => z.elim
    refine q v H' d pd (s1.trans sm) (R.stab H1 H' (fun p hp => ?_) i1) z
    cases e1 : H1 p with
    | none => exact absurd e1 ((ok.stp s1) p (hR p hp))
    | some o => exact s.keep p o (fun z => z.elim) e1
theorem ev_call1 {d : D} (ha : EvA K R t r (· = ds)) (hg : G ds (some (· = d))) : Ev K R (tCall (SpD K C R0 G) [] E t) r (· = d) := ev_callP ha fun _ e => by rw [e]; exact hg
/-- .. that raises -/
def EvX (K : PySem.W.Frag) (C : Addr) (R : Rg) (E : XK) (te : TE) (r : REnv) : Prop :=
  ∀ (M : Addr → Prop) (σ : L2.St) (H : Hp), (∀ p, R.m p → M p) → Ok M H → R.inv H → EnvOk K R.m M H σ r →
    (∀ d H', Stp R.m H H' → R.inv H' → E (.ref C) (some d) H') → ∀ Q : VK, te σ H Q
theorem ex_call (ha : EvA K R t r (· = ds)) (hg : G ds none) : EvX K C R E (tCall (SpD K C R0 G) [] E t) r := fun M σ H hR ok inv e hE Q =>
  ha M σ H hR ok inv e _ fun vs H1 ds' ed s1 i1 d1 => by
    refine ⟨M, ds', none, fun _ z => z.elim, ok.stp s1, trivial, by rw [List.append_nil]; exact d1, by rw [ed]; exact hg, fun d H' s i => ?_⟩
    have sm : Stp R.m H1 H' := s.mono fun _ z => z.elim
    refine hE d H' (s1.trans sm) (R.stab H1 H' (fun p hp => ?_) i1)
    cases e1 : H1 p with
    | none => exact absurd e1 ((ok.stp s1) p (hR p hp))
    | some o => exact s.keep p o (fun z => z.elim) e1
end
end
end Gv

/-! Statements by data. -/
namespace Gv
open PySem PySem.Spec PyProof.Rows L2
section
variable {K : PySem.W.Frag} {R : Rg} {W : Addr → Prop} {E : XK} {C : Addr} {M : Addr → Prop} {H H' : Hp} {r : REnv} {te ta tb : TE} {tt : TT} {ts tu : TS} {N N' : REnv → Prop} {Rt Rt' : D → Prop} {X : Prop}
/-- M without the lists that are this def's own -/
def Mr (M W rm : Addr → Prop) : Addr → Prop := fun a => M a ∧ ¬ (W a ∧ ¬ rm a)
/-- the statement ts runs from slots r: to slots of N, to a return of Rt, to an InvalidDeed if X; W: what it may write -/
def Run (K : PySem.W.Frag) (C : Addr) (R : Rg) (W : Addr → Prop) (E : XK) (ts : TS) (r : REnv) (N : REnv → Prop) (Rt : D → Prop) (X : Prop) : Prop :=
  ∀ (M : Addr → Prop) (σ : L2.St) (H : Hp) (De : Ends), (∀ p, R.m p → W p) → (∀ p, W p → M p) → Ok M H → R.inv H → EnvOk K R.m M H σ r →
    (∀ σ' H' r', N r' → Stp W H H' → R.inv H' → EnvOk K R.m M H' σ' r' → De.nx σ' H') →
    (∀ v H' d, Rt d → Stp W H H' → R.inv H' → IsD K (Mr M W R.m) H' v d → De.rt v H') →
    (X → ∀ d H', Stp W H H' → R.inv H' → E (.ref C) (some d) H') → ts De σ H
theorem Run.imp (h : Run K C R W E ts r N Rt X) (hn : ∀ r, N r → N' r) (hr : ∀ d, Rt d → Rt' d) : Run K C R W E ts r N' Rt' X := fun M σ H De h1 h2 ok inv e kn kr kx =>
  h M σ H De h1 h2 ok inv e (fun σ' H' r' n => kn σ' H' r' (hn r' n)) (fun v H' d p => kr v H' d (hr d p)) kx
theorem Run.lessX (h : Run K C R W E ts r N Rt False) : Run K C R W E ts r N Rt X := fun M σ H De h1 h2 ok inv e kn kr kx =>
  h M σ H De h1 h2 ok inv e kn kr fun z => z.elim
theorem mr_to {v : V} {d : D} (h : IsD K M H v d) : IsD K (Mr M W R.m) H v d := h.to (fun _ z => z.1) fun _ _ _ e => e
theorem EnvOk.run {σ : L2.St} (e : EnvOk K R.m M H σ r) (hR : ∀ p, R.m p → M p) (s : Stp R.m H H') : EnvOk K R.m M H' σ r := e.stp hR s
/-- where the step may write more than the region (own lists), the slots are told anew; so sequences go by N -/
theorem run_seq (h : Run K C R W E ts r N Rt X) (k : ∀ r', N r' → Run K C R W E tu r' N' Rt X) : Run K C R W E (tSeq ts tu) r N' Rt X := fun M σ H De h1 h2 ok inv e kn kr kx =>
  h M σ H { De with nx := tu De } h1 h2 ok inv e (fun σ' H' r' n s i e' =>
    k r' n M σ' H' De h1 h2 (ok.stp s) i e' (fun σ2 H2 r2 n2 s2 => kn σ2 H2 r2 n2 (s.trans s2)) (fun v H2 d p s2 => kr v H2 d p (s.trans s2)) (fun x d H2 s2 => kx x d H2 (s.trans s2))) kr kx
theorem run_next (h : N r) : Run K C R W E tNext r N Rt X := fun M σ H De h1 h2 ok inv e kn kr kx => kn σ H r h (Stp.refl _ _) inv e
theorem run_asg {i : Nat} {P : D → Prop} (h : Ev K R te r P) (k : ∀ d, P d → N (r.set i (some (.d d)))) : Run K C R W E (tAsg te (gName i)) r N Rt X := fun M σ H De h1 h2 ok inv e kn kr kx =>
  h M σ H (fun p z => h2 p (h1 p z)) ok inv e _ fun v H' d pd s i' hd => kn _ H' _ (k d pd) (s.mono h1) i' ((e.stp (fun p z => h2 p (h1 p z)) s).set hd)
/-- a target of several names -/
theorem run_asgT {g : TG} {x : D} {js : List Nat} {f : REnv → REnv} (h : Ev K R te r (· = x)) (tg : TgD K g x js f) (k : N (f r)) : Run K C R W E (tAsg te g) r N Rt X := fun M σ H De h1 h2 ok inv e kn kr kx =>
  h M σ H (fun p z => h2 p (h1 p z)) ok inv e _ fun v H' d pd s i' hd => by
    subst pd
    exact tg R.m M H' σ r v _ (e.stp (fun p z => h2 p (h1 p z)) s) hd fun σ' e' _ => kn σ' H' _ k (s.mono h1) i' e'
theorem run_par {i j : Nat} {ta : TA} {P : List D → Prop} (h : EvA K R ta r P) (k : ∀ ds, P ds → ∃ x y, ds = [x, y] ∧ N ((r.set i (some (.d x))).set j (some (.d y)))) : Run K C R W E (tPar i j ta) r N Rt X := fun M σ H De h1 h2 ok inv e kn kr kx =>
  h M σ H (fun p z => h2 p (h1 p z)) ok inv e _ fun vs H' ds pd s i' hd => by
    obtain ⟨x, y, rfl, n⟩ := k ds pd
    cases hd with
    | cons a b =>
      cases b with
      | cons b c =>
        cases c
        exact ⟨_, _, rfl, kn _ H' _ n (s.mono h1) i' (((e.stp (fun p z => h2 p (h1 p z)) s).set a).set b)⟩
theorem run_par1 {i j : Nat} {ta : TA} {x y : D} (h : EvA K R ta r (· = [x, y])) (k : N ((r.set i (some (.d x))).set j (some (.d y)))) : Run K C R W E (tPar i j ta) r N Rt X := run_par h fun ds e => ⟨x, y, e, k⟩
theorem run_par3 {i j l : Nat} {ta : TA} {P : List D → Prop} (h : EvA K R ta r P) (k : ∀ ds, P ds → ∃ x y z, ds = [x, y, z] ∧ N (((r.set i (some (.d x))).set j (some (.d y))).set l (some (.d z)))) : Run K C R W E (tPar3 i j l ta) r N Rt X := fun M σ H De h1 h2 ok inv e kn kr kx =>
  h M σ H (fun p z => h2 p (h1 p z)) ok inv e _ fun vs H' ds pd s i' hd => by
    obtain ⟨x, y, z, rfl, n⟩ := k ds pd
    cases hd with
    | cons a b =>
      cases b with
      | cons b c =>
        cases c with
        | cons c d =>
          cases d
          exact ⟨_, _, _, rfl, kn _ H' _ n (s.mono h1) i' ((((e.stp (fun p z => h2 p (h1 p z)) s).set a).set b).set c)⟩
theorem run_ret {P : D → Prop} (h : Ev K R te r P) (k : ∀ d, P d → Rt d) : Run K C R W E (tRet te) r N Rt X := fun M σ H De h1 h2 ok inv e kn kr kx =>
  h M σ H (fun p z => h2 p (h1 p z)) ok inv e _ fun v H' d pd s i' hd => kr v H' d (k d pd) (s.mono h1) i' (mr_to hd)
theorem run_ret1 {d : D} (h : Ev K R te r (· = d)) (k : Rt d) : Run K C R W E (tRet te) r N Rt X := run_ret h fun x e => by rw [e]; exact k
theorem run_drop {P : D → Prop} (h : Ev K R te r P) (k : N r) : Run K C R W E (tDrop te) r N Rt X := fun M σ H De h1 h2 ok inv e kn kr kx =>
  h M σ H (fun p z => h2 p (h1 p z)) ok inv e _ fun v H' d pd s i' hd => kn σ H' r k (s.mono h1) i' (e.stp (fun p z => h2 p (h1 p z)) s)
theorem run_dropX (h : EvX K C R E te r) : Run K C R W E (tDrop te) r N Rt True := fun M σ H De h1 h2 ok inv e kn kr kx =>
  h M σ H (fun p z => h2 p (h1 p z)) ok inv e (fun d H' s i => kx trivial d H' (s.mono h1) i) _
theorem run_retX (h : EvX K C R E te r) : Run K C R W E (tRet te) r N Rt True := fun M σ H De h1 h2 ok inv e kn kr kx =>
  h M σ H (fun p z => h2 p (h1 p z)) ok inv e (fun d H' s i => kx trivial d H' (s.mono h1) i) _
theorem run_if {P : Bool → Prop} (h : EvT K R tt r P) (h1 : P true → Run K C R W E ts r N Rt X) (h2 : P false → Run K C R W E tu r N Rt X) : Run K C R W E (tIfS tt ts tu) r N Rt X := fun M σ H De w1 w2 ok inv e kn kr kx =>
  h M σ H (fun p z => w2 p (w1 p z)) ok inv e _ fun b H' pb s i' => by
    have e' := e.stp (fun p z => w2 p (w1 p z)) s
    have s' : Stp W H H' := s.mono w1
    have kn' : ∀ σ' H2 r', N r' → Stp W H' H2 → R.inv H2 → EnvOk K R.m M H2 σ' r' → De.nx σ' H2 := fun σ' H2 r' n t => kn σ' H2 r' n (s'.trans t)
    have kr' : ∀ v H2 d, Rt d → Stp W H' H2 → R.inv H2 → IsD K (Mr M W R.m) H2 v d → De.rt v H2 := fun v H2 d p t => kr v H2 d p (s'.trans t)
    have kx' : X → ∀ d H2, Stp W H' H2 → R.inv H2 → E (.ref C) (some d) H2 := fun x d H2 t => kx x d H2 (s'.trans t)
    cases b with
    | true =>
      show ts De σ H'
      exact h1 pb M σ H' De w1 w2 (ok.stp s) i' e' kn' kr' kx'
    | false =>
      show tu De σ H'
      exact h2 pb M σ H' De w1 w2 (ok.stp s) i' e' kn' kr' kx'
theorem run_if1 {b : Bool} (h : EvT K R tt r (· = b)) (h1 : b = true → Run K C R W E ts r N Rt X) (h2 : b = false → Run K C R W E tu r N Rt X) : Run K C R W E (tIfS tt ts tu) r N Rt X :=
  run_if h (fun z => h1 z.symm) fun z => h2 z.symm
/-- if c: .. (no else), something behind -/
theorem run_when {b : Bool} (h : EvT K R tt r (· = b)) (h1 : b = true → Run K C R W E (tSeq ts tu) r N Rt X) (h2 : b = false → Run K C R W E tu r N Rt X) : Run K C R W E (tSeq (tIfS tt ts tNext) tu) r N Rt X := fun M σ H De w1 w2 ok inv e kn kr kx =>
  (run_if1 (N := N) (Rt := Rt) (X := X) (ts := tSeq ts tu) (tu := tu) h h1 h2) M σ H De w1 w2 ok inv e kn kr kx
/-! ### loops -/
/-- for x in a walk: I holds at each turn -/
theorem run_for {α : Type} {wi : TI} {g : TG} {enc : α → D} {P : List α → Prop} (hi : EvI K R wi r (fun ds => ∃ l, P l ∧ ds = l.map enc)) (hRW : ∀ p, R.m p → W p) (I : List α → Nat → REnv → Prop) (h0 : ∀ l, P l → I l 0 r)
    (hs : ∀ l, P l → ∀ i x r', l[i]? = some x → I l i r' → ∃ js f, TgD K g (enc x) js f ∧ Run K C R R.m E ts (f r') (I l (i + 1)) Rt X) (hd : ∀ l, P l → ∀ r', I l l.length r' → N r') : Run K C R W E (tFor wi g ts) r N Rt X := fun M σ H De w1 w2 ok inv e kn kr kx =>
  hi M σ H (fun p z => w2 p (w1 p z)) ok inv e _ fun J H1 ds pd s1 i1 hJ => by
    obtain ⟨l, pl, rfl⟩ := pd
    have hR : ∀ p, R.m p → M p := fun p z => w2 p (w1 p z)
    let St (i : Nat) (σ' : L2.St) (Hc : Hp) : Prop := ∃ r', I l i r' ∧ Stp R.m H1 Hc ∧ R.inv Hc ∧ EnvOk K R.m M Hc σ' r'
    refine ⟨fun i m σ' Hc => i + m = l.length ∧ St i σ' Hc, ⟨l.length, Nat.zero_add _, r, h0 l pl, Stp.refl _ _, i1, e.stp hR s1⟩, fun i m σ' Hc hW => ?_⟩
    obtain ⟨him, r', hI, st, inv1, e1⟩ := hW
    have okc : Ok M Hc := (ok.stp s1).stp st
    obtain ⟨g1, g2, g3⟩ := hJ M Hc (fun p z => .inl z) okc (fun p o hp e2 => st.keep p o (fun z => hp (hR p z)) e2) i
    rw [List.length_map] at g1 g2
    by_cases hi' : i < l.length
    · refine .inr ⟨g1 hi', fun σ2 H2 => i + 1 + (m - 1) = l.length ∧ St (i + 1) σ2 H2, fun σ2 H2 h => ⟨m - 1, by omega, h⟩, fun x Hx hy => ?_⟩
      obtain ⟨sx, hx⟩ := g3 x Hx hy
      have ex : l[i]? = some l[i] := List.getElem?_eq_getElem hi'
      have dx := hx (enc l[i]) (by rw [List.getElem?_map, ex]; rfl)
      obtain ⟨js, f, tg, run⟩ := hs l pl i l[i] r' ex hI
      have okx : Ok M Hx := okc.stp (Stp.of (W := R.m) sx)
      refine tg R.m M Hx σ' r' x _ (e1.same sx) dx fun σ2 e2 _ => ?_
      have s2 : Stp R.m H1 Hx := st.trans (Stp.of sx)
      have s2' : Stp W H Hx := (s1.trans s2).mono w1
      refine run M σ2 Hx _ (fun _ z => z) hR okx (inv_same hR okc sx inv1) e2 (fun σ3 H3 r3 n3 t3 i3 e3 => ⟨by omega, r3, n3, s2.trans t3, i3, e3⟩) (fun v H3 d p t3 i3 hv => ?_) (fun hx d H3 t3 i3 => kx hx d H3 (s2'.trans (t3.mono w1)) i3)
      exact kr v H3 d p (s2'.trans (t3.mono w1)) i3 (hv.to (fun a z => ⟨z.1, fun w => w.2 w.1⟩) fun _ _ _ e => e)
    · refine .inl ⟨g2 (by omega), ?_⟩
      have ei : i = l.length := by omega
      rw [ei] at hI
      exact kn σ' Hc r' (hd l pl r' hI) ((s1.trans st).mono w1) inv1 e1
/-- with lists of one's own changed in the loop -/
theorem run_forW {α : Type} {wi : TI} {g : TG} {enc : α → D} {P : List α → Prop} (hi : EvI K R wi r (fun ds => ∃ l, P l ∧ ds = l.map enc)) (I : List α → Nat → REnv → Prop) (h0 : ∀ l, P l → I l 0 r)
    (hs : ∀ l, P l → ∀ i x r', l[i]? = some x → I l i r' → ∃ js f, TgD K g (enc x) js f ∧ Run K C R W E ts (f r') (I l (i + 1)) Rt X) (hd : ∀ l, P l → ∀ r', I l l.length r' → N r') : Run K C R W E (tFor wi g ts) r N Rt X := fun M σ H De w1 w2 ok inv e kn kr kx =>
  hi M σ H (fun p z => w2 p (w1 p z)) ok inv e _ fun J H1 ds pd s1 i1 hJ => by
    obtain ⟨l, pl, rfl⟩ := pd
    have hR : ∀ p, R.m p → M p := fun p z => w2 p (w1 p z)
    let St (i : Nat) (σ' : L2.St) (Hc : Hp) : Prop := ∃ r', I l i r' ∧ Stp W H1 Hc ∧ R.inv Hc ∧ EnvOk K R.m M Hc σ' r'
    refine ⟨fun i m σ' Hc => i + m = l.length ∧ St i σ' Hc, ⟨l.length, Nat.zero_add _, r, h0 l pl, Stp.refl _ _, i1, e.stp hR s1⟩, fun i m σ' Hc hW => ?_⟩
    obtain ⟨him, r', hI, st, inv1, e1⟩ := hW
    have okc : Ok M Hc := (ok.stp s1).stp st
    obtain ⟨g1, g2, g3⟩ := hJ M Hc (fun p z => .inl z) okc (fun p o hp e2 => st.keep p o (fun z => hp (w2 p z)) e2) i
    rw [List.length_map] at g1 g2
    by_cases hi' : i < l.length
    · refine .inr ⟨g1 hi', fun σ2 H2 => i + 1 + (m - 1) = l.length ∧ St (i + 1) σ2 H2, fun σ2 H2 h => ⟨m - 1, by omega, h⟩, fun x Hx hy => ?_⟩
      obtain ⟨sx, hx⟩ := g3 x Hx hy
      have ex : l[i]? = some l[i] := List.getElem?_eq_getElem hi'
      have dx := hx (enc l[i]) (by rw [List.getElem?_map, ex]; rfl)
      obtain ⟨js, f, tg, run⟩ := hs l pl i l[i] r' ex hI
      have okx : Ok M Hx := okc.stp (Stp.of (W := R.m) sx)
      refine tg R.m M Hx σ' r' x _ (e1.same sx) dx fun σ2 e2 _ => ?_
      have s2 : Stp W H1 Hx := st.trans (Stp.of sx)
      have s2' : Stp W H Hx := (s1.mono w1).trans s2
      exact run M σ2 Hx _ w1 w2 okx (inv_same hR okc sx inv1) e2 (fun σ3 H3 r3 n3 t3 i3 e3 => ⟨by omega, r3, n3, s2.trans t3, i3, e3⟩) (fun v H3 d p t3 i3 hv => kr v H3 d p (s2'.trans t3) i3 hv) (fun hx d H3 t3 i3 => kx hx d H3 (s2'.trans t3) i3)
    · refine .inl ⟨g2 (by omega), ?_⟩
      have ei : i = l.length := by omega
      rw [ei] at hI
      exact kn σ' Hc r' (hd l pl r' hI) ((s1.mono w1).trans st) inv1 e1
/-! ### lists of one's own -/
theorem run_own {i : Nat} {P : List D → Prop} (h : EvF K R te r P) (k : ∀ p ds, P ds → Run K C R (Add W p) E tu (r.set i (some (.own p ds))) (fun _ => False) Rt X) : Run K C R W E (tSeq (tAsg te (gName i)) tu) r N Rt X := fun M σ H De w1 w2 ok inv e kn kr kx =>
  h M σ H (fun p z => w2 p (w1 p z)) ok inv e _ fun p H' xs ds pd hp s i' eh hs => by
    have hR : ∀ q, R.m q → M q := fun q z => w2 q (w1 q z)
    have nM : ¬ M p := ok.out hp
    have e' : EnvOk K R.m (Add M p) H' σ r := by
      have e1 := e.add hp
      exact ⟨e1.len, fun j o sd h1 h2 => by
        have qq := e1.at_ j o sd h1 h2
        have kpx : ∀ q o, ¬ Add M p q → H q = some o → H' q = some o := fun q o hq e2 => s.keep q o (fun z => hq (.inl (hR q z))) e2
        cases sd with
        | none => trivial
        | some sd =>
          cases sd with
          | d y =>
            obtain ⟨v, a, b⟩ := qq
            exact ⟨v, a, b.to (fun _ z => z) kpx⟩
          | own a ds' =>
            obtain ⟨a1, a2, a3, ys, a4, a5⟩ := qq
            exact ⟨a1, a2, a3, ys, s.keep _ _ a3 a4, a5.to (fun _ z => z) kpx⟩⟩
    have ok' : Ok (Add M p) H' := fun q z => by
      rcases z with z | z
      · exact s.there q (ok q z)
      · subst z; rw [eh]; exact fun z => nomatch z
    have sW : ∀ {H2}, Stp (Add W p) H' H2 → Stp W H H2 := fun {H2} t => ⟨fun q o hq e2 => t.keep q o (fun z => by
      rcases z with z | z
      · exact hq z
      · subst z; rw [hp] at e2; cases e2) (s.keep q o (fun z => hq (w1 q z)) e2), fun q hq => t.there q (s.there q hq)⟩
    refine k p ds pd (Add M p) (σ.set i (some (.ref p))) H' De (fun q z => .inl (w1 q z)) (fun q z => ?_) ok' i' (e'.setOwn (.inr rfl) (fun z => nM (hR p z)) eh hs) (fun _ _ _ z => z.elim) (fun v H2 d pr t i2 hv => kr v H2 d pr (sW t) i2 ?_) (fun x d H2 t i2 => kx x d H2 (sW t) i2)
    · rcases z with z | z
      · exact .inl (w2 q z)
      · exact .inr z
    · refine hv.to (fun a z => ⟨.inl z.1, fun y => z.2 ⟨?_, y.2⟩⟩) fun _ _ _ e => e
      rcases y.1 with y1 | y1
      · exact y1
      · subst y1; exact absurd z.1 nM
/-- return of one's own list -/
theorem run_retOwn {i : Nat} {p : Addr} {ds : List D} (h : r[i]? = some (some (.own p ds))) (hW : W p) (k : Rt (.lst ds)) : Run K C R W E (tRet (tVar i)) r N Rt X := fun M σ H De w1 w2 ok inv e kn kr kx => by
  obtain ⟨e1, e2, e3, xs, e4, e5⟩ := e.own h
  exact ⟨_, e1, kr _ H _ k (Stp.refl _ _) inv (.lst ⟨fun z => z.2 ⟨hW, e3⟩, e4⟩ (e5.to (fun _ z => z.1) fun _ _ _ e => e))⟩
/-- a slot's own list is written; no other slot holds it -/
theorem EnvOk.put {σ : L2.St} {i : Nat} {p : Addr} {ds es : List D} {ys : List V} (e : EnvOk K R.m M H σ r) (hR : ∀ q, R.m q → M q) (h : r[i]? = some (some (.own p ds))) (ho : ∀ j q l, j ≠ i → r[j]? = some (some (.own q l)) → q ≠ p) (hs : IsDs K M H ys es) :
    EnvOk K R.m M (upd H p (.lst ys)) σ (r.set i (some (.own p es))) := by
  obtain ⟨e1, e2, e3, xs, e4, e5⟩ := e.own h
  have kp : ∀ q o, ¬ M q → H q = some o → upd H p (.lst ys) q = some o := fun q o hq e6 => by
    rw [upd_ne (fun z => hq (by rw [z]; exact e2))]
    exact e6
  refine ⟨by rw [List.length_set]; exact e.len, fun j o sd h1 h2 => ?_⟩
  rw [List.getElem?_set] at h2
  by_cases hij : i = j
  · subst hij
    rw [if_pos rfl] at h2
    split at h2
    · cases h2
      rw [e1] at h1
      cases h1
      exact ⟨rfl, e2, e3, ys, upd_same, hs.to (fun _ z => z) kp⟩
    · cases h2
  · rw [if_neg hij] at h2
    have q := e.at_ j o sd h1 h2
    cases sd with
    | none => trivial
    | some sd =>
      cases sd with
      | d y =>
        obtain ⟨v, a, b⟩ := q
        exact ⟨v, a, b.to (fun _ z => z) kp⟩
      | own a l =>
        obtain ⟨a1, a2, a3, zs, a4, a5⟩ := q
        have ne := ho j a l (Ne.symm hij) h2
        exact ⟨a1, a2, a3, zs, by rw [upd_ne ne]; exact a4, a5.to (fun _ z => z) kp⟩
theorem stp_put {p : Addr} {o : HO} (hW : W p) : Stp W H (upd H p o) := ⟨fun q u hq e => by
  rw [upd_ne (fun z => hq (by rw [z]; exact hW))]
  exact e, fun q hq => by
  by_cases z : q = p
  · subst z; rw [upd_same]; exact fun z => nomatch z
  · rw [upd_ne z]; exact hq⟩
/-- own.append(e) -/
theorem run_append {i : Nat} {p : Addr} {ds : List D} {P : D → Prop} (h : r[i]? = some (some (.own p ds))) (hW : W p) (ho : ∀ j q l, j ≠ i → r[j]? = some (some (.own q l)) → q ≠ p) (hz : ds.length < sizeLine) (he : Ev K R te r P) (k : ∀ d, P d → N (r.set i (some (.own p (ds ++ [d]))))) :
    Run K C R W E (tDrop (tBM K "list" rAppend (tVar i) (tCons te tNil))) r N Rt X := fun M σ H De w1 w2 ok inv e kn kr kx => by
  have hR : ∀ q, R.m q → M q := fun q z => w2 q (w1 q z)
  obtain ⟨e1, e2, e3, xs, e4, e5⟩ := e.own h
  refine ⟨_, e1, .inl ⟨rfl, xs, SqL.of e4⟩, ?_⟩
  refine he M σ H hR ok inv e _ fun v H1 d pd s1 i1 d1 => ?_
  have eq := e.stp hR s1
  obtain ⟨_, _, _, ys, f4, f5⟩ := eq.own h
  refine ⟨p, ys, v, rfl, rfl, f4, by rw [f5.len]; exact hz, kn σ _ _ (k d pd) ((s1.mono w1).trans (stp_put hW)) (R.stab H1 _ (fun q hq => upd_ne (fun z => e3 (by rw [← z]; exact hq))) i1) (eq.put hR h ho (f5.app (.cons d1 .nil)))⟩
/-- own.extend(a new list) -/
theorem run_extend {i : Nat} {p : Addr} {ds : List D} {P : List D → Prop} (h : r[i]? = some (some (.own p ds))) (hW : W p) (ho : ∀ j q l, j ≠ i → r[j]? = some (some (.own q l)) → q ≠ p) (hz : ∀ es, P es → ds.length + es.length ≤ sizeLine) (he : EvF K R te r P) (k : ∀ es, P es → N (r.set i (some (.own p (ds ++ es))))) :
    Run K C R W E (tDrop (tBM K "list" rExtend (tVar i) (tCons te tNil))) r N Rt X := fun M σ H De w1 w2 ok inv e kn kr kx => by
  have hR : ∀ q, R.m q → M q := fun q z => w2 q (w1 q z)
  obtain ⟨e1, e2, e3, xs, e4, e5⟩ := e.own h
  refine ⟨_, e1, .inl ⟨rfl, xs, SqL.of e4⟩, ?_⟩
  refine he M σ H hR ok inv e _ fun b H1 zs es pd hb s1 i1 eb db => ?_
  have eq := e.stp hR s1
  obtain ⟨_, _, _, ys, f4, f5⟩ := eq.own h
  have db' : IsDs K M H1 zs es := db.to (fun _ z => .inl z) fun _ _ _ e => e
  refine ⟨p, b, ys, zs, rfl, rfl, f4, eb, by rw [f5.len, db.len]; exact hz es pd, kn σ _ _ (k es pd) ((s1.mono w1).trans (stp_put hW)) (R.stab H1 _ (fun q hq => upd_ne (fun z => e3 (by rw [← z]; exact hq))) i1) (eq.put hR h ho (f5.app db'))⟩
/-- own.extend(a tuple) -/
def rExtendT (K : PySem.W.Frag) : V → List V → Hp → VK → Prop := fun x vs H Q => ∃ l b xs zs, x = .ref l ∧ vs = [.ref b] ∧ H l = some (.lst xs) ∧ SqT K H b zs ∧ xs.length + zs.length ≤ sizeLine ∧ Q .non (upd H l (.lst (xs ++ zs)))
theorem run_extendT {i : Nat} {p : Addr} {ds es : List D} (h : r[i]? = some (some (.own p ds))) (hW : W p) (ho : ∀ j q l, j ≠ i → r[j]? = some (some (.own q l)) → q ≠ p) (hz : ds.length + es.length ≤ sizeLine) (he : Ev K R te r (· = .tup es)) (k : N (r.set i (some (.own p (ds ++ es))))) :
    Run K C R W E (tDrop (tBM K "list" (rExtendT K) (tVar i) (tCons te tNil))) r N Rt X := fun M σ H De w1 w2 ok inv e kn kr kx => by
  have hR : ∀ q, R.m q → M q := fun q z => w2 q (w1 q z)
  obtain ⟨e1, e2, e3, xs, e4, e5⟩ := e.own h
  refine ⟨_, e1, .inl ⟨rfl, xs, SqL.of e4⟩, ?_⟩
  refine he M σ H hR ok inv e _ fun v H1 d pd s1 i1 d1 => ?_
  subst pd
  obtain ⟨b, zs, rfl, b1, b2⟩ := isV_tup (rm := R.m) (.inl d1)
  have eq := e.stp hR s1
  obtain ⟨_, _, _, ys, f4, f5⟩ := eq.own h
  refine ⟨p, b, ys, zs, rfl, rfl, f4, b1.sq, by rw [f5.len, b2.len]; exact hz, kn σ _ _ k ((s1.mono w1).trans (stp_put hW)) (R.stab H1 _ (fun q hq => upd_ne (fun z => e3 (by rw [← z]; exact hq))) i1) (eq.put hR h ho (f5.app b2))⟩
/-! ### a def -/
/-- the slots at the entry -/
def startR (n : Nat) (ds : List D) : REnv := ds.map (fun d => some (.d d)) ++ List.replicate (n - ds.length) none
theorem env_start {N : List Str} {vs : List V} {ds : List D} (rm : Addr → Prop) (h : IsDs K M H vs ds) : EnvOk K rm M H (L2.start N vs) (startR N.length ds) := by
  have hl := h.len
  refine ⟨by unfold L2.start startR; simp only [List.length_append, List.length_map, List.length_replicate, hl], fun i o sd h1 h2 => ?_⟩
  unfold L2.start at h1
  unfold startR at h2
  by_cases hi : i < vs.length
  · rw [List.getElem?_append_left (by rw [List.length_map]; exact hi), List.getElem?_map] at h1
    rw [List.getElem?_append_left (by rw [List.length_map]; omega), List.getElem?_map] at h2
    have hi2 : i < ds.length := by omega
    have ed : ds[i]? = some ds[i] := List.getElem?_eq_getElem hi2
    obtain ⟨v, e1, e2⟩ := h.at_ ed
    rw [e1] at h1
    rw [ed] at h2
    cases h1; cases h2
    exact ⟨v, rfl, e2⟩
  · rw [List.getElem?_append_right (by rw [List.length_map]; omega), List.length_map, List.getElem?_replicate] at h2
    split at h2
    · cases h2; trivial
    · cases h2
/-- THE RULE for a def's reading: its promise by its run -/
theorem def_run {G : List D → Oc → Prop} {N : List Str} {vs : List V} {Q : VK} {t : TS} (h : SpD K C R G vs H Q E)
    (run : ∀ ds oc, G ds oc → Run K C R R.m E t (startR N.length ds) (fun _ => ∃ P, oc = some P ∧ P .non) (fun d => ∃ P, oc = some P ∧ P d) (oc = none)) :
    t { nx := fun _ H' => Q .non H', rt := Q } (L2.start N vs) H := by
  obtain ⟨M, ds, oc, hR, ok, inv, d, g, q⟩ := h
  refine run ds oc g M (L2.start N vs) H _ (fun _ z => z) hR ok inv (env_start R.m d) (fun σ' H' r' n s i e => ?_) (fun v H' d pd s i hv => ?_) (fun eo d H' s i => ?_)
  · obtain ⟨P, rfl, p⟩ := n
    exact q .non H' .non p s i .non
  · obtain ⟨P, rfl, p⟩ := pd
    exact q v H' d p s i (hv.to (fun a z => ⟨z, fun w => w.2 w.1⟩) fun _ _ _ e => e)
  · subst eo
    exact q d H' s i
/-- a pure def that returns d -/
theorem def_pure {G : List D → Oc → Prop} {N : List Str} {vs : List V} {Q : VK} {t : TS} (h : SpD K C R0 G vs H Q E)
    (run : ∀ ds oc, G ds oc → ∃ d, (∃ P, oc = some P ∧ P d) ∧ Run K C R0 R0.m E t (startR N.length ds) (fun _ => False) (· = d) False) :
    t { nx := fun _ H' => Q .non H', rt := Q } (L2.start N vs) H :=
  def_run h fun ds oc g => by
    obtain ⟨d, p, hr⟩ := run ds oc g
    exact (hr.imp (fun _ z => z.elim) (fun x e => by rw [e]; exact p)).lessX
end
end Gv

/-! Rules that the hand layer lacks: extend by a tuple, in of a tuple of data, len(set(..)) of any ints, enumerate of a tuple. -/
namespace Gv
open PySem PySem.Spec PyProof.Rows L2
theorem meets_extendT (l : Addr) (items : Array Value) (n : Nat) (b : Addr) (items2 : Array Value) (n2 : Nat) (dd : Option Addr) (sl : Array (Option Value)) (hs0 : ¬(!items.isEmpty && Builtin.List.listTooLong (items.size + items2.size)) = true)
    (hs1 : items.size ≤ sizeLine) (hs2 : items.size + items2.size ≤ sizeLine + 1) :
    Meets (Builtin.«list.extend» ⟨[.ref l, .ref b], []⟩) (fun _ R s => s.heap.get? l = some { cls := .type "list", dict := none, data := .seq items n, slots := #[] } ∧ s.heap.get? b = some { cls := .type "tuple", dict := dd, data := .seq items2 n2, slots := sl } ∧
      R (.ok (.ret Value.none)) { s with heap := s.heap.update l (Obj.mapSeq fun x => x ++ items2), toks := s.toks }) :=
  .of_wp fun prog w A R s h => by
    obtain ⟨hp, g, d, tk, os⟩ := s
    obtain ⟨hl, hb, h⟩ := h
    have f1 := AutoSeq1.idx_int
    have f2 := AutoSeq1.sub_tuple_tuple
    have f3 := AutoSeq1.sub_list_list
    have f4 := AutoSeq1.sub_tuple_list
    have f5 := AutoSeq1.sub_list_tuple
    have hz' : (items ++ items2).size ≤ sizeLine + 1 := by
      rw [Array.size_append]
      exact hs2
    wp_walk using (wpAny_updateSeq hl rfl (hz := hs1) (_hz' := hz')), AutoSeq1.wpAny_loadPart' hl, AutoSeq1.wpAny_loadPart' hb
    exact ⟨_, rfl, h⟩
section
variable {X : Cx}
theorem mt_extendT : MtM X "list.extend" (rExtendT X.K) := by
  intro pins s σ H x vs v us Q I rx rv h
  obtain ⟨l, b, xs, zs, rfl, rfl, hH, hB, hz, q⟩ := h
  cases rx
  obtain ⟨u, rfl, ru⟩ := rv.one
  cases ru
  obtain ⟨z, its, n, r, hl, e⟩ := I.lstM hH
  obtain ⟨its2, r2, ⟨ob, e2, ec, n2, ed⟩, hz2⟩ := I.tuple hB
  have hl2 := r2.length
  obtain ⟨cc, dd, dt, sl⟩ := ob
  have ec' : cc = .type "tuple" := ec
  have ed' : dt = .seq its2.toArray n2 := ed
  subst ec' ed'
  have hsz : its.toArray.size + its2.toArray.size ≤ sizeLine := by
    rw [List.size_toArray, List.size_toArray]
    omega
  have hlong : ¬ (!its.toArray.isEmpty && Builtin.List.listTooLong (its.toArray.size + its2.toArray.size)) = true := by
    rw [notLongL hsz, Bool.and_false]
    exact Bool.false_ne_true
  refine call_meets F.slot_list_extend ⟨_, e, rfl⟩ F.entry_list_extend (F.args_list_extend_2 _ _)
    (meets_extendT l its.toArray n b its2.toArray n2 dd sl hlong (by rw [List.size_toArray]; omega) (by omega)) ⟨e, e2, ?_⟩
  refine ⟨.non, _, I.lset (its' := its ++ its2) hH e (by simp) (r.append r2) ?_, rfl, q⟩
  rw [List.length_append]
  omega
/-- x in t, t a tuple of data of any depth -/
def rInDT (K : PySem.W.Frag) : R2 := fun x y H Q => ∃ d ds, Dp K H x d ∧ Dp K H y (.tuple ds) ∧ SeqAt.shaped d = true ∧ SeqAt.shaped (.tuple ds) = true ∧ Q (.bl (ds.any fun z => PyData.eqv z d)) H
def rNotInDT (K : PySem.W.Frag) : R2 := fun x y H Q => ∃ d ds, Dp K H x d ∧ Dp K H y (.tuple ds) ∧ SeqAt.shaped d = true ∧ SeqAt.shaped (.tuple ds) = true ∧ Q (.bl (!ds.any fun z => PyData.eqv z d)) H
theorem op_inDT (hu : X.A.units + 65 < cLine) : OpR X (compareOp .In) (rInDT X.K) := by
  intro pins s σ H x y v u Q I rx ry h
  obtain ⟨d, ds, hd, he, sd, se, q⟩ := h
  obtain ⟨as, r1⟩ := Dp.reads I d x v hd rx
  obtain ⟨bs, r2⟩ := Dp.reads I (.tuple ds) y u he ry
  refine SeqAt.in_tuple_reads r2 r1 (SeqAt.canLay_of_shaped se) (SeqAt.canLay_of_shaped sd) (room_in_shaped sd hu) ?_
  exact ⟨.bl _, H, I, rfl, q⟩
theorem op_notInDT (hu : X.A.units + 65 < cLine) : OpR X (compareOp .NotIn) (rNotInDT X.K) := by
  intro pins s σ H x y v u Q I rx ry h
  obtain ⟨d, ds, hd, he, sd, se, q⟩ := h
  obtain ⟨as, r1⟩ := Dp.reads I d x v hd rx
  obtain ⟨bs, r2⟩ := Dp.reads I (.tuple ds) y u he ry
  refine SeqAt.notIn_tuple_reads r2 r1 (SeqAt.canLay_of_shaped se) (SeqAt.canLay_of_shaped sd) (room_in_shaped sd hu) ?_
  exact ⟨.bl _, H, I, rfl, q⟩
/-- len(set(xs)) of ints -/
def lenSet (ns : List Int) : Nat := (firstMet (fun i => ns.getD i 0) ns.length).length
def tLenSetG (K : PySem.W.Frag) (ta : TE) : TE := fun σ H Q => ta σ H fun x H1 => ∃ (l : Addr) (ns : List Int), x = V.ref l ∧ SqL K H1 l (ns.map V.int) ∧ ns.length < 4000 ∧ Q (.int (lenSet ns)) H1
theorem pe_lenSetG {a : Expr} {ta : TE} {p p2 q pos : Pos} (hc : X.calm = true) (hg : Gl X "len") (hm : X.mg "len" = none) (hg2 : Gl X "set") (hm2 : X.mg "set" = none) (ha : PE X a ta)
    (na : starEach [a] X.env = (false, eval a X.env) :: starEach [] X.env := by rfl) :
    PE X (.Call (.Name "len" p) [.Call (.Name "set" p2) [a] [] q] [] pos) (tLenSetG X.K ta) := by
  constructor
  intro pins s σ H Q I h
  refine Call_ (ld_blt I hg hm PySem.boot_len ?_)
  refine callWith_builtin1 (args_cons ?_ rfl) rfl rfl
  refine Call_ (ld_blt I hg2 hm2 boot_set ?_)
  refine callWith_type1 (args_cons (thn (ha.run pins s σ H _ I h) fun v s1 hv => args_nil ?_) na) na rfl
  obtain ⟨x, H1, I1, r1, l, ns, rfl, hq, h1, q1⟩ := hv
  cases r1
  obtain ⟨its, r, pl, hz⟩ := I1.list hq
  have hl : its.toArray.size = ns.length := by
    have z := r.length
    rw [List.length_map] at z
    rw [List.size_toArray, z]
  refine call_set_list (I1.ok.hd hc) pl.isList (ns := ns) (by simpa using r.ints) (by unfold scanBound; omega) fun h' tk hS hk => ?_
  rw [hl] at hS
  refine args_nil ?_
  obtain ⟨o, es, ep, t, ho, hex, hd, _, _, _, hf, hn⟩ := hS
  have I2 : Inv X pins σ H1 { s1 with heap := h', toks := tk } := I1.kept fun b o e => hk b o (Heap.lt_size e) e
  have hle : (firstMet (fun i => ns.getD i 0) ns.length).length ≤ ns.length := firstMet_length_le _ _
  refine call_len_set ho hex hd hf (by rw [hn]; omega) ⟨.int (lenSet ns), H1, I2.tok _, ⟨_, by rw [hn]; rfl⟩, q1⟩
end

/-! ### enumerate of a tuple -/
theorem meets_enumT (l : Addr) (items : Array Value) (n : Nat) (dct : Option Addr) (sl : Array (Option Value)) :
    Meets (Builtin.«enumerate.__new__» ⟨[.type "enumerate", .ref l], []⟩) (fun _ R s => s.heap.get? l = some { cls := .type "tuple", dict := dct, data := .seq items n, slots := sl } ∧
      R (.ok (.ret (.ref (s.heap.push { cls := .type "tuple_iterator", data := .fields #[.ref l, .int 0 0] }).objs.size)))
        { s with heap := (s.heap.push { cls := .type "tuple_iterator", data := .fields #[.ref l, .int 0 0] }).push { cls := .type "enumerate", data := .fields #[.none, .bool false, .ref s.heap.objs.size, rawInt 0, .none, .none] } }) :=
  .of_wp fun prog w A R s h => by
    obtain ⟨hp, g, d, tk, os⟩ := s
    obtain ⟨hl, h⟩ := h
    have hsub := sub_enumerate
    have hL : Heap.IsTuple (Shared.heap ⟨hp, g, d, tk, os⟩) l items := ⟨_, hl, rfl, n, rfl⟩
    wp_walk using AutoSeq1.wpAny_loadPart' hl
    refine wpAny_stack_any fun st => wpAny_pure ?_
    split
    · rename_i c _ _ _ _ _
      cases (c == Value.type "enumerate")
      · wp_walk using AutoSeq1.wpAny_loadPart' hl, wpAny_pyIter_tuple hL
        exact ⟨_, rfl, h⟩
      · wp_walk using AutoSeq1.wpAny_loadPart' hl, wpAny_pyIter_tuple hL
        exact ⟨_, rfl, h⟩
    · wp_walk using AutoSeq1.wpAny_loadPart' hl, wpAny_pyIter_tuple hL
      exact ⟨_, rfl, h⟩
section
variable {prog : Program} {w : World} {A : Around} {E : Value → Shared → Prop} {s : Shared}
theorem call_enumT {l : Addr} {items : Array Value} {Q : Value → Shared → Prop} (hL : s.heap.IsTuple l items)
    (h : ∀ h', IsEnum h' (s.heap.objs.size + 1) s.heap.objs.size 0 .none → h'.IsTupleIter s.heap.objs.size l 0 →
      (∀ b o, s.heap.get? b = some o → h'.get? b = some o) → Q (.ref (s.heap.objs.size + 1)) { s with heap := h' }) :
    wpAny (model prog w) A (call (.type "enumerate") [.ref l]) Q E s := by
  obtain ⟨⟨c, dct, dt, sl⟩, hl, hc, n, hd⟩ := hL
  replace hc : c = .type "tuple" := hc
  replace hd : dt = .seq items n := hd
  subst hc hd
  refine callType_new F.called_enumerate (by decide) (F.typeCall_enumerate_1 _) (F.newCall_enumerate_1 _) (fun obj => F.args_object_init_2 obj _) F.entry_enumerate_new
    (meets_enumT l items n dct sl) ⟨hl, ?_⟩
  have hz : (s.heap.push { cls := .type "tuple_iterator", data := .fields #[.ref l, .int 0 0] }).objs.size = s.heap.objs.size + 1 := Heap.size_push ..
  show _ ∧ _
  rw [hz]
  have he : IsEnum ((s.heap.push { cls := .type "tuple_iterator", data := .fields #[.ref l, .int 0 0] }).push
      { cls := .type "enumerate", data := .fields #[.none, .bool false, .ref s.heap.objs.size, rawInt 0, .none, .none] }) (s.heap.objs.size + 1) s.heap.objs.size 0 .none := by
    have q := Heap.get?_push_size (s.heap.push { cls := .type "tuple_iterator", data := .fields #[.ref l, .int 0 0] })
      (o := { cls := .type "enumerate", data := .fields #[.none, .bool false, .ref s.heap.objs.size, rawInt 0, .none, .none] }) rfl
    rw [hz] at q
    exact q
  exact ⟨⟨_, he, rfl⟩, h _ he ⟨_, Heap.get?_push_of_some _ (Heap.get?_push_size _ rfl), rfl, rfl⟩ fun b o x => Heap.get?_push_of_some _ (Heap.get?_push_of_some _ x)⟩
end
/-- the tuple at a, each item in a new pair -/
def IteT (K : PySem.W.Frag) (a : Addr) : It :=
  ⟨fun i H => ∃ (xs : List V) (x : V), SqT K H a xs ∧ xs[i]? = some x, fun i H v H' => ∃ T x, v = .ref T ∧ H T = none ∧ H' = upd H T (.tup [.int (i : Nat), x]) ∧ ∀ xs, SqT K H a xs → xs[i]? = some x, fun i H => ∃ xs : List V, SqT K H a xs ∧ xs.length ≤ i⟩
theorem turn_enumT {P : Program} {w : World} {K : PySem.W.Frag} {elts : List Expr} {kk : Nat} {tpos : Pos} (a e it : Addr) :
    Turn P w K (.Tuple elts kk tpos) (IteT K a) [e, it] e (fun i h => (∃ old, IsEnum h e it ((i : Nat) : Int) old) ∧ h.IsTupleIter it a i ∧ e ≠ it ∧ a ≠ it) where
  mem := by simp
  obj := fun i h st b hb => by
    obtain ⟨⟨old, he⟩, ⟨o, ho, hc, hd⟩, _, _⟩ := st
    have e' : b = e ∨ b = it := by simpa using hb
    rcases e' with z | z
    · rw [z]; exact ⟨_, he, fun v q => nomatch q⟩
    · rw [z]; exact ⟨o, ho, fun v q => by rw [hd] at q; cases q⟩
  keep := fun i h h' st k => let ⟨⟨old, he⟩, hi, hne, hn2⟩ := st; ⟨⟨old, k e (by simp) _ he⟩, hi.at fun o q => k it (by simp) o q, hne, hn2⟩
  item := by
    intro X hP hw hK hc i pins s σ H E I hf st hg
    subst hP hw hK
    obtain ⟨⟨old, he⟩, hit, hne, hn2⟩ := st
    obtain ⟨xs, x, hq, hx⟩ := hg
    obtain ⟨its, rv, p, hz⟩ := I.tuple hq
    obtain ⟨u, hu, ru⟩ := rv.get hx
    have hel : e < s.heap.objs.size := Heap.lt_size he
    have hil : it < s.heap.objs.size := by
      obtain ⟨_, q, _⟩ := hit
      exact Heap.lt_size q
    have hit0 : its.toArray[i]? = some u := by simpa using hu
    have hlt : i < its.toArray.size := by
      have q := (Array.getElem?_eq_some_iff.mp hit0).1
      exact q
    have hea : e ≠ a := fun z => by
      obtain ⟨oa, ha, hca, _⟩ := p
      have he2 : s.heap.get? e = some _ := he
      rw [z, ha] at he2
      have ec := congrArg Obj.cls (Option.some.inj he2)
      rw [hca] at ec
      exact absurd (show Value.type "tuple" = Value.type "enumerate" from ec) (by decide)
    have D := Draws.tuple (prog := X.prog) (w := X.w) (A := X.A.in1) (I.ok.hd hc) it a hn2 its.toArray
    have hfe : e ∉ [it, a] := fun z => by
      rcases List.mem_cons.mp z with z | z
      · exact hne z
      · exact hea (List.mem_singleton.mp z)
    refine wpAny_pyNext_enum_itemD D he (i := i) ⟨hit, p⟩ hlt hne hfe fun y h' tk hy ho st' hT hsz hk => ?_
    have ey : u = y := by
      rw [hit0] at hy
      exact Option.some.inj hy
    subst ey
    refine ⟨_, rfl, wpAny_letOwnedTupleGo_enum (s := { s with heap := h', toks := tk + 1 }) ho fun h'' he' sb => ?_⟩
    have hT2 : h''.get? s.heap.objs.size = some { cls := .type "tuple", data := .seq #[.int i tk, u] } := (sb.2 _ (Nat.ne_of_gt hel)).trans hT
    have new : ObjOk X.prog X.w (upd H s.heap.objs.size (.tup [.int (i : Nat), x])) h'' s.heap.objs.size (.tup [.int (i : Nat), x]) :=
      ⟨by show 2 ≤ sizeLine; decide, [.int i tk, u], .cons ⟨_, rfl⟩ (.cons ru .nil), ⟨_, hT2, rfl, _, rfl⟩⟩
    have kb : ∀ b ob, b ∉ [e, it] → s.heap.get? b = some ob → h''.get? b = some ob := fun b ob hb q => by
      have n1 : b ≠ e := fun z => hb (by rw [z]; exact List.mem_cons_self)
      have n2 : b ≠ it := fun z => hb (by rw [z]; simp)
      exact (sb.2 b n1).trans (hk b ob n1 n2 q)
    have I1 : Inv X pins σ (upd H s.heap.objs.size (.tup [.int (i : Nat), x])) { s with heap := h'', toks := tk + 1 } := I.turnedNew (ch := [e, it]) kb hf (Nat.le_refl _) new
    refine ⟨.ref s.heap.objs.size, _, I1, rfl, ⟨_, x, rfl, I.hok.fresh (Nat.le_refl _), rfl, fun ys hy => by rw [I.tuple_inj hy hq]; exact hx⟩, ⟨⟨u, ?_⟩, st'.1.at fun o q => (sb.2 it (Ne.symm hne)).trans q, hne, hn2⟩, fun b hb => ?_⟩
    · have e1 : ((i + 1 : Nat) : Int) = (i : Int) + 1 := by omega
      rw [e1]
      exact he'
    · have hb' : b < s.heap.objs.size := by
        have e' : b = e ∨ b = it := by simpa using hb
        rcases e' with z | z
        · rw [z]; exact hel
        · rw [z]; exact hil
      rw [upd_ne (Nat.ne_of_lt hb')]
      exact (hf b hb).1
  done := by
    intro X hP hw hK hc i pins s σ H E I hf st hg
    subst hP hw hK
    obtain ⟨⟨old, he⟩, hit, hne, hn2⟩ := st
    obtain ⟨xs, hq, hx⟩ := hg
    obtain ⟨its, rv, p, hz⟩ := I.tuple hq
    obtain ⟨f0, f1, f2, f3, f4, f5⟩ := hf it (by simp)
    have hl := rv.length
    have hT : s.TypeIs (.ref e) "enumerate" := ⟨_, he, rfl⟩
    have hend : its.toArray[i]? = none := by simp; omega
    unfold pyNext
    refine wpAny_bind (wpAny_attempt (wpAny_callSpecial?_slot (name := Str.ofString "__next__") hT F.slot_enumerate_next
      (wpAny_call_entry F.slot_enumerate_next hT F.entry_enumerate_next ?_ (F.args_enumerate_next_1 _))))
    show wpAny _ _ (field (.ref e) 2 >>= _) _ _ _
    refine wpAny_bind (wpAny_field he rfl (x := .ref it) rfl ?_)
    refine wpAny_bind (wpAny_nextOf_tuple_end (I.ok.hd hc) hit p hend fun h' x he' hx' => ?_)
    obtain ⟨o, ho, hcl⟩ := hx'
    refine wpAny_bind (wpAny_isInstance (T := "StopIteration") (b := true) ⟨o, ho, hcl⟩ isSubtype_stop ?_)
    exact wpAny_pure ⟨rfl, I.turned (t' := s.toks) (fun b o hb q => he' b o hb q) f0 f1 f3 f4 f5⟩
  self := fun A i s Q E st h => let ⟨⟨_, he⟩, _⟩ := st; wpAny_pyIter_enum he h
def iEnumT (K : PySem.W.Frag) (ta : TA) : TI := fun σ H R => ta σ H fun vs H1 => ∃ a xs, vs = [.ref a] ∧ SqT K H1 a xs ∧ R (IteT K a) H1
theorem pi_enumT {X : Cx} {e : Expr} {ta : TA} {p pos tpos : Pos} {elts : List Expr} {kk : Nat} (hg : Gl X "enumerate") (hm : X.mg "enumerate" = none) (ha : PA X [e] ta) (hs : starEach [e] X.env = [(false, eval e X.env)] := by rfl) :
    PI X (.Tuple elts kk tpos) (.Call (.Name "enumerate" p) [e] [] pos) (iEnumT X.K ta) := by
  constructor
  intro pins s σ H R I h
  refine Call_ (ld_blt I hg hm boot_enumerate (callWith_type1 (thn (ha.run pos pins s σ H _ I h) fun us s1 hv => ?_) hs rfl))
  obtain ⟨vs, H1, I1, r1, a, xs, rfl, hq, q⟩ := hv
  cases r1 with
  | cons r rr =>
    cases rr
    cases r
    obtain ⟨its, rv, p', hz⟩ := I1.tuple hq
    have hal : a < s1.heap.objs.size := p'.lt
    refine call_enumT p' fun h' he hit hk => wpAny_pyIter_enum he ?_
    have I2 : Inv X pins σ H1 { s1 with heap := h' } := I1.kept (t' := s1.toks) hk
    refine ⟨s1.heap.objs.size + 1, [s1.heap.objs.size + 1, s1.heap.objs.size], _, _, H1, rfl, I2, turn_enumT a (s1.heap.objs.size + 1) s1.heap.objs.size, ⟨⟨.none, he⟩, hit, Nat.succ_ne_self _, Nat.ne_of_lt hal⟩, fun b hb => ?_, q⟩
    have hb' : s1.heap.objs.size ≤ b := by
      have z : b = s1.heap.objs.size + 1 ∨ b = s1.heap.objs.size := by simpa using hb
      rcases z with z | z
      · rw [z]; exact Nat.le_succ _
      · rw [z]; exact Nat.le_refl _
    exact I1.fpOk hb' (I1.hok.fresh hb')
end Gv

/-! More operations by data: == and in of nested data, sorted, isinstance, len(set(..)), walks of pairs. -/
namespace Gv
open PySem PySem.Spec PyProof.Rows L2
mutual
def D.pd : D → PyData
  | .non => .none
  | .bl b => .bool b
  | .int i => .int i
  | .str s => .str s
  | .tup l => .tuple (D.pdL l)
  | .lst l => .list (D.pdL l)
  | .adr _ => .dict []
def D.pdL : List D → List PyData
  | [] => []
  | d :: ds => D.pd d :: D.pdL ds
end
mutual
def D.plain : D → Bool
  | .tup l => D.plainL l
  | .lst l => D.plainL l
  | .adr _ => false
  | _ => true
def D.plainL : List D → Bool
  | [] => true
  | d :: ds => D.plain d && D.plainL ds
end
theorem pdL_map {α : Type} (f : α → D) : ∀ l : List α, D.pdL (l.map f) = l.map fun x => (f x).pd
  | [] => rfl
  | x :: l => by
    show D.pd (f x) :: D.pdL (l.map f) = _
    rw [pdL_map f l]
    rfl
theorem plainL_map {α : Type} (f : α → D) (h : ∀ x, (f x).plain = true) : ∀ l : List α, D.plainL (l.map f) = true
  | [] => rfl
  | x :: l => by
    show (D.plain (f x) && D.plainL (l.map f)) = true
    rw [h x, plainL_map f h l]
    rfl
section
variable {K : PySem.W.Frag} {R : Rg} {M : Addr → Prop} {H H' : Hp} {r : REnv} {te ta tb : TE} {tt tu : TT}
mutual
theorem IsD.dp : ∀ {d : D} {v : V}, d.plain = true → IsD K M H v d → Dp K H v d.pd
  | .non, _, _, h => by cases h; exact .non
  | .bl _, _, _, h => by cases h; exact .bl _
  | .int _, _, _, h => by cases h; exact .int _
  | .str _, _, _, h => by cases h; exact .str _
  | .tup ds, _, f, h => by
    cases h with
    | tup h1 h2 => exact .tup h1.sq (IsDs.dp f h2)
  | .lst ds, _, f, h => by
    cases h with
    | lst h1 h2 => exact .lst h1.sq (IsDs.dp f h2)
  | .adr _, _, f, h => by cases f
theorem IsDs.dp : ∀ {ds : List D} {vs : List V}, D.plainL ds = true → IsDs K M H vs ds → DpAll K H vs (D.pdL ds)
  | [], _, _, h => by cases h; exact .nil
  | d :: ds, _, f, h => by
    cases h with
    | cons h1 h2 =>
      have f' : (D.plain d && D.plainL ds) = true := f
      rw [Bool.and_eq_true] at f'
      exact .cons (IsD.dp f'.1 h1) (IsDs.dp f'.2 h2)
end
theorem IsV.dp {rm : Addr → Prop} {v : V} {d : D} (f : d.plain = true) (h : IsV K rm M H v d) : Dp K H v d.pd := by
  rcases h with h | ⟨a, xs, ds, rfl, rfl, h1, h2, h3⟩
  · exact h.dp f
  · exact .lst (SqL.of h2) (IsDs.dp f h3)
theorem op_eqP {x y : D} (fx : x.plain = true) (fy : y.plain = true) (sx : SeqAt.shaped x.pd = true) (sy : SeqAt.shaped y.pd = true) : OpD K (rEqD K) x y (· = .bl (PyData.eqv x.pd y.pd)) := fun rm M H v w ok hv hw Q q =>
  ⟨x.pd, y.pd, hv.dp fx, hw.dp fy, sx, sy, q _ H _ rfl (same_refl H) (.bl _)⟩
theorem op_neP {x y : D} (fx : x.plain = true) (fy : y.plain = true) (sx : SeqAt.shaped x.pd = true) (sy : SeqAt.shaped y.pd = true) : OpD K (rNeD K) x y (· = .bl (!PyData.eqv x.pd y.pd)) := fun rm M H v w ok hv hw Q q =>
  ⟨x.pd, y.pd, hv.dp fx, hw.dp fy, sx, sy, q _ H _ rfl (same_refl H) (.bl _)⟩
theorem op_inP {x : D} {l : List D} (fx : x.plain = true) (fy : D.plainL l = true) (sx : SeqAt.shaped x.pd = true) (sy : SeqAt.shaped (D.tup l).pd = true) : OpD K (rInDT K) x (.tup l) (· = .bl ((D.pdL l).any fun z => PyData.eqv z x.pd)) := fun rm M H v w ok hv hw Q q =>
  ⟨x.pd, D.pdL l, hv.dp fx, hw.dp (d := .tup l) fy, sx, sy, q _ H _ rfl (same_refl H) (.bl _)⟩
theorem op_notInP {x : D} {l : List D} (fx : x.plain = true) (fy : D.plainL l = true) (sx : SeqAt.shaped x.pd = true) (sy : SeqAt.shaped (D.tup l).pd = true) : OpD K (rNotInDT K) x (.tup l) (· = .bl (!(D.pdL l).any fun z => PyData.eqv z x.pd)) := fun rm M H v w ok hv hw Q q =>
  ⟨x.pd, D.pdL l, hv.dp fx, hw.dp (d := .tup l) fy, sx, sy, q _ H _ rfl (same_refl H) (.bl _)⟩

/-! ### shapes -/
/-- an encoding whose data are plain, of depth at most one, and told apart by == -/
structure Pl {α : Type} [DecidableEq α] (f : α → D) : Prop where
  plain : ∀ x, (f x).plain = true
  lay : ∀ x, (f x).pd.canLay0 = true
  dep : ∀ x, (f x).pd.depth ≤ 1
  eqv : ∀ x y, PyData.eqv (f x).pd (f y).pd = decide (x = y)
section
variable {α : Type} [DecidableEq α] {f : α → D}
theorem lay_all (h : ∀ x, (f x).pd.canLay0 = true) : ∀ l : List α, PyData.canLayAll0 (D.pdL (l.map f)) = true
  | [] => by unfold D.pdL PyData.canLayAll0; rfl
  | x :: l => by
    show PyData.canLayAll0 ((f x).pd :: D.pdL (l.map f)) = true
    rw [PyData.canLayAll0, h x, lay_all h l]
    rfl
theorem dep_all {n : Nat} (h : ∀ x, (f x).pd.depth ≤ n) : ∀ l : List α, PyData.depthAll (D.pdL (l.map f)) ≤ n
  | [] => by unfold D.pdL PyData.depthAll; exact Nat.zero_le _
  | x :: l => by
    show PyData.depthAll ((f x).pd :: D.pdL (l.map f)) ≤ n
    rw [PyData.depthAll]
    exact Nat.max_le.mpr ⟨h x, dep_all h l⟩
theorem eqv_all (h : Pl f) : ∀ l m : List α, PyData.eqvAll (D.pdL (l.map f)) (D.pdL (m.map f)) = decide (l = m)
  | [], [] => by unfold List.map D.pdL PyData.eqvAll; rfl
  | [], y :: m => by
    show PyData.eqvAll [] ((f y).pd :: D.pdL (m.map f)) = _
    rw [PyData.eqvAll]
    rfl
  | x :: l, [] => by
    show PyData.eqvAll ((f x).pd :: D.pdL (l.map f)) [] = _
    rw [PyData.eqvAll]
    rfl
  | x :: l, y :: m => by
    show PyData.eqvAll ((f x).pd :: D.pdL (l.map f)) ((f y).pd :: D.pdL (m.map f)) = _
    rw [PyData.eqvAll, h.eqv, eqv_all h l m]
    by_cases e1 : x = y
    · subst e1
      by_cases e2 : l = m
      · subst e2; simp
      · simp [e2]
    · simp [e1]
theorem shaped_tup (h : Pl f) (l : List α) : SeqAt.shaped (D.tup (l.map f)).pd = true := by
  unfold SeqAt.shaped
  rw [Bool.and_eq_true]
  refine ⟨?_, decide_eq_true ?_⟩
  · show PyData.canLay0 (.tuple (D.pdL (l.map f))) = true
    rw [PyData.canLay0]
    exact lay_all h.lay l
  · show PyData.depth (.tuple (D.pdL (l.map f))) ≤ 64
    rw [PyData.depth]
    have z := dep_all h.dep l
    omega
theorem shaped_lst (h : Pl f) (l : List α) : SeqAt.shaped (D.lst (l.map f)).pd = true := by
  unfold SeqAt.shaped
  rw [Bool.and_eq_true]
  refine ⟨?_, decide_eq_true ?_⟩
  · show PyData.canLay0 (.list (D.pdL (l.map f))) = true
    rw [PyData.canLay0]
    exact lay_all h.lay l
  · show PyData.depth (.list (D.pdL (l.map f))) ≤ 64
    rw [PyData.depth]
    have z := dep_all h.dep l
    omega
theorem shaped_one (h : Pl f) (x : α) : SeqAt.shaped (f x).pd = true := by
  unfold SeqAt.shaped
  rw [Bool.and_eq_true]
  refine ⟨h.lay x, decide_eq_true ?_⟩
  have z := h.dep x
  omega
theorem op_eqL (h : Pl f) {x y : D} {l m : List α} (ex : x = .lst (l.map f)) (ey : y = .lst (m.map f)) : OpD K (rEqD K) x y (· = .bl (decide (l = m))) := by
  subst ex ey
  have z := op_eqP (K := K) (x := .lst (l.map f)) (y := .lst (m.map f)) (plainL_map f h.plain l) (plainL_map f h.plain m) (shaped_lst h l) (shaped_lst h m)
  have e : PyData.eqv (D.lst (l.map f)).pd (D.lst (m.map f)).pd = decide (l = m) := by
    show PyData.eqv (.list (D.pdL (l.map f))) (.list (D.pdL (m.map f))) = _
    rw [PyData.eqv, eqv_all h]
  rw [e] at z
  exact z
theorem op_neL (h : Pl f) {x y : D} {l m : List α} (ex : x = .lst (l.map f)) (ey : y = .lst (m.map f)) : OpD K (rNeD K) x y (· = .bl (!decide (l = m))) := by
  subst ex ey
  have z := op_neP (K := K) (x := .lst (l.map f)) (y := .lst (m.map f)) (plainL_map f h.plain l) (plainL_map f h.plain m) (shaped_lst h l) (shaped_lst h m)
  have e : PyData.eqv (D.lst (l.map f)).pd (D.lst (m.map f)).pd = decide (l = m) := by
    show PyData.eqv (.list (D.pdL (l.map f))) (.list (D.pdL (m.map f))) = _
    rw [PyData.eqv, eqv_all h]
  rw [e] at z
  exact z
theorem op_eqT (h : Pl f) {x y : D} {l m : List α} (ex : x = .tup (l.map f)) (ey : y = .tup (m.map f)) : OpD K (rEqD K) x y (· = .bl (decide (l = m))) := by
  subst ex ey
  have z := op_eqP (K := K) (x := .tup (l.map f)) (y := .tup (m.map f)) (plainL_map f h.plain l) (plainL_map f h.plain m) (shaped_tup h l) (shaped_tup h m)
  have e : PyData.eqv (D.tup (l.map f)).pd (D.tup (m.map f)).pd = decide (l = m) := by
    show PyData.eqv (.tuple (D.pdL (l.map f))) (.tuple (D.pdL (m.map f))) = _
    rw [PyData.eqv, eqv_all h]
  rw [e] at z
  exact z
theorem any_eqv (h : Pl f) (x : α) : ∀ l : List α, ((D.pdL (l.map f)).any fun z => PyData.eqv z (f x).pd) = decide (x ∈ l)
  | [] => by
    unfold List.map D.pdL
    rfl
  | y :: l => by
    show (((f y).pd :: D.pdL (l.map f)).any fun z => PyData.eqv z (f x).pd) = _
    rw [List.any_cons, h.eqv, any_eqv h x l]
    by_cases e : y = x
    · subst e; simp
    · have e' : ¬ x = y := fun z => e z.symm
      simp [e, e']
theorem op_inT (h : Pl f) {x y : D} {z : α} {l : List α} (ex : x = f z) (ey : y = .tup (l.map f)) : OpD K (rInDT K) x y (· = .bl (decide (z ∈ l))) := by
  subst ex ey
  have q := op_inP (K := K) (x := f z) (l := l.map f) (h.plain z) (plainL_map f h.plain l) (shaped_one h z) (shaped_tup h l)
  rw [any_eqv h] at q
  exact q
theorem op_notInT (h : Pl f) {x y : D} {z : α} {l : List α} (ex : x = f z) (ey : y = .tup (l.map f)) : OpD K (rNotInDT K) x y (· = .bl (!decide (z ∈ l))) := by
  subst ex ey
  have q := op_notInP (K := K) (x := f z) (l := l.map f) (h.plain z) (plainL_map f h.plain l) (shaped_one h z) (shaped_tup h l)
  rw [any_eqv h] at q
  exact q
end
/-- numbers, numbers or None, pairs of numbers -/
abbrev eN (n : Nat) : D := .int (n : Int)
def eO : Option Nat → D
  | some n => .int (n : Int)
  | none => .non
abbrev eP (p : Nat × Nat) : D := .tup [.int (p.1 : Int), .int (p.2 : Int)]
theorem int_beq (a b : Nat) : (((a : Int) == (b : Int)) : Bool) = decide (a = b) := by
  by_cases e : a = b
  · subst e; simp
  · have h : ¬ ((a : Int) = (b : Int)) := fun z => e (by omega)
    rw [beq_eq_false_iff_ne.mpr h, decide_eq_false e]
theorem pl_N : Pl eN := ⟨fun _ => rfl, fun _ => rfl, fun _ => Nat.zero_le _, fun x y => by
  show PyData.eqv (.int _) (.int _) = _
  rw [PyData.eqv]
  exact int_beq x y⟩
theorem pl_O : Pl eO := ⟨fun x => by cases x <;> rfl, fun x => by cases x <;> rfl, fun x => by cases x <;> exact Nat.zero_le _, fun x y => by
  cases x with
  | none =>
    cases y with
    | none => show PyData.eqv .none .none = _; rw [PyData.eqv]; rfl
    | some b => show PyData.eqv .none (.int _) = _; rw [PyData.eqv]; rfl
  | some a =>
    cases y with
    | none => show PyData.eqv (.int _) .none = _; rw [PyData.eqv]; rfl
    | some b =>
      show PyData.eqv (.int _) (.int _) = _
      rw [PyData.eqv, int_beq a b]
      by_cases e : a = b
      · subst e; simp
      · simp [e]⟩
theorem pl_P : Pl eP := ⟨fun x => rfl, fun x => rfl, fun x => by
  show PyData.depth (.tuple [.int _, .int _]) ≤ 1
  simp [PyData.depth, PyData.depthAll], fun x y => by
  show PyData.eqv (.tuple [.int _, .int _]) (.tuple [.int _, .int _]) = _
  rw [PyData.eqv, PyData.eqvAll, PyData.eqvAll, PyData.eqvAll, PyData.eqv, PyData.eqv, int_beq, int_beq]
  obtain ⟨a, b⟩ := x
  obtain ⟨c, d⟩ := y
  by_cases e1 : a = c
  · subst e1
    by_cases e2 : b = d
    · subst e2; simp
    · simp [e2]
  · simp [e1]⟩

/-! ### flat in, by numbers -/
theorem any_flatN (x : Nat) : ∀ l : List Nat, ((l.map eN).any fun z => eqF z (eN x)) = decide (x ∈ l)
  | [] => rfl
  | y :: l => by
    rw [List.map_cons, List.any_cons, any_flatN x l]
    show (((y : Int) == (x : Int)) || _) = _
    rw [int_beq]
    by_cases e : y = x
    · subst e; simp
    · have e' : ¬ x = y := fun z => e z.symm
      simp [e, e']
theorem flatN : ∀ l : List Nat, (l.map eN).all D.flat = true
  | [] => rfl
  | y :: l => by
    rw [List.map_cons, List.all_cons, flatN l]
    rfl
theorem op_inN {x y : D} {n : Nat} {l : List Nat} (ex : x = eN n) (ey : y = .tup (l.map eN) ∨ y = .lst (l.map eN)) : OpD K (rIn K false) x y (· = .bl (decide (n ∈ l))) := by
  subst ex
  have q := op_in (K := K) (neg := false) (x := eN n) (y := y) (l := l.map eN) rfl (flatN l) ey
  rw [any_flatN] at q
  exact q
theorem op_ninN {x y : D} {n : Nat} {l : List Nat} (ex : x = eN n) (ey : y = .tup (l.map eN) ∨ y = .lst (l.map eN)) : OpD K (rIn K true) x y (· = .bl (!decide (n ∈ l))) := by
  subst ex
  have q := op_in (K := K) (neg := true) (x := eN n) (y := y) (l := l.map eN) rfl (flatN l) ey
  rw [any_flatN] at q
  exact q
theorem op_eqO {o : Option Nat} {n : Nat} : OpD K rEq (eO o) (eN n) (· = .bl (decide (o = some n))) := by
  cases o with
  | none => exact op_eqS (v := .non) (w := .int n) rfl rfl rfl
  | some m =>
    have z := op_eqS (K := K) (x := eO (some m)) (y := eN n) rfl rfl rfl
    rw [dec_int, int_beq] at z
    have e : decide (m = n) = decide ((some m : Option Nat) = some n) := by simp
    rw [e] at z
    exact z
theorem op_neO {o : Option Nat} {n : Nat} : OpD K rNe (eO o) (eN n) (· = .bl (!decide (o = some n))) := by
  cases o with
  | none => exact op_neS (v := .non) (w := .int n) rfl rfl rfl
  | some m =>
    have z := op_neS (K := K) (x := eO (some m)) (y := eN n) rfl rfl rfl
    rw [dec_int, int_beq] at z
    have e : decide (m = n) = decide ((some m : Option Nat) = some n) := by simp
    rw [e] at z
    exact z
theorem op_neNO {o : Option Nat} {n : Nat} : OpD K rNe (eN n) (eO o) (· = .bl (!decide (o = some n))) := by
  cases o with
  | none => exact op_neS (v := .int n) (w := .non) rfl rfl rfl
  | some m =>
    have z := op_neS (K := K) (x := eN n) (y := eO (some m)) rfl rfl rfl
    rw [dec_int, int_beq] at z
    have e : decide (n = m) = decide ((some m : Option Nat) = some n) := by
      by_cases q : n = m
      · subst q; simp
      · have q' : ¬ m = n := fun z => q z.symm
        simp [q, q']
    rw [e] at z
    exact z
theorem op_eqN {a b : Nat} : OpD K rEq (eN a) (eN b) (· = .bl (decide (a = b))) := by
  have z := op_eqS (K := K) (x := eN a) (y := eN b) rfl rfl rfl
  rw [dec_int, int_beq] at z
  exact z
theorem op_neN {a b : Nat} : OpD K rNe (eN a) (eN b) (· = .bl (!decide (a = b))) := by
  have z := op_neS (K := K) (x := eN a) (y := eN b) rfl rfl rfl
  rw [dec_int, int_beq] at z
  exact z
theorem op_neB {a b : Bool} : OpD K rNe (.bl a) (.bl b) (· = .bl (a != b)) := by
  have z := op_neS (K := K) (x := .bl a) (y := .bl b) rfl rfl rfl
  rw [dec_bl] at z
  exact z
theorem isNonO (o : Option Nat) : (eO o).isNon = o.isNone := by cases o <;> rfl

/-! ### sorted -/
theorem perm_sorted_unique {l m : List Int} (h : l.Perm m) (hl : l.Pairwise (· ≤ ·)) (hm : m.Pairwise (· ≤ ·)) : l = m :=
  h.eq_of_pairwise (fun a b _ _ h1 h2 => Int.le_antisymm h1 h2) hl hm
theorem ef_sorted {l : List Int} (h : EvV K R te r (· = .lst (l.map .int))) : EvF K R (tCB (rSortedI K) (tCons te tNil)) r (fun ds => ∃ l' : List Int, l'.Perm l ∧ l'.Pairwise (· ≤ ·) ∧ ds = l'.map .int) := fun M σ H hR ok inv e Q q =>
  h M σ H hR ok inv e _ fun v H1 d pd s1 i1 d1 => by
    subst pd
    obtain ⟨a, xs, rfl, h1, h2⟩ := isV_lst d1
    have ez := h2.ints
    subst ez
    refine ⟨a, l, rfl, SqL.of h1, fun ns' p pm ps hp => ?_⟩
    exact q p _ _ _ ⟨ns', pm, ps, rfl⟩ (none_back s1 hp) (s1.trans (Stp.of (same_new hp))) (inv_same hR (ok.stp s1) (same_new hp) i1) upd_same (IsDs.of_ints ns')

/-! ### isinstance -/
def D.ty : D → String
  | .non => "NoneType"
  | .bl _ => "bool"
  | .int _ => "int"
  | .str _ => "str"
  | .tup _ => "tuple"
  | .lst _ => "list"
  | .adr _ => "?"
def isTy (a T : String) : Bool := a == T || (a == "bool" && T == "int")
def D.isT (T : String) (d : D) : Bool := isTy d.ty T
def TyOk (T : String) : Prop := T = "int" ∨ T = "bool" ∨ T = "str" ∨ T = "tuple"
theorem kits {T : String} (hT : TyOk T) (d : D) (hd : ∀ a, d ≠ .adr a) : ∃ t : String, kitB t T = some (d.isT T) ∧ ∀ (M : Addr → Prop) (H : Hp) (v : V), IsD K M H v d → TyX K H v (.type t) := by
  cases d with
  | non => exact ⟨"NoneType", by show kitB "NoneType" T = some (isTy "NoneType" T); rcases hT with h | h | h | h <;> subst h <;> decide +kernel, fun M H v h => by cases h; exact .base .non⟩
  | bl b => exact ⟨"bool", by show kitB "bool" T = some (isTy "bool" T); rcases hT with h | h | h | h <;> subst h <;> decide +kernel, fun M H v h => by cases h; exact .base (.bl _)⟩
  | int i => exact ⟨"int", by show kitB "int" T = some (isTy "int" T); rcases hT with h | h | h | h <;> subst h <;> decide +kernel, fun M H v h => by cases h; exact .base (.int _)⟩
  | str s => exact ⟨"str", by show kitB "str" T = some (isTy "str" T); rcases hT with h | h | h | h <;> subst h <;> decide +kernel, fun M H v h => by cases h; exact .base (.str _)⟩
  | tup l => exact ⟨"tuple", by show kitB "tuple" T = some (isTy "tuple" T); rcases hT with h | h | h | h <;> subst h <;> decide +kernel, fun M H v h => by
      cases h with
      | tup h1 h2 =>
        rcases h1 with ⟨_, h1 | ⟨o, h1⟩⟩ | ⟨o, its, n, h1, h3, _⟩
        · exact .base (.tup h1)
        · exact .fTuple h1
        · exact .kTuple h1 h3⟩
  | lst l => exact ⟨"list", by show kitB "list" T = some (isTy "list" T); rcases hT with h | h | h | h <;> subst h <;> decide +kernel, fun M H v h => by
      cases h with
      | lst h1 h2 => exact .base (.lst h1.2)⟩
  | adr a => exact absurd rfl (hd a)
theorem ev_isi {T : String} {d : D} (hT : TyOk T) (hd : ∀ a, d ≠ .adr a) (h : Ev K R te r (· = d)) : Ev K R (tCB (rIsi K) (tCons te (tCons (tC (.ty T)) tNil))) r (· = .bl (d.isT T)) := fun M σ H hR ok inv e Q q =>
  h M σ H hR ok inv e _ fun v H1 d' pd s1 i1 d1 => by
    subst pd
    obtain ⟨t, e1, e2⟩ := kits (K := K) hT d' hd
    exact ⟨v, .ty T, .type t, .type T, d'.isT T, rfl, .ty T, e2 M H1 v d1, kit_ty e1, q _ H1 _ rfl s1 i1 (.bl _)⟩
/-- len(set(xs)) -/
theorem ev_lenSet {l : List Int} (h : EvV K R te r (· = .lst (l.map .int))) (hz : l.length < 4000) : Ev K R (tLenSetG K te) r (· = .int (lenSet l)) := fun M σ H hR ok inv e Q q =>
  h M σ H hR ok inv e _ fun v H1 d pd s1 i1 d1 => by
    subst pd
    obtain ⟨a, xs, rfl, h1, h2⟩ := isV_lst d1
    have ez := h2.ints
    subst ez
    exact ⟨a, l, rfl, SqL.of h1, hz, q _ H1 _ rfl s1 i1 (.int _)⟩
/-! ### walks that make pairs -/
def enumD (l : List D) : List D := (List.range l.length).map fun (i : Nat) => D.tup [.int (i : Int), l.getD i .non]
theorem ei_enumT {l : List D} (h : Ev K R te r (· = .tup l)) : EvI K R (iEnumT K (tCons te tNil)) r (· = enumD l) := fun M σ H hR ok inv e Q q =>
  h M σ H hR ok inv e _ fun v H1 d pd s1 i1 d1 => by
    subst pd
    obtain ⟨a, xs, rfl, h1, h2⟩ := isV_tup (rm := R.m) (.inl d1)
    refine ⟨a, xs, rfl, h1.sq, q _ H1 _ rfl s1 i1 ?_⟩
    intro M1 H2 hM ok2 kp i
    have g1 : SqT K H2 a xs := by
      rcases h1 with ⟨n, g⟩ | g
      · have n1 : ¬ M1 a := fun z => by
          rcases hM a z with z | z
          · exact n z
          · rcases g with g | ⟨o, g⟩ <;> rw [z] at g <;> cases g
        rcases g with g | ⟨o, g⟩
        · exact .inl (.inl (kp _ _ n1 g))
        · exact .inl (.inr ⟨o, kp _ _ n1 g⟩)
      · exact .inr g
    have g2 : IsDs K M1 H2 xs l := (h2.grow hM).to (fun _ z => z) kp
    have hl : (enumD l).length = l.length := by unfold enumD; rw [List.length_map, List.length_range]
    rw [hl]
    refine ⟨fun hi => ?_, fun hi => ⟨xs, g1, by rw [g2.len]; exact hi⟩, fun x H' hy => ?_⟩
    · obtain ⟨v, e1, _⟩ := g2.at_ (List.getElem?_eq_getElem hi)
      exact ⟨xs, v, g1, e1⟩
    · obtain ⟨T, y, rfl, hT, rfl, hy⟩ := hy
      refine ⟨same_new hT, fun d hd => ?_⟩
      unfold enumD at hd
      rw [List.getElem?_map] at hd
      cases er : (List.range l.length)[i]? with
      | none => rw [er] at hd; cases hd
      | some j =>
        rw [er] at hd
        cases hd
        obtain ⟨hj, ej⟩ := List.getElem?_eq_some_iff.mp er
        rw [List.getElem_range] at ej
        subst ej
        rw [List.length_range] at hj
        obtain ⟨v, e1, e2⟩ := g2.at_ (List.getElem?_eq_getElem hj)
        have e3 := hy xs g1
        rw [e1] at e3
        cases e3
        have e4 : l.getD i .non = l[i] := by rw [List.getD_eq_getElem?_getD, List.getElem?_eq_getElem hj]; rfl
        show IsD K M1 _ (V.ref T) (D.tup [.int (i : Int), l.getD i .non])
        rw [e4]
        exact .tup (.inl ⟨ok2.out hT, .inl upd_same⟩) (.cons (.int _) (.cons (e2.same (same_new hT)) .nil))
def zipD : List D → List D → List D
  | x :: xs, y :: ys => .tup [x, y] :: zipD xs ys
  | _, _ => []
theorem zipD_at : ∀ {l m : List D} {i : Nat} {d : D}, (zipD l m)[i]? = some d → ∃ x y, l[i]? = some x ∧ m[i]? = some y ∧ d = .tup [x, y]
  | x :: l, y :: m, 0, d, h => by
    have e : D.tup [x, y] = d := Option.some.inj h
    exact ⟨x, y, rfl, rfl, e.symm⟩
  | x :: l, y :: m, i + 1, d, h => zipD_at (l := l) (m := m) (i := i) h
  | [], _, _, _, h => by
    have h' : ([] : List D)[_]? = some _ := h
    rw [List.getElem?_nil] at h'
    cases h'
  | _ :: _, [], _, _, h => by
    have h' : ([] : List D)[_]? = some _ := h
    rw [List.getElem?_nil] at h'
    cases h'
theorem zipD_len : ∀ (l m : List D), (zipD l m).length = min l.length m.length
  | [], m => by
    show 0 = min 0 m.length
    rw [Nat.zero_min]
  | _ :: _, [] => by
    show 0 = min _ 0
    rw [Nat.min_zero]
  | x :: l, y :: m => by
    show (zipD l m).length + 1 = min (l.length + 1) (m.length + 1)
    rw [zipD_len l m, Nat.add_min_add_right]
theorem ei_zip {l m : List D} (h : Ev K R ta r (· = .lst l)) (g : Ev K R tb r (· = .lst m)) : EvI K R (iZip K (tCons ta (tCons tb tNil))) r (· = zipD l m) := fun M σ H hR ok inv e Q q =>
  h M σ H hR ok inv e _ fun v H1 d pd s1 i1 d1 => g M σ H1 hR (ok.stp s1) i1 (e.stp hR s1) _ fun w H2 d' pd' s2 i2 d2 => by
    subst pd pd'
    have d1' := d1.stp hR s2
    cases d1' with
    | @lst a xs _ h1 h2 =>
    cases d2 with
    | @lst b ys _ k1 k2 =>
    refine ⟨a, b, xs, ys, rfl, h1.sq, k1.sq, q _ H2 _ rfl (s1.trans s2) i2 ?_⟩
    intro M1 H3 hM ok3 kp i
    have key : ∀ {a : Addr} {xs : List V}, LstAt M H2 a xs → SqL K H3 a xs := fun {a xs} hh => by
      obtain ⟨n, z⟩ := hh
      have n1 : ¬ M1 a := fun y => by
        rcases hM a y with y | y
        · exact n y
        · rw [y] at z; cases z
      exact SqL.of (kp _ _ n1 z)
    have a1 := key h1
    have b1 := key k1
    have a2 : IsDs K M1 H3 xs l := (h2.grow hM).to (fun _ z => z) kp
    have b2 : IsDs K M1 H3 ys m := (k2.grow hM).to (fun _ z => z) kp
    rw [zipD_len]
    refine ⟨fun hi => ?_, fun hi => ⟨xs, ys, a1, b1, by rw [a2.len, b2.len]; omega⟩, fun x H' hy => ?_⟩
    · obtain ⟨v1, e1, _⟩ := a2.at_ (List.getElem?_eq_getElem (show i < l.length by omega))
      obtain ⟨v2, e2, _⟩ := b2.at_ (List.getElem?_eq_getElem (show i < m.length by omega))
      exact ⟨xs, ys, v1, v2, a1, b1, e1, e2⟩
    · obtain ⟨T, y1, y2, rfl, hT, rfl, hy1, hy2⟩ := hy
      refine ⟨same_new hT, fun d hd => ?_⟩
      obtain ⟨x1, x2, e1, e2, rfl⟩ := zipD_at hd
      obtain ⟨v1, f1, g1⟩ := a2.at_ e1
      obtain ⟨v2, f2, g2⟩ := b2.at_ e2
      have z1 := hy1 xs a1
      have z2 := hy2 ys b1
      rw [f1] at z1
      rw [f2] at z2
      cases z1
      cases z2
      exact .tup (.inl ⟨ok3.out hT, .inl upd_same⟩) (.cons (g1.same (same_new hT)) (.cons (g2.same (same_new hT)) .nil))
end
end Gv

namespace Gv
open PySem PySem.Spec PyProof.Rows L2
/-- a def that may be called: it keeps its promise at level k -/
def Cal (P : Program) (w : World) (K : PySem.W.Frag) (mg : Str → Option Value) (base : Heap) (CX : CXT) (k : Nat) (x : Str) (ps : List Str) (sp : Sp) : Prop :=
  ∃ f fd, FnOk P w K mg base CX k f fd ps sp ∧ mg x = some (.ref f) ∧ PySem.W.keepIn K (.ref f) = true ∧ Binds K fd ps []
theorem pe_calc {X : Cx} {CX : CXT} {k : Nat} {x : Str} {ps : List Str} {sp : Sp} {E : XK} {p pos : Pos} {e : Expr} {es : List Expr} {t : TA} (c : Cal X.prog X.w X.K X.mg X.base CX k x ps sp) (hr : Room k X.A) (hg : Gl X x) (hx : Passes CX X E) (ha : PA X (e :: es) t)
    (hdb : (x == ("__debug__" : Str)) = false := by decide) (he : starEach (e :: es) X.env = (false, eval e X.env) :: starEach es X.env := by rfl) (hpl : (backTo pos (starEach es X.env)).any (·.1) = false := by rfl) :
    PE X (.Call (.Name x p) (e :: es) [] pos) (tCall sp [] E t) := by
  obtain ⟨f, fd, F, hm, hk, hb⟩ := c
  exact pe_call F hr hg hm hk hb .nil hx ha hdb he hpl
/-- a def of the text, by its name -/
def Df (K : PySem.W.Frag) (mg : Str → Option Value) (x : Str) (st : Stmt) : Prop := ∃ f fd, FnP K x st f fd ∧ mg x = some (.ref f)
theorem Cal.mono {P : Program} {w : World} {K : PySem.W.Frag} {mg : Str → Option Value} {base : Heap} {CX : CXT} {j k : Nat} {x : Str} {ps : List Str} {sp : Sp} (c : Cal P w K mg base CX j x ps sp) (h : j ≤ k) : Cal P w K mg base CX k x ps sp := by
  obtain ⟨f, fd, F, hm, hk, hb⟩ := c
  exact ⟨f, fd, F.mono h, hm, hk, hb⟩
theorem cal_of {P : Program} {w : World} {K : PySem.W.Frag} {mg : Str → Option Value} {base : Heap} {CX : CXT} {N ps : List Str} {k : Nat} {x : Str} {st : Stmt} {sp : Sp} (d : Df K mg x st) (S : FnScope N ps (defScope st)) (len : ∀ vs H Q E, sp vs H Q E → vs.length = ps.length)
    (hb : ∀ (kV doc pm : Value) (an : Option Addr) (cdv ct : Value) (us : List Value), us.length = ps.length → bindArgs (PySem.W.fnOf x x (defArgs st) (defBody st) (defScope st) .none kV doc pm an cdv ct) ⟨us, []⟩ = pure (ps.zip us))
    (hbody : ∀ (f : Addr) (cdv : Value) (A : Around) (outer : List Env) (s : Shared) (H : Hp) (vs : List V) (Q : VK) (E : XK), Room k (A.deeper (envOfC x (defScope st) s.heap.objs.size f cdv)) → sp vs H Q E →
      ∃ t, PSs (cxOf CX P w K mg base N x (defScope st) f cdv A outer s H E) (defBody st) t ∧ t { nx := fun _ H' => Q .non H', rt := Q } (start N vs) H) : Cal P w K mg base CX (k + 1) x ps sp := by
  obtain ⟨f, fd, F, hm⟩ := d
  exact ⟨f, fd, F.ok S len (hbody f), hm, F.kp, F.bindsN hb⟩
theorem hu65 {k : Nat} {A : Around} (hr : Room k A) : A.units + 65 < cLine := by have := hr.un; omega
/-- what the head tells of names that are no defs -/
structure Nms (K : PySem.W.Frag) (mg : Str → Option Value) : Prop where
  len : mg "len" = none
  range : mg "range" = none
  isinstance : mg "isinstance" = none
  tuple : mg "tuple" = none
  all : mg "all" = none
  set : mg "set" = none
  sorted : mg "sorted" = none
  enumerate : mg "enumerate" = none
  int : mg "int" = none
  bool : mg "bool" = none
  str : mg "str" = none
  abs : mg "abs" = none
  list : mg "list" = none
  zip : mg "zip" = none
end Gv

namespace Gv
open PySem PySem.Spec PyProof.Rows L2
/-! ### the plain model -/
structure Reg where
  fits : List (List Nat)
  people : List Nat
  friends : List (Nat × Option Nat)
  barred : List (Nat × Nat)
structure Wo where
  day : Nat
  reg : Reg
  got : List Nat
  gave : List Nat
  due : List (Nat × Nat)
  away : List Nat
def Reg.fr (r : Reg) (f : Nat) : Nat × Option Nat := r.friends.getD f (0, none)
def Reg.own (r : Reg) (f : Nat) : Option Nat := (r.fr f).2
def Reg.tie (r : Reg) (f p : Nat) : Bool := if (decide (r.own f = some p) || decide ((f, p) ∈ r.barred)) = true then false else decide (r.people.getD p 0 ∈ r.fits.getD (r.fr f).1 [])
def Reg.ofP (r : Reg) (p : Nat) : List Nat := (List.range r.friends.length).filter fun i => decide (r.own i = some p)
def Reg.free (r : Reg) : List Nat := (List.range r.friends.length).filter fun i => (r.own i).isNone
def Wo.left (w : Wo) : List Nat := (List.range w.reg.people.length).filter fun p => !decide (p ∈ w.got) && !decide (p ∈ w.away)
def sortN (l : List Nat) : List Nat := l.mergeSort fun a b => decide (a ≤ b)
def leP (a b : Nat × Nat) : Bool := decide (a.1 < b.1 ∨ (a.1 = b.1 ∧ a.2 ≤ b.2))
def sortP (l : List (Nat × Nat)) : List (Nat × Nat) := l.mergeSort leP
def Wo.found (w : Wo) (l : List (Nat × Nat)) : List Nat := l.flatMap fun q => if q.1 ∈ w.away then [] else w.reg.ofP q.1
def Wo.givers (w : Wo) : List Nat := sortN ((w.reg.free.filter fun f => !decide (f ∈ w.gave)) ++ w.found w.due)
def Wo.linksOf (w : Wo) (l : List Nat) : List (Nat × Nat) := l.flatMap fun f => (w.left.filter fun p => w.reg.tie f p).map fun p => (f, p)
def Wo.links (w : Wo) : List (Nat × Nat) := w.linksOf w.givers
def Reg.isTie (r : Reg) (t : Nat × Nat) : Bool := (decide (t.1 < r.friends.length) && decide (t.2 < r.people.length)) && r.tie t.1 t.2
def firsts (l : List (Nat × Nat)) : List Nat := l.map (·.1)
def seconds (l : List (Nat × Nat)) : List Nat := l.map (·.2)
def Wo.isRing (w : Wo) (ts : List (Nat × Nat)) : Bool :=
  decide (2 ≤ ts.length) && ts.all w.reg.isTie && decide (lenSet ((seconds ts).map Int.ofNat) = ts.length) && (seconds ts).all (fun p => decide (p ∈ w.left)) &&
    decide ((seconds ts).map some = (ts.map fun t => w.reg.own t.1).drop 1 ++ (ts.map fun t => w.reg.own t.1).take 1)
inductive De where
  | test (f p : Nat) (b : Bool) | ring (ts : List (Nat × Nat)) | link (t : Nat × Nat) | away (p : Nat) | back (p : Nat) | come (k : Option Nat) (ks : List Nat) | day
def Wo.okD (w : Wo) : De → Bool
  | .test f p _ => decide (f < w.reg.friends.length) && (decide (p < w.reg.people.length) && w.reg.tie f p)
  | .ring ts => w.isRing ts
  | .link t => (decide (t.1 < w.reg.friends.length) && decide (t.2 < w.reg.people.length)) && decide (t ∈ w.links)
  | .away p => decide (p < w.reg.people.length) && !decide (p ∈ w.away)
  | .back p => decide (p < w.reg.people.length) && decide (p ∈ w.away)
  | .come k ks => (k.isNone || (decide (k.getD 0 < w.reg.fits.length) && decide (w.reg.people.length < 60))) && ks.all (fun k => decide (k < w.reg.fits.length)) && decide (w.reg.friends.length + ks.length ≤ 120)
  | .day => true
def Reg.later (r : Reg) (k : Option Nat) (ks : List Nat) : Reg :=
  { r with people := r.people ++ k.toList, friends := r.friends ++ ks.map fun i => (i, k.map fun _ => r.people.length) }
inductive Step (w : Wo) : De → Wo → Prop
  | test0 (f p : Nat) (l : List (Nat × Nat)) : l.length ≤ w.reg.barred.length + 1 → Step w (.test f p false) { w with reg := { w.reg with barred := l } }
  | test1 (f p : Nat) : Step w (.test f p true) w
  | ring (ts : List (Nat × Nat)) : Step w (.ring ts) { w with got := sortN (w.got ++ seconds ts), gave := sortN (w.gave ++ firsts ts) }
  | link (t : Nat × Nat) : Step w (.link t) { w with got := sortN (w.got ++ [t.2]), gave := sortN (w.gave ++ [t.1]), due := sortP ((w.due.filter fun q => !decide (w.reg.own t.1 = some q.1)) ++ if 0 < (w.reg.ofP t.2).length then [(t.2, w.day)] else []) }
  | away (p : Nat) : Step w (.away p) { w with away := sortN (w.away ++ [p]) }
  | back (p : Nat) : Step w (.back p) { w with away := w.away.filter fun q => !decide (q = p) }
  | come (k : Option Nat) (ks : List Nat) : Step w (.come k ks) { w with reg := w.reg.later k ks }
  | day : Step w .day { w with day := w.day + 1 }
/-! ### encodings -/
abbrev eT (l : List Nat) : D := .tup (l.map eN)
abbrev eF (f : Nat × Option Nat) : D := .tup [eN f.1, eO f.2]
abbrev ePs (l : List (Nat × Nat)) : D := .tup (l.map eP)
abbrev eReg (r : Reg) : D := .tup [.tup (r.fits.map eT), eT r.people, .tup (r.friends.map eF), ePs r.barred]
abbrev eW (w : Wo) : D := .tup [eN w.day, eReg w.reg, eT w.got, eT w.gave, ePs w.due, eT w.away]
def De.nm : De → Str
  | .test _ _ _ => "test"
  | .ring _ => "ring"
  | .link _ => "link"
  | .away _ => "away"
  | .back _ => "back"
  | .come _ _ => "come"
  | .day => "day"
def De.args : De → List D
  | .test f p b => [eN f, eN p, .bl b]
  | .ring ts => [ePs ts]
  | .link t => [eP t]
  | .away p => [eN p]
  | .back p => [eN p]
  | .come k ks => [eO k, eT ks]
  | .day => []
abbrev eD (d : De) : D := .tup (.str d.nm :: d.args)
def De.Sz : De → Prop
  | .ring ts => ts.length ≤ 1000
  | .come _ ks => ks.length ≤ 1000
  | _ => True
/-! ### bounds -/
structure Reg.Wf (B : Nat) (r : Reg) : Prop where
  hB : B ≤ 1000
  people : r.people.length ≤ B
  friends : r.friends.length ≤ B
  barred : r.barred.length ≤ B
  barred100 : r.barred.length ≤ 100
  kind : ∀ x ∈ r.friends, x.1 < r.fits.length
  own : ∀ x ∈ r.friends, ∀ o, x.2 = some o → o < r.people.length
structure Wo.Wf (B : Nat) (w : Wo) : Prop where
  reg : w.reg.Wf B
  got : w.got.length ≤ B
  gave : w.gave.length ≤ B
  due : w.due.length ≤ B
  due60 : w.due.length < 64
  p100 : w.reg.people.length ≤ 100
  away : w.away.length ≤ B
  givers : ∀ f ∈ w.gave, f < w.reg.friends.length
theorem Reg.Wf.fr {B : Nat} {r : Reg} (h : r.Wf B) {f : Nat} (hf : f < r.friends.length) : (r.fr f).1 < r.fits.length := by
  unfold Reg.fr
  rw [List.getD_eq_getElem?_getD, List.getElem?_eq_getElem hf, Option.getD_some]
  exact h.kind _ (List.getElem_mem hf)
theorem Reg.Wf.fo {B : Nat} {r : Reg} (h : r.Wf B) {f o : Nat} (hf : f < r.friends.length) (e : r.own f = some o) : o < r.people.length := by
  unfold Reg.own Reg.fr at e
  rw [List.getD_eq_getElem?_getD, List.getElem?_eq_getElem hf, Option.getD_some] at e
  exact h.own _ (List.getElem_mem hf) _ e
/-! ### rules over these encodings -/
theorem atI_nat {α : Type} {l : List α} {i : Nat} (h : i < l.length) : atI l (i : Int) = l[i]? := by
  unfold atI ixN
  have h1 : ¬ ((i : Int) < 0) := by omega
  have h2 : (i : Int).toNat = i := rfl
  simp [h, h1, h2]
theorem atM {α : Type} {f : α → D} {l : List α} {i : Nat} (h : i < l.length) (z : α) : atI (l.map f) (i : Int) = some (f (l.getD i z)) := by
  rw [atI_nat (by rw [List.length_map]; exact h), List.getElem?_map, List.getElem?_eq_getElem h, List.getD_eq_getElem?_getD, List.getElem?_eq_getElem h]
  rfl
theorem enumD_map {α : Type} {f : α → D} (l : List α) (z : α) : enumD (l.map f) = (List.range l.length).map fun i => D.tup [eN i, f (l.getD i z)] := by
  unfold enumD
  rw [List.length_map]
  refine List.map_congr_left fun i hi => ?_
  have hi := List.mem_range.mp hi
  rw [List.getD_eq_getElem?_getD, List.getElem?_map, List.getD_eq_getElem?_getD, List.getElem?_eq_getElem hi]
  rfl
theorem sortN_perm (l : List Nat) : (sortN l).Perm l := List.mergeSort_perm l _
theorem sortN_pw (l : List Nat) : (sortN l).Pairwise (· ≤ ·) := by
  have h := List.pairwise_mergeSort (le := fun a b : Nat => decide (a ≤ b)) (fun a b c h1 h2 => by simp at h1 h2 ⊢; omega) (fun a b => by simp; omega) l
  exact h.imp fun h => of_decide_eq_true h
theorem sortN_len (l : List Nat) : (sortN l).length = l.length := (sortN_perm l).length_eq
theorem sortP_perm (l : List (Nat × Nat)) : (sortP l).Perm l := List.mergeSort_perm l _
theorem leP_iff {a b : Nat × Nat} : leP a b = true ↔ (a.1 < b.1 ∨ (a.1 = b.1 ∧ a.2 ≤ b.2)) := decide_eq_true_iff
theorem sortP_pw (l : List (Nat × Nat)) : (sortP l).Pairwise fun a b => leP a b = true :=
  List.pairwise_mergeSort (le := leP) (fun a b c h1 h2 => by rw [leP_iff] at *; omega) (fun a b => by rw [Bool.or_eq_true, leP_iff, leP_iff]; omega) l
theorem mapN (l : List Nat) : l.map eN = (l.map Int.ofNat).map D.int := by rw [List.map_map]; rfl
section
variable {K : PySem.W.Frag} {R : Rg} {r : REnv} {te ta tb : TE} {tt : TT} {P : D → Prop}
theorem ef_sortedN {l : List Nat} (h : EvV K R te r (· = .lst (l.map eN))) : EvF K R (tCB (rSortedI K) (tCons te tNil)) r (· = (sortN l).map eN) := by
  refine (ef_sorted (l := l.map Int.ofNat) (h.imp fun d e => by rw [e, mapN])).imp fun ds ⟨l', hp, hs, e⟩ => ?_
  rw [e, mapN]
  congr 1
  refine perm_sorted_unique (hp.trans ((sortN_perm l).map _).symm) hs ?_
  rw [List.pairwise_map]
  exact (sortN_pw l).imp fun h => Int.ofNat_le.mpr h
theorem ei_enumM {α : Type} {f : α → D} {l : List α} (z : α) (h : Ev K R te r (· = .tup (l.map f))) : EvI K R (iEnumT K (tCons te tNil)) r (· = (List.range l.length).map fun i => D.tup [eN i, f (l.getD i z)]) :=
  (ei_enumT h).imp fun ds e => by rw [e, enumD_map l z]
theorem opR_inN {n : Nat} {l : List Nat} : OpD K (rIn K false) (eN n) (eT l) (· = .bl (decide (n ∈ l))) := op_inN rfl (.inl rfl)
theorem opR_inNL {n : Nat} {l : List Nat} : OpD K (rIn K false) (eN n) (.lst (l.map eN)) (· = .bl (decide (n ∈ l))) := op_inN rfl (.inr rfl)
theorem opR_ninN {n : Nat} {l : List Nat} : OpD K (rIn K true) (eN n) (eT l) (· = .bl (!decide (n ∈ l))) := op_ninN rfl (.inl rfl)
theorem opR_ninNL {n : Nat} {l : List Nat} : OpD K (rIn K true) (eN n) (.lst (l.map eN)) (· = .bl (!decide (n ∈ l))) := op_ninN rfl (.inr rfl)
theorem opR_inP {p : Nat × Nat} {l : List (Nat × Nat)} : OpD K (rInDT K) (eP p) (ePs l) (· = .bl (decide (p ∈ l))) := by
  have h := op_inT (K := K) pl_P (z := p) (l := l) rfl rfl
  refine fun rm M H v w ok a b Q q => h rm M H v w ok a b Q fun z H' d e => q z H' d (e.trans (congrArg D.bl (decide_eq_decide.mpr Iff.rfl)))
theorem opR_ninP {p : Nat × Nat} {l : List (Nat × Nat)} : OpD K (rNotInDT K) (eP p) (ePs l) (· = .bl (!decide (p ∈ l))) := by
  have h := op_notInT (K := K) pl_P (z := p) (l := l) rfl rfl
  refine fun rm M H v w ok a b Q q => h rm M H v w ok a b Q fun z H' d e => q z H' d (e.trans (congrArg (fun b => D.bl !b) (decide_eq_decide.mpr Iff.rfl)))
theorem lt_nat (a b : Nat) : (decide ((a : Int) < (b : Int))) = decide (a < b) := by simp
theorem le_nat (a b : Nat) : (decide ((a : Int) ≤ (b : Int))) = decide (a ≤ b) := by simp
end
end Gv
namespace Gv
open PySem PySem.Spec PyProof.Rows L2
theorem flatS : ∀ l : List Str, (l.map D.str).all D.flat = true
  | [] => rfl
  | y :: l => by
    rw [List.map_cons, List.all_cons, flatS l]
    rfl
theorem any_flatS (s : Str) : ∀ l : List Str, ((l.map D.str).any fun z => eqF z (D.str s)) = decide (s ∈ l)
  | [] => rfl
  | y :: l => by
    rw [List.map_cons, List.any_cons, any_flatS s l]
    show ((y == s) || _) = _
    by_cases e : y = s
    · subst e; simp
    · have e' : ¬ s = y := fun z => e z.symm
      simp [e, e']
end Gv
namespace Gv
def OkOc (W : Wo) (d : De) : Option (D → Prop) := if W.okD d = true then some (fun x => ∃ W', Step W d W' ∧ x = eW W') else none
theorem okOc0 {W : Wo} {d : De} (h : W.okD d = false) : OkOc W d = none := if_neg (by rw [h]; exact Bool.false_ne_true)
theorem okOc1 {W W' : Wo} {d : De} (h : W.okD d = true) (s : Step W d W') : ∃ P, OkOc W d = some P ∧ P (eW W') := ⟨_, if_pos h, W', s, rfl⟩
end Gv

namespace Gv
open PySem PySem.Spec PyProof.Rows L2
section
variable {K : PySem.W.Frag} {R : Rg} {W : Addr → Prop} {E : XK} {C : Addr} {M : Addr → Prop} {H H' : Hp} {r : REnv} {te ta tb : TE} {tt : TT} {ts tu : TS} {N N' : REnv → Prop} {Rt Rt' : D → Prop} {X : Prop} {x : D}
theorem run_let {g : TG} {js : List Nat} {f : REnv → REnv} (h : Ev K R te r (· = x)) (tg : TgD K g x js f) (k : Run K C R W E tu (f r) N Rt X) : Run K C R W E (tSeq (tAsg te g) tu) r N Rt X :=
  run_seq (N := (· = f r)) (run_asgT h tg rfl) fun _ e => by rw [e]; exact k
theorem run_let1 {i : Nat} (h : Ev K R te r (· = x)) (k : Run K C R W E tu (r.set i (some (.d x))) N Rt X) : Run K C R W E (tSeq (tAsg te (gName i)) tu) r N Rt X :=
  run_let h tg_name k
theorem run_letP {i : Nat} {P : D → Prop} (h : Ev K R te r P) (k : ∀ d, P d → Run K C R W E tu (r.set i (some (.d d))) N Rt X) : Run K C R W E (tSeq (tAsg te (gName i)) tu) r N Rt X :=
  run_seq (N := fun r' => ∃ d, P d ∧ r' = r.set i (some (.d d))) (run_asg h fun d p => ⟨d, p, rfl⟩) fun _ ⟨d, p, e⟩ => by rw [e]; exact k d p
theorem run_whenR {b : Bool} (h : EvT K R tt r (· = b)) (h1 : b = true → Run K C R W E ts r (fun _ => False) Rt X) (h2 : b = false → Run K C R W E tu r N Rt X) : Run K C R W E (tSeq (tIfS tt ts tNext) tu) r N Rt X :=
  run_when h (fun e => run_seq (h1 e) fun _ z => z.elim) h2
theorem run_whenRT {P : Bool → Prop} (h : EvT K R tt r P) (h1 : P true → Run K C R W E ts r (fun _ => False) Rt X) (h2 : P false → Run K C R W E tu r N Rt X) : Run K C R W E (tSeq (tIfS tt ts tNext) tu) r N Rt X :=
  run_seq (N := fun r' => r' = r ∧ P false) (run_if h (fun e => (h1 e).imp (fun _ z => z.elim) fun _ z => z) (fun e => run_next ⟨rfl, e⟩)) fun _ ⟨e, p⟩ => by rw [e]; exact h2 p
theorem run_retE {d : D} (h : Ev K R te r (· = x)) (e : x = d) : Run K C R W E (tRet te) r N (fun z => ∃ P : D → Prop, some (fun y => y = d) = some P ∧ P z) X := run_ret1 h ⟨_, rfl, e⟩
/-- two names at once -/
theorem run_parL {i j : Nat} {ta : TA} {x y : D} (h : EvA K R ta r (· = [x, y])) (k : Run K C R W E tu ((r.set i (some (.d x))).set j (some (.d y))) N Rt X) : Run K C R W E (tSeq (tPar i j ta) tu) r N Rt X :=
  run_seq (N := (· = (r.set i (some (.d x))).set j (some (.d y)))) (run_par1 h rfl) fun _ e => by rw [e]; exact k
end
end Gv
namespace Gv
open PySem
theorem sz0 : 0 ≤ sizeLine := by decide
theorem sz1 : 1 ≤ sizeLine := by decide
theorem sz2 : 2 ≤ sizeLine := by decide
theorem sz3 : 3 ≤ sizeLine := by decide
theorem sz4 : 4 ≤ sizeLine := by decide
theorem sz5 : 5 ≤ sizeLine := by decide
theorem sz6 : 6 ≤ sizeLine := by decide
theorem szB {n : Nat} (h : n ≤ 16777215) : n < sizeLine := by show n < 16777216; omega
theorem szC {n : Nat} (h : n ≤ 16777216) : n ≤ sizeLine := h
end Gv
namespace Gv
open PySem PySem.Spec PyProof.Rows L2
/-- slots of data -/
def slD (xs : List (Option D)) : REnv := xs.map (Option.map SD.d)
theorem ho_set {xs : List (Option D)} {i : Nat} {p : Addr} {ds : List D} : ∀ j q l, j ≠ i → ((slD xs).set i (some (.own p ds)))[j]? = some (some (.own q l)) → q ≠ p := fun j q l hj h => by
  rw [List.getElem?_set_ne (Ne.symm hj)] at h
  unfold slD at h
  rw [List.getElem?_map] at h
  cases e : xs[j]? with
  | none => rw [e] at h; cases h
  | some o =>
    rw [e] at h
    cases o with
    | none => simp at h
    | some d => simp at h
theorem found_len (w : Wo) {B : Nat} (h : w.reg.friends.length ≤ B) : ∀ l : List (Nat × Nat), (w.found l).length ≤ l.length * B
  | [] => Nat.zero_le _
  | q :: l => by
    have ih := found_len w h l
    have e : w.found (q :: l) = (if q.1 ∈ w.away then [] else w.reg.ofP q.1) ++ w.found l := rfl
    rw [e, List.length_append, List.length_cons, Nat.succ_mul]
    have h1 : (if q.1 ∈ w.away then [] else w.reg.ofP q.1).length ≤ B := by
      split
      · exact Nat.zero_le _
      · unfold Reg.ofP
        refine Nat.le_trans (List.length_filter_le _ _) ?_
        rw [List.length_range]
        exact h
    omega
theorem found_snoc (w : Wo) (l : List (Nat × Nat)) (x : Nat × Nat) : w.found (l ++ [x]) = w.found l ++ (if x.1 ∈ w.away then [] else w.reg.ofP x.1) := by
  unfold Wo.found
  rw [List.flatMap_append]
  congr 1
  simp
theorem free_lt {r : Reg} {f : Nat} (h : f ∈ r.free) : f < r.friends.length := List.mem_range.mp (List.mem_filter.mp h).1
theorem ofP_lt {r : Reg} {f p : Nat} (h : f ∈ r.ofP p) : f < r.friends.length := List.mem_range.mp (List.mem_filter.mp h).1
theorem left_lt {w : Wo} {p : Nat} (h : p ∈ w.left) : p < w.reg.people.length := List.mem_range.mp (List.mem_filter.mp h).1
theorem givers_lt {w : Wo} {f : Nat} (h : f ∈ w.givers) : f < w.reg.friends.length := by
  have h := (sortN_perm _).mem_iff.mp h
  rcases List.mem_append.mp h with h | h
  · exact free_lt (List.mem_filter.mp h).1
  · obtain ⟨q, _, h⟩ := List.mem_flatMap.mp h
    split at h
    · cases h
    · exact ofP_lt h
theorem left_len (w : Wo) : w.left.length ≤ w.reg.people.length := by
  refine Nat.le_trans (List.length_filter_le _ _) ?_
  rw [List.length_range]
  exact Nat.le_refl _
theorem free_len (r : Reg) : r.free.length ≤ r.friends.length := by
  refine Nat.le_trans (List.length_filter_le _ _) ?_
  rw [List.length_range]
  exact Nat.le_refl _
theorem givers_len {w : Wo} {B : Nat} (h : w.Wf B) : w.givers.length ≤ 65 * B := by
  unfold Wo.givers
  rw [sortN_len, List.length_append]
  have h1 := found_len w h.reg.friends w.due
  have h2 := free_len w.reg
  have h3 := List.length_filter_le (fun f => !decide (f ∈ w.gave)) w.reg.free
  have h4 := h.reg.friends
  have h5 := h.due60
  have h6 : w.due.length * B ≤ 63 * B := Nat.mul_le_mul_right _ (by omega)
  omega
theorem linksOf_snoc (w : Wo) (l : List Nat) (x : Nat) : w.linksOf (l ++ [x]) = w.linksOf l ++ ((w.left.filter fun p => w.reg.tie x p).map fun p => (x, p)) := by
  unfold Wo.linksOf
  rw [List.flatMap_append]
  congr 1
  simp
theorem linksOf_len (w : Wo) : ∀ l : List Nat, (w.linksOf l).length ≤ l.length * w.left.length
  | [] => Nat.zero_le _
  | q :: l => by
    have ih := linksOf_len w l
    have e : w.linksOf (q :: l) = ((w.left.filter fun p => w.reg.tie q p).map fun p => (q, p)) ++ w.linksOf l := rfl
    rw [e, List.length_append, List.length_cons, Nat.succ_mul, List.length_map]
    have h1 := List.length_filter_le (fun p => w.reg.tie q p) w.left
    omega
theorem cut_tl (l : List D) : cutD l (some 1) none = l.drop 1 := by
  unfold cutD
  cases l with
  | nil => simp
  | cons x l =>
    have e1 : HT.sIx (x :: l).length 0 (some 1) = 1 := by simp [HT.sIx]
    have e2 : HT.sIx (x :: l).length (x :: l).length none = (x :: l).length := by simp [HT.sIx]
    rw [e1, e2]
    rw [List.take_of_length_le (by simp)]
theorem cut_hd (l : List D) : cutD l none (some 1) = l.take 1 := by
  unfold cutD
  cases l with
  | nil => simp
  | cons x l =>
    have e1 : HT.sIx (x :: l).length (x :: l).length (some 1) = 1 := by simp [HT.sIx]
    have e2 : HT.sIx (x :: l).length 0 none = 0 := by simp [HT.sIx]
    rw [e1, e2]
    rfl
end Gv

namespace Gv
open PySem PySem.Spec PyProof.Rows L2
section
variable {P : Program} {w : World} {K : PySem.W.Frag} {mg : Str → Option Value} {base : Heap} {C : Addr}
def g_is_integer : List D → Oc → Prop := fun ds oc => ∃ n : Nat, ds = [eN n] ∧ oc = some (· = .bl true)
abbrev C_is_integer (P : Program) (w : World) (K : PySem.W.Frag) (mg : Str → Option Value) (base : Heap) (C : Addr) : Prop := Cal P w K mg base CX0 2 "is_integer" ["value"] (SpD K C R0 g_is_integer)
theorem sc_is_integer : FnScope ["value"] ["value"] (defScope s_is_integer) := ⟨rfl, rfl, rfl, by decide +kernel, rfl, by decide +kernel, by decide +kernel⟩
theorem len_is_integer : ∀ ds oc, g_is_integer ds oc → ds.length = 1 := fun _ _ ⟨_, e, _⟩ => by rw [e]; rfl
theorem cal_is_integer (d : Df K mg "is_integer" s_is_integer) (T : Nms K mg)   : C_is_integer P w K mg base C := by
  refine cal_of d sc_is_integer (SpD.len len_is_integer) (fun _ _ _ _ _ _ us hl => match us, hl with | [_], _ => rfl) fun f cdv A outer s H vs Q E hr h => ⟨_, PSs.nox (pss_one (ps_ret (pe_and (pe_callB call_isi rfl T.isinstance (by decide +kernel) (pa_cons (pv 0) (pa_cons (pe_bltn (v := .ty "int") rfl T.int (by decide +kernel) rfl) pa_nil))) (pe_one (pe_not (pe_callB call_isi rfl T.isinstance (by decide +kernel) (pa_cons (pv 0) (pa_cons (pe_bltn (v := .ty "bool") rfl T.bool (by decide +kernel) rfl) pa_nil)))))))),
    def_run h fun ds oc g => by
    obtain ⟨n, rfl, rfl⟩ := g
    exact run_retE (ev_and1 (ev_isi (.inl rfl) (fun _ => by nofun) (ev_var rfl)) fun _ => ev_not (ev_isi (.inr (.inl rfl)) (fun _ => by nofun) (ev_var rfl))) rfl
    ⟩
def g_is_number : List D → Oc → Prop := fun ds oc => ∃ n : Nat, ds = [eN n] ∧ oc = some (· = .bl true)
abbrev C_is_number (P : Program) (w : World) (K : PySem.W.Frag) (mg : Str → Option Value) (base : Heap) (C : Addr) : Prop := Cal P w K mg base CX0 3 "is_number" ["value"] (SpD K C R0 g_is_number)
theorem sc_is_number : FnScope ["value"] ["value"] (defScope s_is_number) := ⟨rfl, rfl, rfl, by decide +kernel, rfl, by decide +kernel, by decide +kernel⟩
theorem len_is_number : ∀ ds oc, g_is_number ds oc → ds.length = 1 := fun _ _ ⟨_, e, _⟩ => by rw [e]; rfl
theorem cal_is_number (d : Df K mg "is_number" s_is_number) (T : Nms K mg) (c_is_integer : C_is_integer P w K mg base C)  : C_is_number P w K mg base C := by
  refine cal_of d sc_is_number (SpD.len len_is_number) (fun _ _ _ _ _ _ us hl => match us, hl with | [_], _ => rfl) fun f cdv A outer s H vs Q E hr h => ⟨_, PSs.nox (pss_one (ps_ret (pe_and (pe_calc c_is_integer (hr.mono (by decide)) rfl pass0 (pa_cons (pv 0) pa_nil)) (pe_one (pe_cmpR op_ge (pv 0) pe_int (nomark _)))))),
    def_run h fun ds oc g => by
    obtain ⟨n, rfl, rfl⟩ := g
    exact run_retE (ev_and1 (ev_call1 (ea_c (ev_var rfl) ea_nil) ⟨n, rfl, rfl⟩) fun _ => ev_op1 (ev_var rfl).v ev_int.v op_ib) (by simp)
    ⟩
def g_is_index : List D → Oc → Prop := fun ds oc => ∃ n m : Nat, ds = [eN n, eN m] ∧ oc = some (· = .bl (decide (n < m)))
abbrev C_is_index (P : Program) (w : World) (K : PySem.W.Frag) (mg : Str → Option Value) (base : Heap) (C : Addr) : Prop := Cal P w K mg base CX0 4 "is_index" ["value", "many"] (SpD K C R0 g_is_index)
theorem sc_is_index : FnScope ["value", "many"] ["value", "many"] (defScope s_is_index) := ⟨rfl, rfl, rfl, by decide +kernel, rfl, by decide +kernel, by decide +kernel⟩
theorem len_is_index : ∀ ds oc, g_is_index ds oc → ds.length = 2 := fun _ _ ⟨_, _, e, _⟩ => by rw [e]; rfl
theorem cal_is_index (d : Df K mg "is_index" s_is_index) (T : Nms K mg) (c_is_number : C_is_number P w K mg base C)  : C_is_index P w K mg base C := by
  refine cal_of d sc_is_index (SpD.len len_is_index) (fun _ _ _ _ _ _ us hl => match us, hl with | [_, _], _ => rfl) fun f cdv A outer s H vs Q E hr h => ⟨_, PSs.nox (pss_one (ps_ret (pe_and (pe_calc c_is_number (hr.mono (by decide)) rfl pass0 (pa_cons (pv 0) pa_nil)) (pe_one (pe_cmpR op_lt (pv 0) (pv 1) (nomark _)))))),
    def_run h fun ds oc g => by
    obtain ⟨n, m, rfl, rfl⟩ := g
    exact run_retE (ev_and1 (ev_call1 (ea_c (ev_var rfl) ea_nil) ⟨n, rfl, rfl⟩) fun _ => ev_op1 (ev_var rfl).v (ev_var rfl).v op_ib) (by simp)
    ⟩
def g_is_row_of : List D → Oc → Prop := fun ds oc => ∃ (l : List D) (k : Nat), ds = [.tup l, .tup [eN k]] ∧ oc = some (· = .bl (decide (l.length = k)))
abbrev C_is_row_of (P : Program) (w : World) (K : PySem.W.Frag) (mg : Str → Option Value) (base : Heap) (C : Addr) : Prop := Cal P w K mg base CX0 2 "is_row_of" ["value", "sizes"] (SpD K C R0 g_is_row_of)
theorem sc_is_row_of : FnScope ["value", "sizes"] ["value", "sizes"] (defScope s_is_row_of) := ⟨rfl, rfl, rfl, by decide +kernel, rfl, by decide +kernel, by decide +kernel⟩
theorem len_is_row_of : ∀ ds oc, g_is_row_of ds oc → ds.length = 2 := fun _ _ ⟨_, _, e, _⟩ => by rw [e]; rfl
theorem cal_is_row_of (d : Df K mg "is_row_of" s_is_row_of) (T : Nms K mg)   : C_is_row_of P w K mg base C := by
  refine cal_of d sc_is_row_of (SpD.len len_is_row_of) (fun _ _ _ _ _ _ us hl => match us, hl with | [_, _], _ => rfl) fun f cdv A outer s H vs Q E hr h => ⟨_, PSs.nox (pss_one (ps_ret (pe_and (pe_callB call_isi rfl T.isinstance (by decide +kernel) (pa_cons (pv 0) (pa_cons (pe_bltn (v := .ty "tuple") rfl T.tuple (by decide +kernel) rfl) pa_nil))) (pe_one (pe_cmpR op_in_seq (pe_callB call_len_seq rfl T.len (by decide +kernel) (pa_cons (pv 0) pa_nil)) (pv 1) rfl))))),
    def_run h fun ds oc g => by
    obtain ⟨l, k, rfl, rfl⟩ := g
    exact run_retE (ev_and1 (ev_isi (.inr (.inr (.inr rfl))) (fun _ => by nofun) (ev_var rfl)) fun _ => ev_op1 (ev_len (ev_var rfl).v (.inl rfl)).v (ev_var rfl).v (opR_inN (n := l.length) (l := [k]))) (by
      have e : D.isT "tuple" (.tup l) = true := rfl
      rw [e]
      simp)
    ⟩
def g_is_word_of : List D → Oc → Prop := fun ds oc => ∃ (s : Str) (l : List Str), ds = [.str s, .tup (l.map D.str)] ∧ oc = some (· = .bl (decide (s ∈ l)))
abbrev C_is_word_of (P : Program) (w : World) (K : PySem.W.Frag) (mg : Str → Option Value) (base : Heap) (C : Addr) : Prop := Cal P w K mg base CX0 2 "is_word_of" ["value", "words"] (SpD K C R0 g_is_word_of)
theorem sc_is_word_of : FnScope ["value", "words"] ["value", "words"] (defScope s_is_word_of) := ⟨rfl, rfl, rfl, by decide +kernel, rfl, by decide +kernel, by decide +kernel⟩
theorem len_is_word_of : ∀ ds oc, g_is_word_of ds oc → ds.length = 2 := fun _ _ ⟨_, _, e, _⟩ => by rw [e]; rfl
theorem cal_is_word_of (d : Df K mg "is_word_of" s_is_word_of) (T : Nms K mg)   : C_is_word_of P w K mg base C := by
  refine cal_of d sc_is_word_of (SpD.len len_is_word_of) (fun _ _ _ _ _ _ us hl => match us, hl with | [_, _], _ => rfl) fun f cdv A outer s H vs Q E hr h => ⟨_, PSs.nox (pss_one (ps_ret (pe_and (pe_callB call_isi rfl T.isinstance (by decide +kernel) (pa_cons (pv 0) (pa_cons (pe_bltn (v := .ty "str") rfl T.str (by decide +kernel) rfl) pa_nil))) (pe_one (pe_cmpR op_in_seq (pv 0) (pv 1) rfl))))),
    def_run h fun ds oc g => by
    obtain ⟨s, l, rfl, rfl⟩ := g
    exact run_retE (ev_and1 (ev_isi (.inr (.inr (.inl rfl))) (fun _ => by nofun) (ev_var rfl)) fun _ => ev_op1 (ev_var rfl).v (ev_var rfl).v (op_in (l := l.map D.str) rfl (flatS l) (.inl rfl))) (by
      have e : D.isT "str" (.str s) = true := rfl
      rw [e, if_neg Bool.false_ne_true, any_flatS, Bool.true_and])
    ⟩
def g_is_pair_of : List D → Oc → Prop := fun ds oc => ∃ (t : Nat × Nat) (m n : Nat), ds = [eP t, eN m, eN n] ∧ oc = some (· = .bl (decide (t.1 < m) && decide (t.2 < n)))
abbrev C_is_pair_of (P : Program) (w : World) (K : PySem.W.Frag) (mg : Str → Option Value) (base : Heap) (C : Addr) : Prop := Cal P w K mg base CX0 5 "is_pair_of" ["value", "first", "second"] (SpD K C R0 g_is_pair_of)
theorem sc_is_pair_of : FnScope ["value", "first", "second"] ["value", "first", "second"] (defScope s_is_pair_of) := ⟨rfl, rfl, rfl, by decide +kernel, rfl, by decide +kernel, by decide +kernel⟩
theorem len_is_pair_of : ∀ ds oc, g_is_pair_of ds oc → ds.length = 3 := fun _ _ ⟨_, _, _, e, _⟩ => by rw [e]; rfl
theorem cal_is_pair_of (d : Df K mg "is_pair_of" s_is_pair_of) (T : Nms K mg) (c_is_index : C_is_index P w K mg base C) (c_is_row_of : C_is_row_of P w K mg base C)  : C_is_pair_of P w K mg base C := by
  refine cal_of d sc_is_pair_of (SpD.len len_is_pair_of) (fun _ _ _ _ _ _ us hl => match us, hl with | [_, _, _], _ => rfl) fun f cdv A outer s H vs Q E hr h => ⟨_, PSs.nox (pss_one (ps_ret (pe_and (pe_calc c_is_row_of (hr.mono (by decide)) rfl pass0 (pa_cons (pv 0) (pa_cons (pe_tup (pa_cons pe_int pa_nil)) pa_nil))) (pe_and (pe_calc c_is_index (hr.mono (by decide)) rfl pass0 (pa_cons (pe_ix ix_tup (pv 0) pe_int (fun _ _ => rfl)) (pa_cons (pv 1) pa_nil))) (pe_one (pe_calc c_is_index (hr.mono (by decide)) rfl pass0 (pa_cons (pe_ix ix_tup (pv 0) pe_int (fun _ _ => rfl)) (pa_cons (pv 2) pa_nil)))))))),
    def_run h fun ds oc g => by
    obtain ⟨t, m, n, rfl, rfl⟩ := g
    exact run_retE (ev_and1 (ev_call1 (ea_c (ev_var rfl) (ea_c (ev_tup1 (ea_c ev_int ea_nil) (by decide)) ea_nil)) ⟨[eN t.1, eN t.2], 2, rfl, rfl⟩) fun _ => ev_and1
      (ev_call1 (ea_c (ev_op1 (ev_var rfl).v ev_int.v (op_ixT rfl)) (ea_c (ev_var rfl) ea_nil)) ⟨t.1, m, rfl, rfl⟩) fun _ => ev_call1 (ea_c (ev_op1 (ev_var rfl).v ev_int.v (op_ixT rfl)) (ea_c (ev_var rfl) ea_nil)) ⟨t.2, n, rfl, rfl⟩) (by simp)
    ⟩
def g_has_tie : List D → Oc → Prop := fun ds oc => ∃ (B : Nat) (rg : Reg) (f p : Nat), ds = [eReg rg, eN f, eN p] ∧ (rg.Wf B ∧ f < rg.friends.length ∧ p < rg.people.length) ∧ oc = some (· = .bl (rg.tie f p))
abbrev C_has_tie (P : Program) (w : World) (K : PySem.W.Frag) (mg : Str → Option Value) (base : Heap) (C : Addr) : Prop := Cal P w K mg base CX0 2 "has_tie" ["registry", "friend", "person"] (SpD K C R0 g_has_tie)
theorem sc_has_tie : FnScope ["registry", "friend", "person", "kind", "owner"] ["registry", "friend", "person"] (defScope s_has_tie) := ⟨rfl, rfl, rfl, by decide +kernel, rfl, by decide +kernel, by decide +kernel⟩
theorem len_has_tie : ∀ ds oc, g_has_tie ds oc → ds.length = 3 := fun _ _ ⟨_, _, _, _, e, _⟩ => by rw [e]; rfl
theorem cal_has_tie (d : Df K mg "has_tie" s_has_tie) (T : Nms K mg)   : C_has_tie P w K mg base C := by
  refine cal_of d sc_has_tie (SpD.len len_has_tie) (fun _ _ _ _ _ _ us hl => match us, hl with | [_, _, _], _ => rfl) fun f cdv A outer s H vs Q E hr h => ⟨_, PSs.nox (pss_cons (ps_asg (pe_ix ix_tup (pe_ix ix_tup (pv 0) pe_int (fun _ _ => rfl)) (pv 1) (fun _ _ => rfl)) (pg_tup rfl (pgs_cons (pg_name (i := 3) sc_has_tie.nd rfl (Or.inl rfl)) (pgs_cons (pg_name (i := 4) sc_has_tie.nd rfl (Or.inl rfl)) pgs_nil))))
    (pss_cons (ps_if (PW.pt (pw_or (pt_cmpR op_eq (pv 4) (pv 2) (nomark _)) (pw_or1 (pt_cmpR (op_inDT (hu65 hr)) (pe_tup (pa_cons (pv 1) (pa_cons (pv 2) pa_nil))) (pe_ix ix_tup (pv 0) pe_int (fun _ _ => rfl)) rfl)))) (pss_one (ps_ret pe_bl)) pss_nil)
    (pss_one (ps_ret (pe_cmpR op_in_seq (pe_ix ix_tup (pe_ix ix_tup (pv 0) pe_int (fun _ _ => rfl)) (pv 2) (fun _ _ => rfl)) (pe_ix ix_tup (pe_ix ix_tup (pv 0) pe_int (fun _ _ => rfl)) (pv 3) (fun _ _ => rfl)) rfl))))),
    def_run h fun ds oc g => by
    obtain ⟨B, rg, f, p, rfl, ⟨wf, hf, hp⟩, rfl⟩ := g
    refine run_let (x := eF (rg.fr f)) (ev_op1 (ev_op1 (ev_var rfl).v ev_int.v (op_ixT rfl)).v (ev_var rfl).v (op_ixT (atM hf _))) tg_tup2 ?_
    refine run_whenR (et_or1 (et_test1 (ev_op1 (ev_var rfl).v (ev_var rfl).v op_eqO)) fun _ => et_test1 (ev_op1 (ev_tup1 (ea_c (ev_var rfl) (ea_c (ev_var rfl) ea_nil)) sz2).v (ev_op1 (ev_var rfl).v ev_int.v (op_ixT rfl)).v (opR_inP (p := (f, p))))) (fun e => run_retE ev_bl ?_) fun e => run_retE (ev_op1 (ev_op1 (ev_op1 (ev_var rfl).v ev_int.v (op_ixT rfl)).v (ev_var rfl).v (op_ixT (atM (f := eN) hp 0))).v (ev_op1 (ev_op1 (ev_var rfl).v ev_int.v (op_ixT rfl)).v (ev_var rfl).v (op_ixT (atM (f := eT) (wf.fr hf) []))).v opR_inN) ?_
    · unfold Reg.tie Reg.own
      rw [if_pos e]
    · unfold Reg.tie Reg.own
      rw [if_neg (by rw [e]; exact Bool.false_ne_true)]
    ⟩
end
end Gv

namespace Gv
open PySem PySem.Spec PyProof.Rows L2
section
variable {P : Program} {w : World} {K : PySem.W.Frag} {mg : Str → Option Value} {base : Heap} {C : Addr}
def g_friends_of : List D → Oc → Prop := fun ds oc => ∃ (B : Nat) (rg : Reg) (p : Nat), ds = [eReg rg, eN p] ∧ rg.Wf B ∧ oc = some (· = eT (rg.ofP p))
abbrev C_friends_of (P : Program) (w : World) (K : PySem.W.Frag) (mg : Str → Option Value) (base : Heap) (C : Addr) : Prop := Cal P w K mg base CX0 2 "friends_of" ["registry", "person"] (SpD K C R0 g_friends_of)
theorem sc_friends_of : FnScope ["registry", "person", "at", "friend"] ["registry", "person"] (defScope s_friends_of) := ⟨rfl, rfl, rfl, by decide +kernel, rfl, by decide +kernel, by decide +kernel⟩
theorem len_friends_of : ∀ ds oc, g_friends_of ds oc → ds.length = 2 := fun _ _ ⟨_, _, _, e, _⟩ => by rw [e]; rfl
theorem cal_friends_of (d : Df K mg "friends_of" s_friends_of) (T : Nms K mg)   : C_friends_of P w K mg base C := by
  refine cal_of d sc_friends_of (SpD.len len_friends_of) (fun _ _ _ _ _ _ us hl => match us, hl with | [_, _], _ => rfl) fun f cdv A outer s H vs Q E hr h => ⟨_, PSs.nox (pss_one (ps_ret (pe_callTy call_tuple_of rfl T.tuple (by decide +kernel) (pa_cons (pe_lc (own := [("at", 2), ("friend", 3)]) (g := (gTup _ 2 (gCons (gName 2) (gCons (gName 3) gNil)))) rfl sc_friends_of.nd (pi_enumT rfl T.enumerate (pa_cons (pe_ix ix_tup (pv 0) pe_int (fun _ _ => rfl)) pa_nil)) (blkOk_by (own := [("at", 2), ("friend", 3)]) (by kernel_rfl)) (fun _ _ _ _ _ => (pg_tup rfl (pgs_cons (pg_name (i := 2) sc_friends_of.nd rfl (Or.inl rfl)) (pgs_cons (pg_name (i := 3) sc_friends_of.nd rfl (Or.inl rfl)) pgs_nil)))) (fun _ _ _ _ _ => (pts_one (pt_cmpR op_eq (pe_ix ix_tup (pv 3) pe_int (fun _ _ => rfl)) (pv 1) (nomark _)))) (fun _ _ _ _ _ => (pv 2))) pa_nil)))),
    def_run h fun ds oc g => by
    obtain ⟨B, rg, p, rfl, wf, rfl⟩ := g
    have hB := wf.hB
    have hf := wf.friends
    exact run_retE (ev_tuple (ef_lcP (l := List.range rg.friends.length) (e1 := eN) (e2 := fun i => eF (rg.fr i)) (b := fun i => decide (rg.own i = some p)) (f := eN) (ei_enumM (f := eF) (0, none) (ev_op1 (ev_var rfl).v ev_int.v (op_ixT rfl))) (by rw [List.length_range]; exact szB (by omega)) (by decide) (by decide)
      (fun x _ => et_test1 (ev_op1 (ev_op1 (ev_var rfl).v ev_int.v (op_ixT rfl)).v (ev_var rfl).v op_eqO)) fun x _ _ => ev_var rfl).v1.v) rfl
    ⟩
def g_free_friends : List D → Oc → Prop := fun ds oc => ∃ (B : Nat) (rg : Reg), ds = [eReg rg] ∧ rg.Wf B ∧ oc = some (· = eT rg.free)
abbrev C_free_friends (P : Program) (w : World) (K : PySem.W.Frag) (mg : Str → Option Value) (base : Heap) (C : Addr) : Prop := Cal P w K mg base CX0 2 "free_friends" ["registry"] (SpD K C R0 g_free_friends)
theorem sc_free_friends : FnScope ["registry", "at", "friend"] ["registry"] (defScope s_free_friends) := ⟨rfl, rfl, rfl, by decide +kernel, rfl, by decide +kernel, by decide +kernel⟩
theorem len_free_friends : ∀ ds oc, g_free_friends ds oc → ds.length = 1 := fun _ _ ⟨_, _, e, _⟩ => by rw [e]; rfl
theorem cal_free_friends (d : Df K mg "free_friends" s_free_friends) (T : Nms K mg)   : C_free_friends P w K mg base C := by
  refine cal_of d sc_free_friends (SpD.len len_free_friends) (fun _ _ _ _ _ _ us hl => match us, hl with | [_], _ => rfl) fun f cdv A outer s H vs Q E hr h => ⟨_, PSs.nox (pss_one (ps_ret (pe_callTy call_tuple_of rfl T.tuple (by decide +kernel) (pa_cons (pe_lc (own := [("at", 1), ("friend", 2)]) (g := (gTup _ 2 (gCons (gName 1) (gCons (gName 2) gNil)))) rfl sc_free_friends.nd (pi_enumT rfl T.enumerate (pa_cons (pe_ix ix_tup (pv 0) pe_int (fun _ _ => rfl)) pa_nil)) (blkOk_by (own := [("at", 1), ("friend", 2)]) (by kernel_rfl)) (fun _ _ _ _ _ => (pg_tup rfl (pgs_cons (pg_name (i := 1) sc_free_friends.nd rfl (Or.inl rfl)) (pgs_cons (pg_name (i := 2) sc_free_friends.nd rfl (Or.inl rfl)) pgs_nil)))) (fun _ _ _ _ _ => (pts_one (pt_cmpR op_isN (pe_ix ix_tup (pv 2) pe_int (fun _ _ => rfl)) pe_non (nomark _)))) (fun _ _ _ _ _ => (pv 1))) pa_nil)))),
    def_run h fun ds oc g => by
    obtain ⟨B, rg, rfl, wf, rfl⟩ := g
    have hB := wf.hB
    have hf := wf.friends
    exact run_retE (ev_tuple (ef_lcP (l := List.range rg.friends.length) (e1 := eN) (e2 := fun i => eF (rg.fr i)) (b := fun i => (rg.own i).isNone) (f := eN) (ei_enumM (f := eF) (0, none) (ev_op1 (ev_var rfl).v ev_int.v (op_ixT rfl))) (by rw [List.length_range]; exact szB (by omega)) (by decide) (by decide)
      (fun x _ => (et_test1 (ev_op1 (ev_op1 (ev_var rfl).v ev_int.v (op_ixT rfl)).v ev_non.v op_isN0)).is (isNonO _)) fun x _ _ => ev_var rfl).v1.v) rfl
    ⟩
def g_start_world : List D → Oc → Prop := fun ds oc => ∃ (rg : Reg), ds = [eReg rg] ∧ oc = some (· = eW ⟨0, rg, [], [], [], []⟩)
abbrev C_start_world (P : Program) (w : World) (K : PySem.W.Frag) (mg : Str → Option Value) (base : Heap) (C : Addr) : Prop := Cal P w K mg base CX0 2 "start_world" ["registry"] (SpD K C R0 g_start_world)
theorem sc_start_world : FnScope ["registry"] ["registry"] (defScope s_start_world) := ⟨rfl, rfl, rfl, by decide +kernel, rfl, by decide +kernel, by decide +kernel⟩
theorem len_start_world : ∀ ds oc, g_start_world ds oc → ds.length = 1 := fun _ _ ⟨_, e, _⟩ => by rw [e]; rfl
theorem cal_start_world (d : Df K mg "start_world" s_start_world) (T : Nms K mg)   : C_start_world P w K mg base C := by
  refine cal_of d sc_start_world (SpD.len len_start_world) (fun _ _ _ _ _ _ us hl => match us, hl with | [_], _ => rfl) fun f cdv A outer s H vs Q E hr h => ⟨_, PSs.nox (pss_one (ps_ret (pe_tup (pa_cons pe_int (pa_cons (pv 0) (pa_cons (pe_tup pa_nil) (pa_cons (pe_tup pa_nil) (pa_cons (pe_tup pa_nil) (pa_cons (pe_tup pa_nil) pa_nil))))))))),
    def_run h fun ds oc g => by
    obtain ⟨rg, rfl, rfl⟩ := g
    exact run_retE (ev_tup1 (ea_c ev_int (ea_c (ev_var rfl) (ea_c (ev_tup1 ea_nil sz0) (ea_c (ev_tup1 ea_nil sz0) (ea_c (ev_tup1 ea_nil sz0) (ea_c (ev_tup1 ea_nil sz0) ea_nil)))))) sz6) rfl
    ⟩
def g_owner_of : List D → Oc → Prop := fun ds oc => ∃ (B : Nat) (rg : Reg) (f : Nat), ds = [eReg rg, eN f] ∧ f < rg.friends.length ∧ oc = some (· = eO (rg.own f))
abbrev C_owner_of (P : Program) (w : World) (K : PySem.W.Frag) (mg : Str → Option Value) (base : Heap) (C : Addr) : Prop := Cal P w K mg base CX0 2 "owner_of" ["registry", "friend"] (SpD K C R0 g_owner_of)
theorem sc_owner_of : FnScope ["registry", "friend"] ["registry", "friend"] (defScope s_owner_of) := ⟨rfl, rfl, rfl, by decide +kernel, rfl, by decide +kernel, by decide +kernel⟩
theorem len_owner_of : ∀ ds oc, g_owner_of ds oc → ds.length = 2 := fun _ _ ⟨_, _, _, e, _⟩ => by rw [e]; rfl
theorem cal_owner_of (d : Df K mg "owner_of" s_owner_of) (T : Nms K mg)   : C_owner_of P w K mg base C := by
  refine cal_of d sc_owner_of (SpD.len len_owner_of) (fun _ _ _ _ _ _ us hl => match us, hl with | [_, _], _ => rfl) fun f cdv A outer s H vs Q E hr h => ⟨_, PSs.nox (pss_one (ps_ret (pe_ix ix_tup (pe_ix ix_tup (pe_ix ix_tup (pv 0) pe_int (fun _ _ => rfl)) (pv 1) (fun _ _ => rfl)) pe_int (fun _ _ => rfl)))),
    def_run h fun ds oc g => by
    obtain ⟨B, rg, f, rfl, hf, rfl⟩ := g
    exact run_retE (ev_op1 (ev_op1 (ev_op1 (ev_var rfl).v ev_int.v (op_ixT rfl)).v (ev_var rfl).v (op_ixT (atM (f := eF) hf (0, none)))).v ev_int.v (op_ixT rfl)) rfl
    ⟩
def g_people_left : List D → Oc → Prop := fun ds oc => ∃ (B : Nat) (W : Wo), ds = [eW W] ∧ W.Wf B ∧ oc = some (· = eT W.left)
abbrev C_people_left (P : Program) (w : World) (K : PySem.W.Frag) (mg : Str → Option Value) (base : Heap) (C : Addr) : Prop := Cal P w K mg base CX0 2 "people_left" ["world"] (SpD K C R0 g_people_left)
theorem sc_people_left : FnScope ["world", "person"] ["world"] (defScope s_people_left) := ⟨rfl, rfl, rfl, by decide +kernel, rfl, by decide +kernel, by decide +kernel⟩
theorem len_people_left : ∀ ds oc, g_people_left ds oc → ds.length = 1 := fun _ _ ⟨_, _, e, _⟩ => by rw [e]; rfl
theorem cal_people_left (d : Df K mg "people_left" s_people_left) (T : Nms K mg)   : C_people_left P w K mg base C := by
  refine cal_of d sc_people_left (SpD.len len_people_left) (fun _ _ _ _ _ _ us hl => match us, hl with | [_], _ => rfl) fun f cdv A outer s H vs Q E hr h => ⟨_, PSs.nox (pss_one (ps_ret (pe_callTy call_tuple_of rfl T.tuple (by decide +kernel) (pa_cons (pe_lc (own := [("person", 1)]) (g := (gName 1)) rfl sc_people_left.nd (pi_range1 rfl T.range (pa_cons (pe_callB call_len_seq rfl T.len (by decide +kernel) (pa_cons (pe_ix ix_tup (pe_ix ix_tup (pv 0) pe_int (fun _ _ => rfl)) pe_int (fun _ _ => rfl)) pa_nil)) pa_nil)) (blkOk_by (own := [("person", 1)]) (by kernel_rfl)) (fun _ _ _ _ _ => (pg_name (i := 1) sc_people_left.nd rfl (Or.inl rfl))) (fun _ _ _ _ _ => (pts_one (PW.pt (pw_and (pt_cmpR op_notIn_seq (pv 1) (pe_ix ix_tup (pv 0) pe_int (fun _ _ => rfl)) rfl) (pw_and1 (pt_cmpR op_notIn_seq (pv 1) (pe_ix ix_tup (pv 0) pe_int (fun _ _ => rfl)) rfl)))))) (fun _ _ _ _ _ => (pv 1))) pa_nil)))),
    def_run h fun ds oc g => by
    obtain ⟨B, W, rfl, wf, rfl⟩ := g
    have hB := wf.reg.hB
    have hp := wf.reg.people
    exact run_retE (ev_tuple (ef_lcN (l := List.range W.reg.people.length) (enc := eN) (b := fun p => !decide (p ∈ W.got) && !decide (p ∈ W.away)) (f := eN) ((ei_rng1 (n := W.reg.people.length) ((ev_len (l := W.reg.people.map eN) (ev_op1 (ev_op1 (ev_var rfl).v ev_int.v (op_ixT rfl)).v ev_int.v (op_ixT rfl)).v (.inl rfl)).is (by rw [List.length_map])) (by omega)).imp fun _ e => e) (by rw [List.length_range]; exact szB (by omega)) (by decide)
      (fun x _ => et_and1 (et_test1 (ev_op1 (ev_var rfl).v (ev_op1 (ev_var rfl).v ev_int.v (op_ixT rfl)).v opR_ninN)) fun _ => et_test1 (ev_op1 (ev_var rfl).v (ev_op1 (ev_var rfl).v ev_int.v (op_ixT rfl)).v opR_ninN)) fun x _ _ => ev_var rfl).v1.v) rfl
    ⟩
def g_put_in : List D → Oc → Prop := fun ds oc => ∃ (l m : List Nat), ds = [eT l, .lst (m.map eN)] ∧ (l.length ≤ 1000 ∧ m.length ≤ 1000) ∧ oc = some (· = eT (sortN (l ++ m)))
abbrev C_put_in (P : Program) (w : World) (K : PySem.W.Frag) (mg : Str → Option Value) (base : Heap) (C : Addr) : Prop := Cal P w K mg base CX0 2 "put_in" ["lot", "some"] (SpD K C R0 g_put_in)
theorem sc_put_in : FnScope ["lot", "some"] ["lot", "some"] (defScope s_put_in) := ⟨rfl, rfl, rfl, by decide +kernel, rfl, by decide +kernel, by decide +kernel⟩
theorem len_put_in : ∀ ds oc, g_put_in ds oc → ds.length = 2 := fun _ _ ⟨_, _, e, _⟩ => by rw [e]; rfl
theorem cal_put_in (d : Df K mg "put_in" s_put_in) (T : Nms K mg)   : C_put_in P w K mg base C := by
  refine cal_of d sc_put_in (SpD.len len_put_in) (fun _ _ _ _ _ _ us hl => match us, hl with | [_, _], _ => rfl) fun f cdv A outer s H vs Q E hr h => ⟨_, PSs.nox (pss_one (ps_ret (pe_callTy call_tuple_of rfl T.tuple (by decide +kernel) (pa_cons (pe_callB cr_sortedI rfl T.sorted (by decide +kernel) (pa_cons (pe_lst (StX.pa_star (pv 0) (StX.pa_star (pv 1) pa_nil))) pa_nil)) pa_nil)))),
    def_run h fun ds oc g => by
    obtain ⟨l, m, rfl, ⟨hl, hm⟩, rfl⟩ := g
    exact run_retE (ev_tuple (ef_sortedN (l := l ++ m) ((ev_lst (ea_star (l := l.map eN) ((ev_var rfl).v.imp fun d e => .inl e) (ea_star (l := m.map eN) ((ev_var rfl).v.imp fun d e => .inr e) ea_nil)) (fun ds e => by rw [e]; simp only [List.length_append, List.length_map, List.length_nil]; exact szC (by omega))).v.v.imp fun d ⟨ds, e1, e2⟩ => by rw [e2, e1, List.append_nil, List.map_append])).v1.v) rfl
    ⟩
end
end Gv

namespace Gv
open PySem PySem.Spec PyProof.Rows L2
section
variable {P : Program} {w : World} {K : PySem.W.Frag} {mg : Str → Option Value} {base : Heap} {C : Addr}
def g_givers_left : List D → Oc → Prop := fun ds oc => ∃ (B : Nat) (W : Wo), ds = [eW W] ∧ W.Wf B ∧ oc = some (· = eT W.givers)
abbrev C_givers_left (P : Program) (w : World) (K : PySem.W.Frag) (mg : Str → Option Value) (base : Heap) (C : Addr) : Prop := Cal P w K mg base CX0 3 "givers_left" ["world"] (SpD K C R0 g_givers_left)
theorem sc_givers_left : FnScope ["world", "registry", "gave", "away", "found", "person", "since", "friend"] ["world"] (defScope s_givers_left) := ⟨rfl, rfl, rfl, by decide +kernel, rfl, by decide +kernel, by decide +kernel⟩
theorem len_givers_left : ∀ ds oc, g_givers_left ds oc → ds.length = 1 := fun _ _ ⟨_, _, e, _⟩ => by rw [e]; rfl
theorem cal_givers_left (d : Df K mg "givers_left" s_givers_left) (T : Nms K mg) (c_free_friends : C_free_friends P w K mg base C) (c_friends_of : C_friends_of P w K mg base C)  : C_givers_left P w K mg base C := by
  refine cal_of d sc_givers_left (SpD.len len_givers_left) (fun _ _ _ _ _ _ us hl => match us, hl with | [_], _ => rfl) fun f cdv A outer s H vs Q E hr h => ⟨_, PSs.nox (pss_cons (ps_asg (pe_tup (pa_cons (pe_ix ix_tup (pv 0) pe_int (fun _ _ => rfl)) (pa_cons (pe_ix ix_tup (pv 0) pe_int (fun _ _ => rfl)) (pa_cons (pe_ix ix_tup (pv 0) pe_int (fun _ _ => rfl)) pa_nil)))) (pg_tup rfl (pgs_cons (pg_name (i := 1) sc_givers_left.nd rfl (Or.inl rfl)) (pgs_cons (pg_name (i := 2) sc_givers_left.nd rfl (Or.inr rfl)) (pgs_cons (pg_name (i := 3) sc_givers_left.nd rfl (Or.inl rfl)) pgs_nil)))))
    (pss_cons (ps_setLc (i := 4) (own := [("friend", 7)]) (g := (gName 7)) rfl sc_givers_left.nd rfl rfl (sw_true rfl rfl rfl (by decide +kernel)) (pi_tup (pe_calc c_free_friends (hr.mono (by decide)) rfl pass0 (pa_cons (pv 1) pa_nil))) (blkOk_by (own := [("friend", 7)]) (by kernel_rfl)) (fun _ _ _ _ _ => (pg_name (i := 7) sc_givers_left.nd rfl (Or.inl rfl))) (fun _ _ _ _ _ => (pts_one (pt_cmpR op_notIn_seq (pv 7) (pv 2) rfl))) (fun _ _ _ _ _ => (pv 7)))
    (pss_cons (ps_for PassesOwn.never rfl (pi_tup (pe_ix ix_tup (pv 0) pe_int (fun _ _ => rfl))) (pg_tup rfl (pgs_cons (pg_name (i := 5) sc_givers_left.nd rfl (Or.inl rfl)) (pgs_cons (pg_name (i := 6) sc_givers_left.nd rfl (Or.inl rfl)) pgs_nil))) (pss_one (ps_if (pt_cmpR op_notIn_seq (pv 5) (pv 3) rfl) (pss_one (ps_expr (pe_bm PySem.F.plainAttrs_list PySem.F.slot_list_extend PySem.F.type_list_extend mt_extendT (pv 4) (pa_cons (pe_calc c_friends_of (hr.mono (by decide)) rfl pass0 (pa_cons (pv 1) (pa_cons (pv 5) pa_nil))) pa_nil)))) pss_nil)))
    (pss_one (ps_ret (pe_callTy call_tuple_of rfl T.tuple (by decide +kernel) (pa_cons (pe_callB cr_sortedI rfl T.sorted (by decide +kernel) (pa_cons (pv 4) pa_nil)) pa_nil))))))),
    def_run h fun ds oc g => by
    obtain ⟨B, W, rfl, wf, rfl⟩ := g
    have hB := wf.reg.hB
    have hf := wf.reg.friends
    have hd := wf.due60
    have hfl := free_len W.reg
    have hfl2 := List.length_filter_le (fun f => !decide (f ∈ W.gave)) W.reg.free
    refine run_let (x := .tup [eReg W.reg, eT W.gave, eT W.away]) (ev_tup1 (ea_c (ev_op1 (ev_var rfl).v ev_int.v (op_ixT rfl)) (ea_c (ev_op1 (ev_var rfl).v ev_int.v (op_ixT rfl)) (ea_c (ev_op1 (ev_var rfl).v ev_int.v (op_ixT rfl)) ea_nil))) sz3) (tg_tup (tgs_cons tg_name (tgs_cons tg_name (tgs_cons tg_name tgs_nil))) rfl) ?_
    refine run_own (ef_lcN (l := W.reg.free) (enc := eN) (b := fun f => !decide (f ∈ W.gave)) (f := eN) (ei_tup (ev_call1 (ea_c (ev_var rfl) ea_nil) ⟨B, W.reg, rfl, wf.reg, rfl⟩)) (szB (by omega)) (by decide)
      (fun x _ => et_test1 (ev_op1 (ev_var rfl).v (ev_var rfl).v opR_ninN)) fun x _ _ => ev_var rfl) fun p ds e => ?_
    subst e
    refine run_seq (N := fun r' => ∃ x y : Option D, r' = (slD [some (eW W), some (eReg W.reg), some (eT W.gave), some (eT W.away), none, x, y, none]).set 4 (some (.own p (((W.reg.free.filter fun f => !decide (f ∈ W.gave)) ++ W.found W.due).map eN))))
      (run_forW (α := Nat × Nat) (enc := eP) (P := (· = W.due)) ((ei_tup (ev_op1 (ev_var rfl).v ev_int.v (op_ixT rfl))).imp fun ds e => ⟨W.due, rfl, e⟩)
        (fun l i r' => ∃ x y : Option D, r' = (slD [some (eW W), some (eReg W.reg), some (eT W.gave), some (eT W.away), none, x, y, none]).set 4 (some (.own p (((W.reg.free.filter fun f => !decide (f ∈ W.gave)) ++ W.found (l.take i)).map eN))))
        (fun l e => ⟨none, none, by rw [List.take_zero]; simp only [Wo.found, List.flatMap_nil, List.append_nil]; rfl⟩)
        (fun l e i x r' hx ⟨a, b, e2⟩ => ?_)
        (fun l e r' ⟨a, b, e2⟩ => ⟨a, b, by rw [e2, List.take_length, e]⟩)) fun r' ⟨a, b, e⟩ => ?_
    · subst e; subst e2
      refine ⟨_, _, tg_tup2, ?_⟩
      have hi : i < W.due.length := (List.getElem?_eq_some_iff.mp hx).1
      refine run_if1 (et_test1 (ev_op1 (ev_var rfl).v (ev_var rfl).v opR_ninN)) (fun e => ?_) fun e => run_next ?_
      · refine run_extendT rfl (.inr rfl) ?_ ?_ (ev_call1 (ea_c (ev_var rfl) (ea_c (ev_var rfl) ea_nil)) ⟨B, W.reg, x.1, rfl, wf.reg, rfl⟩) ⟨some (eN x.1), some (eN x.2), ?_⟩
        · exact ho_set (xs := [some (eW W), some (eReg W.reg), some (eT W.gave), some (eT W.away), none, some (eN x.1), some (eN x.2), none])
        · rw [List.length_map, List.length_append, List.length_map]
          have h1 := found_len W hf (W.due.take i)
          have h2 : (W.due.take i).length * B ≤ 63 * 1000 := Nat.mul_le_mul (by rw [List.length_take]; omega) hB
          have h3 : (W.reg.ofP x.1).length ≤ B := by
            unfold Reg.ofP
            refine Nat.le_trans (List.length_filter_le _ _) ?_
            rw [List.length_range]
            exact hf
          exact szC (by omega)
        · have e' : x.1 ∉ W.away := by simpa using e
          rw [take_succ_at hx, found_snoc, if_neg e', ← List.append_assoc, List.map_append (f := eN) (l₂ := W.reg.ofP x.1)]
          rfl
      · have e' : x.1 ∈ W.away := by simpa using e
        refine ⟨some (eN x.1), some (eN x.2), ?_⟩
        rw [take_succ_at hx, found_snoc, if_pos e', List.append_nil]
        rfl
    · subst e
      exact run_retE (ev_tuple (ef_sortedN (ev_own rfl)).v1.v) rfl
    ⟩
def g_links_left : List D → Oc → Prop := fun ds oc => ∃ (B : Nat) (W : Wo), ds = [eW W] ∧ W.Wf B ∧ oc = some (· = ePs W.links)
abbrev C_links_left (P : Program) (w : World) (K : PySem.W.Frag) (mg : Str → Option Value) (base : Heap) (C : Addr) : Prop := Cal P w K mg base CX0 4 "links_left" ["world"] (SpD K C R0 g_links_left)
theorem sc_links_left : FnScope ["world", "people", "found", "friend", "person"] ["world"] (defScope s_links_left) := ⟨rfl, rfl, rfl, by decide +kernel, rfl, by decide +kernel, by decide +kernel⟩
theorem len_links_left : ∀ ds oc, g_links_left ds oc → ds.length = 1 := fun _ _ ⟨_, _, e, _⟩ => by rw [e]; rfl
theorem cal_links_left (d : Df K mg "links_left" s_links_left) (T : Nms K mg) (c_people_left : C_people_left P w K mg base C) (c_givers_left : C_givers_left P w K mg base C) (c_has_tie : C_has_tie P w K mg base C)  : C_links_left P w K mg base C := by
  refine cal_of d sc_links_left (SpD.len len_links_left) (fun _ _ _ _ _ _ us hl => match us, hl with | [_], _ => rfl) fun f cdv A outer s H vs Q E hr h => ⟨_, PSs.nox (pss_cons (ps_set (i := 1) sc_links_left.nd rfl (Or.inl rfl) (pe_calc c_people_left (hr.mono (by decide)) rfl pass0 (pa_cons (pv 0) pa_nil)))
    (pss_cons (ps_set (i := 2) sc_links_left.nd rfl (Or.inl rfl) (pe_lst pa_nil))
    (pss_cons (ps_for PassesOwn.never rfl (pi_tup (pe_calc c_givers_left (hr.mono (by decide)) rfl pass0 (pa_cons (pv 0) pa_nil))) (pg_name (i := 3) sc_links_left.nd rfl (Or.inr rfl)) (pss_one (ps_expr (pe_bm PySem.F.plainAttrs_list PySem.F.slot_list_extend PySem.F.type_list_extend mt_extend (pv 2) (pa_cons (pe_lc (own := [("person", 4)]) (g := (gName 4)) rfl sc_links_left.nd (pi_tup (pv 1)) (blkOk_by (own := [("person", 4)]) (by kernel_rfl)) (fun _ _ _ _ _ => (pg_name (i := 4) sc_links_left.nd rfl (Or.inl rfl))) (fun _ _ _ _ _ => (pts_one (pt_val (pe_calc c_has_tie (hr.mono (by decide)) rfl pass0 (pa_cons (pe_ix ix_tup (pv 0) pe_int (fun _ _ => rfl)) (pa_cons (pv 3) (pa_cons (pv 4) pa_nil))))))) (fun _ _ _ _ _ => (pe_tup (pa_cons (pv 3) (pa_cons (pv 4) pa_nil))))) pa_nil)))))
    (pss_one (ps_ret (pe_callTy call_tuple_of rfl T.tuple (by decide +kernel) (pa_cons (pv 2) pa_nil))))))),
    def_run h fun ds oc g => by
    obtain ⟨B, W, rfl, wf, rfl⟩ := g
    have hB := wf.reg.hB
    have hf := wf.reg.friends
    have hp := wf.reg.people
    have hl := left_len W
    have hg := givers_len wf
    refine run_let1 (ev_call1 (ea_c (ev_var rfl) ea_nil) ⟨B, W, rfl, wf, rfl⟩) ?_
    refine run_own (ev_lst ea_nil fun ds e => by rw [e]; exact sz0) fun p ds e => ?_
    subst e
    refine run_seq (N := fun r' => ∃ x : Option D, r' = (slD [some (eW W), some (eT W.left), none, x, none]).set 2 (some (.own p (W.links.map eP))))
      (run_forW (α := Nat) (enc := eN) (P := (· = W.givers)) ((ei_tup (ev_call1 (ea_c (ev_var rfl) ea_nil) ⟨B, W, rfl, wf, rfl⟩)).imp fun ds e => ⟨W.givers, rfl, e⟩)
        (fun l i r' => ∃ x : Option D, r' = (slD [some (eW W), some (eT W.left), none, x, none]).set 2 (some (.own p ((W.linksOf (l.take i)).map eP))))
        (fun l e => ⟨none, by rw [List.take_zero]; rfl⟩)
        (fun l e i x r' hx ⟨a, e2⟩ => ?_)
        (fun l e r' ⟨a, e2⟩ => ⟨a, by rw [e2, List.take_length, e]; rfl⟩)) fun r' ⟨a, e⟩ => ?_
    · subst e; subst e2
      refine ⟨_, _, tg_name, ?_⟩
      have hi : i < W.givers.length := (List.getElem?_eq_some_iff.mp hx).1
      have hm : x ∈ W.givers := List.mem_of_getElem? hx
      refine run_extend rfl (.inr rfl) ?_ ?_ (ef_lcN (l := W.left) (enc := eN) (b := fun p => W.reg.tie x p) (f := fun p => eP (x, p)) (ei_tup (ev_var rfl)) (szB (by omega)) (by decide)
        (fun y hy => et_test1 (ev_call1 (ea_c (ev_op1 (ev_var rfl).v ev_int.v (op_ixT rfl)) (ea_c (ev_var rfl) (ea_c (ev_var rfl) ea_nil))) ⟨B, W.reg, x, y, rfl, ⟨wf.reg, givers_lt hm, left_lt hy⟩, rfl⟩))
        fun y hy _ => ev_tup1 (ea_c (ev_var rfl) (ea_c (ev_var rfl) ea_nil)) sz2) fun es e => ⟨some (eN x), ?_⟩
      · exact ho_set (xs := [some (eW W), some (eT W.left), none, some (eN x), none])
      · intro es e
        rw [e, List.length_map, List.length_map]
        have h1 := linksOf_len W (W.givers.take i)
        have h2 : (W.givers.take i).length * W.left.length ≤ 65000 * 100 := Nat.mul_le_mul (by rw [List.length_take]; omega) (by have := wf.p100; omega)
        have h3 := List.length_filter_le (fun p => W.reg.tie x p) W.left
        exact szC (by omega)
      · rw [e, take_succ_at hx, linksOf_snoc, List.map_append (l₂ := List.map _ _), List.map_map]
        rfl
    · subst e
      exact run_retE (ev_tuple (ev_own rfl)) rfl
    ⟩
def g_is_tie : List D → Oc → Prop := fun ds oc => ∃ (B : Nat) (rg : Reg) (t : Nat × Nat), ds = [eReg rg, eP t] ∧ rg.Wf B ∧ oc = some (· = .bl (rg.isTie t))
abbrev C_is_tie (P : Program) (w : World) (K : PySem.W.Frag) (mg : Str → Option Value) (base : Heap) (C : Addr) : Prop := Cal P w K mg base CX0 6 "is_tie" ["registry", "value"] (SpD K C R0 g_is_tie)
theorem sc_is_tie : FnScope ["registry", "value"] ["registry", "value"] (defScope s_is_tie) := ⟨rfl, rfl, rfl, by decide +kernel, rfl, by decide +kernel, by decide +kernel⟩
theorem len_is_tie : ∀ ds oc, g_is_tie ds oc → ds.length = 2 := fun _ _ ⟨_, _, _, e, _⟩ => by rw [e]; rfl
theorem cal_is_tie (d : Df K mg "is_tie" s_is_tie) (T : Nms K mg) (c_is_pair_of : C_is_pair_of P w K mg base C) (c_has_tie : C_has_tie P w K mg base C)  : C_is_tie P w K mg base C := by
  refine cal_of d sc_is_tie (SpD.len len_is_tie) (fun _ _ _ _ _ _ us hl => match us, hl with | [_, _], _ => rfl) fun f cdv A outer s H vs Q E hr h => ⟨_, PSs.nox (pss_cons (ps_if (pt_not (pt_val (pe_calc c_is_pair_of (hr.mono (by decide)) rfl pass0 (pa_cons (pv 1) (pa_cons (pe_callB call_len_seq rfl T.len (by decide +kernel) (pa_cons (pe_ix ix_tup (pv 0) pe_int (fun _ _ => rfl)) pa_nil)) (pa_cons (pe_callB call_len_seq rfl T.len (by decide +kernel) (pa_cons (pe_ix ix_tup (pv 0) pe_int (fun _ _ => rfl)) pa_nil)) pa_nil)))))) (pss_one (ps_ret pe_bl)) pss_nil)
    (pss_one (ps_ret (pe_calc c_has_tie (hr.mono (by decide)) rfl pass0 (pa_cons (pv 0) (pa_cons (pe_ix ix_tup (pv 1) pe_int (fun _ _ => rfl)) (pa_cons (pe_ix ix_tup (pv 1) pe_int (fun _ _ => rfl)) pa_nil))))))),
    def_run h fun ds oc g => by
    obtain ⟨B, rg, t, rfl, wf, rfl⟩ := g
    refine run_whenR (et_not (et_test1 (ev_call1 (ea_c (ev_var rfl) (ea_c ((ev_len (l := rg.friends.map eF) (ev_op1 (ev_var rfl).v ev_int.v (op_ixT rfl)).v (.inl rfl)).is (by rw [List.length_map])) (ea_c ((ev_len (l := rg.people.map eN) (ev_op1 (ev_var rfl).v ev_int.v (op_ixT rfl)).v (.inl rfl)).is (by rw [List.length_map])) ea_nil))) ⟨t, rg.friends.length, rg.people.length, rfl, rfl⟩))) (fun e => run_retE ev_bl ?_) fun e => ?_
    · unfold Reg.isTie
      rw [Bool.not_eq_true'] at e
      rw [e]
      rfl
    · rw [Bool.not_eq_false'] at e
      have e' := e
      simp at e'
      refine run_retE (ev_call1 (ea_c (ev_var rfl) (ea_c (ev_op1 (ev_var rfl).v ev_int.v (op_ixT rfl)) (ea_c (ev_op1 (ev_var rfl).v ev_int.v (op_ixT rfl)) ea_nil))) ⟨B, rg, t.1, t.2, rfl, ⟨wf, e'.1, e'.2⟩, rfl⟩) ?_
      unfold Reg.isTie
      rw [e]
      rfl
    ⟩
def g_is_ring : List D → Oc → Prop := fun ds oc => ∃ (B : Nat) (W : Wo) (ts : List (Nat × Nat)), ds = [eW W, ePs ts] ∧ (W.Wf B ∧ ts.length ≤ 1000) ∧ oc = some (· = .bl (W.isRing ts))
abbrev C_is_ring (P : Program) (w : World) (K : PySem.W.Frag) (mg : Str → Option Value) (base : Heap) (C : Addr) : Prop := Cal P w K mg base CX0 7 "is_ring" ["world", "ties"] (SpD K C R0 g_is_ring)
theorem sc_is_ring : FnScope ["world", "ties", "registry", "people", "owners", "left", "tie", "person"] ["world", "ties"] (defScope s_is_ring) := ⟨rfl, rfl, rfl, by decide +kernel, rfl, by decide +kernel, by decide +kernel⟩
theorem len_is_ring : ∀ ds oc, g_is_ring ds oc → ds.length = 2 := fun _ _ ⟨_, _, _, e, _⟩ => by rw [e]; rfl
theorem cal_is_ring (d : Df K mg "is_ring" s_is_ring) (T : Nms K mg) (c_is_tie : C_is_tie P w K mg base C) (c_owner_of : C_owner_of P w K mg base C) (c_people_left : C_people_left P w K mg base C)  : C_is_ring P w K mg base C := by
  refine cal_of d sc_is_ring (SpD.len len_is_ring) (fun _ _ _ _ _ _ us hl => match us, hl with | [_, _], _ => rfl) fun f cdv A outer s H vs Q E hr h => ⟨_, PSs.nox (pss_cons (ps_set (i := 2) sc_is_ring.nd rfl (Or.inr rfl) (pe_ix ix_tup (pv 0) pe_int (fun _ _ => rfl)))
    (pss_cons (ps_if (PW.pt (pw_or (pt_not (pt_val (pe_callB call_isi rfl T.isinstance (by decide +kernel) (pa_cons (pv 1) (pa_cons (pe_bltn (v := .ty "tuple") rfl T.tuple (by decide +kernel) rfl) pa_nil))))) (pw_or (pt_cmpR op_lt (pe_callB call_len_seq rfl T.len (by decide +kernel) (pa_cons (pv 1) pa_nil)) pe_int (nomark _)) (pw_or1 (pt_not (pt_val (pe_callB (cr_all rfl) rfl T.all (by decide +kernel) (pa_cons (pe_lc (own := [("tie", 6)]) (g := (gName 6)) (tt := tYes) rfl sc_is_ring.nd (pi_tup (pv 1)) (blkOk_by (own := [("tie", 6)]) (by kernel_rfl)) (fun _ _ _ _ _ => (pg_name (i := 6) sc_is_ring.nd rfl (Or.inl rfl))) (fun _ _ _ _ _ => pts_nil) (fun _ _ _ _ _ => (pe_calc c_is_tie (hr.mono (by decide)) rfl pass0 (pa_cons (pv 2) (pa_cons (pv 6) pa_nil))))) pa_nil)))))))) (pss_one (ps_ret pe_bl)) pss_nil)
    (pss_cons (ps_par (i := 3) (j := 4) rfl sc_is_ring.nd rfl rfl (by decide) rfl rfl (pa_cons (pe_lc (own := [("tie", 6)]) (g := (gName 6)) (tt := tYes) rfl sc_is_ring.nd (pi_tup (pv 1)) (blkOk_by (own := [("tie", 6)]) (by kernel_rfl)) (fun _ _ _ _ _ => (pg_name (i := 6) sc_is_ring.nd rfl (Or.inl rfl))) (fun _ _ _ _ _ => pts_nil) (fun _ _ _ _ _ => (pe_ix ix_tup (pv 6) pe_int (fun _ _ => rfl)))) (pa_cons (pe_lc (own := [("tie", 6)]) (g := (gName 6)) (tt := tYes) rfl sc_is_ring.nd (pi_tup (pv 1)) (blkOk_by (own := [("tie", 6)]) (by kernel_rfl)) (fun _ _ _ _ _ => (pg_name (i := 6) sc_is_ring.nd rfl (Or.inl rfl))) (fun _ _ _ _ _ => pts_nil) (fun _ _ _ _ _ => (pe_calc c_owner_of (hr.mono (by decide)) rfl pass0 (pa_cons (pv 2) (pa_cons (pe_ix ix_tup (pv 6) pe_int (fun _ _ => rfl)) pa_nil))))) pa_nil)) rfl)
    (pss_cons (ps_set (i := 5) sc_is_ring.nd rfl (Or.inr rfl) (pe_calc c_people_left (hr.mono (by decide)) rfl pass0 (pa_cons (pv 0) pa_nil)))
    (pss_cons (ps_if (PW.pt (pw_or (pt_cmpR op_ne (pe_lenSetG rfl rfl T.len rfl T.set (pv 3)) (pe_callB call_len_seq rfl T.len (by decide +kernel) (pa_cons (pv 3) pa_nil)) (nomark _)) (pw_or1 (pt_not (pt_val (pe_callB (cr_all rfl) rfl T.all (by decide +kernel) (pa_cons (pe_lc (own := [("person", 7)]) (g := (gName 7)) (tt := tYes) rfl sc_is_ring.nd (pi_list (pv 3)) (blkOk_by (own := [("person", 7)]) (by kernel_rfl)) (fun _ _ _ _ _ => (pg_name (i := 7) sc_is_ring.nd rfl (Or.inl rfl))) (fun _ _ _ _ _ => pts_nil) (fun _ _ _ _ _ => (pe_cmpR op_in_seq (pv 7) (pv 5) rfl))) pa_nil))))))) (pss_one (ps_ret pe_bl)) pss_nil)
    (pss_one (ps_ret (pe_cmpR (op_eqD hr.units) (pv 3) (pe_op op_cat (pe_slice sl_list (pv 4) (po_some pe_int) po_none) (pe_slice sl_list (pv 4) po_none (po_some pe_int))) (nomark _))))))))),
    def_run h fun ds oc g => by
    obtain ⟨B, W, ts, rfl, ⟨wf, ht⟩, rfl⟩ := g
    have hB := wf.reg.hB
    refine run_let1 (ev_op1 (ev_var rfl).v ev_int.v (op_ixT rfl)) ?_
    refine run_whenR (b := !(decide (2 ≤ ts.length) && ts.all W.reg.isTie)) ((et_or1 (et_not (et_test1 (ev_isi (.inr (.inr (.inr rfl))) (fun _ => by nofun) (ev_var rfl)))) fun _ => et_or1 (et_test1 (ev_op1 ((ev_len (l := ts.map eP) (ev_var rfl).v (.inl rfl)).is (y := eN ts.length) (by rw [List.length_map])).v ev_int.v op_ib)) fun _ =>
      et_not (et_test1 (ev_all (bs := ts.map W.reg.isTie) ((ef_lcM (l := ts) (enc := eP) (f := fun t => .bl (W.reg.isTie t)) (ei_tup (ev_var rfl)) (szB (by omega)) (by decide) (fun t _ => ev_call1 (ea_c (ev_var rfl) (ea_c (ev_var rfl) ea_nil)) ⟨B, W.reg, t, rfl, wf.reg, rfl⟩)).v1.v.imp fun d e => by rw [e, List.map_map]; rfl)))).is ?_) (fun e => run_retE ev_bl ?_) fun e => ?_
    · have e : D.isT "tuple" (.tup (ts.map eP)) = true := rfl
      rw [e, List.all_map]
      by_cases h : 2 ≤ ts.length
      · have h' : ¬ ((ts.length : Int) < 2) := by omega
        simp [h, h']
      · have h' : ((ts.length : Int) < 2) := by omega
        simp [h, h']
    · unfold Wo.isRing
      rw [Bool.not_eq_true'] at e
      rw [e]
      rfl
    · rw [Bool.not_eq_false'] at e
      have e0 := e
      rw [Bool.and_eq_true, decide_eq_true_eq, List.all_eq_true] at e
      have hown : ∀ t ∈ ts, t.1 < W.reg.friends.length := fun t h => by
        have := e.2 t h
        unfold Reg.isTie at this
        simp at this
        exact this.1.1
      refine run_parL (x := .lst ((seconds ts).map eN)) (y := .lst ((ts.map fun t => W.reg.own t.1).map eO)) (ea_c ((ef_lcM (l := ts) (enc := eP) (f := fun t => eN t.2) (ei_tup (ev_var rfl)) (szB (by omega)) (by decide) (fun t _ => ev_op1 (ev_var rfl).v ev_int.v (op_ixT rfl))).v1.is (by unfold seconds; rw [List.map_map]; rfl))
        (ea_c ((ef_lcM (l := ts) (enc := eP) (f := fun t => eO (W.reg.own t.1)) (ei_tup (ev_var rfl)) (szB (by omega)) (by decide) (fun t h => ev_call1 (ea_c (ev_var rfl) (ea_c (ev_op1 (ev_var rfl).v ev_int.v (op_ixT rfl)) ea_nil)) ⟨B, W.reg, t.1, rfl, hown t h, rfl⟩)).v1.is (by rw [List.map_map]; rfl)) ea_nil)) ?_
      refine run_let1 (ev_call1 (ea_c (ev_var rfl) ea_nil) ⟨B, W, rfl, wf, rfl⟩) ?_
      have hs : (seconds ts).length = ts.length := by unfold seconds; rw [List.length_map]
      refine run_whenR (b := !(decide (lenSet ((seconds ts).map Int.ofNat) = ts.length) && (seconds ts).all (fun p => decide (p ∈ W.left)))) ((et_or1 (et_test1 (ev_op1 (ev_lenSet (l := (seconds ts).map Int.ofNat) ((ev_var rfl).v.imp fun d e => by rw [e, mapN]) (by rw [List.length_map, hs]; omega)).v ((ev_len (l := (seconds ts).map eN) (ev_var rfl).v (.inr rfl)).is (y := eN ts.length) (by rw [List.length_map, hs])).v op_neN)) fun _ =>
        et_not (et_test1 (ev_all (bs := (seconds ts).map fun p => decide (p ∈ W.left)) ((ef_lcM (l := seconds ts) (enc := eN) (f := fun p => .bl (decide (p ∈ W.left))) (ei_lst (ev_var rfl)) (szB (by omega)) (by decide) (fun t _ => ev_op1 (ev_var rfl).v (ev_var rfl).v opR_inN)).v1.v.imp fun d e => by rw [e, List.map_map]; rfl)))).is ?_) (fun e => run_retE ev_bl ?_) fun e => ?_
      · rw [List.all_map, Bool.not_and]
        rfl
      · unfold Wo.isRing
        rw [Bool.not_eq_true'] at e
        rw [Bool.and_assoc (decide (2 ≤ ts.length) && ts.all W.reg.isTie), e, e0]
        rfl
      · rw [Bool.not_eq_false'] at e
        refine run_retE (ev_op1 ((ev_var rfl).is (y := .lst (((seconds ts).map some).map eO)) (by rw [List.map_map]; rfl)).v (ev_op1 ((ev_slL (ev_var rfl).v (eo_some ev_int) eo_none).v1.is (y := .lst (((ts.map fun t => W.reg.own t.1).drop 1).map eO)) (by rw [cut_tl, List.map_drop])).v ((ev_slL (ev_var rfl).v eo_none (eo_some ev_int)).v1.is (y := .lst (((ts.map fun t => W.reg.own t.1).take 1).map eO)) (by rw [cut_hd, List.map_take])).v (op_catL ?_)).v (op_eqL pl_O rfl (by rw [← List.map_append]))) ?_
        · simp only [List.length_map, List.length_drop, List.length_take]
          exact szC (by omega)
        · unfold Wo.isRing
          rw [Bool.and_assoc (decide (2 ≤ ts.length) && ts.all W.reg.isTie), e, e0]
          rfl
    ⟩
end
end Gv

namespace Gv
open PySem PySem.Spec PyProof.Rows L2
/-- sorted of a list of pairs of ints, wherever the pairs stand -/
def rSortedPT (K : PySem.W.Frag) : List V → Hp → VK → Prop := fun vs H Q => ∃ (a : Addr) (xs : List V) (ps : List (Int × Int)), vs = [V.ref a] ∧ SqL K H a xs ∧ xs.length = ps.length ∧
  (∀ q ∈ xs.zip ps, ∃ t, q.1 = V.ref t ∧ SqT K H t [.int q.2.1, .int q.2.2]) ∧
  ∀ (zs : List (V × (Int × Int))) (p : Addr), zs.Perm (xs.zip ps) → zs.Pairwise (fun a b => SrtO.lexB b.2 a.2 = false) → H p = none → Q (.ref p) (upd H p (.lst (zs.map (·.1))))
section
variable {X : Cx}
theorem zip_eq {α β : Type} {k : α → β} : ∀ {xs : List α} {ps : List β}, xs.length = ps.length → (∀ q ∈ xs.zip ps, k q.1 = q.2) → xs.zip ps = xs.map fun x => (x, k x)
  | [], [], _, _ => rfl
  | x :: xs, p :: ps, hl, h => by
    have e : k x = p := h (x, p) List.mem_cons_self
    rw [List.zip_cons_cons, List.map_cons, ← e, zip_eq (k := k) (Nat.succ.inj hl) fun q hq => h q (List.mem_cons_of_mem _ hq)]
theorem cr_sortedPT : CallR X (.builtin "sorted") (rSortedPT X.K) := by
  intro pins s σ H vs us Q I r h
  obtain ⟨a, xs, ps, rfl, hs, hlen, hx, q⟩ := h
  obtain ⟨its, rv, hl, hz⟩ := I.list hs
  obtain ⟨u, rfl, ru⟩ := vals1 r
  obtain rfl : u = Value.ref a := ru
  let k : V → Int × Int := fun x => open Classical in if h : ∃ p : Int × Int, ∃ t, x = V.ref t ∧ SqT X.K H t [.int p.1, .int p.2] then Classical.choose h else (0, 0)
  have hk : ∀ q ∈ xs.zip ps, k q.1 = q.2 := fun q hq => by
    obtain ⟨t, e1, e2⟩ := hx q hq
    have h : ∃ p : Int × Int, ∃ t, q.1 = V.ref t ∧ SqT X.K H t [.int p.1, .int p.2] := ⟨q.2, t, e1, e2⟩
    have hk : k q.1 = Classical.choose h := dif_pos h
    obtain ⟨t', f1, f2⟩ := Classical.choose_spec h
    rw [hk]
    have et : t' = t := by rw [e1] at f1; injection f1 with f1; exact f1.symm
    subst et
    have e := I.tuple_inj f2 e2
    injection e with e3 e4
    injection e4 with e5 _
    injection e3 with e3
    injection e5 with e5
    exact Prod.ext e3 e5
  have hzip := zip_eq hlen hk
  have hx' : ∀ x ∈ xs, ∃ t, x = V.ref t ∧ SqT X.K H t [.int (k x).1, .int (k x).2] := fun x hm => by
    have : (x, k x) ∈ xs.zip ps := by rw [hzip]; exact List.mem_map.mpr ⟨x, hm, rfl⟩
    exact hx _ this
  obtain ⟨e1, e2⟩ := refs_back rv fun x m => by
    obtain ⟨t, e, _⟩ := hx' x m
    exact ⟨t, e⟩
  refine SrtO.sorted_pairsO (k := fun u => k (backV u)) hl.isList (by rw [← rv.length]; exact hz) (fun v hv => ?_) fun h' d out h1 h2 kp hd hn => ?_
  · obtain ⟨t, rfl⟩ := e2 v hv
    have hm : V.ref t ∈ xs := by rw [e1]; exact List.mem_map.mpr ⟨_, hv, rfl⟩
    obtain ⟨t', e, ht⟩ := hx' _ hm
    cases e
    obtain ⟨its2, r2, ⟨o, ho, hc, n, hd⟩, _⟩ := I.tuple ht
    obtain ⟨u1, u2, rfl, ri, rj⟩ := vals2 r2
    obtain ⟨t1, rfl⟩ := ri
    obtain ⟨t2, rfl⟩ := rj
    exact ⟨t, o, t1, t2, n, rfl, ho, hc, hd⟩
  · have h3 : ∀ u ∈ out, ∃ a, u = Value.ref a := fun u hu => e2 u (h2.perm.mem_iff.mp hu)
    obtain ⟨n, hn⟩ := hn
    have hb : SrtO.Stb (ltP k) (out.map backV) xs := by
      rw [e1]
      exact SrtO.Stb.map (ltP_swo k) backV h2
    have hq := q ((out.map backV).map fun x => (x, k x)) d (by rw [hzip]; exact hb.perm.map _) (by
      rw [List.pairwise_map]
      exact SrtO.srtd_map (lt := ltP k) (f := backV) h1) (I.hok.fresh hd)
    have em : ((out.map backV).map fun x => (x, k x)).map (·.1) = out.map backV := by rw [List.map_map]; exact List.map_id _
    rw [em] at hq
    refine ⟨.ref d, upd H d (.lst (out.map backV)), I.laid (t' := s.toks) kp hd ⟨?_, out, n, vals_back h3, hn⟩, rfl, hq⟩
    rw [hb.len]
    exact hz
end
section
variable {K : PySem.W.Frag} {R : Rg} {r : REnv} {te : TE} {M : Addr → Prop} {H : Hp}
theorem IsDs.zipP : ∀ {l : List (Nat × Nat)} {xs : List V}, IsDs K M H xs (l.map eP) → ∀ q ∈ xs.zip (l.map fun p => ((p.1 : Int), (p.2 : Int))), IsD K M H q.1 (.tup [.int q.2.1, .int q.2.2])
  | [], _, h, q, hq => by cases h; simp at hq
  | p :: l, _, h, q, hq => by
    cases h with
    | cons h1 h2 =>
      rcases List.mem_cons.mp hq with e | hq
      · rw [e]; exact h1
      · exact IsDs.zipP h2 q hq
theorem IsDs.ofZip : ∀ {zs : List (V × (Int × Int))}, (∀ q ∈ zs, IsD K M H q.1 (.tup [.int q.2.1, .int q.2.2])) → IsDs K M H (zs.map (·.1)) (zs.map fun q => .tup [.int q.2.1, .int q.2.2])
  | [], _ => .nil
  | q :: zs, h => .cons (h q List.mem_cons_self) (IsDs.ofZip fun p hp => h p (List.mem_cons_of_mem _ hp))
theorem pairs_uniq {l m : List (Int × Int)} (h : l.Perm m) (hl : l.Pairwise fun a b => SrtO.lexB b a = false) (hm : m.Pairwise fun a b => SrtO.lexB b a = false) : l = m := by
  refine List.Perm.eq_of_pairwise (fun a b _ _ h1 h2 => ?_) hl hm h
  have a1 := SrtO.lexB_no.mp h1
  have a2 := SrtO.lexB_no.mp h2
  exact Prod.ext (by omega) (by omega)
theorem ef_sortedP {l : List (Nat × Nat)} (h : EvV K R te r (· = .lst (l.map eP))) : EvF K R (tCB (rSortedPT K) (tCons te tNil)) r (· = (sortP l).map eP) := fun M σ H hR ok inv e Q q =>
  h M σ H hR ok inv e _ fun v H1 d pd s1 i1 d1 => by
    subst pd
    obtain ⟨a, xs, rfl, h1, h2⟩ := isV_lst d1
    have hl := h2.len
    rw [List.length_map] at hl
    refine ⟨a, xs, l.map fun p => ((p.1 : Int), (p.2 : Int)), rfl, SqL.of h1, by rw [List.length_map, hl], fun q hq => ?_, fun zs p pm ps hp => ?_⟩
    · obtain ⟨a, xs, e1, e2, e3⟩ := isV_tup (rm := R.m) (.inl (h2.zipP q hq))
      refine ⟨a, e1, ?_⟩
      have := e2.sq
      cases e3 with
      | cons f1 f2 =>
        cases f2 with
        | cons g1 g2 =>
          cases f1; cases g1; cases g2
          exact this
    · have hz := IsDs.ofZip (K := K) (M := M) (H := H1) (zs := zs) fun q hq => h2.zipP q (pm.mem_iff.mp hq)
      have hsnd : zs.map (·.2) = (sortP l).map fun p => ((p.1 : Int), (p.2 : Int)) := by
        refine pairs_uniq ?_ (by rw [List.pairwise_map]; exact ps) ?_
        · refine (pm.map (·.2)).trans ?_
          rw [List.map_snd_zip (by rw [List.length_map, hl]; exact Nat.le_refl _)]
          exact ((sortP_perm l).map _).symm
        · rw [List.pairwise_map]
          refine (sortP_pw l).imp fun {a b} h => SrtO.lexB_no.mpr ?_
          have := leP_iff.mp h
          show ¬ ((b.1 : Int) < a.1 ∨ ((b.1 : Int) = a.1 ∧ (b.2 : Int) < a.2))
          omega
      have e2 : (zs.map fun q => D.tup [.int q.2.1, .int q.2.2]) = (sortP l).map eP := by
        have : (zs.map fun q => D.tup [.int q.2.1, .int q.2.2]) = (zs.map (·.2)).map fun q => D.tup [.int q.1, .int q.2] := by rw [List.map_map]; rfl
        rw [this, hsnd, List.map_map]
        rfl
      rw [e2] at hz
      refine q p _ _ _ rfl (none_back s1 hp) (s1.trans (Stp.of (same_new hp))) (inv_same hR (ok.stp s1) (same_new hp) i1) upd_same ?_
      exact (hz.add hp).same (same_new hp)
end
end Gv

namespace Gv
open PySem PySem.Spec PyProof.Rows L2
/-- the written globals -/
structure Glo (w : World) (K : PySem.W.Frag) (mg : Str → Option Value) : Type where
  aW : Addr
  aS : Addr
  uP : Value
  uF : Value
  m_WORDS : mg "WORDS" = some (.ref aW)
  r_WORDS : RelV (.ref aW) (.ref aW)
  kW : KTup K aW ((["test", "ring", "link", "away", "back", "come", "day"] : List Str).map V.str)
  m_SIZES : mg "SIZES" = some (.ref aS)
  r_SIZES : RelV (.ref aS) (.ref aS)
  kS : ∀ q ∈ ([("test", 4), ("ring", 2), ("link", 2), ("away", 2), ("back", 2), ("come", 3), ("day", 1)] : List (Str × Int)), KDct K w aS q.1 (.int q.2)
  m_MOST_PEOPLE : mg "MOST_PEOPLE" = some uP
  r_MOST_PEOPLE : RelV (.int 60) uP
  m_MOST_FRIENDS : mg "MOST_FRIENDS" = some uF
  r_MOST_FRIENDS : RelV (.int 120) uF
def g_need : List D → Oc → Prop := fun ds oc => ∃ (b : Bool) (k : Int), ds = [.bl b, .int k] ∧ oc = (if b = true then some (· = .non) else none)
theorem len_need : ∀ ds oc, g_need ds oc → ds.length = 2 := fun _ _ ⟨_, _, e, _⟩ => by rw [e]; rfl
abbrev C_need (P : Program) (w : World) (K : PySem.W.Frag) (mg : Str → Option Value) (base : Heap) (C : Addr) : Prop := Cal P w K mg base (L2.CX P w) 6 "need" ["is_right", "at"] (SpD K C R0 g_need)
def g_barred_more : List D → Oc → Prop := fun ds oc => ∃ (rg : Reg) (f p : Nat), ds = [eReg rg, eN f, eN p] ∧ rg.barred.length ≤ 100 ∧ oc = some (fun d => ∃ l : List (Nat × Nat), l.length ≤ rg.barred.length + 1 ∧ d = eReg { rg with barred := l })
theorem len_barred_more : ∀ ds oc, g_barred_more ds oc → ds.length = 3 := fun _ _ ⟨_, _, _, e, _⟩ => by rw [e]; rfl
abbrev C_barred_more (P : Program) (w : World) (K : PySem.W.Frag) (mg : Str → Option Value) (base : Heap) (C : Addr) : Prop := Cal P w K mg base CX0 2 "barred_more" ["registry", "friend", "person"] (SpD K C R0 g_barred_more)
section
variable {K : PySem.W.Frag} {R : Rg} {W : Addr → Prop} {E : XK} {C : Addr} {M : Addr → Prop} {H H' : Hp} {r : REnv} {te ta tb : TE} {tt : TT} {ts tu : TS} {N N' : REnv → Prop} {Rt Rt' : D → Prop} {X : Prop} {x : D}
theorem ev_ktup {a : Addr} {l : List Str} (h : KTup K a (l.map V.str)) : Ev K R (tC (.ref a)) r (· = .tup (l.map D.str)) := fun M σ H hR ok inv e Q q => by
  refine q _ H _ rfl (Stp.refl _ _) inv (.tup (.inr h) ?_)
  have : ∀ l : List Str, IsDs K M H (l.map V.str) (l.map D.str) := fun l => by
    induction l with
    | nil => exact .nil
    | cons s l ih => exact .cons (.str s) ih
  exact this l
theorem ev_adr {a : Addr} : Ev K R (tC (.ref a)) r (· = .adr a) := fun M σ H hR ok inv e Q q => q _ H _ rfl (Stp.refl _ _) inv (.adr a)
theorem op_ixD {w : World} {a : Addr} {z : Str} {n : Int} (h : KDct K w a z (.int n)) : OpD K (rIxD K w) (.adr a) (.str z) (· = .int n) := fun rm M H v u ok hv hu Q q => by
  have e1 := isV_adr hv
  have e2 := isV_str hu
  subst e1; subst e2
  exact ⟨a, z, _, rfl, rfl, h, q _ H _ rfl (same_refl H) (.int n)⟩
theorem run_x (h : Run K C R W E ts r N Rt True) (hX : X) : Run K C R W E ts r N Rt X := fun M σ H De w1 w2 ok inv e kn kr kx => h M σ H De w1 w2 ok inv e kn kr fun _ => kx hX
theorem run_need {ta : TA} {b : Bool} {k : Int} (ha : EvA K R ta r (· = [.bl b, .int k])) (h0 : b = false → X) (h1 : b = true → Run K C R W E tu r N Rt X) : Run K C R W E (tSeq (tDrop (tCall (SpD K C R0 g_need) [] E ta)) tu) r N Rt X := by
  cases b with
  | true => exact run_seq (N := (· = r)) (run_drop (ev_call1 (d := .non) ha ⟨true, k, rfl, rfl⟩) rfl) fun r' e => by rw [e]; exact h1 rfl
  | false => exact run_seq (N := fun _ => False) (run_x (run_dropX (ex_call ha ⟨false, k, rfl, rfl⟩)) (h0 rfl)) fun _ z => z.elim
theorem tg6 {a b c d e f : Nat} {x1 x2 x3 x4 x5 x6 : D} : TgD K (gTup K 6 (gCons (gName a) (gCons (gName b) (gCons (gName c) (gCons (gName d) (gCons (gName e) (gCons (gName f) gNil))))))) (.tup [x1, x2, x3, x4, x5, x6]) ([a] ++ ([b] ++ ([c] ++ ([d] ++ ([e] ++ ([f] ++ []))))))
    (fun r => (((((r.set a (some (.d x1))).set b (some (.d x2))).set c (some (.d x3))).set d (some (.d x4))).set e (some (.d x5))).set f (some (.d x6))) :=
  tg_tup (tgs_cons tg_name (tgs_cons tg_name (tgs_cons tg_name (tgs_cons tg_name (tgs_cons tg_name (tgs_cons tg_name tgs_nil)))))) rfl
theorem tg4 {a b c d : Nat} {x1 x2 x3 x4 : D} : TgD K (gTup K 4 (gCons (gName a) (gCons (gName b) (gCons (gName c) (gCons (gName d) gNil))))) (.tup [x1, x2, x3, x4]) ([a] ++ ([b] ++ ([c] ++ ([d] ++ []))))
    (fun r => (((r.set a (some (.d x1))).set b (some (.d x2))).set c (some (.d x3))).set d (some (.d x4))) :=
  tg_tup (tgs_cons tg_name (tgs_cons tg_name (tgs_cons tg_name (tgs_cons tg_name tgs_nil)))) rfl
/-- a def's run whose outcome is told by ok -/
theorem run_end {d : D} {P : D → Prop} {b : Bool} (h : Ev K R te r (· = x)) (hb : b = true) (hp : P x) : Run K C R W E (tRet te) r N (fun z => ∃ P' : D → Prop, (if b = true then some P else none) = some P' ∧ P' z) X := run_ret1 h ⟨P, by rw [if_pos hb], hp⟩
theorem run_endP {P0 : D → Prop} {P : D → Prop} {b : Bool} (h : Ev K R te r P0) (hb : b = true) (hp : ∀ x, P0 x → P x) : Run K C R W E (tRet te) r N (fun z => ∃ P' : D → Prop, (if b = true then some P else none) = some P' ∧ P' z) X := run_ret h fun x h => ⟨P, by rw [if_pos hb], hp x h⟩
/-- lengths of lists that are told by maps -/
theorem ev_lenM {α : Type} {f : α → D} {l : List α} (h : EvV K R te r (· = x)) (hx : x = .tup (l.map f) ∨ x = .lst (l.map f)) : Ev K R (tCB (rLenQ K) (tCons te tNil)) r (· = eN l.length) :=
  (ev_len (l := l.map f) h hx).is (by rw [List.length_map])
end
end Gv
namespace Gv
theorem okD_test (w : Wo) (f p : Nat) (b : Bool) : w.okD (.test f p b) = (decide (f < w.reg.friends.length) && (decide (p < w.reg.people.length) && w.reg.tie f p)) := rfl
theorem okD_ring (w : Wo) (ts : List (Nat × Nat)) : w.okD (.ring ts) = w.isRing ts := rfl
theorem okD_link (w : Wo) (t : Nat × Nat) : w.okD (.link t) = ((decide (t.1 < w.reg.friends.length) && decide (t.2 < w.reg.people.length)) && decide (t ∈ w.links)) := rfl
theorem okD_away (w : Wo) (p : Nat) : w.okD (.away p) = (decide (p < w.reg.people.length) && !decide (p ∈ w.away)) := rfl
theorem okD_back (w : Wo) (p : Nat) : w.okD (.back p) = (decide (p < w.reg.people.length) && decide (p ∈ w.away)) := rfl
theorem okD_come (w : Wo) (k : Option Nat) (ks : List Nat) : w.okD (.come k ks) = ((k.isNone || (decide (k.getD 0 < w.reg.fits.length) && decide (w.reg.people.length < 60))) && ks.all (fun k => decide (k < w.reg.fits.length)) && decide (w.reg.friends.length + ks.length ≤ 120)) := rfl
end Gv
namespace Gv
open PySem PySem.Spec PyProof.Rows L2
section
variable {K : PySem.W.Frag} {R : Rg} {W : Addr → Prop} {E : XK} {C : Addr} {M : Addr → Prop} {H H' : Hp} {r : REnv} {te ta tb : TE} {tt : TT} {ts tu : TS} {N N' : REnv → Prop} {Rt Rt' : D → Prop} {X : Prop} {x : D}
theorem op_eqW {a b : Str} : OpD K rEq (.str a) (.str b) (· = .bl (decide (a = b))) := by
  have h := op_eqS (K := K) (x := .str a) (y := .str b) (v := .str a) (w := .str b) rfl rfl rfl
  refine fun rm M H v w ok hv hw Q q => h rm M H v w ok hv hw Q fun z H' d e => q z H' d (e.trans (congrArg D.bl (decide_eq_decide.mpr ⟨fun e => by injection e, fun e => by rw [e]⟩)))
theorem run_retC {G : List D → Oc → Prop} {oc : Oc} {ta : TA} {ds : List D} (ha : EvA K R ta r (· = ds)) (hg : G ds oc) : Run K C R W E (tRet (tCall (SpD K C R0 G) [] E ta)) r N (fun z => ∃ P, oc = some P ∧ P z) (oc = none) := by
  cases oc with
  | none => exact run_x (run_retX (ex_call ha hg)) rfl
  | some P => exact run_ret (ev_callP ha fun ds e => by rw [e]; exact hg) fun d p => ⟨P, rfl, p⟩
theorem nm_in (d : De) : d.nm ∈ (["test", "ring", "link", "away", "back", "come", "day"] : List Str) := by
  cases d <;> simp [De.nm]
theorem nm_size (d : De) : (d.nm, ((d.args.length + 1 : Nat) : Int)) ∈ ([("test", 4), ("ring", 2), ("link", 2), ("away", 2), ("back", 2), ("come", 3), ("day", 1)] : List (Str × Int)) := by
  cases d <;> simp [De.nm, De.args]
theorem nm_test {d : De} (h : d.nm = "test") : ∃ f p b, d = .test f p b := by
  cases d with
  | test f p b => exact ⟨_, _, _, rfl⟩
  | ring ts => exact absurd h (show ¬ (("ring" : Str) = "test") by decide +kernel)
  | link t => exact absurd h (show ¬ (("link" : Str) = "test") by decide +kernel)
  | away p => exact absurd h (show ¬ (("away" : Str) = "test") by decide +kernel)
  | back p => exact absurd h (show ¬ (("back" : Str) = "test") by decide +kernel)
  | come k ks => exact absurd h (show ¬ (("come" : Str) = "test") by decide +kernel)
  | day  => exact absurd h (show ¬ (("day" : Str) = "test") by decide +kernel)
theorem nm_ring {d : De} (h : d.nm = "ring") : ∃ ts, d = .ring ts := by
  cases d with
  | test f p b => exact absurd h (show ¬ (("test" : Str) = "ring") by decide +kernel)
  | ring ts => exact ⟨_, rfl⟩
  | link t => exact absurd h (show ¬ (("link" : Str) = "ring") by decide +kernel)
  | away p => exact absurd h (show ¬ (("away" : Str) = "ring") by decide +kernel)
  | back p => exact absurd h (show ¬ (("back" : Str) = "ring") by decide +kernel)
  | come k ks => exact absurd h (show ¬ (("come" : Str) = "ring") by decide +kernel)
  | day  => exact absurd h (show ¬ (("day" : Str) = "ring") by decide +kernel)
theorem nm_link {d : De} (h : d.nm = "link") : ∃ t, d = .link t := by
  cases d with
  | test f p b => exact absurd h (show ¬ (("test" : Str) = "link") by decide +kernel)
  | ring ts => exact absurd h (show ¬ (("ring" : Str) = "link") by decide +kernel)
  | link t => exact ⟨_, rfl⟩
  | away p => exact absurd h (show ¬ (("away" : Str) = "link") by decide +kernel)
  | back p => exact absurd h (show ¬ (("back" : Str) = "link") by decide +kernel)
  | come k ks => exact absurd h (show ¬ (("come" : Str) = "link") by decide +kernel)
  | day  => exact absurd h (show ¬ (("day" : Str) = "link") by decide +kernel)
theorem nm_away {d : De} (h : d.nm = "away") : ∃ p, d = .away p := by
  cases d with
  | test f p b => exact absurd h (show ¬ (("test" : Str) = "away") by decide +kernel)
  | ring ts => exact absurd h (show ¬ (("ring" : Str) = "away") by decide +kernel)
  | link t => exact absurd h (show ¬ (("link" : Str) = "away") by decide +kernel)
  | away p => exact ⟨_, rfl⟩
  | back p => exact absurd h (show ¬ (("back" : Str) = "away") by decide +kernel)
  | come k ks => exact absurd h (show ¬ (("come" : Str) = "away") by decide +kernel)
  | day  => exact absurd h (show ¬ (("day" : Str) = "away") by decide +kernel)
theorem nm_back {d : De} (h : d.nm = "back") : ∃ p, d = .back p := by
  cases d with
  | test f p b => exact absurd h (show ¬ (("test" : Str) = "back") by decide +kernel)
  | ring ts => exact absurd h (show ¬ (("ring" : Str) = "back") by decide +kernel)
  | link t => exact absurd h (show ¬ (("link" : Str) = "back") by decide +kernel)
  | away p => exact absurd h (show ¬ (("away" : Str) = "back") by decide +kernel)
  | back p => exact ⟨_, rfl⟩
  | come k ks => exact absurd h (show ¬ (("come" : Str) = "back") by decide +kernel)
  | day  => exact absurd h (show ¬ (("day" : Str) = "back") by decide +kernel)
theorem nm_come {d : De} (h : d.nm = "come") : ∃ k ks, d = .come k ks := by
  cases d with
  | test f p b => exact absurd h (show ¬ (("test" : Str) = "come") by decide +kernel)
  | ring ts => exact absurd h (show ¬ (("ring" : Str) = "come") by decide +kernel)
  | link t => exact absurd h (show ¬ (("link" : Str) = "come") by decide +kernel)
  | away p => exact absurd h (show ¬ (("away" : Str) = "come") by decide +kernel)
  | back p => exact absurd h (show ¬ (("back" : Str) = "come") by decide +kernel)
  | come k ks => exact ⟨_, _, rfl⟩
  | day  => exact absurd h (show ¬ (("day" : Str) = "come") by decide +kernel)
theorem nm_day {d : De} (h : d.nm = "day") : d = .day  := by
  cases d with
  | test f p b => exact absurd h (show ¬ (("test" : Str) = "day") by decide +kernel)
  | ring ts => exact absurd h (show ¬ (("ring" : Str) = "day") by decide +kernel)
  | link t => exact absurd h (show ¬ (("link" : Str) = "day") by decide +kernel)
  | away p => exact absurd h (show ¬ (("away" : Str) = "day") by decide +kernel)
  | back p => exact absurd h (show ¬ (("back" : Str) = "day") by decide +kernel)
  | come k ks => exact absurd h (show ¬ (("come" : Str) = "day") by decide +kernel)
  | day  => exact rfl
theorem nm_last {d : De} (h1 : ¬ d.nm = "test") (h2 : ¬ d.nm = "ring") (h3 : ¬ d.nm = "link") (h4 : ¬ d.nm = "come") (h5 : ¬ d.nm = "day") : ∃ p, d = .away p ∨ d = .back p := by
  cases d with
  | test f p b => exact absurd rfl h1
  | ring ts => exact absurd rfl h2
  | link t => exact absurd rfl h3
  | away p => exact ⟨p, .inl rfl⟩
  | back p => exact ⟨p, .inr rfl⟩
  | come k ks => exact absurd rfl h4
  | day => exact absurd rfl h5
theorem ev_tupS {ta : TA} {ds : List D} (h : EvA K R ta r (· = ds)) (hz : ds.length ≤ sizeLine) : Ev K R (tTup ta) r (· = .tup ds) := ev_tup1 h hz
end
end Gv
namespace Gv
theorem at0 {α : Type} (x : α) (l : List α) : L2.atI (x :: l) 0 = some x := by
  have h := atI_nat (l := x :: l) (i := 0) (by simp)
  exact h
end Gv
namespace Gv
open PySem PySem.Spec PyProof.Rows L2
section
variable {K : PySem.W.Frag} {R : Rg} {r : REnv} {te : TE} {a b c d e f : D}
theorem ev_tail6 (h : EvV K R te r (· = .tup [a, b, c, d, e, f])) : Ev K R (tSl (rSlT K) te (tPart (tC (.int 1))) tNoPart) r (· = .tup [b, c, d, e, f]) :=
  (ev_slT h (eo_some ev_int) eo_none (show ¬ (HT.sIx 6 0 (some 1) = 0 ∧ HT.sIx 6 6 none = 6) by decide)).is rfl
theorem ev_head5 (h : EvV K R te r (· = .tup [a, b, c, d, e, f])) : Ev K R (tSl (rSlT K) te tNoPart (tPart (tC (.int 5)))) r (· = .tup [a, b, c, d, e]) :=
  (ev_slT h eo_none (eo_some ev_int) (show ¬ (HT.sIx 6 0 none = 0 ∧ HT.sIx 6 6 (some 5) = 6) by decide)).is rfl
end
end Gv

namespace Gv
open PySem PySem.Spec PyProof.Rows L2
section
variable {P : Program} {w : World} {K : PySem.W.Frag} {mg : Str → Option Value} {base : Heap} {C : Addr}
def g_tested : List D → Oc → Prop := fun ds oc => ∃ (B : Nat) (W : Wo) (f p : Nat) (b : Bool), ds = [eW W, eD (.test f p b)] ∧ W.Wf B ∧ oc = OkOc W (.test f p b)
abbrev C_tested (P : Program) (w : World) (K : PySem.W.Frag) (mg : Str → Option Value) (base : Heap) (C : Addr) : Prop := Cal P w K mg base (L2.CX P w) 7 "tested" ["world", "deed"] (SpD K C R0 g_tested)
theorem sc_tested : FnScope ["world", "deed", "day", "registry", "got", "gave", "due", "away"] ["world", "deed"] (defScope s_tested) := ⟨rfl, rfl, rfl, by decide +kernel, rfl, by decide +kernel, by decide +kernel⟩
theorem len_tested : ∀ ds oc, g_tested ds oc → ds.length = 2 := fun _ _ ⟨_, _, _, _, _, e, _⟩ => by rw [e]; rfl
theorem cal_tested (d : Df K mg "tested" s_tested) (T : Nms K mg) (c_need : C_need P w K mg base C) (c_is_index : C_is_index P w K mg base C) (c_has_tie : C_has_tie P w K mg base C) (c_barred_more : C_barred_more P w K mg base C)  : C_tested P w K mg base C := by
  refine cal_of d sc_tested (SpD.len len_tested) (fun _ _ _ _ _ _ us hl => match us, hl with | [_, _], _ => rfl) fun f cdv A outer s H vs Q E hr h => ⟨_, (pss_cons (ps_asg (pv 0) (pg_tup rfl (pgs_cons (pg_name (i := 2) sc_tested.nd rfl (Or.inl rfl)) (pgs_cons (pg_name (i := 3) sc_tested.nd rfl (Or.inl rfl)) (pgs_cons (pg_name (i := 4) sc_tested.nd rfl (Or.inl rfl)) (pgs_cons (pg_name (i := 5) sc_tested.nd rfl (Or.inl rfl)) (pgs_cons (pg_name (i := 6) sc_tested.nd rfl (Or.inl rfl)) (pgs_cons (pg_name (i := 7) sc_tested.nd rfl (Or.inl rfl)) pgs_nil))))))))
    (pss_cons (ps_expr (pe_calc c_need (hr.mono (by decide)) rfl (passes_call (takes_of rfl rfl rfl rfl) fun _ _ _ _ h => h) (pa_cons (pe_calc c_is_index (hr.mono (by decide)) rfl pass0 (pa_cons (pe_ix ix_tup (pv 1) pe_int (fun _ _ => rfl)) (pa_cons (pe_callB (id := "len") call_len_seq rfl T.len (by decide +kernel) (pa_cons (pe_ix ix_tup (pv 3) pe_int (fun _ _ => rfl)) pa_nil)) pa_nil))) (pa_cons pe_int pa_nil))))
    (pss_cons (ps_expr (pe_calc c_need (hr.mono (by decide)) rfl (passes_call (takes_of rfl rfl rfl rfl) fun _ _ _ _ h => h) (pa_cons (pe_and (pe_calc c_is_index (hr.mono (by decide)) rfl pass0 (pa_cons (pe_ix ix_tup (pv 1) pe_int (fun _ _ => rfl)) (pa_cons (pe_callB (id := "len") call_len_seq rfl T.len (by decide +kernel) (pa_cons (pe_ix ix_tup (pv 3) pe_int (fun _ _ => rfl)) pa_nil)) pa_nil))) (pe_one (pe_calc c_has_tie (hr.mono (by decide)) rfl pass0 (pa_cons (pv 3) (pa_cons (pe_ix ix_tup (pv 1) pe_int (fun _ _ => rfl)) (pa_cons (pe_ix ix_tup (pv 1) pe_int (fun _ _ => rfl)) pa_nil)))))) (pa_cons pe_int pa_nil))))
    (pss_cons (ps_expr (pe_calc c_need (hr.mono (by decide)) rfl (passes_call (takes_of rfl rfl rfl rfl) fun _ _ _ _ h => h) (pa_cons (pe_callB call_isi rfl T.isinstance (by decide +kernel) (pa_cons (pe_ix ix_tup (pv 1) pe_int (fun _ _ => rfl)) (pa_cons (pe_bltn (v := .ty "bool") rfl T.bool (by decide +kernel) rfl) pa_nil))) (pa_cons pe_int pa_nil))))
    (pss_cons (ps_if (pt_not (pt_val (pe_ix ix_tup (pv 1) pe_int (fun _ _ => rfl)))) (pss_one (ps_set (i := 3) sc_tested.nd rfl (Or.inl rfl) (pe_calc c_barred_more (hr.mono (by decide)) rfl pass0 (pa_cons (pv 3) (pa_cons (pe_ix ix_tup (pv 1) pe_int (fun _ _ => rfl)) (pa_cons (pe_ix ix_tup (pv 1) pe_int (fun _ _ => rfl)) pa_nil)))))) pss_nil)
    (pss_one (ps_ret (pe_tup (pa_cons (pv 2) (pa_cons (pv 3) (pa_cons (pv 4) (pa_cons (pv 5) (pa_cons (pv 6) (pa_cons (pv 7) pa_nil)))))))))))))),
    def_run h fun ds oc g => by
    obtain ⟨B, W, f, p, b, rfl, wf, rfl⟩ := g
    refine run_let (ev_var rfl) tg6 ?_
    refine run_need (ea_c (ev_call1 (ea_c (ev_op1 (ev_var rfl).v ev_int.v (op_ixT rfl)) (ea_c (ev_lenM (f := eF) (ev_op1 (ev_var rfl).v ev_int.v (op_ixT rfl)).v (.inl rfl)) ea_nil)) ⟨f, W.reg.friends.length, rfl, rfl⟩) (ea_c ev_int ea_nil)) (fun e => okOc0 ?_) fun e1 => ?_
    · rw [okD_test]
      rw [e]
      rfl
    refine run_need (ea_c (ev_and1 (ev_call1 (ea_c (ev_op1 (ev_var rfl).v ev_int.v (op_ixT rfl)) (ea_c (ev_lenM (f := eN) (ev_op1 (ev_var rfl).v ev_int.v (op_ixT rfl)).v (.inl rfl)) ea_nil)) ⟨p, W.reg.people.length, rfl, rfl⟩) fun e2 => ev_call1 (ea_c (ev_var rfl) (ea_c (ev_op1 (ev_var rfl).v ev_int.v (op_ixT rfl)) (ea_c (ev_op1 (ev_var rfl).v ev_int.v (op_ixT rfl)) ea_nil))) ⟨B, W.reg, f, p, rfl, ⟨wf.reg, of_decide_eq_true e1, of_decide_eq_true e2⟩, rfl⟩) (ea_c ev_int ea_nil)) (fun e => okOc0 ?_) fun e2 => ?_
    · rw [okD_test]
      rw [e, Bool.and_false]
    have hok : W.okD (.test f p b) = true := by
      rw [okD_test]
      rw [e1, e2]
      rfl
    refine run_need (b := true) (ea_c ((ev_isi (d := .bl b) (.inr (.inl rfl)) (fun _ => by nofun) (ev_op1 (ev_var rfl).v ev_int.v (op_ixT rfl))).is (y := .bl true) rfl) (ea_c ev_int ea_nil)) (fun e => by cases e) fun _ => ?_
    cases b with
    | true =>
      refine run_seq (N := (· = _)) (run_if1 (et_not (et_test1 (ev_op1 (ev_var rfl).v ev_int.v (op_ixT rfl)))) (fun e => by cases e) fun e => run_next rfl) fun r' e => ?_
      subst e
      exact run_ret1 (ev_tup1 (ea_c (ev_var rfl) (ea_c (ev_var rfl) (ea_c (ev_var rfl) (ea_c (ev_var rfl) (ea_c (ev_var rfl) (ea_c (ev_var rfl) ea_nil)))))) sz6) (okOc1 hok (.test1 f p))
    | false =>
      refine run_seq (N := fun r' => ∃ l : List (Nat × Nat), l.length ≤ W.reg.barred.length + 1 ∧ r' = slD [some (eW W), some (eD (.test f p false)), some (eN W.day), some (eReg { W.reg with barred := l }), some (eT W.got), some (eT W.gave), some (ePs W.due), some (eT W.away)]) (run_if1 (et_not (et_test1 (ev_op1 (ev_var rfl).v ev_int.v (op_ixT rfl)))) (fun e => run_asg (ev_callP (ea_c (ev_var rfl) (ea_c (ev_op1 (ev_var rfl).v ev_int.v (op_ixT rfl)) (ea_c (ev_op1 (ev_var rfl).v ev_int.v (op_ixT rfl)) ea_nil))) (fun ds e => ⟨W.reg, f, p, e, wf.reg.barred100, rfl⟩)) fun d ⟨l, hl, e⟩ => ⟨l, hl, by rw [e]; rfl⟩) fun e => by cases e) fun r' ⟨l, hl, e⟩ => ?_
      subst e
      exact run_ret1 (ev_tup1 (ea_c (ev_var rfl) (ea_c (ev_var rfl) (ea_c (ev_var rfl) (ea_c (ev_var rfl) (ea_c (ev_var rfl) (ea_c (ev_var rfl) ea_nil)))))) sz6) (okOc1 hok (.test0 f p l hl))
    ⟩
def g_ringed : List D → Oc → Prop := fun ds oc => ∃ (B : Nat) (W : Wo) (ts : List (Nat × Nat)), ds = [eW W, ePs ts] ∧ (W.Wf B ∧ ts.length ≤ 1000) ∧ oc = OkOc W (.ring ts)
abbrev C_ringed (P : Program) (w : World) (K : PySem.W.Frag) (mg : Str → Option Value) (base : Heap) (C : Addr) : Prop := Cal P w K mg base (L2.CX P w) 8 "ringed" ["world", "ties"] (SpD K C R0 g_ringed)
theorem sc_ringed : FnScope ["world", "ties", "day", "registry", "got", "gave", "due", "away", "tie"] ["world", "ties"] (defScope s_ringed) := ⟨rfl, rfl, rfl, by decide +kernel, rfl, by decide +kernel, by decide +kernel⟩
theorem len_ringed : ∀ ds oc, g_ringed ds oc → ds.length = 2 := fun _ _ ⟨_, _, _, e, _⟩ => by rw [e]; rfl
theorem cal_ringed (d : Df K mg "ringed" s_ringed) (T : Nms K mg) (c_need : C_need P w K mg base C) (c_is_ring : C_is_ring P w K mg base C) (c_put_in : C_put_in P w K mg base C)  : C_ringed P w K mg base C := by
  refine cal_of d sc_ringed (SpD.len len_ringed) (fun _ _ _ _ _ _ us hl => match us, hl with | [_, _], _ => rfl) fun f cdv A outer s H vs Q E hr h => ⟨_, (pss_cons (ps_expr (pe_calc c_need (hr.mono (by decide)) rfl (passes_call (takes_of rfl rfl rfl rfl) fun _ _ _ _ h => h) (pa_cons (pe_calc c_is_ring (hr.mono (by decide)) rfl pass0 (pa_cons (pv 0) (pa_cons (pv 1) pa_nil))) (pa_cons pe_int pa_nil))))
    (pss_cons (ps_asg (pv 0) (pg_tup rfl (pgs_cons (pg_name (i := 2) sc_ringed.nd rfl (Or.inl rfl)) (pgs_cons (pg_name (i := 3) sc_ringed.nd rfl (Or.inl rfl)) (pgs_cons (pg_name (i := 4) sc_ringed.nd rfl (Or.inl rfl)) (pgs_cons (pg_name (i := 5) sc_ringed.nd rfl (Or.inl rfl)) (pgs_cons (pg_name (i := 6) sc_ringed.nd rfl (Or.inl rfl)) (pgs_cons (pg_name (i := 7) sc_ringed.nd rfl (Or.inl rfl)) pgs_nil))))))))
    (pss_one (ps_ret (pe_tup (pa_cons (pv 2) (pa_cons (pv 3) (pa_cons (pe_calc c_put_in (hr.mono (by decide)) rfl pass0 (pa_cons (pv 4) (pa_cons (pe_lc (own := [("tie", 8)]) (g := (gName 8)) (tt := tYes) rfl sc_ringed.nd (pi_tup (pv 1)) (blkOk_by (own := [("tie", 8)]) (by kernel_rfl)) (fun _ _ _ _ _ => (pg_name (i := 8) sc_ringed.nd rfl (Or.inl rfl))) (fun _ _ _ _ _ => pts_nil) (fun _ _ _ _ _ => (pe_ix ix_tup (pv 8) pe_int (fun _ _ => rfl)))) pa_nil))) (pa_cons (pe_calc c_put_in (hr.mono (by decide)) rfl pass0 (pa_cons (pv 5) (pa_cons (pe_lc (own := [("tie", 8)]) (g := (gName 8)) (tt := tYes) rfl sc_ringed.nd (pi_tup (pv 1)) (blkOk_by (own := [("tie", 8)]) (by kernel_rfl)) (fun _ _ _ _ _ => (pg_name (i := 8) sc_ringed.nd rfl (Or.inl rfl))) (fun _ _ _ _ _ => pts_nil) (fun _ _ _ _ _ => (pe_ix ix_tup (pv 8) pe_int (fun _ _ => rfl)))) pa_nil))) (pa_cons (pv 6) (pa_cons (pv 7) pa_nil))))))))))),
    def_run h fun ds oc g => by
    obtain ⟨B, W, ts, rfl, ⟨wf, ht⟩, rfl⟩ := g
    have hB := wf.reg.hB
    have hg := wf.got
    have hv := wf.gave
    have h1 : (seconds ts).length = ts.length := by unfold seconds; rw [List.length_map]
    have h2 : (firsts ts).length = ts.length := by unfold firsts; rw [List.length_map]
    refine run_need (ea_c (ev_call1 (ea_c (ev_var rfl) (ea_c (ev_var rfl) ea_nil)) ⟨B, W, ts, rfl, ⟨wf, ht⟩, rfl⟩) (ea_c ev_int ea_nil)) (fun e => okOc0 e) fun e => ?_
    refine run_let (ev_var rfl) tg6 ?_
    exact run_ret1 (ev_tup1 (ea_c (ev_var rfl) (ea_c (ev_var rfl) (ea_c (ev_call1 (ea_c (ev_var rfl) (ea_c ((ef_lcM (l := ts) (enc := eP) (f := fun t => eN t.2) (ei_tup (ev_var rfl)) (szB (by omega)) (by decide) (fun t _ => ev_op1 (ev_var rfl).v ev_int.v (op_ixT rfl))).v1.is (y := .lst ((seconds ts).map eN)) (by unfold seconds; rw [List.map_map]; rfl)) ea_nil)) ⟨W.got, seconds ts, rfl, ⟨by omega, by omega⟩, rfl⟩)
      (ea_c (ev_call1 (ea_c (ev_var rfl) (ea_c ((ef_lcM (l := ts) (enc := eP) (f := fun t => eN t.1) (ei_tup (ev_var rfl)) (szB (by omega)) (by decide) (fun t _ => ev_op1 (ev_var rfl).v ev_int.v (op_ixT rfl))).v1.is (y := .lst ((firsts ts).map eN)) (by unfold firsts; rw [List.map_map]; rfl)) ea_nil)) ⟨W.gave, firsts ts, rfl, ⟨by omega, by omega⟩, rfl⟩)
      (ea_c (ev_var rfl) (ea_c (ev_var rfl) ea_nil)))))) sz6) (okOc1 (W := W) (d := .ring ts) e (.ring ts))
    ⟩
def g_linked : List D → Oc → Prop := fun ds oc => ∃ (B : Nat) (W : Wo) (t : Nat × Nat), ds = [eW W, eP t] ∧ W.Wf B ∧ oc = OkOc W (.link t)
abbrev C_linked (P : Program) (w : World) (K : PySem.W.Frag) (mg : Str → Option Value) (base : Heap) (C : Addr) : Prop := Cal P w K mg base (L2.CX P w) 7 "linked" ["world", "tie"] (SpD K C R0 g_linked)
theorem sc_linked : FnScope ["world", "tie", "day", "registry", "got", "gave", "due", "away", "pair"] ["world", "tie"] (defScope s_linked) := ⟨rfl, rfl, rfl, by decide +kernel, rfl, by decide +kernel, by decide +kernel⟩
theorem len_linked : ∀ ds oc, g_linked ds oc → ds.length = 2 := fun _ _ ⟨_, _, _, e, _⟩ => by rw [e]; rfl
theorem cal_linked (d : Df K mg "linked" s_linked) (T : Nms K mg) (c_need : C_need P w K mg base C) (c_links_left : C_links_left P w K mg base C) (c_is_pair_of : C_is_pair_of P w K mg base C) (c_owner_of : C_owner_of P w K mg base C) (c_friends_of : C_friends_of P w K mg base C) (c_put_in : C_put_in P w K mg base C)  : C_linked P w K mg base C := by
  refine cal_of d sc_linked (SpD.len len_linked) (fun _ _ _ _ _ _ us hl => match us, hl with | [_, _], _ => rfl) fun f cdv A outer s H vs Q E hr h => ⟨_, (pss_cons (ps_asg (pv 0) (pg_tup rfl (pgs_cons (pg_name (i := 2) sc_linked.nd rfl (Or.inl rfl)) (pgs_cons (pg_name (i := 3) sc_linked.nd rfl (Or.inr rfl)) (pgs_cons (pg_name (i := 4) sc_linked.nd rfl (Or.inl rfl)) (pgs_cons (pg_name (i := 5) sc_linked.nd rfl (Or.inl rfl)) (pgs_cons (pg_name (i := 6) sc_linked.nd rfl (Or.inl rfl)) (pgs_cons (pg_name (i := 7) sc_linked.nd rfl (Or.inl rfl)) pgs_nil))))))))
    (pss_cons (ps_expr (pe_calc c_need (hr.mono (by decide)) rfl (passes_call (takes_of rfl rfl rfl rfl) fun _ _ _ _ h => h) (pa_cons (pe_and (pe_calc c_is_pair_of (hr.mono (by decide)) rfl pass0 (pa_cons (pv 1) (pa_cons (pe_callB (id := "len") call_len_seq rfl T.len (by decide +kernel) (pa_cons (pe_ix ix_tup (pv 3) pe_int (fun _ _ => rfl)) pa_nil)) (pa_cons (pe_callB (id := "len") call_len_seq rfl T.len (by decide +kernel) (pa_cons (pe_ix ix_tup (pv 3) pe_int (fun _ _ => rfl)) pa_nil)) pa_nil)))) (pe_one (pe_cmpR (op_inDT (hu65 hr)) (pv 1) (pe_calc c_links_left (hr.mono (by decide)) rfl pass0 (pa_cons (pv 0) pa_nil)) rfl))) (pa_cons pe_int pa_nil))))
    (pss_cons (ps_setLc (i := 6) (own := [("pair", 8)]) (g := (gName 8)) rfl sc_linked.nd rfl rfl (sw_true rfl rfl rfl (by decide +kernel)) (pi_tup (pv 6)) (blkOk_by (own := [("pair", 8)]) (by kernel_rfl)) (fun _ _ _ _ _ => (pg_name (i := 8) sc_linked.nd rfl (Or.inl rfl))) (fun _ _ _ _ _ => (pts_one (pt_cmpR op_ne (pe_ix ix_tup (pv 8) pe_int (fun _ _ => rfl)) (pe_calc c_owner_of (hr.mono (by decide)) rfl pass0 (pa_cons (pv 3) (pa_cons (pe_ix ix_tup (pv 1) pe_int (fun _ _ => rfl)) pa_nil))) (nomark _)))) (fun _ _ _ _ _ => (pv 8)))
    (pss_cons (ps_if (pt_cmpR op_gt (pe_callB (id := "len") call_len_seq rfl T.len (by decide +kernel) (pa_cons (pe_calc c_friends_of (hr.mono (by decide)) rfl pass0 (pa_cons (pv 3) (pa_cons (pe_ix ix_tup (pv 1) pe_int (fun _ _ => rfl)) pa_nil))) pa_nil)) pe_int (nomark _)) (pss_one (ps_expr (pe_bm PySem.F.plainAttrs_list PySem.F.slot_list_append PySem.F.type_list_append mt_append (pv 6) (pa_cons (pe_tup (pa_cons (pe_ix ix_tup (pv 1) pe_int (fun _ _ => rfl)) (pa_cons (pv 2) pa_nil))) pa_nil)))) pss_nil)
    (pss_one (ps_ret (pe_tup (pa_cons (pv 2) (pa_cons (pv 3) (pa_cons (pe_calc c_put_in (hr.mono (by decide)) rfl pass0 (pa_cons (pv 4) (pa_cons (pe_lst (pa_cons (pe_ix ix_tup (pv 1) pe_int (fun _ _ => rfl)) pa_nil)) pa_nil))) (pa_cons (pe_calc c_put_in (hr.mono (by decide)) rfl pass0 (pa_cons (pv 5) (pa_cons (pe_lst (pa_cons (pe_ix ix_tup (pv 1) pe_int (fun _ _ => rfl)) pa_nil)) pa_nil))) (pa_cons (pe_callTy (T := "tuple") call_tuple_of rfl T.tuple (by decide +kernel) (pa_cons (pe_callB (id := "sorted") cr_sortedPT rfl T.sorted (by decide +kernel) (pa_cons (pv 6) pa_nil)) pa_nil)) (pa_cons (pv 7) pa_nil))))))))))))),
    def_run h fun ds oc g => by
    obtain ⟨B, W, t, rfl, wf, rfl⟩ := g
    have hB := wf.reg.hB
    have hg := wf.got
    have hv := wf.gave
    have hd := wf.due
    refine run_let (ev_var rfl) tg6 ?_
    refine run_need (ea_c (ev_and1 (ev_call1 (ea_c (ev_var rfl) (ea_c (ev_lenM (f := eF) (ev_op1 (ev_var rfl).v ev_int.v (op_ixT rfl)).v (.inl rfl)) (ea_c (ev_lenM (f := eN) (ev_op1 (ev_var rfl).v ev_int.v (op_ixT rfl)).v (.inl rfl)) ea_nil))) ⟨t, W.reg.friends.length, W.reg.people.length, rfl, rfl⟩) fun _ => ev_op1 (ev_var rfl).v (ev_call1 (ea_c (ev_var rfl) ea_nil) ⟨B, W, rfl, wf, rfl⟩).v opR_inP) (ea_c ev_int ea_nil)) (fun e => okOc0 e) fun e => ?_
    have e' : (decide (t.1 < W.reg.friends.length) && decide (t.2 < W.reg.people.length) && decide (t ∈ W.links)) = true := e
    simp only [Bool.and_eq_true, decide_eq_true_eq] at e'
    have hf := e'.1.1
    have hp := e'.1.2
    refine run_own (ef_lcN (l := W.due) (enc := eP) (b := fun q => !decide (W.reg.own t.1 = some q.1)) (f := eP) (ei_tup (ev_var rfl)) (szB (by omega)) (by decide)
      (fun q _ => et_test1 (ev_op1 (ev_op1 (ev_var rfl).v ev_int.v (op_ixT rfl)).v (ev_call1 (ea_c (ev_var rfl) (ea_c (ev_op1 (ev_var rfl).v ev_int.v (op_ixT rfl)) ea_nil)) ⟨B, W.reg, t.1, rfl, hf, rfl⟩).v op_neNO)) fun x _ _ => ev_var rfl) fun p ds e2 => ?_
    subst e2
    have hfl := List.length_filter_le (fun q : Nat × Nat => !decide (W.reg.own t.1 = some q.1)) W.due
    refine run_seq (N := fun r' => r' = (slD [some (eW W), some (eP t), some (eN W.day), some (eReg W.reg), some (eT W.got), some (eT W.gave), none, some (eT W.away), none]).set 6 (some (.own p (((W.due.filter fun q => !decide (W.reg.own t.1 = some q.1)) ++ if 0 < (W.reg.ofP t.2).length then [(t.2, W.day)] else []).map eP))))
      (run_if1 (b := decide (0 < (W.reg.ofP t.2).length)) ((et_test1 (ev_op1 (ev_lenM (f := eN) (ev_call1 (ea_c (ev_var rfl) (ea_c (ev_op1 (ev_var rfl).v ev_int.v (op_ixT rfl)) ea_nil)) ⟨B, W.reg, t.2, rfl, wf.reg, rfl⟩).v (.inl rfl)).v ev_int.v op_ib)).is ?_) (fun e => run_append rfl (.inr rfl) ?_ ?_ (ev_tup1 (ea_c (ev_op1 (ev_var rfl).v ev_int.v (op_ixT rfl)) (ea_c (ev_var rfl) ea_nil)) sz2) fun d e2 => ?_) fun e => run_next ?_) fun r' e => ?_
    · exact decide_eq_decide.mpr Int.ofNat_lt
    · exact ho_set (xs := [some (eW W), some (eP t), some (eN W.day), some (eReg W.reg), some (eT W.got), some (eT W.gave), none, some (eT W.away), none])
    · rw [List.length_map]
      exact szB (by omega)
    · rw [e2, if_pos (of_decide_eq_true e), List.map_append]
      rfl
    · rw [if_neg (of_decide_eq_false e), List.append_nil]
      rfl
    · subst e
      refine run_ret1 (ev_tup1 (ea_c (ev_var rfl) (ea_c (ev_var rfl) (ea_c (ev_call1 (ea_c (ev_var rfl) (ea_c (ev_lst (ea_c (ev_op1 (ev_var rfl).v ev_int.v (op_ixT rfl)) ea_nil) fun ds e => by rw [e]; exact sz1).v1 ea_nil)) ⟨W.got, [t.2], rfl, ⟨by omega, by simp⟩, rfl⟩)
        (ea_c (ev_call1 (ea_c (ev_var rfl) (ea_c (ev_lst (ea_c (ev_op1 (ev_var rfl).v ev_int.v (op_ixT rfl)) ea_nil) fun ds e => by rw [e]; exact sz1).v1 ea_nil)) ⟨W.gave, [t.1], rfl, ⟨by omega, by simp⟩, rfl⟩)
        (ea_c (ev_tuple (ef_sortedP (ev_own rfl)).v1.v) (ea_c (ev_var rfl) ea_nil)))))) sz6) (okOc1 ?_ (.link t))
      assumption
    ⟩
end
end Gv

namespace Gv
open PySem PySem.Spec PyProof.Rows L2
section
variable {P : Program} {w : World} {K : PySem.W.Frag} {mg : Str → Option Value} {base : Heap} {C : Addr}
def g_come : List D → Oc → Prop := fun ds oc => ∃ (B : Nat) (W : Wo) (k : Option Nat) (ks : List Nat), ds = [eW W, eO k, eT ks] ∧ (W.Wf B ∧ ks.length ≤ 1000) ∧ oc = OkOc W (.come k ks)
abbrev C_come (P : Program) (w : World) (K : PySem.W.Frag) (mg : Str → Option Value) (base : Heap) (C : Addr) : Prop := Cal P w K mg base (L2.CX P w) 7 "come" ["world", "kind", "kinds"] (SpD K C R0 g_come)
theorem sc_come : FnScope ["world", "kind", "kinds", "day", "registry", "got", "gave", "due", "away", "fits", "people", "friends", "barred", "owner", "one"] ["world", "kind", "kinds"] (defScope s_come) := ⟨rfl, rfl, rfl, by decide +kernel, rfl, by decide +kernel, by decide +kernel⟩
theorem len_come : ∀ ds oc, g_come ds oc → ds.length = 3 := fun _ _ ⟨_, _, _, _, e, _⟩ => by rw [e]; rfl
theorem cal_come (d : Df K mg "come" s_come) (T : Nms K mg) (c_need : C_need P w K mg base C) (c_is_index : C_is_index P w K mg base C) (Gm : Glo w K mg) : C_come P w K mg base C := by
  refine cal_of d sc_come (SpD.len len_come) (fun _ _ _ _ _ _ us hl => match us, hl with | [_, _, _], _ => rfl) fun f cdv A outer s H vs Q E hr h => ⟨_, (pss_cons (ps_asg (pv 0) (pg_tup rfl (pgs_cons (pg_name (i := 3) sc_come.nd rfl (Or.inl rfl)) (pgs_cons (pg_name (i := 4) sc_come.nd rfl (Or.inl rfl)) (pgs_cons (pg_name (i := 5) sc_come.nd rfl (Or.inl rfl)) (pgs_cons (pg_name (i := 6) sc_come.nd rfl (Or.inl rfl)) (pgs_cons (pg_name (i := 7) sc_come.nd rfl (Or.inl rfl)) (pgs_cons (pg_name (i := 8) sc_come.nd rfl (Or.inl rfl)) pgs_nil))))))))
    (pss_cons (ps_asg (pv 4) (pg_tup rfl (pgs_cons (pg_name (i := 9) sc_come.nd rfl (Or.inr rfl)) (pgs_cons (pg_name (i := 10) sc_come.nd rfl (Or.inl rfl)) (pgs_cons (pg_name (i := 11) sc_come.nd rfl (Or.inl rfl)) (pgs_cons (pg_name (i := 12) sc_come.nd rfl (Or.inl rfl)) pgs_nil))))))
    (pss_cons (ps_expr (pe_calc c_need (hr.mono (by decide)) rfl (passes_call (takes_of rfl rfl rfl rfl) fun _ _ _ _ h => h) (pa_cons (pe_or (pe_cmpR op_isN (pv 1) pe_non (nomark _)) (pe_one (pe_and (pe_calc c_is_index (hr.mono (by decide)) rfl pass0 (pa_cons (pv 1) (pa_cons (pe_callB (id := "len") call_len_seq rfl T.len (by decide +kernel) (pa_cons (pv 9) pa_nil)) pa_nil))) (pe_one (pe_cmpR op_lt (pe_callB (id := "len") call_len_seq rfl T.len (by decide +kernel) (pa_cons (pv 10) pa_nil)) (pe_glob rfl Gm.m_MOST_PEOPLE Gm.r_MOST_PEOPLE) (nomark _)))))) (pa_cons pe_int pa_nil))))
    (pss_cons (ps_expr (pe_calc c_need (hr.mono (by decide)) rfl (passes_call (takes_of rfl rfl rfl rfl) fun _ _ _ _ h => h) (pa_cons (pe_and (pe_callB call_isi rfl T.isinstance (by decide +kernel) (pa_cons (pv 2) (pa_cons (pe_bltn (v := .ty "tuple") rfl T.tuple (by decide +kernel) rfl) pa_nil))) (pe_one (pe_callB (id := "all") (cr_all rfl) rfl T.all (by decide +kernel) (pa_cons (pe_lc (own := [("one", 14)]) (g := (gName 14)) (tt := tYes) rfl sc_come.nd (pi_tup (pv 2)) (blkOk_by (own := [("one", 14)]) (by kernel_rfl)) (fun _ _ _ _ _ => (pg_name (i := 14) sc_come.nd rfl (Or.inl rfl))) (fun _ _ _ _ _ => pts_nil) (fun _ _ _ _ _ => (pe_calc c_is_index (hr.mono (by decide)) rfl pass0 (pa_cons (pv 14) (pa_cons (pe_callB (id := "len") call_len_seq rfl T.len (by decide +kernel) (pa_cons (pv 9) pa_nil)) pa_nil))))) pa_nil)))) (pa_cons pe_int pa_nil))))
    (pss_cons (ps_expr (pe_calc c_need (hr.mono (by decide)) rfl (passes_call (takes_of rfl rfl rfl rfl) fun _ _ _ _ h => h) (pa_cons (pe_cmpR op_le (pe_op op_add (pe_callB (id := "len") call_len_seq rfl T.len (by decide +kernel) (pa_cons (pv 11) pa_nil)) (pe_callB (id := "len") call_len_seq rfl T.len (by decide +kernel) (pa_cons (pv 2) pa_nil))) (pe_glob rfl Gm.m_MOST_FRIENDS Gm.r_MOST_FRIENDS) (nomark _)) (pa_cons pe_int pa_nil))))
    (pss_cons (ps_set (i := 13) sc_come.nd rfl (Or.inr rfl) (pe_ifExp (pt_cmpR op_isN (pv 1) pe_non (nomark _)) pe_non (pe_callB (id := "len") call_len_seq rfl T.len (by decide +kernel) (pa_cons (pv 10) pa_nil))))
    (pss_cons (ps_set (i := 10) sc_come.nd rfl (Or.inl rfl) (pe_ifExp (pt_cmpR op_isN (pv 1) pe_non (nomark _)) (pv 10) (pe_tup (StX.pa_star (pv 10) (pa_cons (pv 1) pa_nil)))))
    (pss_one (ps_ret (pe_tup (pa_cons (pv 3) (pa_cons (pe_tup (pa_cons (pv 9) (pa_cons (pv 10) (pa_cons (pe_tup (StX.pa_star (pv 11) (StX.pa_star (pe_lc (own := [("one", 14)]) (g := (gName 14)) (tt := tYes) rfl sc_come.nd (pi_tup (pv 2)) (blkOk_by (own := [("one", 14)]) (by kernel_rfl)) (fun _ _ _ _ _ => (pg_name (i := 14) sc_come.nd rfl (Or.inl rfl))) (fun _ _ _ _ _ => pts_nil) (fun _ _ _ _ _ => (pe_tup (pa_cons (pv 14) (pa_cons (pv 13) pa_nil))))) pa_nil))) (pa_cons (pv 12) pa_nil))))) (pa_cons (pv 5) (pa_cons (pv 6) (pa_cons (pv 7) (pa_cons (pv 8) pa_nil)))))))))))))))),
    def_run h fun ds oc g => by
    obtain ⟨B, W, k, ks, rfl, ⟨wf, hk⟩, rfl⟩ := g
    have hB := wf.reg.hB
    have hp := wf.reg.people
    have hf := wf.reg.friends
    refine run_let (ev_var rfl) tg6 ?_
    refine run_let (ev_var rfl) tg4 ?_
    show Run K C R0 R0.m E _ (slD [some (eW W), some (eO k), some (eT ks), some (eN W.day), some (eReg W.reg), some (eT W.got), some (eT W.gave), some (ePs W.due), some (eT W.away), some (.tup (W.reg.fits.map eT)), some (eT W.reg.people), some (.tup (W.reg.friends.map eF)), some (ePs W.reg.barred), none, none]) _ _ _
    refine run_need (b := k.isNone || (decide (k.getD 0 < W.reg.fits.length) && decide (W.reg.people.length < 60))) (ea_c (by
      cases k with
      | none => exact (ev_or1 (b := true) (ev_op1 (ev_var rfl).v ev_non.v op_isN0) (fun e => by cases e)).is (y := .bl true) rfl
      | some n => exact (ev_or1 (ev_op1 (ev_var rfl).v ev_non.v op_isN0) (fun e => ev_and1 (ev_call1 (ea_c (ev_var rfl) (ea_c (ev_lenM (f := eT) (ev_var rfl).v (.inl rfl)) ea_nil)) ⟨n, W.reg.fits.length, rfl, rfl⟩) fun _ => ev_op1 (ev_lenM (f := eN) (ev_var rfl).v (.inl rfl)).v ev_int.v op_ib)).is (y := .bl (decide (n < W.reg.fits.length) && decide (W.reg.people.length < 60))) (by
          have e : decide (((W.reg.people.length : Nat) : Int) < 60) = decide (W.reg.people.length < 60) := decide_eq_decide.mpr (by omega)
          rw [e]
          rfl)) (ea_c ev_int ea_nil)) (fun e => okOc0 ?_) fun e1 => ?_
    · rw [okD_come, e]
      rfl
    refine run_need (b := ks.all fun k => decide (k < W.reg.fits.length)) (ea_c ((ev_and1 (ev_isi (d := .tup (ks.map eN)) (.inr (.inr (.inr rfl))) (fun _ => by nofun) (ev_var rfl)) fun _ => ev_all (bs := ks.map fun k => decide (k < W.reg.fits.length)) ((ef_lcM (l := ks) (enc := eN) (f := fun k => .bl (decide (k < W.reg.fits.length))) (ei_tup (ev_var rfl)) (szB (by omega)) (by decide) (fun x _ => ev_call1 (ea_c (ev_var rfl) (ea_c (ev_lenM (f := eT) (ev_var rfl).v (.inl rfl)) ea_nil)) ⟨x, W.reg.fits.length, rfl, rfl⟩)).v1.v.imp fun d e => by rw [e, List.map_map]; rfl)).is (y := .bl (ks.all fun k => decide (k < W.reg.fits.length))) (by rw [List.all_map]; rfl)) (ea_c ev_int ea_nil)) (fun e => okOc0 ?_) fun e2 => ?_
    · rw [okD_come, e1, e]
      rfl
    refine run_need (b := decide (W.reg.friends.length + ks.length ≤ 120)) (ea_c ((ev_op1 (ev_op1 (ev_lenM (f := eF) (ev_var rfl).v (.inl rfl)).v (ev_lenM (f := eN) (ev_var rfl).v (.inl rfl)).v op_i0).v ev_int.v op_ib).is (by
      refine congrArg D.bl (decide_eq_decide.mpr ?_)
      omega)) (ea_c ev_int ea_nil)) (fun e => okOc0 ?_) fun e3 => ?_
    · rw [okD_come, e1, e2, e]
      rfl
    have hok : W.okD (.come k ks) = true := by
      rw [okD_come, e1, e2, e3]
      rfl
    refine run_let1 (x := eO (k.map fun _ => W.reg.people.length)) (by
      cases k with
      | none => exact ev_if (et_test1 (ev_op1 (ev_var rfl).v ev_non.v op_isN0)) (fun _ => ev_non) fun e => by cases e
      | some n => exact ev_if (et_test1 (ev_op1 (ev_var rfl).v ev_non.v op_isN0)) (fun e => by cases e) fun e => ev_lenM (f := eN) (ev_var rfl).v (.inl rfl)) ?_
    refine run_let1 (x := eT (W.reg.people ++ k.toList)) (by
      cases k with
      | none => exact ev_if (et_test1 (ev_op1 (ev_var rfl).v ev_non.v op_isN0)) (fun _ => (ev_var rfl).is (by rw [Option.toList_none, List.append_nil])) fun e => by cases e
      | some n => exact ev_if (et_test1 (ev_op1 (ev_var rfl).v ev_non.v op_isN0)) (fun e => by cases e) fun e => (ev_tup1 (ea_star (l := W.reg.people.map eN) ((ev_var rfl).v.imp fun d e => .inl e) (ea_c (ev_var rfl) ea_nil)) (by rw [List.length_append, List.length_map]; exact szC (by simp; omega))).is (by show _ = D.tup ((W.reg.people ++ [n]).map eN); rw [List.map_append]; rfl)) ?_
    show Run K C R0 R0.m E _ (slD [some (eW W), some (eO k), some (eT ks), some (eN W.day), some (eReg W.reg), some (eT W.got), some (eT W.gave), some (ePs W.due), some (eT W.away), some (.tup (W.reg.fits.map eT)), some (eT (W.reg.people ++ k.toList)), some (.tup (W.reg.friends.map eF)), some (ePs W.reg.barred), some (eO (k.map fun _ => W.reg.people.length)), none]) _ _ _
    refine run_ret1 (ev_tup1 (ea_c (ev_var rfl) (ea_c (ev_tup1 (ea_c (ev_var rfl) (ea_c (ev_var rfl) (ea_c ((ev_tup1 (ea_star (l := W.reg.friends.map eF) ((ev_var rfl).v.imp fun d e => .inl e) (ea_star (l := (ks.map fun i => (i, k.map fun _ => W.reg.people.length)).map eF) ((ef_lcM (l := ks) (enc := eN) (f := fun i => eF (i, k.map fun _ => W.reg.people.length)) (ei_tup (ev_var rfl)) (szB (by omega)) (by decide) (fun x _ => ev_tup1 (ea_c (ev_var rfl) (ea_c (ev_var rfl) ea_nil)) sz2)).v1.v.imp fun d e => .inr (by rw [e, List.map_map]; rfl)) ea_nil)) (by simp only [List.length_append, List.length_map, List.length_nil]; exact szC (by omega))).is (y := .tup ((W.reg.friends ++ ks.map fun i => (i, k.map fun _ => W.reg.people.length)).map eF)) (by rw [List.append_nil, List.map_append])) (ea_c (ev_var rfl) ea_nil)))) sz4)
      (ea_c (ev_var rfl) (ea_c (ev_var rfl) (ea_c (ev_var rfl) (ea_c (ev_var rfl) ea_nil)))))) sz6) (okOc1 (W := W) (d := .come k ks) hok (.come k ks))
    ⟩
end
end Gv

namespace Gv
open PySem PySem.Spec PyProof.Rows L2
section
variable {P : Program} {w : World} {K : PySem.W.Frag} {mg : Str → Option Value} {base : Heap} {C : Addr}
def g_do_deed : List D → Oc → Prop := fun ds oc => ∃ (B : Nat) (W : Wo) (d : De), ds = [eW W, eD d] ∧ (W.Wf B ∧ d.Sz) ∧ oc = OkOc W d
abbrev C_do_deed (P : Program) (w : World) (K : PySem.W.Frag) (mg : Str → Option Value) (base : Heap) (C : Addr) : Prop := Cal P w K mg base (L2.CX P w) 9 "do_deed" ["world", "deed"] (SpD K C R0 g_do_deed)
theorem sc_do_deed : FnScope ["world", "deed", "is_away", "away", "one"] ["world", "deed"] (defScope s_do_deed) := ⟨rfl, rfl, rfl, by decide +kernel, rfl, by decide +kernel, by decide +kernel⟩
theorem len_do_deed : ∀ ds oc, g_do_deed ds oc → ds.length = 2 := fun _ _ ⟨_, _, _, e, _⟩ => by rw [e]; rfl
theorem cal_do_deed (d : Df K mg "do_deed" s_do_deed) (T : Nms K mg) (c_need : C_need P w K mg base C) (c_is_word_of : C_is_word_of P w K mg base C) (c_is_row_of : C_is_row_of P w K mg base C) (c_tested : C_tested P w K mg base C) (c_ringed : C_ringed P w K mg base C) (c_linked : C_linked P w K mg base C) (c_come : C_come P w K mg base C) (c_is_index : C_is_index P w K mg base C) (c_put_in : C_put_in P w K mg base C) (Gm : Glo w K mg) : C_do_deed P w K mg base C := by
  refine cal_of d sc_do_deed (SpD.len len_do_deed) (fun _ _ _ _ _ _ us hl => match us, hl with | [_, _], _ => rfl) fun f cdv A outer s H vs Q E hr h => ⟨_, (pss_cons (ps_expr (pe_calc c_need (hr.mono (by decide)) rfl (passes_call (takes_of rfl rfl rfl rfl) fun _ _ _ _ h => h) (pa_cons (pe_and (pe_callB call_isi rfl T.isinstance (by decide +kernel) (pa_cons (pv 1) (pa_cons (pe_bltn (v := .ty "tuple") rfl T.tuple (by decide +kernel) rfl) pa_nil))) (pe_and (pe_cmpR op_gt (pe_callB (id := "len") call_len_seq rfl T.len (by decide +kernel) (pa_cons (pv 1) pa_nil)) pe_int (nomark _)) (pe_one (pe_calc c_is_word_of (hr.mono (by decide)) rfl pass0 (pa_cons (pe_ix ix_tup (pv 1) pe_int (fun _ _ => rfl)) (pa_cons (pe_glob rfl Gm.m_WORDS Gm.r_WORDS) pa_nil)))))) (pa_cons pe_int pa_nil))))
    (pss_cons (ps_expr (pe_calc c_need (hr.mono (by decide)) rfl (passes_call (takes_of rfl rfl rfl rfl) fun _ _ _ _ h => h) (pa_cons (pe_calc c_is_row_of (hr.mono (by decide)) rfl pass0 (pa_cons (pv 1) (pa_cons (pe_tup (pa_cons (pe_ix ix_kdict (pe_glob rfl Gm.m_SIZES Gm.r_SIZES) (pe_ix ix_tup (pv 1) pe_int (fun _ _ => rfl)) (fun _ _ => rfl)) pa_nil)) pa_nil))) (pa_cons pe_int pa_nil))))
    (pss_cons (ps_if (pt_cmpR op_eq (pe_ix ix_tup (pv 1) pe_int (fun _ _ => rfl)) pe_str (nomark _)) (pss_one (ps_ret (pe_calc c_tested (hr.mono (by decide)) rfl (passes_call (takes_of rfl rfl rfl rfl) fun _ _ _ _ h => h) (pa_cons (pv 0) (pa_cons (pv 1) pa_nil))))) pss_nil)
    (pss_cons (ps_if (pt_cmpR op_eq (pe_ix ix_tup (pv 1) pe_int (fun _ _ => rfl)) pe_str (nomark _)) (pss_one (ps_ret (pe_calc c_ringed (hr.mono (by decide)) rfl (passes_call (takes_of rfl rfl rfl rfl) fun _ _ _ _ h => h) (pa_cons (pv 0) (pa_cons (pe_ix ix_tup (pv 1) pe_int (fun _ _ => rfl)) pa_nil))))) pss_nil)
    (pss_cons (ps_if (pt_cmpR op_eq (pe_ix ix_tup (pv 1) pe_int (fun _ _ => rfl)) pe_str (nomark _)) (pss_one (ps_ret (pe_calc c_linked (hr.mono (by decide)) rfl (passes_call (takes_of rfl rfl rfl rfl) fun _ _ _ _ h => h) (pa_cons (pv 0) (pa_cons (pe_ix ix_tup (pv 1) pe_int (fun _ _ => rfl)) pa_nil))))) pss_nil)
    (pss_cons (ps_if (pt_cmpR op_eq (pe_ix ix_tup (pv 1) pe_int (fun _ _ => rfl)) pe_str (nomark _)) (pss_one (ps_ret (pe_calc c_come (hr.mono (by decide)) rfl (passes_call (takes_of rfl rfl rfl rfl) fun _ _ _ _ h => h) (pa_cons (pv 0) (pa_cons (pe_ix ix_tup (pv 1) pe_int (fun _ _ => rfl)) (pa_cons (pe_ix ix_tup (pv 1) pe_int (fun _ _ => rfl)) pa_nil)))))) pss_nil)
    (pss_cons (ps_if (pt_cmpR op_eq (pe_ix ix_tup (pv 1) pe_int (fun _ _ => rfl)) pe_str (nomark _)) (pss_one (ps_ret (pe_tup (pa_cons (pe_op op_add (pe_ix ix_tup (pv 0) pe_int (fun _ _ => rfl)) pe_int) (StX.pa_star (pe_slice sl_tup (pv 0) (po_some pe_int) po_none) pa_nil))))) pss_nil)
    (pss_cons (ps_set (i := 2) sc_do_deed.nd rfl (Or.inl rfl) (pe_cmpR op_eq (pe_ix ix_tup (pv 1) pe_int (fun _ _ => rfl)) pe_str (nomark _)))
    (pss_cons (ps_expr (pe_calc c_need (hr.mono (by decide)) rfl (passes_call (takes_of rfl rfl rfl rfl) fun _ _ _ _ h => h) (pa_cons (pe_and (pe_calc c_is_index (hr.mono (by decide)) rfl pass0 (pa_cons (pe_ix ix_tup (pv 1) pe_int (fun _ _ => rfl)) (pa_cons (pe_callB (id := "len") call_len_seq rfl T.len (by decide +kernel) (pa_cons (pe_ix ix_tup (pe_ix ix_tup (pv 0) pe_int (fun _ _ => rfl)) pe_int (fun _ _ => rfl)) pa_nil)) pa_nil))) (pe_one (pe_cmpR op_ne (pe_cmpR op_in_seq (pe_ix ix_tup (pv 1) pe_int (fun _ _ => rfl)) (pe_ix ix_tup (pv 0) pe_int (fun _ _ => rfl)) rfl) (pv 2) (nomark _)))) (pa_cons pe_int pa_nil))))
    (pss_cons (ps_set (i := 3) sc_do_deed.nd rfl (Or.inl rfl) (pe_ifExp (pt_val (pv 2)) (pe_calc c_put_in (hr.mono (by decide)) rfl pass0 (pa_cons (pe_ix ix_tup (pv 0) pe_int (fun _ _ => rfl)) (pa_cons (pe_lst (pa_cons (pe_ix ix_tup (pv 1) pe_int (fun _ _ => rfl)) pa_nil)) pa_nil))) (pe_callTy (T := "tuple") call_tuple_of rfl T.tuple (by decide +kernel) (pa_cons (pe_lc (own := [("one", 4)]) (g := (gName 4)) rfl sc_do_deed.nd (pi_tup (pe_ix ix_tup (pv 0) pe_int (fun _ _ => rfl))) (blkOk_by (own := [("one", 4)]) (by kernel_rfl)) (fun _ _ _ _ _ => (pg_name (i := 4) sc_do_deed.nd rfl (Or.inl rfl))) (fun _ _ _ _ _ => (pts_one (pt_cmpR op_ne (pv 4) (pe_ix ix_tup (pv 1) pe_int (fun _ _ => rfl)) (nomark _)))) (fun _ _ _ _ _ => (pv 4))) pa_nil))))
    (pss_one (ps_ret (pe_tup (StX.pa_star (pe_slice sl_tup (pv 0) po_none (po_some pe_int)) (pa_cons (pv 3) pa_nil))))))))))))))),
    def_run h fun ds oc g => by
    obtain ⟨B, W, dd, rfl, ⟨wf, hz⟩, rfl⟩ := g
    have hB := wf.reg.hB
    have hw := wf.away
    refine run_need (b := true) (ea_c ((ev_and1 (ev_isi (d := eD dd) (.inr (.inr (.inr rfl))) (fun _ => by nofun) (ev_var rfl)) fun _ => ev_and1 (ev_op1 (ev_len (l := .str dd.nm :: dd.args) (ev_var rfl).v (.inl rfl)).v ev_int.v op_ib) fun _ => ev_call1 (ea_c (ev_op1 (ev_var rfl).v ev_int.v (op_ixT (at0 _ _))) (ea_c (ev_ktup Gm.kW) ea_nil)) ⟨dd.nm, _, rfl, rfl⟩).is (by
      have e1 : D.isT "tuple" (eD dd) = true := rfl
      have e2 : decide (dd.nm ∈ (["test", "ring", "link", "away", "back", "come", "day"] : List Str)) = true := decide_eq_true (nm_in dd)
      have e3 : decide ((((D.str dd.nm :: dd.args).length : Nat) : Int) > 0) = true := decide_eq_true (by rw [List.length_cons]; omega)
      rw [e1, e2, e3]
      rfl)) (ea_c ev_int ea_nil)) (fun e => by cases e) fun _ => ?_
    refine run_need (b := true) (ea_c ((ev_call1 (ea_c (ev_var rfl) (ea_c (ev_tup1 (ea_c (ev_op1 ev_adr.v (ev_op1 (ev_var rfl).v ev_int.v (op_ixT (at0 _ _))).v (op_ixD (Gm.kS _ (nm_size dd)))) ea_nil) sz1) ea_nil)) ⟨_, _, rfl, rfl⟩).is (by
      rw [List.length_cons, decide_eq_true rfl])) (ea_c ev_int ea_nil)) (fun e => by cases e) fun _ => ?_
    refine run_whenR (et_test1 (ev_op1 (ev_op1 (ev_var rfl).v ev_int.v (op_ixT (at0 _ _))).v ev_str.v op_eqW)) (fun e => ?_) fun n1 => ?_
    · obtain ⟨f, p, b, rfl⟩ := nm_test (of_decide_eq_true e)
      exact run_retC (ea_c (ev_var rfl) (ea_c (ev_var rfl) ea_nil)) ⟨B, W, f, p, b, rfl, wf, rfl⟩
    refine run_whenR (et_test1 (ev_op1 (ev_op1 (ev_var rfl).v ev_int.v (op_ixT (at0 _ _))).v ev_str.v op_eqW)) (fun e => ?_) fun n2 => ?_
    · obtain ⟨ts, rfl⟩ := nm_ring (of_decide_eq_true e)
      exact run_retC (ea_c (ev_var rfl) (ea_c (ev_op1 (ev_var rfl).v ev_int.v (op_ixT rfl)) ea_nil)) ⟨B, W, ts, rfl, ⟨wf, hz⟩, rfl⟩
    refine run_whenR (et_test1 (ev_op1 (ev_op1 (ev_var rfl).v ev_int.v (op_ixT (at0 _ _))).v ev_str.v op_eqW)) (fun e => ?_) fun n3 => ?_
    · obtain ⟨t, rfl⟩ := nm_link (of_decide_eq_true e)
      exact run_retC (ea_c (ev_var rfl) (ea_c (ev_op1 (ev_var rfl).v ev_int.v (op_ixT rfl)) ea_nil)) ⟨B, W, t, rfl, wf, rfl⟩
    refine run_whenR (et_test1 (ev_op1 (ev_op1 (ev_var rfl).v ev_int.v (op_ixT (at0 _ _))).v ev_str.v op_eqW)) (fun e => ?_) fun n4 => ?_
    · obtain ⟨k, ks, rfl⟩ := nm_come (of_decide_eq_true e)
      exact run_retC (ea_c (ev_var rfl) (ea_c (ev_op1 (ev_var rfl).v ev_int.v (op_ixT rfl)) (ea_c (ev_op1 (ev_var rfl).v ev_int.v (op_ixT rfl)) ea_nil))) ⟨B, W, k, ks, rfl, ⟨wf, hz⟩, rfl⟩
    refine run_whenR (et_test1 (ev_op1 (ev_op1 (ev_var rfl).v ev_int.v (op_ixT (at0 _ _))).v ev_str.v op_eqW)) (fun e => ?_) fun n5 => ?_
    · obtain rfl := nm_day (of_decide_eq_true e)
      exact run_ret1 ((ev_tup1 (ea_c (ev_op1 (ev_op1 (ev_var rfl).v ev_int.v (op_ixT rfl)).v ev_int.v op_i0) (ea_star (l := [eReg W.reg, eT W.got, eT W.gave, ePs W.due, eT W.away]) ((ev_tail6 (ev_var rfl).v).v.imp fun d e => .inl e) ea_nil)) sz6).is (y := eW { W with day := W.day + 1 }) rfl) (okOc1 (W := W) (d := .day) rfl .day)
    obtain ⟨p, hd⟩ := nm_last (of_decide_eq_false n1) (of_decide_eq_false n2) (of_decide_eq_false n3) (of_decide_eq_false n4) (of_decide_eq_false n5)
    refine run_let1 (x := .bl (decide (dd.nm = "away"))) (ev_op1 (ev_op1 (ev_var rfl).v ev_int.v (op_ixT (at0 _ _))).v ev_str.v op_eqW) ?_
    rcases hd with rfl | rfl
    · have ea : decide ((De.away p).nm = "away") = true := decide_eq_true rfl
      rw [ea]
      refine run_need (ea_c (ev_and1 (ev_call1 (ea_c (ev_op1 (ev_var rfl).v ev_int.v (op_ixT rfl)) (ea_c (ev_lenM (f := eN) (ev_op1 (ev_op1 (ev_var rfl).v ev_int.v (op_ixT rfl)).v ev_int.v (op_ixT rfl)).v (.inl rfl)) ea_nil)) ⟨p, W.reg.people.length, rfl, rfl⟩) fun _ => ev_op1 (ev_op1 (ev_op1 (ev_var rfl).v ev_int.v (op_ixT rfl)).v (ev_op1 (ev_var rfl).v ev_int.v (op_ixT rfl)).v opR_inN).v (ev_var rfl).v op_neB) (ea_c ev_int ea_nil)) (fun e => okOc0 ?_) fun e => ?_
      · rw [okD_away, ← e]
        cases decide (p ∈ W.away) <;> rfl
      have hok : W.okD (.away p) = true := by
        rw [okD_away, ← e]
        cases decide (p ∈ W.away) <;> rfl
      refine run_let1 (x := eT (sortN (W.away ++ [p]))) (ev_if (et_test1 (ev_var rfl)) (fun _ => ev_call1 (ea_c (ev_op1 (ev_var rfl).v ev_int.v (op_ixT rfl)) (ea_c (ev_lst (ea_c (ev_op1 (ev_var rfl).v ev_int.v (op_ixT rfl)) ea_nil) fun ds e => by rw [e]; exact sz1).v1 ea_nil)) ⟨W.away, [p], rfl, ⟨by omega, by simp⟩, rfl⟩) fun e => by cases e) ?_
      exact run_ret1 ((ev_tup1 (ea_star (l := [eN W.day, eReg W.reg, eT W.got, eT W.gave, ePs W.due]) ((ev_head5 (ev_var rfl).v).v.imp fun d e => .inl e) (ea_c (ev_var rfl) ea_nil)) sz6).is (y := eW { W with away := sortN (W.away ++ [p]) }) rfl) (okOc1 (W := W) (d := .away p) hok (.away p))
    · have ea : decide ((De.back p).nm = "away") = false := decide_eq_false (show ¬ (("back" : Str) = "away") by decide +kernel)
      rw [ea]
      refine run_need (ea_c (ev_and1 (ev_call1 (ea_c (ev_op1 (ev_var rfl).v ev_int.v (op_ixT rfl)) (ea_c (ev_lenM (f := eN) (ev_op1 (ev_op1 (ev_var rfl).v ev_int.v (op_ixT rfl)).v ev_int.v (op_ixT rfl)).v (.inl rfl)) ea_nil)) ⟨p, W.reg.people.length, rfl, rfl⟩) fun _ => ev_op1 (ev_op1 (ev_op1 (ev_var rfl).v ev_int.v (op_ixT rfl)).v (ev_op1 (ev_var rfl).v ev_int.v (op_ixT rfl)).v opR_inN).v (ev_var rfl).v op_neB) (ea_c ev_int ea_nil)) (fun e => okOc0 ?_) fun e => ?_
      · rw [okD_back, ← e]
        cases decide (p ∈ W.away) <;> rfl
      have hok : W.okD (.back p) = true := by
        rw [okD_back, ← e]
        cases decide (p ∈ W.away) <;> rfl
      refine run_let1 (x := eT (W.away.filter fun q => !decide (q = p))) (ev_if (et_test1 (ev_var rfl)) (fun e => by cases e) fun _ => ev_tuple (ef_lcN (l := W.away) (enc := eN) (b := fun q => !decide (q = p)) (f := eN) (ei_tup (ev_op1 (ev_var rfl).v ev_int.v (op_ixT rfl))) (szB (by omega)) (by decide) (fun q _ => et_test1 (ev_op1 (ev_var rfl).v (ev_op1 (ev_var rfl).v ev_int.v (op_ixT rfl)).v op_neN)) fun q _ _ => ev_var rfl).v1.v) ?_
      exact run_ret1 ((ev_tup1 (ea_star (l := [eN W.day, eReg W.reg, eT W.got, eT W.gave, ePs W.due]) ((ev_head5 (ev_var rfl).v).v.imp fun d e => .inl e) (ea_c (ev_var rfl) ea_nil)) sz6).is (y := eW { W with away := W.away.filter fun q => !decide (q = p) }) rfl) (okOc1 (W := W) (d := .back p) hok (.back p))
    ⟩
end
end Gv

namespace Gv
open PySem PySem.Spec PyProof.Rows L2
def Wo.owners (w : Wo) : List Nat := (w.gave.filter fun f => !(w.reg.own f).isNone).map fun f => (w.reg.own f).getD 0
def Wo.waits (w : Wo) : List Nat := w.got.filter fun p => !decide (w.reg.ofP p = []) && !decide (p ∈ w.owners)
def Wo.alone (w : Wo) : List Nat := w.got.filter fun p => decide (w.reg.ofP p = [])
def Wo.holds1 (w : Wo) : Bool := decide (w.got.length ≠ w.gave.length) || (decide (lenSet (w.owners.map Int.ofNat) ≠ w.owners.length) || !decide ((w.owners.filter fun o => !decide (o ∈ w.got)) = []))
def Wo.holds2 (w : Wo) : Bool := !decide (firsts w.due = w.waits) || !decide ((w.due.filter fun q => !decide (q.2 < w.day + 1)) = [])
def Wo.holdsB (w : Wo) : Bool := !w.holds1 && !w.holds2 && decide ((w.gave.length : Int) - w.owners.length = w.due.length + w.alone.length)
def De.gifts : De → List (Nat × Nat)
  | .ring ts => ts
  | .link t => [t]
  | _ => []
section
variable {K : PySem.W.Frag} {R : Rg} {r : REnv} {te ta tb tc : TE} {x : D}
abbrev rListQ (K : PySem.W.Frag) : List V → Hp → VK → Prop := fun xs H Q => ∃ p ys, xs = [.ref p] ∧ (SqL K H p ys ∨ SqT K H p ys) ∧ ∀ l, H l = Option.none → Q (.ref l) (upd H l (.lst ys))
theorem ef_list {l : List D} (h : EvV K R te r (fun d => d = .tup l ∨ d = .lst l)) : EvF K R (tCB (rListQ K) (tCons te tNil)) r (· = l) := fun M σ H hR ok inv e Q q =>
  h M σ H hR ok inv e _ fun v H1 d pd s1 i1 d1 => by
    rcases pd with pd | pd
    · subst pd
      obtain ⟨a, xs, rfl, h1, h2⟩ := isV_tup d1
      refine ⟨a, xs, rfl, .inr h1.sq, fun p hp => ?_⟩
      exact q p _ _ _ rfl (none_back s1 hp) (s1.trans (Stp.of (same_new hp))) (inv_same hR (ok.stp s1) (same_new hp) i1) upd_same ((h2.add hp).same (same_new hp))
    · subst pd
      obtain ⟨a, xs, rfl, h1, h2⟩ := isV_lst d1
      refine ⟨a, xs, rfl, .inl (SqL.of h1), fun p hp => ?_⟩
      exact q p _ _ _ rfl (none_back s1 hp) (s1.trans (Stp.of (same_new hp))) (inv_same hR (ok.stp s1) (same_new hp) i1) upd_same ((h2.add hp).same (same_new hp))
theorem op_notN0 : OpD K (fun x y H Q => y = .non ∧ Q (.bl (!decide (x = .non))) H) x .non (· = .bl !x.isNon) := fun rm M H v w ok hv hw Q q => by
  have e1 := isV_non hw
  subst e1
  refine ⟨rfl, ?_⟩
  have : decide (v = V.non) = x.isNon := by
    rcases hv with hv | ⟨a, xs, ds, e1, e2, _⟩
    · exact isNon_of hv
    · subst e1; subst e2; rfl
  rw [this]
  exact q _ H _ rfl (same_refl H) (.bl _)
theorem ev_num {n m : Nat} (ha : Ev K R ta r (· = .int 0)) (hb : Ev K R tb r (· = eN n)) (hc : Ev K R tc r (· = eN m)) : Ev K R (tChain (rI0 fun i j => .bl (decide (i ≤ j))) (rI0 fun i j => .bl (decide (i < j))) ta tb tc) r (· = .bl (decide (n < m))) :=
  (ev_chain ha hb op_ib (fun _ => hc) fun _ => op_ib).is (by simp)
end
theorem atPrev {α : Type} {f : α → D} {l : List α} {i : Nat} (h : i < l.length) (z : α) : atI (l.map f) ((i : Int) - 1) = some (f (l.getD (if i = 0 then l.length - 1 else i - 1) z)) := by
  cases i with
  | zero =>
    have hlast : l.length - 1 < l.length := by omega
    have : atI (l.map f) (-1) = (l.map f)[l.length - 1]? := by
      unfold atI ixN
      have h1 : (0 : Int) ≤ -1 + (l.length : Int) := by omega
      have h2 : (-1 + (l.length : Int)).toNat = l.length - 1 := by omega
      have h3 : (1 : Int) ≤ (l.length : Int) := by omega
      simp [h1, h2, h3, List.length_map]
    rw [show ((0 : Nat) : Int) - 1 = -1 from rfl, this, if_pos rfl, List.getElem?_map, List.getElem?_eq_getElem hlast, List.getD_eq_getElem?_getD, List.getElem?_eq_getElem hlast]
    rfl
  | succ i =>
    have e : (((i + 1 : Nat) : Int) - 1) = (i : Int) := by omega
    rw [e, atM (f := f) (l := l) (i := i) (by omega) z, if_neg (by omega)]
    rfl
end Gv
namespace Gv
open PySem PySem.Spec PyProof.Rows L2
section
variable {K : PySem.W.Frag}
theorem op_neN' {a b : Nat} {c : Bool} (h : decide (a ≠ b) = c) : OpD K rNe (eN a) (eN b) (· = .bl c) := fun rm M H v w ok hv hw Q q => op_neN rm M H v w ok hv hw Q fun z H' d e => q z H' d (e.trans (by rw [← h]; simp))
theorem op_neP' {l : List (Nat × Nat)} {c : Bool} (h : (!decide (l = [])) = c) : OpD K (rNeD K) (.lst (l.map eP)) (.lst []) (· = .bl c) := fun rm M H v w ok hv hw Q q => op_neL pl_P (l := l) (m := []) rfl rfl rm M H v w ok hv hw Q fun z H' d e => q z H' d (e.trans (h ▸ congrArg (fun b => D.bl !b) (decide_eq_decide.mpr Iff.rfl)))
theorem op_eqI {a b : Int} : OpD K rEq (.int a) (.int b) (· = .bl (decide (a = b))) := by
  have h := op_eqS (K := K) (x := .int a) (y := .int b) (v := .int a) (w := .int b) rfl rfl rfl
  refine fun rm M H v w ok hv hw Q q => h rm M H v w ok hv hw Q fun z H' d e => q z H' d (e.trans (congrArg D.bl (decide_eq_decide.mpr ⟨fun e => by injection e, fun e => by rw [e]⟩)))
end
end Gv

namespace Gv
open PySem PySem.Spec PyProof.Rows L2
section
variable {P : Program} {w : World} {K : PySem.W.Frag} {mg : Str → Option Value} {base : Heap} {C : Addr}
def g_l_is_number : List D → Oc → Prop := fun ds oc => ∃ n m : Nat, ds = [eN n, eN m] ∧ oc = some (· = .bl (decide (n < m)))
abbrev C_l_is_number (P : Program) (w : World) (K : PySem.W.Frag) (mg : Str → Option Value) (base : Heap) (C : Addr) : Prop := Cal P w K mg base CX0 2 "_law_is_number" ["_law_value", "_law_bound"] (SpD K C R0 g_l_is_number)
theorem sc_l_is_number : FnScope ["_law_value", "_law_bound"] ["_law_value", "_law_bound"] (defScope s_l_is_number) := ⟨rfl, rfl, rfl, by decide +kernel, rfl, by decide +kernel, by decide +kernel⟩
theorem len_l_is_number : ∀ ds oc, g_l_is_number ds oc → ds.length = 2 := fun _ _ ⟨_, _, e, _⟩ => by rw [e]; rfl
theorem cal_l_is_number (d : Df K mg "_law_is_number" s_l_is_number) (T : Nms K mg)   : C_l_is_number P w K mg base C := by
  refine cal_of d sc_l_is_number (SpD.len len_l_is_number) (fun _ _ _ _ _ _ us hl => match us, hl with | [_, _], _ => rfl) fun f cdv A outer s H vs Q E hr h => ⟨_, PSs.nox (pss_one (ps_ret (pe_and (pe_callB call_isi rfl T.isinstance (by decide +kernel) (pa_cons (pv 0) (pa_cons (pe_bltn (v := .ty "int") rfl T.int (by decide +kernel) rfl) pa_nil))) (pe_and (pe_not (pe_callB call_isi rfl T.isinstance (by decide +kernel) (pa_cons (pv 0) (pa_cons (pe_bltn (v := .ty "bool") rfl T.bool (by decide +kernel) rfl) pa_nil)))) (pe_one (pe_chain op_le op_lt pe_int (pv 0) (pv 1))))))),
    def_run h fun ds oc g => by
    obtain ⟨n, m, rfl, rfl⟩ := g
    exact run_retE (ev_and1 (ev_isi (d := eN n) (.inl rfl) (fun _ => by nofun) (ev_var rfl)) fun _ => ev_and1 (ev_not (ev_isi (d := eN n) (.inr (.inl rfl)) (fun _ => by nofun) (ev_var rfl))) fun _ => ev_num ev_int (ev_var rfl) (ev_var rfl)) rfl
    ⟩
def g_l_tie_in : List D → Oc → Prop := fun ds oc => ∃ (B : Nat) (rg : Reg) (f p : Nat), ds = [eReg rg, eN f, eN p] ∧ (rg.Wf B ∧ f < rg.friends.length ∧ p < rg.people.length) ∧ oc = some (· = .bl (rg.tie f p))
abbrev C_l_tie_in (P : Program) (w : World) (K : PySem.W.Frag) (mg : Str → Option Value) (base : Heap) (C : Addr) : Prop := Cal P w K mg base CX0 2 "_law_tie_in" ["_law_registry_here", "_law_friend", "_law_person"] (SpD K C R0 g_l_tie_in)
theorem sc_l_tie_in : FnScope ["_law_registry_here", "_law_friend", "_law_person", "_law_kind", "_law_owner"] ["_law_registry_here", "_law_friend", "_law_person"] (defScope s_l_tie_in) := ⟨rfl, rfl, rfl, by decide +kernel, rfl, by decide +kernel, by decide +kernel⟩
theorem len_l_tie_in : ∀ ds oc, g_l_tie_in ds oc → ds.length = 3 := fun _ _ ⟨_, _, _, _, e, _⟩ => by rw [e]; rfl
theorem cal_l_tie_in (d : Df K mg "_law_tie_in" s_l_tie_in) (T : Nms K mg)   : C_l_tie_in P w K mg base C := by
  refine cal_of d sc_l_tie_in (SpD.len len_l_tie_in) (fun _ _ _ _ _ _ us hl => match us, hl with | [_, _, _], _ => rfl) fun f cdv A outer s H vs Q E hr h => ⟨_, PSs.nox (pss_cons (ps_asg (pe_ix ix_tup (pe_ix ix_tup (pv 0) pe_int (fun _ _ => rfl)) (pv 1) (fun _ _ => rfl)) (pg_tup rfl (pgs_cons (pg_name (i := 3) sc_l_tie_in.nd rfl (Or.inl rfl)) (pgs_cons (pg_name (i := 4) sc_l_tie_in.nd rfl (Or.inl rfl)) pgs_nil))))
    (pss_one (ps_ret (pe_and (pe_cmpR op_ne (pv 4) (pv 2) (nomark _)) (pe_and (pe_cmpR (op_notInDT (hu65 hr)) (pe_tup (pa_cons (pv 1) (pa_cons (pv 2) pa_nil))) (pe_ix ix_tup (pv 0) pe_int (fun _ _ => rfl)) rfl) (pe_one (pe_cmpR op_in_seq (pe_ix ix_tup (pe_ix ix_tup (pv 0) pe_int (fun _ _ => rfl)) (pv 2) (fun _ _ => rfl)) (pe_ix ix_tup (pe_ix ix_tup (pv 0) pe_int (fun _ _ => rfl)) (pv 3) (fun _ _ => rfl)) rfl))))))),
    def_run h fun ds oc g => by
    obtain ⟨B, rg, f, p, rfl, ⟨wf, hf, hp⟩, rfl⟩ := g
    refine run_let (x := eF (rg.fr f)) (ev_op1 (ev_op1 (ev_var rfl).v ev_int.v (op_ixT rfl)).v (ev_var rfl).v (op_ixT (atM hf _))) tg_tup2 ?_
    refine run_retE (ev_and1 (ev_op1 (ev_var rfl).v (ev_var rfl).v op_neO) fun _ => ev_and1 (ev_op1 (ev_tup1 (ea_c (ev_var rfl) (ea_c (ev_var rfl) ea_nil)) sz2).v (ev_op1 (ev_var rfl).v ev_int.v (op_ixT rfl)).v (opR_ninP (p := (f, p)))) fun _ => ev_op1 (ev_op1 (ev_op1 (ev_var rfl).v ev_int.v (op_ixT rfl)).v (ev_var rfl).v (op_ixT (atM (f := eN) hp 0))).v (ev_op1 (ev_op1 (ev_var rfl).v ev_int.v (op_ixT rfl)).v (ev_var rfl).v (op_ixT (atM (f := eT) (wf.fr hf) []))).v opR_inN) ?_
    unfold Reg.tie Reg.own
    cases decide ((rg.fr f).2 = some p) <;> cases decide ((f, p) ∈ rg.barred) <;> rfl
    ⟩
def g_l_friends : List D → Oc → Prop := fun ds oc => ∃ (B : Nat) (rg : Reg) (p : Nat), ds = [eReg rg, eN p] ∧ rg.Wf B ∧ oc = some (· = .lst ((rg.ofP p).map eN))
abbrev C_l_friends (P : Program) (w : World) (K : PySem.W.Frag) (mg : Str → Option Value) (base : Heap) (C : Addr) : Prop := Cal P w K mg base CX0 2 "_law_friends" ["_law_registry_here", "_law_person"] (SpD K C R0 g_l_friends)
theorem sc_l_friends : FnScope ["_law_registry_here", "_law_person", "_law_friend"] ["_law_registry_here", "_law_person"] (defScope s_l_friends) := ⟨rfl, rfl, rfl, by decide +kernel, rfl, by decide +kernel, by decide +kernel⟩
theorem len_l_friends : ∀ ds oc, g_l_friends ds oc → ds.length = 2 := fun _ _ ⟨_, _, _, e, _⟩ => by rw [e]; rfl
theorem cal_l_friends (d : Df K mg "_law_friends" s_l_friends) (T : Nms K mg)   : C_l_friends P w K mg base C := by
  refine cal_of d sc_l_friends (SpD.len len_l_friends) (fun _ _ _ _ _ _ us hl => match us, hl with | [_, _], _ => rfl) fun f cdv A outer s H vs Q E hr h => ⟨_, PSs.nox (pss_one (ps_ret (pe_lc (own := [("_law_friend", 2)]) (g := (gName 2)) rfl sc_l_friends.nd (pi_range1 rfl T.range (pa_cons (pe_callB (id := "len") call_len_seq rfl T.len (by decide +kernel) (pa_cons (pe_ix ix_tup (pv 0) pe_int (fun _ _ => rfl)) pa_nil)) pa_nil)) (blkOk_by (own := [("_law_friend", 2)]) (by kernel_rfl)) (fun _ _ _ _ _ => (pg_name (i := 2) sc_l_friends.nd rfl (Or.inl rfl))) (fun _ _ _ _ _ => (pts_one (pt_cmpR op_eq (pe_ix ix_tup (pe_ix ix_tup (pe_ix ix_tup (pv 0) pe_int (fun _ _ => rfl)) (pv 2) (fun _ _ => rfl)) pe_int (fun _ _ => rfl)) (pv 1) (nomark _)))) (fun _ _ _ _ _ => (pv 2))))),
    def_run h fun ds oc g => by
    obtain ⟨B, rg, p, rfl, wf, rfl⟩ := g
    have hB := wf.hB
    have hf := wf.friends
    exact run_retE (ef_lcN (l := List.range rg.friends.length) (enc := eN) (b := fun i => decide (rg.own i = some p)) (f := eN) ((ei_rng1 (ev_lenM (f := eF) (ev_op1 (ev_var rfl).v ev_int.v (op_ixT rfl)).v (.inl rfl)) (by omega)).imp fun _ e => e) (by rw [List.length_range]; exact szB (by omega)) (by decide)
      (fun x hx => et_test1 (ev_op1 (ev_op1 (ev_op1 (ev_op1 (ev_var rfl).v ev_int.v (op_ixT rfl)).v (ev_var rfl).v (op_ixT (atM (f := eF) (List.mem_range.mp hx) (0, none)))).v ev_int.v (op_ixT rfl)).v (ev_var rfl).v op_eqO)) fun x _ _ => ev_var rfl).v1 rfl
    ⟩
def g_l_link_fits : List D → Oc → Prop := fun ds oc => ∃ (B : Nat) (W : Wo) (t : Nat × Nat), ds = [eW W, eP t] ∧ W.Wf B ∧ oc = some (fun d => ∃ b, d = .bl b)
abbrev C_l_link_fits (P : Program) (w : World) (K : PySem.W.Frag) (mg : Str → Option Value) (base : Heap) (C : Addr) : Prop := Cal P w K mg base CX0 3 "_law_link_fits" ["_law_world", "_law_tie"] (SpD K C R0 g_l_link_fits)
theorem sc_l_link_fits : FnScope ["_law_world", "_law_tie", "_law_day", "_law_registry_here", "_law_got", "_law_gave", "_law_due", "_law_away", "_law_owner", "_law_waits", "_law_pair"] ["_law_world", "_law_tie"] (defScope s_l_link_fits) := ⟨rfl, rfl, rfl, by decide +kernel, rfl, by decide +kernel, by decide +kernel⟩
theorem len_l_link_fits : ∀ ds oc, g_l_link_fits ds oc → ds.length = 2 := fun _ _ ⟨_, _, _, e, _⟩ => by rw [e]; rfl
theorem cal_l_link_fits (d : Df K mg "_law_link_fits" s_l_link_fits) (T : Nms K mg) (c_l_is_number : C_l_is_number P w K mg base C) (c_l_tie_in : C_l_tie_in P w K mg base C)  : C_l_link_fits P w K mg base C := by
  refine cal_of d sc_l_link_fits (SpD.len len_l_link_fits) (fun _ _ _ _ _ _ us hl => match us, hl with | [_, _], _ => rfl) fun f cdv A outer s H vs Q E hr h => ⟨_, PSs.nox (pss_cons (ps_asg (pv 0) (pg_tup rfl (pgs_cons (pg_name (i := 2) sc_l_link_fits.nd rfl (Or.inl rfl)) (pgs_cons (pg_name (i := 3) sc_l_link_fits.nd rfl (Or.inl rfl)) (pgs_cons (pg_name (i := 4) sc_l_link_fits.nd rfl (Or.inl rfl)) (pgs_cons (pg_name (i := 5) sc_l_link_fits.nd rfl (Or.inl rfl)) (pgs_cons (pg_name (i := 6) sc_l_link_fits.nd rfl (Or.inl rfl)) (pgs_cons (pg_name (i := 7) sc_l_link_fits.nd rfl (Or.inl rfl)) pgs_nil))))))))
    (pss_cons (ps_if (PW.pt (pw_or (pt_not (pt_val (pe_callB call_isi rfl T.isinstance (by decide +kernel) (pa_cons (pv 1) (pa_cons (pe_bltn (v := .ty "tuple") rfl T.tuple (by decide +kernel) rfl) pa_nil))))) (pw_or (pt_cmpR op_ne (pe_callB (id := "len") call_len_seq rfl T.len (by decide +kernel) (pa_cons (pv 1) pa_nil)) pe_int (nomark _)) (pw_or1 (pt_not (pt_val (pe_calc c_l_is_number (hr.mono (by decide)) rfl pass0 (pa_cons (pe_ix ix_tup (pv 1) pe_int (fun _ _ => rfl)) (pa_cons (pe_callB (id := "len") call_len_seq rfl T.len (by decide +kernel) (pa_cons (pe_ix ix_tup (pv 3) pe_int (fun _ _ => rfl)) pa_nil)) pa_nil))))))))) (pss_one (ps_ret pe_bl)) pss_nil)
    (pss_cons (ps_if (PW.pt (pw_or (pt_not (pt_val (pe_calc c_l_is_number (hr.mono (by decide)) rfl pass0 (pa_cons (pe_ix ix_tup (pv 1) pe_int (fun _ _ => rfl)) (pa_cons (pe_callB (id := "len") call_len_seq rfl T.len (by decide +kernel) (pa_cons (pe_ix ix_tup (pv 3) pe_int (fun _ _ => rfl)) pa_nil)) pa_nil))))) (pw_or1 (pt_not (pt_val (pe_calc c_l_tie_in (hr.mono (by decide)) rfl pass0 (pa_cons (pv 3) (pa_cons (pe_ix ix_tup (pv 1) pe_int (fun _ _ => rfl)) (pa_cons (pe_ix ix_tup (pv 1) pe_int (fun _ _ => rfl)) pa_nil))))))))) (pss_one (ps_ret pe_bl)) pss_nil)
    (pss_cons (ps_set (i := 8) sc_l_link_fits.nd rfl (Or.inl rfl) (pe_ix ix_tup (pe_ix ix_tup (pe_ix ix_tup (pv 3) pe_int (fun _ _ => rfl)) (pe_ix ix_tup (pv 1) pe_int (fun _ _ => rfl)) (fun _ _ => rfl)) pe_int (fun _ _ => rfl)))
    (pss_cons (ps_set (i := 9) sc_l_link_fits.nd rfl (Or.inl rfl) (pe_or (pe_cmpR op_isN (pv 8) pe_non (nomark _)) (pe_one (pe_and (pe_cmpR op_notIn_seq (pv 8) (pv 7) rfl) (pe_one (pe_cmpR op_in_seq (pv 8) (pe_lc (own := [("_law_pair", 10)]) (g := (gName 10)) (tt := tYes) rfl sc_l_link_fits.nd (pi_tup (pv 6)) (blkOk_by (own := [("_law_pair", 10)]) (by kernel_rfl)) (fun _ _ _ _ _ => (pg_name (i := 10) sc_l_link_fits.nd rfl (Or.inl rfl))) (fun _ _ _ _ _ => pts_nil) (fun _ _ _ _ _ => (pe_ix ix_tup (pv 10) pe_int (fun _ _ => rfl)))) rfl))))))
    (pss_one (ps_ret (pe_and (pv 9) (pe_and (pe_cmpR op_notIn_seq (pe_ix ix_tup (pv 1) pe_int (fun _ _ => rfl)) (pv 5) rfl) (pe_and (pe_cmpR op_notIn_seq (pe_ix ix_tup (pv 1) pe_int (fun _ _ => rfl)) (pv 4) rfl) (pe_one (pe_cmpR op_notIn_seq (pe_ix ix_tup (pv 1) pe_int (fun _ _ => rfl)) (pv 7) rfl)))))))))))),
    def_run h fun ds oc g => by
    obtain ⟨B, W, t, rfl, wf, rfl⟩ := g
    have hB := wf.reg.hB
    have hd := wf.due
    refine run_let (ev_var rfl) tg6 ?_
    refine run_whenR (b := !decide (t.1 < W.reg.friends.length)) ((et_or1 (et_not (et_test1 (ev_isi (d := eP t) (.inr (.inr (.inr rfl))) (fun _ => by nofun) (ev_var rfl)))) fun _ => et_or1 (et_test1 (ev_op1 (ev_len (l := [eN t.1, eN t.2]) (ev_var rfl).v (.inl rfl)).v ev_int.v (op_neN (a := 2) (b := 2)))) fun _ =>
      et_not (et_test1 (ev_call1 (ea_c (ev_op1 (ev_var rfl).v ev_int.v (op_ixT rfl)) (ea_c (ev_lenM (f := eF) (ev_op1 (ev_var rfl).v ev_int.v (op_ixT rfl)).v (.inl rfl)) ea_nil)) ⟨t.1, W.reg.friends.length, rfl, rfl⟩))).is rfl) (fun e => run_ret1 ev_bl ⟨_, rfl, _, rfl⟩) fun e => ?_
    have hf : t.1 < W.reg.friends.length := by simpa using e
    refine run_whenR (et_or1 (et_not (et_test1 (ev_call1 (ea_c (ev_op1 (ev_var rfl).v ev_int.v (op_ixT rfl)) (ea_c (ev_lenM (f := eN) (ev_op1 (ev_var rfl).v ev_int.v (op_ixT rfl)).v (.inl rfl)) ea_nil)) ⟨t.2, W.reg.people.length, rfl, rfl⟩))) fun e => et_not (et_test1 (ev_call1 (ea_c (ev_var rfl) (ea_c (ev_op1 (ev_var rfl).v ev_int.v (op_ixT rfl)) (ea_c (ev_op1 (ev_var rfl).v ev_int.v (op_ixT rfl)) ea_nil))) ⟨B, W.reg, t.1, t.2, rfl, ⟨wf.reg, hf, by simpa using e⟩, rfl⟩))) (fun e => run_ret1 ev_bl ⟨_, rfl, _, rfl⟩) fun e => ?_
    refine run_let1 (x := eO (W.reg.own t.1)) (ev_op1 (ev_op1 (ev_op1 (ev_var rfl).v ev_int.v (op_ixT rfl)).v (ev_op1 (ev_var rfl).v ev_int.v (op_ixT rfl)).v (op_ixT (atM (f := eF) hf (0, none)))).v ev_int.v (op_ixT rfl)) ?_
    refine run_letP (P := fun d => ∃ b, d = .bl b) ?_ fun d ⟨b, e⟩ => ?_
    · cases ho : W.reg.own t.1 with
      | none => exact (ev_or1 (b := true) (ev_op1 (ev_var (x := eO none) rfl).v ev_non.v op_isN0) (fun e => by cases e)).imp fun d e => ⟨_, e⟩
      | some n => exact (ev_or1 (ev_op1 (ev_var (x := eO (some n)) rfl).v ev_non.v op_isN0) (fun e => ev_and1 (ev_op1 (ev_var (x := eN n) rfl).v (ev_var rfl).v opR_ninN) fun _ => ev_op1 (ev_var (x := eN n) rfl).v (ef_lcM (l := W.due) (enc := eP) (f := fun q => eN q.1) (ei_tup (ev_var rfl)) (szB (by omega)) (by decide) (fun x _ => ev_op1 (ev_var rfl).v ev_int.v (op_ixT rfl))).v1.v (op_inN (l := firsts W.due) rfl (.inr (by unfold firsts; rw [List.map_map]; rfl))))).imp fun d e => ⟨_, e⟩
    · subst e
      exact run_ret (ev_and1 (ev_var rfl) fun _ => ev_and1 (ev_op1 (ev_op1 (ev_var rfl).v ev_int.v (op_ixT rfl)).v (ev_var rfl).v opR_ninN) fun _ => ev_and1 (ev_op1 (ev_op1 (ev_var rfl).v ev_int.v (op_ixT rfl)).v (ev_var rfl).v opR_ninN) fun _ => ev_op1 (ev_op1 (ev_var rfl).v ev_int.v (op_ixT rfl)).v (ev_var rfl).v opR_ninN) fun d e => ⟨_, rfl, _, e⟩
    ⟩
def g_l_gifts : List D → Oc → Prop := fun ds oc => ∃ (dd : De), ds = [eD dd] ∧ oc = some (· = .lst (dd.gifts.map eP))
abbrev C_l_gifts (P : Program) (w : World) (K : PySem.W.Frag) (mg : Str → Option Value) (base : Heap) (C : Addr) : Prop := Cal P w K mg base CX0 2 "_law_gifts" ["_law_deed"] (SpD K C R0 g_l_gifts)
theorem sc_l_gifts : FnScope ["_law_deed"] ["_law_deed"] (defScope s_l_gifts) := ⟨rfl, rfl, rfl, by decide +kernel, rfl, by decide +kernel, by decide +kernel⟩
theorem len_l_gifts : ∀ ds oc, g_l_gifts ds oc → ds.length = 1 := fun _ _ ⟨_, e, _⟩ => by rw [e]; rfl
theorem cal_l_gifts (d : Df K mg "_law_gifts" s_l_gifts) (T : Nms K mg)   : C_l_gifts P w K mg base C := by
  refine cal_of d sc_l_gifts (SpD.len len_l_gifts) (fun _ _ _ _ _ _ us hl => match us, hl with | [_], _ => rfl) fun f cdv A outer s H vs Q E hr h => ⟨_, PSs.nox (pss_cons (ps_if (pt_cmpR op_eq (pe_ix ix_tup (pv 0) pe_int (fun _ _ => rfl)) pe_str (nomark _)) (pss_one (ps_ret (pe_callTy (T := "list") call_list_of rfl T.list (by decide +kernel) (pa_cons (pe_ix ix_tup (pv 0) pe_int (fun _ _ => rfl)) pa_nil)))) pss_nil)
    (pss_one (ps_ret (pe_ifExp (pt_cmpR op_eq (pe_ix ix_tup (pv 0) pe_int (fun _ _ => rfl)) pe_str (nomark _)) (pe_lst (pa_cons (pe_ix ix_tup (pv 0) pe_int (fun _ _ => rfl)) pa_nil)) (pe_lst pa_nil))))),
    def_run h fun ds oc g => by
    obtain ⟨dd, rfl, rfl⟩ := g
    refine run_whenR (et_test1 (ev_op1 (ev_op1 (ev_var rfl).v ev_int.v (op_ixT (at0 _ _))).v ev_str.v op_eqW)) (fun e => ?_) fun n1 => ?_
    · obtain ⟨ts, rfl⟩ := nm_ring (of_decide_eq_true e)
      exact run_retE (ef_list (l := ts.map eP) ((ev_op1 (ev_var rfl).v ev_int.v (op_ixT rfl)).v.imp fun d e => .inl e)).v1 rfl
    · refine run_retE (x := .lst (dd.gifts.map eP)) (ev_if (et_test1 (ev_op1 (ev_op1 (ev_var rfl).v ev_int.v (op_ixT (at0 _ _))).v ev_str.v op_eqW)) (fun e => ?_) fun e => ?_) rfl
      · obtain ⟨t, rfl⟩ := nm_link (of_decide_eq_true e.symm)
        exact (ev_lst (ea_c (ev_op1 (ev_var rfl).v ev_int.v (op_ixT rfl)) ea_nil) fun ds e => by rw [e]; exact sz1).v1
      · have : dd.gifts = [] := by
          cases dd with
          | ring ts => exact absurd n1 (by rw [decide_eq_true (show (De.ring ts).nm = "ring" from rfl)]; decide)
          | link t => exact absurd e (by rw [decide_eq_true (show (De.link t).nm = "link" from rfl)]; decide)
          | _ => rfl
        rw [this]
        exact (ev_lst ea_nil fun ds e => by rw [e]; exact sz0).v1
    ⟩
end
end Gv

namespace Gv
open PySem PySem.Spec PyProof.Rows L2
section
variable {P : Program} {w : World} {K : PySem.W.Frag} {mg : Str → Option Value} {base : Heap} {C : Addr}
def g_l_ring_fits : List D → Oc → Prop := fun ds oc => ∃ (B : Nat) (W : Wo) (ts : List (Nat × Nat)), ds = [eW W, ePs ts] ∧ (W.Wf B ∧ ts.length ≤ 1000) ∧ oc = some (fun d => ∃ b, d = .bl b)
abbrev C_l_ring_fits (P : Program) (w : World) (K : PySem.W.Frag) (mg : Str → Option Value) (base : Heap) (C : Addr) : Prop := Cal P w K mg base CX0 3 "_law_ring_fits" ["_law_world", "_law_ties"] (SpD K C R0 g_l_ring_fits)
theorem sc_l_ring_fits : FnScope ["_law_world", "_law_ties", "_law_day", "_law_registry_here", "_law_got", "_law_gave", "_law_due", "_law_away", "_law_tie", "_law_people", "_law_at", "_law_person"] ["_law_world", "_law_ties"] (defScope s_l_ring_fits) := ⟨rfl, rfl, rfl, by decide +kernel, rfl, by decide +kernel, by decide +kernel⟩
theorem len_l_ring_fits : ∀ ds oc, g_l_ring_fits ds oc → ds.length = 2 := fun _ _ ⟨_, _, _, e, _⟩ => by rw [e]; rfl
theorem cal_l_ring_fits (d : Df K mg "_law_ring_fits" s_l_ring_fits) (T : Nms K mg) (c_l_is_number : C_l_is_number P w K mg base C) (c_l_tie_in : C_l_tie_in P w K mg base C)  : C_l_ring_fits P w K mg base C := by
  refine cal_of d sc_l_ring_fits (SpD.len len_l_ring_fits) (fun _ _ _ _ _ _ us hl => match us, hl with | [_, _], _ => rfl) fun f cdv A outer s H vs Q E hr h => ⟨_, PSs.nox (pss_cons (ps_asg (pv 0) (pg_tup rfl (pgs_cons (pg_name (i := 2) sc_l_ring_fits.nd rfl (Or.inl rfl)) (pgs_cons (pg_name (i := 3) sc_l_ring_fits.nd rfl (Or.inr rfl)) (pgs_cons (pg_name (i := 4) sc_l_ring_fits.nd rfl (Or.inr rfl)) (pgs_cons (pg_name (i := 5) sc_l_ring_fits.nd rfl (Or.inl rfl)) (pgs_cons (pg_name (i := 6) sc_l_ring_fits.nd rfl (Or.inl rfl)) (pgs_cons (pg_name (i := 7) sc_l_ring_fits.nd rfl (Or.inr rfl)) pgs_nil))))))))
    (pss_cons (ps_if (PW.pt (pw_or (pt_not (pt_val (pe_callB call_isi rfl T.isinstance (by decide +kernel) (pa_cons (pv 1) (pa_cons (pe_bltn (v := .ty "tuple") rfl T.tuple (by decide +kernel) rfl) pa_nil))))) (pw_or1 (pt_cmpR op_lt (pe_callB (id := "len") call_len_seq rfl T.len (by decide +kernel) (pa_cons (pv 1) pa_nil)) pe_int (nomark _))))) (pss_one (ps_ret pe_bl)) pss_nil)
    (pss_cons (ps_for PassesOwn.never rfl (pi_tup (pv 1)) (pg_name (i := 8) sc_l_ring_fits.nd rfl (Or.inl rfl)) (pss_cons (ps_if (PW.pt (pw_or (pt_not (pt_val (pe_callB call_isi rfl T.isinstance (by decide +kernel) (pa_cons (pv 8) (pa_cons (pe_bltn (v := .ty "tuple") rfl T.tuple (by decide +kernel) rfl) pa_nil))))) (pw_or (pt_cmpR op_ne (pe_callB (id := "len") call_len_seq rfl T.len (by decide +kernel) (pa_cons (pv 8) pa_nil)) pe_int (nomark _)) (pw_or1 (pt_not (pt_val (pe_calc c_l_is_number (hr.mono (by decide)) rfl pass0 (pa_cons (pe_ix ix_tup (pv 8) pe_int (fun _ _ => rfl)) (pa_cons (pe_callB (id := "len") call_len_seq rfl T.len (by decide +kernel) (pa_cons (pe_ix ix_tup (pv 3) pe_int (fun _ _ => rfl)) pa_nil)) pa_nil))))))))) (pss_one (ps_ret pe_bl)) pss_nil)
    (pss_one (ps_if (PW.pt (pw_or (pt_not (pt_val (pe_calc c_l_is_number (hr.mono (by decide)) rfl pass0 (pa_cons (pe_ix ix_tup (pv 8) pe_int (fun _ _ => rfl)) (pa_cons (pe_callB (id := "len") call_len_seq rfl T.len (by decide +kernel) (pa_cons (pe_ix ix_tup (pv 3) pe_int (fun _ _ => rfl)) pa_nil)) pa_nil))))) (pw_or1 (pt_not (pt_val (pe_calc c_l_tie_in (hr.mono (by decide)) rfl pass0 (pa_cons (pv 3) (pa_cons (pe_ix ix_tup (pv 8) pe_int (fun _ _ => rfl)) (pa_cons (pe_ix ix_tup (pv 8) pe_int (fun _ _ => rfl)) pa_nil))))))))) (pss_one (ps_ret pe_bl)) pss_nil))))
    (pss_cons (ps_set (i := 9) sc_l_ring_fits.nd rfl (Or.inr rfl) (pe_lc (own := [("_law_tie", 8)]) (g := (gName 8)) (tt := tYes) rfl sc_l_ring_fits.nd (pi_tup (pv 1)) (blkOk_by (own := [("_law_tie", 8)]) (by kernel_rfl)) (fun _ _ _ _ _ => (pg_name (i := 8) sc_l_ring_fits.nd rfl (Or.inl rfl))) (fun _ _ _ _ _ => pts_nil) (fun _ _ _ _ _ => (pe_ix ix_tup (pv 8) pe_int (fun _ _ => rfl)))))
    (pss_cons (ps_if (PW.pt (pw_or (pt_cmpR op_ne (pe_lenSetG rfl rfl T.len rfl T.set (pv 9)) (pe_callB (id := "len") call_len_seq rfl T.len (by decide +kernel) (pa_cons (pv 9) pa_nil)) (nomark _)) (pw_or1 (pt_cmpR (op_neD hr.units) (pe_lc (own := [("_law_person", 11)]) (g := (gName 11)) rfl sc_l_ring_fits.nd (pi_list (pv 9)) (blkOk_by (own := [("_law_person", 11)]) (by kernel_rfl)) (fun _ _ _ _ _ => (pg_name (i := 11) sc_l_ring_fits.nd rfl (Or.inl rfl))) (fun _ _ _ _ _ => (pts_one (PW.pt (pw_or (pt_cmpR op_in_seq (pv 11) (pv 4) rfl) (pw_or1 (pt_cmpR op_in_seq (pv 11) (pv 7) rfl)))))) (fun _ _ _ _ _ => (pv 11))) (pe_lst pa_nil) (nomark _))))) (pss_one (ps_ret pe_bl)) pss_nil)
    (pss_one (ps_ret (pe_cmpR (op_eqD hr.units) (pe_lc (own := [("_law_at", 10)]) (g := (gName 10)) rfl sc_l_ring_fits.nd (pi_range1 rfl T.range (pa_cons (pe_callB (id := "len") call_len_seq rfl T.len (by decide +kernel) (pa_cons (pv 1) pa_nil)) pa_nil)) (blkOk_by (own := [("_law_at", 10)]) (by kernel_rfl)) (fun _ _ _ _ _ => (pg_name (i := 10) sc_l_ring_fits.nd rfl (Or.inl rfl))) (fun _ _ _ _ _ => (pts_one (pt_cmpR op_ne (pe_ix ix_tup (pe_ix ix_tup (pe_ix ix_tup (pv 3) pe_int (fun _ _ => rfl)) (pe_ix ix_tup (pe_ix ix_tup (pv 1) (pv 10) (fun _ _ => rfl)) pe_int (fun _ _ => rfl)) (fun _ _ => rfl)) pe_int (fun _ _ => rfl)) (pe_ix ix_list (pv 9) (pe_op op_sub (pv 10) pe_int) (fun _ _ => rfl)) (nomark _)))) (fun _ _ _ _ _ => (pv 10))) (pe_lst pa_nil) (nomark _))))))))),
    def_run h fun ds oc g => by
    obtain ⟨B, W, ts, rfl, ⟨wf, ht⟩, rfl⟩ := g
    have hB := wf.reg.hB
    refine run_let (ev_var rfl) tg6 ?_
    refine run_whenR (b := !decide (2 ≤ ts.length)) ((et_or1 (et_not (et_test1 (ev_isi (d := ePs ts) (.inr (.inr (.inr rfl))) (fun _ => by nofun) (ev_var rfl)))) fun _ => et_test1 (ev_op1 (ev_lenM (f := eP) (ev_var rfl).v (.inl rfl)).v ev_int.v op_ib)).is (by
      have e : D.isT "tuple" (.tup (ts.map eP)) = true := rfl
      rw [e]
      by_cases h : 2 ≤ ts.length
      · have h' : ¬ ((ts.length : Int) < 2) := by omega
        simp [h, h']
      · have h' : ((ts.length : Int) < 2) := by omega
        simp [h, h'])) (fun e => run_ret1 ev_bl ⟨_, rfl, _, rfl⟩) fun e0 => ?_
    refine run_seq (N := fun r' => (∀ t ∈ ts, t.1 < W.reg.friends.length) ∧ ∃ x : Option D, r' = slD [some (eW W), some (ePs ts), some (eN W.day), some (eReg W.reg), some (eT W.got), some (eT W.gave), some (ePs W.due), some (eT W.away), x, none, none, none])
      (run_for (α := Nat × Nat) (enc := eP) (P := (· = ts)) ((ei_tup (ev_var rfl)).imp fun ds e => ⟨ts, rfl, e⟩) (fun _ z => z)
        (fun l i r' => (∀ t ∈ l.take i, t.1 < W.reg.friends.length) ∧ ∃ x : Option D, r' = slD [some (eW W), some (ePs ts), some (eN W.day), some (eReg W.reg), some (eT W.got), some (eT W.gave), some (ePs W.due), some (eT W.away), x, none, none, none])
        (fun l e => ⟨fun t h => (by rw [List.take_zero] at h; cases h), none, rfl⟩)
        (fun l e i x r' hx ⟨hall, a, e2⟩ => ?_)
        (fun l e r' ⟨hall, a, e2⟩ => ⟨by rw [List.take_length, e] at hall; exact hall, a, e2⟩)) fun r' ⟨hall, a, e⟩ => ?_
    · subst e; subst e2
      refine ⟨_, _, tg_name, ?_⟩
      refine run_whenR (b := !decide (x.1 < W.reg.friends.length)) ((et_or1 (et_not (et_test1 (ev_isi (d := eP x) (.inr (.inr (.inr rfl))) (fun _ => by nofun) (ev_var rfl)))) fun _ => et_or1 (et_test1 (ev_op1 (ev_len (l := [eN x.1, eN x.2]) (ev_var rfl).v (.inl rfl)).v ev_int.v (op_neN (a := 2) (b := 2)))) fun _ =>
        et_not (et_test1 (ev_call1 (ea_c (ev_op1 (ev_var rfl).v ev_int.v (op_ixT rfl)) (ea_c (ev_lenM (f := eF) (ev_op1 (ev_var rfl).v ev_int.v (op_ixT rfl)).v (.inl rfl)) ea_nil)) ⟨x.1, W.reg.friends.length, rfl, rfl⟩))).is rfl) (fun e => run_ret1 ev_bl ⟨_, rfl, _, rfl⟩) fun e => ?_
      have hf : x.1 < W.reg.friends.length := by simpa using e
      refine run_if1 (et_or1 (et_not (et_test1 (ev_call1 (ea_c (ev_op1 (ev_var rfl).v ev_int.v (op_ixT rfl)) (ea_c (ev_lenM (f := eN) (ev_op1 (ev_var rfl).v ev_int.v (op_ixT rfl)).v (.inl rfl)) ea_nil)) ⟨x.2, W.reg.people.length, rfl, rfl⟩))) fun e => et_not (et_test1 (ev_call1 (ea_c (ev_var rfl) (ea_c (ev_op1 (ev_var rfl).v ev_int.v (op_ixT rfl)) (ea_c (ev_op1 (ev_var rfl).v ev_int.v (op_ixT rfl)) ea_nil))) ⟨B, W.reg, x.1, x.2, rfl, ⟨wf.reg, hf, by simpa using e⟩, rfl⟩))) (fun e => run_ret1 ev_bl ⟨_, rfl, _, rfl⟩) fun e => run_next ⟨?_, some (eP x), rfl⟩
      intro t h
      rw [take_succ_at hx] at h
      rcases List.mem_append.mp h with h | h
      · exact hall t h
      · rw [List.mem_singleton.mp h]; exact hf
    subst e
    refine run_let1 (x := .lst ((seconds ts).map eN)) ((ef_lcM (l := ts) (enc := eP) (f := fun t => eN t.2) (ei_tup (ev_var rfl)) (szB (by omega)) (by decide) (fun t _ => ev_op1 (ev_var rfl).v ev_int.v (op_ixT rfl))).v1.is (by unfold seconds; rw [List.map_map]; rfl)) ?_
    have hs : (seconds ts).length = ts.length := by unfold seconds; rw [List.length_map]
    refine run_whenR (et_or1 (et_test1 (ev_op1 (ev_lenSet (l := (seconds ts).map Int.ofNat) ((ev_var rfl).v.imp fun d e => by rw [e, mapN]) (by rw [List.length_map, hs]; omega)).v (ev_lenM (f := eN) (ev_var rfl).v (.inr rfl)).v op_neN)) fun _ => et_test1 (ev_op1 (ef_lcN (l := seconds ts) (enc := eN) (f := eN) (b := fun p => decide (p ∈ W.got) || decide (p ∈ W.away)) (ei_lst (ev_var rfl)) (szB (by omega)) (by decide) (fun p _ => et_or1 (et_test1 (ev_op1 (ev_var rfl).v (ev_var rfl).v opR_inN)) fun _ => et_test1 (ev_op1 (ev_var rfl).v (ev_var rfl).v opR_inN)) fun p _ _ => ev_var rfl).v1.v (ev_lst ea_nil fun ds e => by rw [e]; exact sz0).v1.v (op_neL pl_N (m := []) rfl rfl))) (fun e => run_ret1 ev_bl ⟨_, rfl, _, rfl⟩) fun e => ?_
    exact run_ret (ev_op1 (ef_lcN (l := List.range ts.length) (enc := eN) (f := eN) (b := fun i => !decide (W.reg.own (ts.getD i (0, 0)).1 = some ((seconds ts).getD (if i = 0 then (seconds ts).length - 1 else i - 1) 0))) ((ei_rng1 (ev_lenM (f := eP) (ev_var rfl).v (.inl rfl)) (by omega)).imp fun _ e => e) (by rw [List.length_range]; exact szB (by omega)) (by decide)
      (fun i hi => et_test1 (ev_op1 (ev_op1 (ev_op1 (ev_op1 (ev_var rfl).v ev_int.v (op_ixT rfl)).v (ev_op1 (ev_op1 (ev_var rfl).v (ev_var rfl).v (op_ixT (atM (f := eP) (List.mem_range.mp hi) (0, 0)))).v ev_int.v (op_ixT rfl)).v (op_ixT (atM (f := eF) (hall _ (by
        have hi' := List.mem_range.mp hi
        rw [List.getD_eq_getElem?_getD, List.getElem?_eq_getElem hi', Option.getD_some]
        exact List.getElem_mem hi')) (0, none)))).v ev_int.v (op_ixT rfl)).v (ev_op1 (ev_var rfl).v (ev_op1 (ev_var rfl).v ev_int.v op_i0).v (op_ixL (atPrev (f := eN) (by rw [hs]; exact List.mem_range.mp hi) 0))).v op_neO)) fun i _ _ => ev_var rfl).v1.v (ev_lst ea_nil fun ds e => by rw [e]; exact sz0).v1.v (op_eqL pl_N (m := []) rfl rfl)) fun d e => ⟨_, rfl, _, e⟩
    ⟩
def g_l_holds : List D → Oc → Prop := fun ds oc => ∃ (B : Nat) (W : Wo), ds = [eW W] ∧ W.Wf B ∧ oc = some (· = .bl W.holdsB)
abbrev C_l_holds (P : Program) (w : World) (K : PySem.W.Frag) (mg : Str → Option Value) (base : Heap) (C : Addr) : Prop := Cal P w K mg base CX0 3 "_law_holds" ["_law_world"] (SpD K C R0 g_l_holds)
theorem sc_l_holds : FnScope ["_law_world", "_law_day", "_law_registry_here", "_law_got", "_law_gave", "_law_due", "_law_away", "_law_owners", "_law_waits", "_law_alone", "_law_friend", "_law_person", "_law_owner", "_law_pair"] ["_law_world"] (defScope s_l_holds) := ⟨rfl, rfl, rfl, by decide +kernel, rfl, by decide +kernel, by decide +kernel⟩
theorem len_l_holds : ∀ ds oc, g_l_holds ds oc → ds.length = 1 := fun _ _ ⟨_, _, e, _⟩ => by rw [e]; rfl
theorem cal_l_holds (d : Df K mg "_law_holds" s_l_holds) (T : Nms K mg) (c_l_friends : C_l_friends P w K mg base C) (c_l_is_number : C_l_is_number P w K mg base C)  : C_l_holds P w K mg base C := by
  refine cal_of d sc_l_holds (SpD.len len_l_holds) (fun _ _ _ _ _ _ us hl => match us, hl with | [_], _ => rfl) fun f cdv A outer s H vs Q E hr h => ⟨_, PSs.nox (pss_cons (ps_asg (pv 0) (pg_tup rfl (pgs_cons (pg_name (i := 1) sc_l_holds.nd rfl (Or.inr rfl)) (pgs_cons (pg_name (i := 2) sc_l_holds.nd rfl (Or.inr rfl)) (pgs_cons (pg_name (i := 3) sc_l_holds.nd rfl (Or.inr rfl)) (pgs_cons (pg_name (i := 4) sc_l_holds.nd rfl (Or.inl rfl)) (pgs_cons (pg_name (i := 5) sc_l_holds.nd rfl (Or.inl rfl)) (pgs_cons (pg_name (i := 6) sc_l_holds.nd rfl (Or.inl rfl)) pgs_nil))))))))
    (pss_cons (ps_set (i := 7) sc_l_holds.nd rfl (Or.inr rfl) (pe_lc (own := [("_law_friend", 10)]) (g := (gName 10)) rfl sc_l_holds.nd (pi_tup (pv 4)) (blkOk_by (own := [("_law_friend", 10)]) (by kernel_rfl)) (fun _ _ _ _ _ => (pg_name (i := 10) sc_l_holds.nd rfl (Or.inl rfl))) (fun _ _ _ _ _ => (pts_one (pt_cmpR op_notN (pe_ix ix_tup (pe_ix ix_tup (pe_ix ix_tup (pv 2) pe_int (fun _ _ => rfl)) (pv 10) (fun _ _ => rfl)) pe_int (fun _ _ => rfl)) pe_non (nomark _)))) (fun _ _ _ _ _ => (pe_ix ix_tup (pe_ix ix_tup (pe_ix ix_tup (pv 2) pe_int (fun _ _ => rfl)) (pv 10) (fun _ _ => rfl)) pe_int (fun _ _ => rfl)))))
    (pss_cons (ps_if (PW.pt (pw_or (pt_cmpR op_ne (pe_callB (id := "len") call_len_seq rfl T.len (by decide +kernel) (pa_cons (pv 3) pa_nil)) (pe_callB (id := "len") call_len_seq rfl T.len (by decide +kernel) (pa_cons (pv 4) pa_nil)) (nomark _)) (pw_or (pt_cmpR op_ne (pe_lenSetG rfl rfl T.len rfl T.set (pv 7)) (pe_callB (id := "len") call_len_seq rfl T.len (by decide +kernel) (pa_cons (pv 7) pa_nil)) (nomark _)) (pw_or1 (pt_cmpR (op_neD hr.units) (pe_lc (own := [("_law_owner", 12)]) (g := (gName 12)) rfl sc_l_holds.nd (pi_list (pv 7)) (blkOk_by (own := [("_law_owner", 12)]) (by kernel_rfl)) (fun _ _ _ _ _ => (pg_name (i := 12) sc_l_holds.nd rfl (Or.inl rfl))) (fun _ _ _ _ _ => (pts_one (pt_cmpR op_notIn_seq (pv 12) (pv 3) rfl))) (fun _ _ _ _ _ => (pv 12))) (pe_lst pa_nil) (nomark _)))))) (pss_one (ps_ret pe_bl)) pss_nil)
    (pss_cons (ps_setLc (i := 8) (own := [("_law_person", 11)]) (g := (gName 11)) rfl sc_l_holds.nd rfl rfl (sw_true rfl rfl rfl (by decide +kernel)) (pi_tup (pv 3)) (blkOk_by (own := [("_law_person", 11)]) (by kernel_rfl)) (fun _ _ _ _ _ => (pg_name (i := 11) sc_l_holds.nd rfl (Or.inl rfl))) (fun _ _ _ _ _ => (pts_one (PW.pt (pw_and (pt_cmpR (op_neD hr.units) (pe_calc c_l_friends (hr.mono (by decide)) rfl pass0 (pa_cons (pv 2) (pa_cons (pv 11) pa_nil))) (pe_lst pa_nil) (nomark _)) (pw_and1 (pt_cmpR op_notIn_seq (pv 11) (pv 7) rfl)))))) (fun _ _ _ _ _ => (pv 11)))
    (pss_cons (ps_if (PW.pt (pw_or (pt_cmpR (op_neD hr.units) (pe_lc (own := [("_law_pair", 13)]) (g := (gName 13)) (tt := tYes) rfl sc_l_holds.nd (pi_tup (pv 5)) (blkOk_by (own := [("_law_pair", 13)]) (by kernel_rfl)) (fun _ _ _ _ _ => (pg_name (i := 13) sc_l_holds.nd rfl (Or.inl rfl))) (fun _ _ _ _ _ => pts_nil) (fun _ _ _ _ _ => (pe_ix ix_tup (pv 13) pe_int (fun _ _ => rfl)))) (pv 8) (nomark _)) (pw_or1 (pt_cmpR (op_neD hr.units) (pe_lc (own := [("_law_pair", 13)]) (g := (gName 13)) rfl sc_l_holds.nd (pi_tup (pv 5)) (blkOk_by (own := [("_law_pair", 13)]) (by kernel_rfl)) (fun _ _ _ _ _ => (pg_name (i := 13) sc_l_holds.nd rfl (Or.inl rfl))) (fun _ _ _ _ _ => (pts_one (pt_not (pt_val (pe_calc c_l_is_number (hr.mono (by decide)) rfl pass0 (pa_cons (pe_ix ix_tup (pv 13) pe_int (fun _ _ => rfl)) (pa_cons (pe_op op_add (pv 1) pe_int) pa_nil))))))) (fun _ _ _ _ _ => (pv 13))) (pe_lst pa_nil) (nomark _))))) (pss_one (ps_ret pe_bl)) pss_nil)
    (pss_cons (ps_setLc (i := 9) (own := [("_law_person", 11)]) (g := (gName 11)) rfl sc_l_holds.nd rfl rfl (sw_true rfl rfl rfl (by decide +kernel)) (pi_tup (pv 3)) (blkOk_by (own := [("_law_person", 11)]) (by kernel_rfl)) (fun _ _ _ _ _ => (pg_name (i := 11) sc_l_holds.nd rfl (Or.inl rfl))) (fun _ _ _ _ _ => (pts_one (pt_cmpR (op_eqD hr.units) (pe_calc c_l_friends (hr.mono (by decide)) rfl pass0 (pa_cons (pv 2) (pa_cons (pv 11) pa_nil))) (pe_lst pa_nil) (nomark _)))) (fun _ _ _ _ _ => (pv 11)))
    (pss_one (ps_ret (pe_cmpR op_eq (pe_op op_sub (pe_callB (id := "len") call_len_seq rfl T.len (by decide +kernel) (pa_cons (pv 4) pa_nil)) (pe_callB (id := "len") call_len_seq rfl T.len (by decide +kernel) (pa_cons (pv 7) pa_nil))) (pe_op op_add (pe_callB (id := "len") call_len_seq rfl T.len (by decide +kernel) (pa_cons (pv 5) pa_nil)) (pe_callB (id := "len") call_len_seq rfl T.len (by decide +kernel) (pa_cons (pv 9) pa_nil))) (nomark _)))))))))),
    def_run h fun ds oc g => by
    obtain ⟨B, W, rfl, wf, rfl⟩ := g
    have hB := wf.reg.hB
    have hg := wf.got
    have hv := wf.gave
    have hd := wf.due
    have ho : W.owners.length ≤ B := by
      unfold Wo.owners
      rw [List.length_map]
      exact Nat.le_trans (List.length_filter_le _ _) hv
    refine run_let (ev_var rfl) tg6 ?_
    refine run_let1 (x := .lst (W.owners.map eN)) ((ef_lcN (l := W.gave) (enc := eN) (b := fun f => !(W.reg.own f).isNone) (f := fun f => eN ((W.reg.own f).getD 0)) (ei_tup (ev_var rfl)) (szB (by omega)) (by decide) (fun f hf => (et_test1 (ev_op1 (ev_op1 (ev_op1 (ev_op1 (ev_var rfl).v ev_int.v (op_ixT rfl)).v (ev_var rfl).v (op_ixT (atM (f := eF) (wf.givers f hf) (0, none)))).v ev_int.v (op_ixT rfl)).v ev_non.v op_notN0)).is (congrArg Bool.not (isNonO _)))
      fun f hf hb => (ev_op1 (ev_op1 (ev_op1 (ev_var rfl).v ev_int.v (op_ixT rfl)).v (ev_var rfl).v (op_ixT (atM (f := eF) (wf.givers f hf) (0, none)))).v ev_int.v (op_ixT rfl)).is (by
        show eO (W.reg.own f) = eN ((W.reg.own f).getD 0)
        cases ho : W.reg.own f with
        | none => rw [ho] at hb; cases hb
        | some n => rfl)).v1.is (by unfold Wo.owners; rw [List.map_map]; rfl)) ?_
    refine run_whenR (b := W.holds1) (et_or1 (et_test1 (ev_op1 (ev_lenM (f := eN) (ev_var rfl).v (.inl rfl)).v (ev_lenM (f := eN) (ev_var rfl).v (.inl rfl)).v (op_neN' rfl))) fun _ => et_or1 (et_test1 (ev_op1 (ev_lenSet (l := W.owners.map Int.ofNat) ((ev_var rfl).v.imp fun d e => by rw [e, mapN]) (by rw [List.length_map]; omega)).v (ev_lenM (f := eN) (ev_var rfl).v (.inr rfl)).v (op_neN' rfl))) fun _ =>
      et_test1 (ev_op1 (ef_lcN (l := W.owners) (enc := eN) (f := eN) (b := fun o => !decide (o ∈ W.got)) (ei_lst (ev_var rfl)) (szB (by omega)) (by decide) (fun p _ => et_test1 (ev_op1 (ev_var rfl).v (ev_var rfl).v opR_ninN)) fun p _ _ => ev_var rfl).v1.v (ev_lst ea_nil fun ds e => by rw [e]; exact sz0).v1.v (op_neL pl_N (m := []) rfl rfl))) (fun e => run_retE ev_bl (by unfold Wo.holdsB; rw [e]; rfl)) fun e1 => ?_
    refine run_let1 (x := .lst (W.waits.map eN)) (ef_lcN (l := W.got) (enc := eN) (f := eN) (b := fun p => !decide (W.reg.ofP p = []) && !decide (p ∈ W.owners)) (ei_tup (ev_var rfl)) (szB (by omega)) (by decide) (fun p _ => et_and1 (et_test1 (ev_op1 (ev_call1 (ea_c (ev_var rfl) (ea_c (ev_var rfl) ea_nil)) ⟨B, W.reg, p, rfl, wf.reg, rfl⟩).v (ev_lst ea_nil fun ds e => by rw [e]; exact sz0).v1.v (op_neL pl_N (m := []) rfl rfl))) fun _ => et_test1 (ev_op1 (ev_var rfl).v (ev_var rfl).v opR_ninNL)) fun p _ _ => ev_var rfl).v1 ?_
    refine run_whenR (b := W.holds2) (et_or1 (et_test1 (ev_op1 (ef_lcM (l := W.due) (enc := eP) (f := fun q => eN q.1) (ei_tup (ev_var rfl)) (szB (by omega)) (by decide) (fun q _ => ev_op1 (ev_var rfl).v ev_int.v (op_ixT rfl))).v1.v (ev_var rfl).v (op_neL pl_N (l := firsts W.due) (by unfold firsts; rw [List.map_map]; rfl) rfl))) fun _ =>
      et_test1 (ev_op1 (ef_lcN (l := W.due) (enc := eP) (f := eP) (b := fun q => !decide (q.2 < W.day + 1)) (ei_tup (ev_var rfl)) (szB (by omega)) (by decide) (fun q _ => et_not (et_test1 (ev_call1 (ea_c (ev_op1 (ev_var rfl).v ev_int.v (op_ixT rfl)) (ea_c (ev_op1 (ev_var rfl).v ev_int.v op_i0) ea_nil)) ⟨q.2, W.day + 1, rfl, rfl⟩))) fun p _ _ => ev_var rfl).v1.v (ev_lst ea_nil fun ds e => by rw [e]; exact sz0).v1.v (op_neP' rfl))) (fun e => run_retE ev_bl (by unfold Wo.holdsB; rw [e1, e]; rfl)) fun e2 => ?_
    refine run_let1 (x := .lst (W.alone.map eN)) (ef_lcN (l := W.got) (enc := eN) (f := eN) (b := fun p => decide (W.reg.ofP p = [])) (ei_tup (ev_var rfl)) (szB (by omega)) (by decide) (fun p _ => et_test1 (ev_op1 (ev_call1 (ea_c (ev_var rfl) (ea_c (ev_var rfl) ea_nil)) ⟨B, W.reg, p, rfl, wf.reg, rfl⟩).v (ev_lst ea_nil fun ds e => by rw [e]; exact sz0).v1.v (op_eqL pl_N (m := []) rfl rfl))) fun p _ _ => ev_var rfl).v1 ?_
    refine run_retE (ev_op1 (ev_op1 (ev_lenM (f := eN) (ev_var rfl).v (.inl rfl)).v (ev_lenM (f := eN) (ev_var rfl).v (.inr rfl)).v op_i0).v (ev_op1 (ev_lenM (f := eP) (ev_var rfl).v (.inl rfl)).v (ev_lenM (f := eN) (ev_var rfl).v (.inr rfl)).v op_i0).v op_eqI) ?_
    unfold Wo.holdsB
    rw [e1, e2]
    rfl
    ⟩
end
end Gv

namespace Gv
open PySem PySem.Spec PyProof.Rows L2
/-- the deal of the law: its list at a, the list of its cells at b -/
structure DealAt (a b : Addr) (cs : List Nat) (k : Nat) (H : Hp) : Prop where
  ne : a ≠ b
  len : cs.length ≤ 100
  low : k < 2147483647
  ha : H a = some (.lst [.ref b, .int (k : Int)])
  hb : H b = some (.lst (cs.map fun (c : Nat) => V.int (c : Int)))
def dealR (a b : Addr) : Rg where
  m := fun p => p = a ∨ p = b
  inv := fun H => ∃ cs k, DealAt a b cs k H
  stab := fun H H' h ⟨cs, k, d⟩ => ⟨cs, k, d.ne, d.len, d.low, by rw [h a (.inl rfl)]; exact d.ha, by rw [h b (.inr rfl)]; exact d.hb⟩
theorem DealAt.same {a b : Addr} {cs : List Nat} {k : Nat} {H H' : Hp} (d : DealAt a b cs k H) (s : Same H H') : DealAt a b cs k H' := ⟨d.ne, d.len, d.low, s _ _ d.ha, s _ _ d.hb⟩
def SpR (K : PySem.W.Frag) (C : Addr) (G : Addr → List D → Oc → Prop) : Sp := fun vs H Q E => ∃ a b, SpD K C (dealR a b) (G a) vs H Q E
theorem SpR.len {K : PySem.W.Frag} {C : Addr} {G : Addr → List D → Oc → Prop} {n : Nat} (h : ∀ a ds oc, G a ds oc → ds.length = n) : ∀ vs H Q E, SpR K C G vs H Q E → vs.length = n := fun vs H Q E ⟨a, b, z⟩ => SpD.len (h a) vs H Q E z
section
variable {K : PySem.W.Frag} {C : Addr} {E : XK} {t : TA} {r : REnv} {P : D → Prop}
theorem ev_callR {a b : Addr} {G : Addr → List D → Oc → Prop} {A : List D → Prop} (ha : EvA K (dealR a b) t r A) (hg : ∀ ds, A ds → G a ds (some P)) : Ev K (dealR a b) (tCall (SpR K C G) [] E t) r P := fun M σ H hR ok inv e Q q =>
  ha M σ H hR ok inv e _ fun vs H1 ds' ed s1 i1 d1 => by
    refine ⟨a, b, M, ds', some P, hR, ok.stp s1, i1, by rw [List.append_nil]; exact d1, hg ds' ed, fun v H' d pd s i z => q v H' d pd (s1.trans s) i z⟩
theorem ev_callR1 {a b : Addr} {G : Addr → List D → Oc → Prop} {ds : List D} (ha : EvA K (dealR a b) t r (· = ds)) (hg : G a ds (some P)) : Ev K (dealR a b) (tCall (SpR K C G) [] E t) r P := ev_callR ha fun _ e => by rw [e]; exact hg
theorem def_runR {G : Addr → List D → Oc → Prop} {N : List Str} {vs : List V} {H : Hp} {Q : VK} {t : TS} (h : SpR K C G vs H Q E)
    (run : ∀ a b ds oc, G a ds oc → Run K C (dealR a b) (dealR a b).m E t (startR N.length ds) (fun _ => ∃ P, oc = some P ∧ P .non) (fun d => ∃ P, oc = some P ∧ P d) (oc = none)) :
    t { nx := fun _ H' => Q .non H', rt := Q } (L2.start N vs) H := by
  obtain ⟨a, b, h⟩ := h
  exact def_run h (run a b)
end
section
variable {K : PySem.W.Frag} {a b : Addr} {cs : List Nat} {k : Nat} {σ : L2.St} {H : Hp} {Q : VK}
theorem any_ix0 (hσ : σ[0]? = some (some (.ref a))) (d : DealAt a b cs k H) (q : Q (.ref b) H) : tOp (rIxL K) (tVar 0) (tC (.int 0)) σ H Q :=
  ⟨_, hσ, a, _, 0, .ref b, rfl, rfl, SqL.of d.ha, rfl, q⟩
theorem any_ix1 (hσ : σ[0]? = some (some (.ref a))) (d : DealAt a b cs k H) (q : Q (.int k) H) : tOp (rIxL K) (tVar 0) (tC (.int 1)) σ H Q :=
  ⟨_, hσ, a, _, 1, .int k, rfl, rfl, SqL.of d.ha, rfl, q⟩
theorem cells_isD (M : Addr → Prop) (hb : ¬ M b) (d : DealAt a b cs k H) : IsD K M H (.ref b) (.lst (cs.map eN)) := by
  refine .lst ⟨hb, d.hb⟩ ?_
  have := IsDs.of_ints (K := K) (M := M) (H := H) (cs.map Int.ofNat)
  rw [List.map_map, List.map_map] at this
  exact this
theorem any_ne (hσ : σ[0]? = some (some (.ref a))) (d : DealAt a b cs k H) (q : ∀ H', Same H H' → Q (.bl (!decide (cs = []))) H') : tOp (rNeD K) (tOp (rIxL K) (tVar 0) (tC (.int 0))) (tLst tNil) σ H Q := by
  refine any_ix0 hσ d ⟨sz0, fun p hp => ?_⟩
  have s1 : Same H (upd H p (.lst [])) := same_new hp
  refine op_neL pl_N (l := cs) (m := []) rfl rfl (fun _ => False) (fun _ => False) _ _ _ (fun _ z => z.elim) (.inl (cells_isD _ (fun z => z) (d.same s1))) (.inl (.lst ⟨fun z => z, upd_same⟩ .nil)) _ fun z H' x e s i => ?_
  subst e
  cases i
  exact q H' fun p o h => s p o (s1 p o h)
theorem any_last {c : Nat} (h : cs[cs.length - 1]? = some c) : (cs.map fun (c : Nat) => V.int (c : Int))[(cs.map fun (c : Nat) => V.int (c : Int)).length - 1]? = some (.int c) := by
  rw [List.length_map, List.getElem?_map, h]
  rfl
theorem any_lst {c : Nat} (h : cs[cs.length - 1]? = some c) : atI (cs.map fun (c : Nat) => V.int (c : Int)) (-1) = some (.int c) := by
  have hl : cs.length - 1 < cs.length := (List.getElem?_eq_some_iff.mp h).1
  have hz : 0 < cs.length := by omega
  have h1 : (0 : Int) ≤ -1 + (cs.length : Int) := by omega
  have h2 : (-1 + (cs.length : Int)).toNat = cs.length - 1 := by omega
  have h3 : (1 : Int) ≤ (cs.length : Int) := by omega
  unfold atI ixN
  simp [h1, h2, h3, List.length_map]
  exact ⟨c, h, rfl⟩
theorem last_of (h : cs ≠ []) : ∃ c, cs[cs.length - 1]? = some c := by
  have : cs.length - 1 < cs.length := by
    have := List.length_pos_iff.mpr h
    omega
  exact ⟨_, List.getElem?_eq_getElem this⟩
/-- deal[0].pop() -/
theorem any_pop {c : Nat} (hσ : σ[0]? = some (some (.ref a))) (d : DealAt a b cs k H) (h : cs[cs.length - 1]? = some c) (q : ∀ H', Stp (dealR a b).m H H' → DealAt a b cs.dropLast k H' → Q (.int c) H') : tBM0 K "list" rPop (tOp (rIxL K) (tVar 0) (tC (.int 0))) σ H Q := by
  refine any_ix0 hσ d ⟨.inl ⟨rfl, _, SqL.of d.hb⟩, b, _, _, rfl, rfl, d.hb, any_last h, q _ ?_ ?_⟩
  · exact stp_put (.inr rfl)
  · refine ⟨d.ne, by rw [List.length_dropLast]; have := d.len; omega, d.low, by rw [upd_ne d.ne]; exact d.ha, by rw [upd_same, List.map_dropLast]⟩
end
abbrev rIntQ : List V → Hp → VK → Prop := fun xs H Q => (∃ i, xs = [V.int i] ∧ Q (.int i) H) ∨ ∃ k, xs = [V.bl k] ∧ Q (.int (if k = true then 1 else 0)) H
abbrev ix0 (K : PySem.W.Frag) : TE := tOp (rIxL K) (tVar 0) (tC (.int 0))
abbrev ix1 (K : PySem.W.Frag) : TE := tOp (rIxL K) (tVar 0) (tC (.int 1))
abbrev rModQ : R2 := rI (fun _ j => 0 < j) fun i j => .int (i % j)
abbrev rDivQ : R2 := rI CDivW fun i j => .int (i / j)
abbrev rMulQ : R2 := rI CMulW fun i j => .int (i * j)
abbrev rAddQ : R2 := rI0 fun i j => .int (i + j)
def t_anyRest (K : PySem.W.Frag) : TS :=
  tSeq (tIfS (tTest (tOp (rNeD K) (ix0 K) (tLst tNil)))
      (tSeq (tAsg (tCB rIntQ (tCons (tBM0 K "list" rPop (ix0 K)) tNil)) (gName 2)) (tSeq (tDrop (tBM K "list" rAppend (ix0 K) (tCons (tOp rDivQ (tVar 2) (tVar 1)) tNil))) (tRet (tOp rModQ (tVar 2) (tVar 1))))) tNext)
    (tSeq (tAsg (tOp rModQ (tCB rIntQ (tCons (tOp rAddQ (tOp rMulQ (ix1 K) (tC (.int 40693))) (tC (.int 71))) tNil)) (tC (.int 2147483647))) (gSub (tVar 0) (tC (.int 1)) rSetL))
      (tRet (tOp rModQ (tCB rIntQ (tCons (tOp rDivQ (ix1 K) (tC (.int 64))) tNil)) (tVar 1))))
theorem div_ok {i : Int} {n : Nat} (h : 0 < n) (h2 : n ≤ 100000) : CDivW i (n : Int) := wide_div (b := 20) (by omega) (by show n < 2 ^ 20; omega) (by decide) (by decide)
theorem any_rest {K : PySem.W.Frag} {a b : Addr} {cs : List Nat} {k n : Nat} {σ : L2.St} {H : Hp} {De : Ends} (h0 : σ[0]? = some (some (.ref a))) (h1 : σ[1]? = some (some (.int (n : Int)))) (hl : σ.length = 3) (hn : 0 < n) (hn2 : n ≤ 100000) (d : DealAt a b cs k H)
    (ret : ∀ (k : Nat) (H' : Hp), k < n → Stp (dealR a b).m H H' → (∃ cs k, DealAt a b cs k H') → De.rt (.int (k : Int)) H') : t_anyRest K De σ H := by
  have hn0 : (0 : Int) < (n : Int) := by omega
  refine any_ne h0 d fun H1 s1 => ⟨_, rfl, ?_⟩
  have d1 := d.same s1
  have S1 : Stp (dealR a b).m H H1 := Stp.of s1
  by_cases hc : cs = []
  · have eb : (!decide (cs = [])) = false := by simp [hc]
    rw [eb]
    refine Eq.mpr (if_neg Bool.false_ne_true) ?_
    have hk : ((k : Int) * 40693 + 71) % 2147483647 = (((k * 40693 + 71) % 2147483647 : Nat) : Int) := rfl
    have hm : CMulW (k : Int) 40693 := wide_mul (a := 31) (b := 16) (by have := d.low; show k < 2 ^ 31; omega) (by decide) (by decide) (by decide) (by decide)
    refine any_ix1 h0 d1 ⟨_, _, rfl, rfl, hm, _, _, rfl, rfl, .inl ⟨_, rfl, _, _, rfl, rfl, (show (0 : Int) < 2147483647 by decide), ?_⟩⟩
    refine Eq.mpr (congrArg (fun z => gSub (tVar 0) (tC (.int 1)) rSetL (V.int z) σ H1 _) hk) ?_
    refine ⟨_, h0, a, _, 1, 1, rfl, rfl, d1.ha, rfl, ?_⟩
    have d2 : DealAt a b cs ((k * 40693 + 71) % 2147483647) (upd H1 a (.lst ([V.ref b, .int k].set 1 (.int (((k * 40693 + 71) % 2147483647 : Nat) : Int))))) :=
      ⟨d.ne, d.len, Nat.mod_lt _ (by decide), by rw [upd_same]; rfl, by rw [upd_ne (Ne.symm d.ne)]; exact d1.hb⟩
    refine any_ix1 h0 d2 ⟨_, _, rfl, rfl, ⟨by decide, by decide⟩, .inl ⟨_, rfl, _, h1, _, _, rfl, rfl, hn0, ?_⟩⟩
    exact ret (((k * 40693 + 71) % 2147483647) / 64 % n) _ (Nat.mod_lt _ hn) (S1.trans (stp_put (.inl rfl))) ⟨_, _, d2⟩
  · have eb : (!decide (cs = [])) = true := by simp [hc]
    rw [eb]
    refine Eq.mpr (if_pos rfl) ?_
    obtain ⟨c, hc⟩ := last_of hc
    refine any_pop h0 d1 hc fun H2 s2 d2 => .inl ⟨_, rfl, ?_⟩
    have g0 : (σ.set 2 (some (V.int (c : Int))))[0]? = some (some (.ref a)) := by rw [List.getElem?_set_ne (by decide)]; exact h0
    have g1 : (σ.set 2 (some (V.int (c : Int))))[1]? = some (some (.int (n : Int))) := by rw [List.getElem?_set_ne (by decide)]; exact h1
    have g2 : (σ.set 2 (some (V.int (c : Int))))[2]? = some (some (.int (c : Int))) := by rw [List.getElem?_set_self (by omega)]
    refine any_ix0 g0 d2 ⟨.inl ⟨rfl, _, SqL.of d2.hb⟩, _, g2, _, g1, _, _, rfl, rfl, div_ok hn hn2, b, _, _, rfl, rfl, d2.hb, ?_, ?_⟩
    · have := d2.len
      rw [List.length_map]
      exact szB (by omega)
    · refine ⟨_, g2, _, g1, _, _, rfl, rfl, hn0, ?_⟩
      refine ret (c % n) _ (Nat.mod_lt _ hn) ((S1.trans s2).trans (stp_put (.inr rfl))) ⟨cs.dropLast ++ [c / n], k, d.ne, ?_, d.low, by rw [upd_ne d.ne]; exact d2.ha, ?_⟩
      · have := d.len
        have h3 : 0 < cs.length := by
          have := (List.getElem?_eq_some_iff.mp hc).1
          omega
        rw [List.length_append, List.length_dropLast, List.length_singleton]
        omega
      · rw [upd_same, List.map_append]
        rfl
end Gv
namespace Gv
open PySem PySem.Spec PyProof.Rows L2
theorem OpD.imp {K : PySem.W.Frag} {o : R2} {x y : D} {P P' : D → Prop} (h : OpD K o x y P) (hp : ∀ d, P d → P' d) : OpD K o x y P' := fun rm M H v w ok hv hw Q q => h rm M H v w ok hv hw Q fun z H' d pd => q z H' d (hp d pd)
end Gv
namespace Gv
open PySem PySem.Spec PyProof.Rows L2
abbrev vN : Nat → V := fun n => V.int (n : Int)
theorem IsDs.nats {K : PySem.W.Frag} {M : Addr → Prop} {H : Hp} {ns : List Nat} {xs : List V} (h : IsDs K M H xs (ns.map eN)) : xs = ns.map vN := by
  rw [mapN] at h
  have := h.ints
  rw [List.map_map] at this
  exact this
theorem IsDs.of_nats {K : PySem.W.Frag} {M : Addr → Prop} {H : Hp} (ns : List Nat) : IsDs K M H (ns.map vN) (ns.map eN) := by
  have := IsDs.of_ints (K := K) (M := M) (H := H) (ns.map Int.ofNat)
  rw [List.map_map, List.map_map] at this
  exact this
theorem ne_nil {K : PySem.W.Frag} {l : Addr} {xs : List Nat} {i : Nat} {σ : L2.St} {H : Hp} {Q : VK} (hσ : σ[i]? = some (some (.ref l))) (h : H l = some (.lst (xs.map vN))) (q : ∀ H', Same H H' → Q (.bl (!decide (xs = []))) H') : tOp (rNeD K) (tVar i) (tLst tNil) σ H Q := by
  refine ⟨_, hσ, sz0, fun p hp => ?_⟩
  have s1 : Same H (upd H p (.lst [])) := same_new hp
  refine op_neL pl_N (l := xs) (m := []) rfl rfl (fun _ => False) (fun _ => False) _ _ _ (fun _ z => z.elim) (.inl (.lst ⟨fun z => z, s1 _ _ h⟩ (IsDs.of_nats xs))) (.inl (.lst ⟨fun z => z, upd_same⟩ .nil)) _ fun z H' x e s i => ?_
  subst e
  cases i
  exact q H' fun p o h => s p o (s1 p o h)
theorem erase_mem {l : List Nat} {k x : Nat} (h : x ∈ l.eraseIdx k) : x ∈ l := (List.eraseIdx_sublist l k).mem h
end Gv
namespace Gv
theorem erase_map {α β : Type} (f : α → β) : ∀ (l : List α) (k : Nat), (l.map f).eraseIdx k = (l.eraseIdx k).map f
  | [], _ => rfl
  | x :: l, 0 => rfl
  | x :: l, k + 1 => by
    show f x :: (l.map f).eraseIdx k = f x :: (l.eraseIdx k).map f
    rw [erase_map f l k]
end Gv

namespace Gv
open PySem PySem.Spec PyProof.Rows L2
section
variable {P : Program} {w : World} {K : PySem.W.Frag} {mg : Str → Option Value} {base : Heap} {C : Addr}
def g_l_any : Addr → List D → Oc → Prop := fun a ds oc => ∃ n : Nat, ds = [.adr a, eN n] ∧ (0 < n ∧ n ≤ 100000) ∧ oc = some (fun d => ∃ k : Nat, k < n ∧ d = eN k)
abbrev C_l_any (P : Program) (w : World) (K : PySem.W.Frag) (mg : Str → Option Value) (base : Heap) (C : Addr) : Prop := Cal P w K mg base CX0 2 "_law_any" ["_law_deal", "_law_bound"] (SpR K C g_l_any)
theorem sc_l_any : FnScope ["_law_deal", "_law_bound", "_law_rest"] ["_law_deal", "_law_bound"] (defScope s_l_any) := ⟨rfl, rfl, rfl, by decide +kernel, rfl, by decide +kernel, by decide +kernel⟩
theorem len_l_any : ∀ a ds oc, g_l_any a ds oc → ds.length = 2 := fun _ _ _ ⟨_, e, _⟩ => by rw [e]; rfl
theorem cal_l_any (d : Df K mg "_law_any" s_l_any) (T : Nms K mg)   : C_l_any P w K mg base C := by
  refine cal_of d sc_l_any (SpR.len len_l_any) (fun _ _ _ _ _ _ us hl => match us, hl with | [_, _], _ => rfl) fun f cdv A outer s H vs Q E hr h => ⟨_, PSs.nox (pss_cons (ps_while PassesOwn.never (PW.pt (pw_and (pt_cmpR (op_neD hr.units) (pe_ix ix_list (pv 0) pe_int (fun _ _ => rfl)) (pe_lst pa_nil) (nomark _)) (pw_and1 (pt_cmpR op_eq (pe_ix ix_list (pe_ix ix_list (pv 0) pe_int (fun _ _ => rfl)) (pe_un un_neg pe_int) (fun _ _ => rfl)) pe_int (nomark _))))) (pss_one (ps_expr (pe_bm0 PySem.F.plainAttrs_list PySem.F.slot_list_pop PySem.F.type_list_pop mt_pop (pe_ix ix_list (pv 0) pe_int (fun _ _ => rfl))))))
    (pss_cons (ps_if (pt_cmpR (op_neD hr.units) (pe_ix ix_list (pv 0) pe_int (fun _ _ => rfl)) (pe_lst pa_nil) (nomark _)) (pss_cons (ps_set (i := 2) sc_l_any.nd rfl (Or.inl rfl) (pe_callTy (T := "int") call_int1 rfl T.int (by decide +kernel) (pa_cons (pe_bm0 PySem.F.plainAttrs_list PySem.F.slot_list_pop PySem.F.type_list_pop mt_pop (pe_ix ix_list (pv 0) pe_int (fun _ _ => rfl))) pa_nil)))
    (pss_cons (ps_expr (pe_bm PySem.F.plainAttrs_list PySem.F.slot_list_append PySem.F.type_list_append mt_append (pe_ix ix_list (pv 0) pe_int (fun _ _ => rfl)) (pa_cons (pe_op op_fdivW (pv 2) (pv 1)) pa_nil)))
    (pss_one (ps_ret (pe_op op_mod (pv 2) (pv 1)))))) pss_nil)
    (pss_cons (ps_asg (pe_op op_mod (pe_callTy (T := "int") call_int1 rfl T.int (by decide +kernel) (pa_cons (pe_op op_add (pe_op op_mulW (pe_ix ix_list (pv 0) pe_int (fun _ _ => rfl)) pe_int) pe_int) pa_nil)) pe_int) (pg_sub (pv 0) pe_int set_list))
    (pss_one (ps_ret (pe_op op_mod (pe_callTy (T := "int") call_int1 rfl T.int (by decide +kernel) (pa_cons (pe_op op_fdivW (pe_ix ix_list (pv 0) pe_int (fun _ _ => rfl)) pe_int) pa_nil)) (pv 1))))))),
    def_runR h fun a b ds oc g => by
    obtain ⟨n, rfl, ⟨hn, hn2⟩, rfl⟩ := g
    intro M σ H De w1 w2 ok inv e kn kr kx
    obtain ⟨v0, h0, i0⟩ := e.get (i := 0) rfl
    obtain ⟨v1, h1, i1⟩ := e.get (i := 1) rfl
    have hl : σ.length = 3 := e.len
    cases i0
    cases i1
    have ret : ∀ (k : Nat) (H' : Hp), k < n → Stp (dealR a b).m H H' → (∃ cs k, DealAt a b cs k H') → De.rt (.int (k : Int)) H' := fun k H' hk s i => kr _ H' (eN k) ⟨_, rfl, k, hk, rfl⟩ s i (.int _)
    obtain ⟨cs, k, d⟩ := inv
    refine ⟨fun m σ' H' => σ' = σ ∧ Stp (dealR a b).m H H' ∧ ∃ cs k, cs.length = m ∧ DealAt a b cs k H', ⟨_, rfl, Stp.refl _ _, cs, k, rfl, d⟩, fun m σ' H1 ⟨eσ, s1, cs, k, hm, d⟩ => ?_⟩
    subst eσ
    have rest : ∀ H2 : Hp, Stp (dealR a b).m H H2 → DealAt a b cs k H2 → t_anyRest K De σ' H2 := fun H2 s2 d2 => any_rest h0 h1 hl hn hn2 d2 fun k H' hk s i => ret k H' hk (s2.trans s) i
    refine any_ne h0 d fun H2 s2 => ⟨_, rfl, ?_⟩
    have d2 := d.same s2
    have S2 := s1.trans (Stp.of (W := (dealR a b).m) s2)
    by_cases hc : cs = []
    · have eb : (!decide (cs = [])) = false := by simp [hc]
      rw [eb]
      refine Eq.mpr (if_neg Bool.false_ne_true) ?_
      exact rest H2 S2 d2
    · have eb : (!decide (cs = [])) = true := by simp [hc]
      rw [eb]
      refine Eq.mpr (if_pos rfl) ?_
      obtain ⟨c, hc⟩ := last_of hc
      refine any_ix0 h0 d2 ⟨_, rfl, b, _, -1, _, rfl, rfl, SqL.of d2.hb, any_lst hc, rfl, _, rfl, ?_⟩
      cases hq : decide (V.int (c : Int) = V.int 0)
      · exact Eq.mpr (if_neg Bool.false_ne_true) (rest H2 S2 d2)
      · refine Eq.mpr (if_pos rfl) ?_
        refine ⟨fun σ3 H3 => σ3 = σ' ∧ Stp (dealR a b).m H H3 ∧ DealAt a b cs.dropLast k H3, fun σ3 H3 ⟨e3, s3, d3⟩ => ⟨_, ?_, e3, s3, _, _, rfl, d3⟩, any_pop h0 d2 hc fun H3 s3 d3 => ⟨rfl, S2.trans s3, d3⟩⟩
        rw [List.length_dropLast, hm]
        have := (List.getElem?_eq_some_iff.mp hc).1
        omega
    ⟩
end
end Gv

namespace Gv
open PySem PySem.Spec PyProof.Rows L2
section
variable {P : Program} {w : World} {K : PySem.W.Frag} {mg : Str → Option Value} {base : Heap} {C : Addr}
def g_l_of : Addr → List D → Oc → Prop := fun a ds oc => ∃ l : List D, ds = [.adr a, .lst l] ∧ (l ≠ [] ∧ l.length ≤ 100000) ∧ oc = some (fun d => d ∈ l)
abbrev C_l_of (P : Program) (w : World) (K : PySem.W.Frag) (mg : Str → Option Value) (base : Heap) (C : Addr) : Prop := Cal P w K mg base CX0 3 "_law_of" ["_law_deal", "_law_some"] (SpR K C g_l_of)
theorem sc_l_of : FnScope ["_law_deal", "_law_some"] ["_law_deal", "_law_some"] (defScope s_l_of) := ⟨rfl, rfl, rfl, by decide +kernel, rfl, by decide +kernel, by decide +kernel⟩
theorem len_l_of : ∀ a ds oc, g_l_of a ds oc → ds.length = 2 := fun _ _ _ ⟨_, e, _⟩ => by rw [e]; rfl
theorem cal_l_of (d : Df K mg "_law_of" s_l_of) (T : Nms K mg) (c_l_any : C_l_any P w K mg base C)  : C_l_of P w K mg base C := by
  refine cal_of d sc_l_of (SpR.len len_l_of) (fun _ _ _ _ _ _ us hl => match us, hl with | [_, _], _ => rfl) fun f cdv A outer s H vs Q E hr h => ⟨_, PSs.nox (pss_one (ps_ret (pe_ix ix_list (pv 1) (pe_calc c_l_any (hr.mono (by decide)) rfl pass0 (pa_cons (pv 0) (pa_cons (pe_callB (id := "len") call_len_seq rfl T.len (by decide +kernel) (pa_cons (pv 1) pa_nil)) pa_nil))) (fun _ _ => rfl)))),
    def_runR h fun a b ds oc g => by
    obtain ⟨l, rfl, ⟨hl, hl2⟩, rfl⟩ := g
    exact run_ret (ev_op (Px := (· = .lst l)) (Py := fun _ y => ∃ k : Nat, k < l.length ∧ y = eN k) (ev_var rfl).v (fun _ _ => (ev_callR1 (ea_c (ev_var rfl) (ea_c (ev_len (l := l) (ev_var rfl).v (.inr rfl)) ea_nil)) ⟨l.length, rfl, ⟨List.length_pos_iff.mpr hl, hl2⟩, rfl⟩).v) fun x y ex ⟨k, hk, ey⟩ => by
      subst ex; subst ey
      exact OpD.imp (op_ixL (d := l[k]) (by rw [atI_nat hk, List.getElem?_eq_getElem hk])) fun d e => (by rw [e]; exact List.getElem_mem hk : d ∈ l)) fun d h => ⟨_, rfl, h⟩
    ⟩
def g_l_mixed : Addr → List D → Oc → Prop := fun a ds oc => ∃ ns : List Nat, ds = [.adr a, .lst (ns.map eN)] ∧ ns.length ≤ 1000 ∧ oc = some (fun d => ∃ ms : List Nat, ms.length ≤ ns.length ∧ (∀ m ∈ ms, m ∈ ns) ∧ d = .lst (ms.map eN))
abbrev C_l_mixed (P : Program) (w : World) (K : PySem.W.Frag) (mg : Str → Option Value) (base : Heap) (C : Addr) : Prop := Cal P w K mg base CX0 3 "_law_mixed" ["_law_deal", "_law_some"] (SpR K C g_l_mixed)
theorem sc_l_mixed : FnScope ["_law_deal", "_law_some", "_law_left", "_law_found"] ["_law_deal", "_law_some"] (defScope s_l_mixed) := ⟨rfl, rfl, rfl, by decide +kernel, rfl, by decide +kernel, by decide +kernel⟩
theorem len_l_mixed : ∀ a ds oc, g_l_mixed a ds oc → ds.length = 2 := fun _ _ _ ⟨_, e, _⟩ => by rw [e]; rfl
theorem cal_l_mixed (d : Df K mg "_law_mixed" s_l_mixed) (T : Nms K mg) (c_l_any : C_l_any P w K mg base C)  : C_l_mixed P w K mg base C := by
  refine cal_of d sc_l_mixed (SpR.len len_l_mixed) (fun _ _ _ _ _ _ us hl => match us, hl with | [_, _], _ => rfl) fun f cdv A outer s H vs Q E hr h => ⟨_, PSs.nox (pss_cons (ps_par (i := 2) (j := 3) rfl sc_l_mixed.nd rfl rfl (by decide) rfl rfl (pa_cons (pe_callTy (T := "list") call_list_of rfl T.list (by decide +kernel) (pa_cons (pv 1) pa_nil)) (pa_cons (pe_lst pa_nil) pa_nil)) rfl)
    (pss_cons (ps_while PassesOwn.never (pt_cmpR (op_neD hr.units) (pv 2) (pe_lst pa_nil) (nomark _)) (pss_one (ps_expr (pe_bm PySem.F.plainAttrs_list PySem.F.slot_list_append PySem.F.type_list_append mt_append (pv 3) (pa_cons (pe_bm PySem.F.plainAttrs_list PySem.F.slot_list_pop PySem.F.type_list_pop mt_popAt (pv 2) (pa_cons (pe_calc c_l_any (hr.mono (by decide)) rfl pass0 (pa_cons (pv 0) (pa_cons (pe_callB (id := "len") call_len_seq rfl T.len (by decide +kernel) (pa_cons (pv 2) pa_nil)) pa_nil))) pa_nil)) pa_nil)))))
    (pss_one (ps_ret (pv 3))))),
    def_runR h fun a b ds oc g => by
    obtain ⟨ns, rfl, hn, rfl⟩ := g
    intro M σ H De w1 w2 ok inv e kn kr kx
    have hl : σ.length = 4 := e.len
    obtain ⟨v0, h0, i0⟩ := e.get (i := 0) rfl
    obtain ⟨v1, h1, i1⟩ := e.get (i := 1) rfl
    cases i0
    obtain ⟨c, xs, rfl, c1, c2⟩ := isV_lst (rm := (dealR a b).m) (.inl i1)
    have ex := c2.nats
    subst ex
    refine ⟨_, h1, c, _, rfl, .inl (SqL.of c1), fun l hl0 => ⟨sz0, fun p hp => ⟨_, _, rfl, ?_⟩⟩⟩
    have s1 : Same H (upd H l (.lst (ns.map vN))) := same_new hl0
    have s2 : Same (upd H l (.lst (ns.map vN))) (upd (upd H l (.lst (ns.map vN))) p (.lst [])) := same_new hp
    have hlp : l ≠ p := fun z => by
      rw [← z, upd_same] at hp
      cases hp
    have hp0 : H p = none := by
      rw [upd_ne (Ne.symm hlp)] at hp
      exact hp
    have ml : ¬ M l := ok.out hl0
    have mp : ¬ M p := ok.out hp0
    have rl : ¬ (dealR a b).m l := fun z => ml (w2 _ z)
    have rp : ¬ (dealR a b).m p := fun z => mp (w2 _ z)
    have S2 : Stp (dealR a b).m H (upd (upd H l (.lst (ns.map vN))) p (.lst [])) := Stp.of fun q o hq => s2 q o (s1 q o hq)
    have I2 : (dealR a b).inv (upd (upd H l (.lst (ns.map vN))) p (.lst [])) := by
      obtain ⟨cs, k, d⟩ := inv
      exact ⟨cs, k, (d.same s1).same s2⟩
    have g0 : ((σ.set 2 (some (V.ref l))).set 3 (some (V.ref p)))[0]? = some (some (.ref a)) := by rw [List.getElem?_set_ne (by decide), List.getElem?_set_ne (by decide)]; exact h0
    have g2 : ((σ.set 2 (some (V.ref l))).set 3 (some (V.ref p)))[2]? = some (some (.ref l)) := by rw [List.getElem?_set_ne (by decide), List.getElem?_set_self (by omega)]
    have g3 : ((σ.set 2 (some (V.ref l))).set 3 (some (V.ref p)))[3]? = some (some (.ref p)) := by rw [List.getElem?_set_self (by rw [List.length_set]; omega)]
    refine ⟨fun m σ' H' => σ' = (σ.set 2 (some (V.ref l))).set 3 (some (V.ref p)) ∧ ∃ xs ys : List Nat, xs.length = m ∧ H' l = some (.lst (xs.map vN)) ∧ H' p = some (.lst (ys.map vN)) ∧ Stp (dealR a b).m H H' ∧ (dealR a b).inv H' ∧ ys.length + xs.length = ns.length ∧ (∀ z ∈ xs, z ∈ ns) ∧ ∀ z ∈ ys, z ∈ ns,
      ⟨_, rfl, ns, [], rfl, by rw [upd_ne hlp, upd_same], upd_same, S2, I2, by simp, fun _ z => z, fun _ z => by cases z⟩, fun m σ' H1 ⟨eσ, xs, ys, hm, hl1, hp1, S, I, hlen, hx, hy⟩ => ?_⟩
    subst eσ
    refine ne_nil g2 hl1 fun H2 s3 => ⟨_, rfl, ?_⟩
    have hl2 := s3 _ _ hl1
    have hp2 := s3 _ _ hp1
    have S3 := S.trans (Stp.of (W := (dealR a b).m) s3)
    have I3 : (dealR a b).inv H2 := by
      obtain ⟨cs, k, d⟩ := I
      exact ⟨cs, k, d.same s3⟩
    by_cases hxe : xs = []
    · have eb : (!decide (xs = [])) = false := by simp [hxe]
      rw [eb]
      refine Eq.mpr (if_neg Bool.false_ne_true) ?_
      refine ⟨_, g3, ?_⟩
      refine kr _ H2 (.lst (ys.map eN)) ⟨_, rfl, ys, by omega, hy, rfl⟩ S3 I3 (.lst ⟨fun z => mp z.1, hp2⟩ (IsDs.of_nats ys))
    · have eb : (!decide (xs = [])) = true := by simp [hxe]
      rw [eb]
      refine Eq.mpr (if_pos rfl) ?_
      have hpos : 0 < xs.length := List.length_pos_iff.mpr hxe
      refine ⟨fun σ3 H3 => σ3 = (σ.set 2 (some (V.ref l))).set 3 (some (V.ref p)) ∧ ∃ (k : Nat) (ys' : List Nat), k < xs.length ∧ H3 l = some (.lst ((xs.eraseIdx k).map vN)) ∧ H3 p = some (.lst (ys'.map vN)) ∧ Stp (dealR a b).m H H3 ∧ (dealR a b).inv H3 ∧ ys'.length = ys.length + 1 ∧ ∀ z ∈ ys', z ∈ ns, fun σ3 H3 ⟨e3, k, ys', hk, a1, a2, a3, a4, a5, a6⟩ => ⟨xs.length - 1, by omega, e3, xs.eraseIdx k, ys', by rw [List.length_eraseIdx_of_lt hk], a1, a2, a3, a4, by rw [List.length_eraseIdx_of_lt hk]; omega, fun z hz => hx z (erase_mem hz), a6⟩, ?_⟩
      refine ⟨_, g3, .inl ⟨rfl, _, SqL.of hp2⟩, _, g2, .inl ⟨rfl, _, SqL.of hl2⟩, ?_⟩
      refine ⟨_, g0, _, g2, l, _, rfl, .inl (SqL.of hl2), ?_⟩
      refine ⟨a, b, (dealR a b).m, [.adr a, eN xs.length], _, fun _ z => z, ?_, I3, .cons (.adr a) (.cons (by rw [List.length_map]; exact .int _) .nil), ⟨xs.length, rfl, ⟨hpos, by omega⟩, rfl⟩, ?_⟩
      · intro q hq
        obtain ⟨cs, k, d⟩ := I3
        rcases hq with e | e
        · rw [e, d.ha]; nofun
        · rw [e, d.hb]; nofun
      · rintro v H4 d ⟨k, hk, rfl⟩ S4 I4 iv
        cases iv
        have hl4 : H4 l = some (.lst (xs.map vN)) := S4.keep _ _ rl hl2
        have hp4 : H4 p = some (.lst (ys.map vN)) := S4.keep _ _ rp hp2
        refine ⟨l, _, _, k, vN xs[k], rfl, rfl, hl4, by omega, by omega, ?_, ?_, ?_⟩
        · have := (ixN_seq (n := xs.length) (i := (k : Int)) (j := k) (by unfold ixN; simp [hk])).1
          rw [List.length_map]
          exact this
        · rw [List.getElem?_map, List.getElem?_eq_getElem hk]
          rfl
        · have hp5 : (upd H4 l (.lst ((xs.map vN).eraseIdx k))) p = some (.lst (ys.map vN)) := by rw [upd_ne (Ne.symm hlp)]; exact hp4
          refine ⟨p, _, _, rfl, rfl, hp5, by rw [List.length_map]; exact szB (by omega), rfl, k, ys ++ [xs[k]], hk, ?_, ?_, ?_, ?_, ?_, ?_⟩
          · rw [upd_ne hlp, upd_same, erase_map]
          · rw [upd_same, List.map_append]
            rfl
          · refine ⟨fun q o nq hq => ?_, fun q hq => ?_⟩
            · have hql : q ≠ l := fun z => by rw [z, hl0] at hq; cases hq
              have hqp : q ≠ p := fun z => by rw [z, hp0] at hq; cases hq
              rw [upd_ne hqp, upd_ne hql]
              exact (S3.trans S4).keep q o nq hq
            · by_cases e1 : q = p
              · rw [e1, upd_same]; nofun
              · by_cases e2 : q = l
                · rw [e2, upd_ne hlp, upd_same]; nofun
                · rw [upd_ne e1, upd_ne e2]
                  exact (S3.trans S4).there q hq
          · exact (dealR a b).stab H4 _ (fun q hq => by rw [upd_ne (fun z : q = p => rp (by rw [← z]; exact hq)), upd_ne (fun z : q = l => rl (by rw [← z]; exact hq))]) I4
          · rw [List.length_append]; rfl
          · intro z hz
            rcases List.mem_append.mp hz with hz | hz
            · exact hy z hz
            · rw [List.mem_singleton.mp hz]
              exact hx _ (List.getElem_mem hk)
    ⟩
end
end Gv

namespace Gv
open PySem PySem.Spec PyProof.Rows L2
section
variable {K : PySem.W.Frag} {R : Rg} {r : REnv} {te ta tb : TE} {x : D}
theorem ev_tupleF {P : List D → Prop} (h : EvF K R te r P) : Ev K R (tCB (rTupleQ K) (tCons te tNil)) r (fun d => ∃ ds, P ds ∧ d = .tup ds) := fun M σ H hR ok inv e Q q =>
  h M σ H hR ok inv e _ fun p H1 xs ds pd hp s1 i1 hx d1 => by
    refine ⟨p, xs, rfl, .inl ⟨SqL.of hx, fun l hl => ?_⟩⟩
    have s2 : Same H1 (upd H1 l (.tup xs)) := same_new hl
    have hpn : H1 p ≠ none := by rw [hx]; nofun
    have hlp : l ≠ p := fun z => hpn (z ▸ hl)
    have ok1 : Ok M H1 := ok.stp s1
    have ml : ¬ M l := ok1.out hl
    refine q _ _ (.tup ds) ⟨ds, pd, rfl⟩ (s1.trans (Stp.of s2)) (inv_same hR ok1 s2 i1) (.tup (.inl ⟨ml, .inl upd_same⟩) ?_)
    exact (d1.to (fun q z => .inl z) fun _ _ _ z => z).same s2
theorem evF_map {α : Type} {enc : α → D} {l : List α} {out : List D} (h : ∀ y ∈ out, ∃ x ∈ l, y = enc x) : ∃ ms : List α, out = ms.map enc ∧ ∀ m ∈ ms, m ∈ l := by
  induction out with
  | nil => exact ⟨[], rfl, fun _ z => by cases z⟩
  | cons y out ih =>
    obtain ⟨ms, e, hm⟩ := ih fun y hy => h y (List.mem_cons_of_mem _ hy)
    obtain ⟨x, hx, ey⟩ := h y List.mem_cons_self
    refine ⟨x :: ms, by rw [e, ey, List.map_cons], fun m hm' => ?_⟩
    rcases List.mem_cons.mp hm' with z | z
    · rw [z]; exact hx
    · exact hm m z
theorem map_all {α : Type} {enc : α → D} {p : α → Prop} {out : List D} (h : ∀ y ∈ out, ∃ x, p x ∧ y = enc x) : ∃ ms : List α, out = ms.map enc ∧ ∀ m ∈ ms, p m := by
  induction out with
  | nil => exact ⟨[], rfl, fun _ z => by cases z⟩
  | cons y out ih =>
    obtain ⟨ms, e, hm⟩ := ih fun y hy => h y (List.mem_cons_of_mem _ hy)
    obtain ⟨x, hx, ey⟩ := h y List.mem_cons_self
    refine ⟨x :: ms, by rw [e, ey, List.map_cons], fun m hm' => ?_⟩
    rcases List.mem_cons.mp hm' with z | z
    · rw [z]; exact hx
    · exact hm m z
/-- a comprehension over nats, drawn as it goes -/
theorem ef_draw {β : Type} {wi : TI} {tt : TT} {vs : List Nat} {j : Nat} {P : List Nat → Prop} {enc : β → D} {p : Nat → β → Prop} (hi : EvI K R wi r (fun ds => ∃ l, P l ∧ ds = l.map eN)) (hz : ∀ l, P l → l.length < sizeLine) (hj : j ∈ vs)
    (ht : ∀ l, P l → ∀ x ∈ l, EvT K R tt ((wipeR r vs).set j (some (.d (eN x)))) (fun _ => True)) (he : ∀ l, P l → ∀ x ∈ l, Ev K R te ((wipeR r vs).set j (some (.d (eN x)))) (fun d => ∃ y, p x y ∧ d = enc y)) :
    EvF K R (tLc wi (gName j) tt te vs) r (fun out => ∃ (l : List Nat) (ms : List β), P l ∧ out = ms.map enc ∧ ms.length ≤ l.length ∧ ∀ m ∈ ms, ∃ x ∈ l, p x m) := by
  refine (ef_lc (enc := eN) (B := fun _ _ => True) (F := fun x d => ∃ y, p x y ∧ d = enc y) hi hz fun l pl x hx => ⟨_, _, tg_name, by intro q hq; rw [List.mem_singleton.mp hq]; exact hj, ht l pl x hx, fun _ => he l pl x hx⟩).imp fun out ⟨l, pl, ho⟩ => ?_
  obtain ⟨ms, e, hm⟩ := map_all (enc := enc) (p := fun y => ∃ x ∈ l, p x y) fun y hy => by
    obtain ⟨x, hx, _, z, hp, e⟩ := ho.all y hy
    exact ⟨z, ⟨x, hx, hp⟩, e⟩
  have hlen := ho.len
  rw [e, List.length_map] at hlen
  exact ⟨l, ms, pl, e, hlen, hm⟩
/-- .. without a test: as many as items -/
theorem ef_drawM {β : Type} {wi : TI} {vs : List Nat} {j : Nat} {P : List Nat → Prop} {enc : β → D} {p : Nat → β → Prop} (hi : EvI K R wi r (fun ds => ∃ l, P l ∧ ds = l.map eN)) (hz : ∀ l, P l → l.length < sizeLine) (hj : j ∈ vs)
    (he : ∀ l, P l → ∀ x ∈ l, Ev K R te ((wipeR r vs).set j (some (.d (eN x)))) (fun d => ∃ y, p x y ∧ d = enc y)) :
    EvF K R (tLc wi (gName j) tYes te vs) r (fun out => ∃ (l : List Nat) (ms : List β), P l ∧ out = ms.map enc ∧ ms.length = l.length ∧ ∀ m ∈ ms, ∃ x ∈ l, p x m) := by
  refine (ef_lc (enc := eN) (B := fun _ b => b = true) (F := fun x d => ∃ y, p x y ∧ d = enc y) hi hz fun l pl x hx => ⟨_, _, tg_name, by intro q hq; rw [List.mem_singleton.mp hq]; exact hj, et_yes, fun _ => he l pl x hx⟩).imp fun out ⟨l, pl, ho⟩ => ?_
  obtain ⟨ms, e, hm⟩ := map_all (enc := enc) (p := fun y => ∃ x ∈ l, p x y) fun y hy => by
    obtain ⟨x, hx, _, z, hp, e⟩ := ho.all y hy
    exact ⟨z, ⟨x, hx, hp⟩, e⟩
  have hlen := ho.full fun x z => by cases z
  rw [e, List.length_map] at hlen
  exact ⟨l, ms, pl, e, hlen, hm⟩
theorem op_eqN' {K : PySem.W.Frag} {a b : Nat} : OpD K rEq (eN a) (eN b) (fun d => ∃ c, True ∧ d = .bl c) := op_eqN.imp fun d e => ⟨_, trivial, e⟩
end
/-- what the law draws first -/
structure Reg.Ok0 (r : Reg) : Prop where
  fits : r.fits ≠ []
  fits4 : r.fits.length ≤ 4
  people : r.people.length ≤ 7
  friends : r.friends.length ≤ 9
  barred : r.barred.length ≤ 63
  kind : ∀ x ∈ r.friends, x.1 < r.fits.length
  own : ∀ x ∈ r.friends, ∀ o, x.2 = some o → o < r.people.length
end Gv
namespace Gv
open PySem PySem.Spec PyProof.Rows L2
theorem ev_pairD {K : PySem.W.Frag} {R : Rg} {r : REnv} {ta tb : TE} {Pa Pb : D → Prop} (ha : Ev K R ta r Pa) (hb : Ev K R tb r Pb) : Ev K R (tTup (tCons ta (tCons tb tNil))) r (fun d => ∃ x y, Pa x ∧ Pb y ∧ d = .tup [x, y]) :=
  (ev_tup (P := fun l => ∃ x y, Pa x ∧ Pb y ∧ l = [x, y]) (ea_cons2 ha hb) (fun ds ⟨x, y, _, _, e⟩ => by rw [e]; exact sz2)).imp fun d ⟨ds, ⟨x, y, h1, h2, e⟩, e2⟩ => ⟨x, y, h1, h2, by rw [e2, e]⟩
where ea_cons2 {K : PySem.W.Frag} {R : Rg} {r : REnv} {ta tb : TE} {Pa Pb : D → Prop} (ha : Ev K R ta r Pa) (hb : Ev K R tb r Pb) : EvA K R (tCons ta (tCons tb tNil)) r (fun l => ∃ x y, Pa x ∧ Pb y ∧ l = [x, y]) :=
  (ea_cons ha (Pr := fun _ l => ∃ y, Pb y ∧ l = [y]) fun d _ => (ea_cons hb (Pr := fun _ l => l = []) fun _ _ => ea_nil).imp fun l ⟨y, ys, h, e1, e2⟩ => ⟨y, h, by rw [e2, e1]⟩).imp fun l ⟨x, xs, h, ⟨y, hy, e1⟩, e2⟩ => ⟨x, y, h, hy, by rw [e2, e1]⟩
end Gv

namespace Gv
open PySem PySem.Spec PyProof.Rows L2
section
variable {P : Program} {w : World} {K : PySem.W.Frag} {mg : Str → Option Value} {base : Heap} {C : Addr}
def g_l_registry : Addr → List D → Oc → Prop := fun a ds oc => ds = [.adr a] ∧ True ∧ oc = some (fun d => ∃ rg : Reg, rg.Ok0 ∧ d = eReg rg)
abbrev C_l_registry (P : Program) (w : World) (K : PySem.W.Frag) (mg : Str → Option Value) (base : Heap) (C : Addr) : Prop := Cal P w K mg base CX0 3 "_law_registry" ["_law_deal"] (SpR K C g_l_registry)
theorem sc_l_registry : FnScope ["_law_deal", "_law_kinds", "_law_fits", "_law_turn", "_law_people", "_law_friends_here", "_law_free", "_law_barred", "_law_friend", "_law_row", "_law_person", "_law_kind"] ["_law_deal"] (defScope s_l_registry) := ⟨rfl, rfl, rfl, by decide +kernel, rfl, by decide +kernel, by decide +kernel⟩
theorem len_l_registry : ∀ a ds oc, g_l_registry a ds oc → ds.length = 1 := fun _ _ _ ⟨e, _⟩ => by rw [e]; rfl
theorem cal_l_registry (d : Df K mg "_law_registry" s_l_registry) (T : Nms K mg) (c_l_any : C_l_any P w K mg base C)  : C_l_registry P w K mg base C := by
  refine cal_of d sc_l_registry (SpR.len len_l_registry) (fun _ _ _ _ _ _ us hl => match us, hl with | [_], _ => rfl) fun f cdv A outer s H vs Q E hr h => ⟨_, PSs.nox (pss_cons (ps_set (i := 1) sc_l_registry.nd rfl (Or.inr rfl) (pe_op op_add pe_int (pe_calc c_l_any (hr.mono (by decide)) rfl pass0 (pa_cons (pv 0) (pa_cons pe_int pa_nil)))))
    (pss_cons (ps_set (i := 2) sc_l_registry.nd rfl (Or.inl rfl) (pe_callTy (T := "tuple") call_tuple_of rfl T.tuple (by decide +kernel) (pa_cons (pe_lc (own := [("_law_row", 9)]) (g := (gName 9)) (tt := tYes) rfl sc_l_registry.nd (pi_range1 rfl T.range (pa_cons (pv 1) pa_nil)) (blkOk_by (own := [("_law_row", 9)]) (by kernel_rfl)) (fun _ _ _ _ _ => (pg_name (i := 9) sc_l_registry.nd rfl (Or.inl rfl))) (fun _ _ _ _ _ => pts_nil) (fun _ _ _ _ _ => (pe_callTy (T := "tuple") call_tuple_of rfl T.tuple (by decide +kernel) (pa_cons (pe_lc (own := [("_law_kind", 11)]) (g := (gName 11)) rfl sc_l_registry.nd (pi_range1 rfl T.range (pa_cons (pv 1) pa_nil)) (blkOk_by (own := [("_law_kind", 11)]) (by kernel_rfl)) (fun _ _ _ _ _ => (pg_name (i := 11) sc_l_registry.nd rfl (Or.inl rfl))) (fun _ _ _ _ _ => (pts_one (pt_cmpR op_eq (pe_calc c_l_any (hr.mono (by decide)) rfl pass0 (pa_cons (pv 0) (pa_cons pe_int pa_nil))) pe_int (nomark _)))) (fun _ _ _ _ _ => (pv 11))) pa_nil)))) pa_nil)))
    (pss_cons (ps_set (i := 4) sc_l_registry.nd rfl (Or.inl rfl) (pe_callTy (T := "tuple") call_tuple_of rfl T.tuple (by decide +kernel) (pa_cons (pe_lc (own := [("_law_turn", 3)]) (g := (gName 3)) (tt := tYes) rfl sc_l_registry.nd (pi_range1 rfl T.range (pa_cons (pe_calc c_l_any (hr.mono (by decide)) rfl pass0 (pa_cons (pv 0) (pa_cons pe_int pa_nil))) pa_nil)) (blkOk_by (own := [("_law_turn", 3)]) (by kernel_rfl)) (fun _ _ _ _ _ => (pg_name (i := 3) sc_l_registry.nd rfl (Or.inl rfl))) (fun _ _ _ _ _ => pts_nil) (fun _ _ _ _ _ => (pe_calc c_l_any (hr.mono (by decide)) rfl pass0 (pa_cons (pv 0) (pa_cons (pv 1) pa_nil))))) pa_nil)))
    (pss_cons (ps_set (i := 5) sc_l_registry.nd rfl (Or.inl rfl) (pe_lst pa_nil))
    (pss_cons (ps_for PassesOwn.never rfl (pi_range1 rfl T.range (pa_cons (pe_calc c_l_any (hr.mono (by decide)) rfl pass0 (pa_cons (pv 0) (pa_cons pe_int pa_nil))) pa_nil)) (pg_name (i := 3) sc_l_registry.nd rfl (Or.inl rfl)) (pss_cons (ps_set (i := 6) sc_l_registry.nd rfl (Or.inl rfl) (pe_or (pe_cmpR (op_eqD hr.units) (pv 4) (pe_tup pa_nil) (nomark _)) (pe_one (pe_cmpR op_eq (pe_calc c_l_any (hr.mono (by decide)) rfl pass0 (pa_cons (pv 0) (pa_cons pe_int pa_nil))) pe_int (nomark _)))))
    (pss_one (ps_expr (pe_bm PySem.F.plainAttrs_list PySem.F.slot_list_append PySem.F.type_list_append mt_append (pv 5) (pa_cons (pe_tup (pa_cons (pe_calc c_l_any (hr.mono (by decide)) rfl pass0 (pa_cons (pv 0) (pa_cons (pv 1) pa_nil))) (pa_cons (pe_ifExp (pt_val (pv 6)) pe_non (pe_calc c_l_any (hr.mono (by decide)) rfl pass0 (pa_cons (pv 0) (pa_cons (pe_callB (id := "len") call_len_seq rfl T.len (by decide +kernel) (pa_cons (pv 4) pa_nil)) pa_nil)))) pa_nil))) pa_nil))))))
    (pss_cons (ps_set (i := 7) sc_l_registry.nd rfl (Or.inl rfl) (pe_lst pa_nil))
    (pss_cons (ps_for PassesOwn.never rfl (pi_range1 rfl T.range (pa_cons (pe_callB (id := "len") call_len_seq rfl T.len (by decide +kernel) (pa_cons (pv 5) pa_nil)) pa_nil)) (pg_name (i := 8) sc_l_registry.nd rfl (Or.inr rfl)) (pss_one (ps_set (i := 7) sc_l_registry.nd rfl (Or.inl rfl) (pe_op op_cat (pv 7) (pe_lc (own := [("_law_person", 10)]) (g := (gName 10)) rfl sc_l_registry.nd (pi_range1 rfl T.range (pa_cons (pe_callB (id := "len") call_len_seq rfl T.len (by decide +kernel) (pa_cons (pv 4) pa_nil)) pa_nil)) (blkOk_by (own := [("_law_person", 10)]) (by kernel_rfl)) (fun _ _ _ _ _ => (pg_name (i := 10) sc_l_registry.nd rfl (Or.inl rfl))) (fun _ _ _ _ _ => (pts_one (pt_cmpR op_eq (pe_calc c_l_any (hr.mono (by decide)) rfl pass0 (pa_cons (pv 0) (pa_cons pe_int pa_nil))) pe_int (nomark _)))) (fun _ _ _ _ _ => (pe_tup (pa_cons (pv 8) (pa_cons (pv 10) pa_nil)))))))))
    (pss_one (ps_ret (pe_tup (pa_cons (pv 2) (pa_cons (pv 4) (pa_cons (pe_callTy (T := "tuple") call_tuple_of rfl T.tuple (by decide +kernel) (pa_cons (pv 5) pa_nil)) (pa_cons (pe_callTy (T := "tuple") call_tuple_of rfl T.tuple (by decide +kernel) (pa_cons (pv 7) pa_nil)) pa_nil)))))))))))))),
    def_runR h fun a b ds oc g => by
    obtain ⟨rfl, _, rfl⟩ := g
    refine run_letP (P := fun d => ∃ k : Nat, (0 < k ∧ k ≤ 4) ∧ d = eN k) (ev_op (Px := (· = eN 1)) (Py := fun _ y => ∃ k : Nat, k < 4 ∧ y = eN k) ev_int.v (fun _ _ => (ev_callR1 (ea_c (ev_var rfl) (ea_c ev_int ea_nil)) ⟨4, rfl, ⟨by decide, by decide⟩, rfl⟩).v) fun x y ex ⟨k, hk, ey⟩ => by
      subst ex; subst ey
      exact OpD.imp op_i0 fun d e => ⟨1 + k, ⟨by omega, by omega⟩, e⟩) fun d ⟨k, ⟨hk, hk4⟩, e⟩ => ?_
    subst e
    refine run_letP (P := fun d => ∃ ft : List (List Nat), ft.length = k ∧ d = .tup (ft.map eT)) ((ev_tupleF (ef_drawM (j := 9) (P := (· = List.range k)) (enc := eT) (p := fun _ _ => True) ((ei_rng1 (ev_var rfl) (by omega)).imp fun ds e => ⟨List.range k, rfl, e⟩) (fun l e => by rw [e, List.length_range]; exact szB (by omega)) (by decide)
      fun l e x hx => (ev_tupleF (ef_draw (j := 11) (P := (· = List.range k)) (enc := eN) (p := fun x y => y = x) ((ei_rng1 (ev_var rfl) (by omega)).imp fun ds e => ⟨List.range k, rfl, e⟩) (fun l e => by rw [e, List.length_range]; exact szB (by omega)) (by decide) (fun l e x hx => (et_test ((ev_op (Px := fun d => ∃ k : Nat, k < 2 ∧ d = eN k) (Py := fun _ y => y = eN 0) (ev_callR1 (ea_c (ev_var rfl) (ea_c ev_int ea_nil)) ⟨2, rfl, ⟨by decide, by decide⟩, rfl⟩).v (fun _ _ => ev_int.v) fun x y ⟨k, hk, ex⟩ ey => by
        subst ex; subst ey
        exact op_eqN'))).imp fun _ _ => trivial) fun l e x hx => (ev_var rfl).imp fun d e => ⟨x, rfl, e⟩)).imp fun d ⟨ds, ⟨l, ms, _, e, _⟩, e2⟩ => ⟨ms, trivial, by rw [e2, e]⟩)).imp fun d ⟨ds, ⟨l, ms, el, e, e3, _⟩, e2⟩ => ⟨ms, by rw [e3, el, List.length_range], by rw [e2, e]⟩) fun d ⟨ft, hft, e⟩ => ?_
    subst e
    refine run_letP (P := fun d => ∃ pe : List Nat, pe.length ≤ 7 ∧ d = eT pe) ((ev_tupleF (ef_drawM (j := 3) (P := fun l => l.length ≤ 7) (enc := eN) (p := fun _ _ => True) ((ei_rng (P := fun n => n ≤ 7) ((ev_callR1 (ea_c (ev_var rfl) (ea_c ev_int ea_nil)) ⟨8, rfl, ⟨by decide, by decide⟩, rfl⟩).imp fun d ⟨k, hk, e⟩ => ⟨k, by omega, by omega, e⟩)).imp fun ds ⟨n, hn, e⟩ => ⟨List.range n, by rw [List.length_range]; exact hn, e⟩) (fun l e => szB (by omega)) (by decide)
      fun l e x hx => (ev_callR1 (ea_c (ev_var rfl) (ea_c (ev_var rfl) ea_nil)) ⟨k, rfl, ⟨hk, by omega⟩, rfl⟩).imp fun d ⟨y, _, e⟩ => ⟨y, trivial, e⟩)).imp fun d ⟨ds, ⟨l, ms, hl, e, e3, _⟩, e2⟩ => ⟨ms, by omega, by rw [e2, e]⟩) fun d ⟨pe, hpe, e⟩ => ?_
    subst e
    refine run_own (ev_lst ea_nil fun ds e => by rw [e]; exact sz0) fun p ds e => ?_
    subst e
    refine run_seq (N := fun r' => ∃ fr : List (Nat × Option Nat), (fr.length ≤ 9 ∧ ∀ x ∈ fr, x.1 < k ∧ ∀ o, x.2 = some o → o < pe.length) ∧ ∃ x y : Option D, r' = (slD [some (.adr a), some (eN k), some (.tup (ft.map eT)), x, some (eT pe), none, y, none, none, none, none, none]).set 5 (some (.own p (fr.map eF))))
      (run_forW (α := Nat) (enc := eN) (P := fun l => l.length ≤ 9) ((ei_rng (P := fun n => n ≤ 9) ((ev_callR1 (ea_c (ev_var rfl) (ea_c ev_int ea_nil)) ⟨10, rfl, ⟨by decide, by decide⟩, rfl⟩).imp fun d ⟨k, hk, e⟩ => ⟨k, by omega, by omega, e⟩)).imp fun ds ⟨n, hn, e⟩ => ⟨List.range n, by rw [List.length_range]; exact hn, e⟩)
        (fun l i r' => ∃ fr : List (Nat × Option Nat), (fr.length = i ∧ ∀ x ∈ fr, x.1 < k ∧ ∀ o, x.2 = some o → o < pe.length) ∧ ∃ x y : Option D, r' = (slD [some (.adr a), some (eN k), some (.tup (ft.map eT)), x, some (eT pe), none, y, none, none, none, none, none]).set 5 (some (.own p (fr.map eF))))
        (fun l e => ⟨[], ⟨rfl, fun _ z => by cases z⟩, none, none, rfl⟩)
        (fun l hl i x r' hx ⟨fr, ⟨hi, hfr⟩, x1, y1, e2⟩ => ?_)
        (fun l hl r' ⟨fr, ⟨hi, hfr⟩, x1, y1, e2⟩ => ⟨fr, ⟨by omega, hfr⟩, x1, y1, e2⟩)) fun r' ⟨fr, ⟨hlen, hfr⟩, x1, y1, e⟩ => ?_
    · subst e2
      have hil : i < l.length := (List.getElem?_eq_some_iff.mp hx).1
      refine ⟨_, _, tg_name, ?_⟩
      refine run_letP (P := fun d => ∃ b : Bool, (b = false → pe ≠ []) ∧ d = .bl b) ((ev_or (P := fun c => c = decide (pe = [])) (P' := fun _ => True) ((ev_op1 (ev_var rfl).v (ev_tup1 ea_nil sz0).v (op_eqT pl_N (l := pe) (m := []) rfl rfl)).imp fun d e => ⟨_, rfl, e⟩) fun e => (ev_op (Px := fun d => ∃ k : Nat, k < 6 ∧ d = eN k) (Py := fun _ y => y = eN 0) (ev_callR1 (ea_c (ev_var rfl) (ea_c ev_int ea_nil)) ⟨6, rfl, ⟨by decide, by decide⟩, rfl⟩).v (fun _ _ => ev_int.v) fun x y ⟨k, hk, ex⟩ ey => by
        subst ex; subst ey
        exact op_eqN')).imp fun d ⟨b, hb, e⟩ => ⟨b, (fun hbf hpe => by
          rcases hb with ⟨h1, _⟩ | ⟨h1, _⟩
          · rw [hbf] at h1; cases h1
          · rw [hpe] at h1; cases h1), e⟩) fun d ⟨b, hb, e⟩ => ?_
      subst e
      refine run_append rfl (.inr rfl) ?_ ?_ (P := fun d => ∃ z : Nat × Option Nat, (z.1 < k ∧ ∀ o, z.2 = some o → o < pe.length) ∧ d = eF z) ((ev_pairD (Pa := fun d => ∃ y : Nat, y < k ∧ d = eN y) (Pb := fun d => ∃ o : Option Nat, (∀ x, o = some x → x < pe.length) ∧ d = eO o) (ev_callR1 (ea_c (ev_var rfl) (ea_c (ev_var rfl) ea_nil)) ⟨k, rfl, ⟨hk, by omega⟩, rfl⟩) (ev_if (et_test1 (ev_var rfl)) (fun e => ev_non.imp fun d e => ⟨none, fun _ z => by (cases z), e⟩) fun e => (ev_callR1 (ea_c (ev_var rfl) (ea_c (ev_lenM (f := eN) (ev_var rfl).v (.inl rfl)) ea_nil)) ⟨pe.length, rfl, ⟨List.length_pos_iff.mpr (hb e.symm), by omega⟩, rfl⟩).imp fun d ⟨y, hy, e⟩ => ⟨some y, fun x z => by (cases z; exact hy), e⟩)).imp fun d ⟨d1, d2, ⟨k1, hk1, ek⟩, ⟨o, ho, eo⟩, e1⟩ => ⟨(k1, o), ⟨hk1, ho⟩, by rw [e1, ek, eo]⟩) fun d ⟨z, hz, e⟩ => ?_
      · exact ho_set (xs := [some (.adr a), some (eN k), some (.tup (ft.map eT)), some (eN x), some (eT pe), none, some (.bl b), none, none, none, none, none])
      · rw [List.length_map]
        exact szB (by omega)
      · refine ⟨fr ++ [z], ⟨by rw [List.length_append, hi]; rfl, fun w hw => ?_⟩, some (eN x), some (.bl b), ?_⟩
        · rcases List.mem_append.mp hw with hw | hw
          · exact hfr w hw
          · rw [List.mem_singleton.mp hw]
            exact hz
        · rw [e, List.map_append]
          rfl
    · subst e
      refine run_let1 (x := .lst (([] : List (Nat × Nat)).map eP)) (ev_lst ea_nil fun ds e => by rw [e]; exact sz0).v1 ?_
      refine run_seq (N := fun r' => ∃ bs : List (Nat × Nat), bs.length ≤ 63 ∧ ∃ x y : Option D, r' = (slD [some (.adr a), some (eN k), some (.tup (ft.map eT)), x, some (eT pe), none, y1, some (.lst (bs.map eP)), y, none, none, none]).set 5 (some (.own p (fr.map eF))))
        (run_for (α := Nat) (enc := eN) (P := (· = List.range fr.length)) ((ei_rng1 (ev_lenM (f := eF) (ev_own rfl) (.inr rfl)) (by omega)).imp fun ds e => ⟨List.range fr.length, rfl, e⟩) (fun _ z => .inl z)
          (fun l i r' => ∃ bs : List (Nat × Nat), bs.length ≤ i * 7 ∧ ∃ x y : Option D, r' = (slD [some (.adr a), some (eN k), some (.tup (ft.map eT)), x, some (eT pe), none, y1, some (.lst (bs.map eP)), y, none, none, none]).set 5 (some (.own p (fr.map eF))))
          (fun l e => ⟨[], Nat.zero_le _, x1, none, rfl⟩)
          (fun l hl i x r' hx ⟨bs, hbs, x2, y2, e2⟩ => ?_)
          (fun l hl r' ⟨bs, hbs, x2, y2, e2⟩ => ⟨bs, by rw [hl, List.length_range] at hbs; omega, x2, y2, e2⟩)) fun r' ⟨bs, hbs, x2, y2, e⟩ => ?_
      · subst e2; subst hl
        have hil : i < (List.range fr.length).length := (List.getElem?_eq_some_iff.mp hx).1
        rw [List.length_range] at hil
        refine ⟨_, _, tg_name, ?_⟩
        refine run_asg (P := fun d => ∃ cs : List (Nat × Nat), cs.length ≤ (i + 1) * 7 ∧ d = .lst (cs.map eP)) (ev_op (Px := (· = .lst (bs.map eP))) (Py := fun _ y => ∃ cs : List (Nat × Nat), cs.length ≤ 7 ∧ y = .lst (cs.map eP)) (ev_var rfl).v (fun _ _ => ((ef_draw (j := 10) (P := (· = List.range pe.length)) (enc := eP) (p := fun _ _ => True) ((ei_rng1 (ev_lenM (f := eN) (ev_var rfl).v (.inl rfl)) (by omega)).imp fun ds e => ⟨List.range pe.length, rfl, e⟩) (fun l e => by rw [e, List.length_range]; exact szB (by omega)) (by decide) (fun l e y hy => (et_test ((ev_op (Px := fun d => ∃ k : Nat, k < 7 ∧ d = eN k) (Py := fun _ y => y = eN 0) (ev_callR1 (ea_c (ev_var rfl) (ea_c ev_int ea_nil)) ⟨7, rfl, ⟨by decide, by decide⟩, rfl⟩).v (fun _ _ => ev_int.v) fun x y ⟨k, hk, ex⟩ ey => by
          subst ex; subst ey
          exact op_eqN'))).imp fun _ _ => trivial) fun l e y hy => (ev_tup1 (ea_c (ev_var rfl) (ea_c (ev_var rfl) ea_nil)) sz2).imp fun d e => ⟨(x, y), trivial, e⟩).v.v.imp fun d ⟨ds, ⟨l, ms, el, e, e3, _⟩, e2⟩ => ⟨ms, by rw [el, List.length_range] at e3; omega, by rw [e2, e]⟩)) fun x y ex ⟨cs, hcs, ey⟩ => by
            subst ex; subst ey
            exact OpD.imp (op_catL (by rw [List.length_map, List.length_map]; exact szC (by omega))) fun d e => ⟨bs ++ cs, by rw [List.length_append]; omega, by rw [e, List.map_append]⟩) fun d ⟨cs, hcs, e⟩ => ⟨cs, hcs, x2, some (eN x), by rw [e]; rfl⟩
      · subst e
        refine run_ret1 (ev_tup1 (ea_c (ev_var rfl) (ea_c (ev_var rfl) (ea_c (ev_tuple (ev_own rfl)) (ea_c (ev_tuple (ev_var rfl).v) ea_nil)))) sz4) ⟨_, rfl, ⟨ft, pe, fr, bs⟩, ⟨?_, ?_, hpe, hlen, hbs, ?_, ?_⟩, rfl⟩
        · intro z
          have : ft.length = 0 := by rw [show ft = [] from z]; rfl
          omega
        · show ft.length ≤ 4
          omega
        · intro x hx
          show x.1 < ft.length
          rw [hft]
          exact (hfr x hx).1
        · intro x hx
          exact (hfr x hx).2
    ⟩
end
end Gv

namespace Gv
open PySem PySem.Spec PyProof.Rows L2
section
variable {K : PySem.W.Frag} {R : Rg} {r : REnv} {te th ta tb : TE} {x : D}
theorem ev_slTake {P : List Nat → Prop} (h : EvV K R te r (fun d => ∃ ms : List Nat, P ms ∧ d = .lst (ms.map eN))) (h2 : Ev K R th r (fun d => ∃ k : Nat, d = .int k)) :
    EvF K R (tSl (rSlL K) te tNoPart (tPart th)) r (fun ds => ∃ ms ns : List Nat, P ms ∧ ns.length ≤ ms.length ∧ (∀ n ∈ ns, n ∈ ms) ∧ ds = ns.map eN) := fun M σ H hR ok inv e Q q =>
  h M σ H hR ok inv e _ fun v H1 d ⟨ms, pm, ed⟩ s1 i1 d1 => h2 M σ H1 hR (ok.stp s1) i1 (e.stp hR s1) _ fun w H2 y ⟨k, ey⟩ s2 i2 d2 => by
    subst ed; subst ey
    cases d2
    have d3 := d1.stp hR s2
    obtain ⟨a, xs, rfl, e1, e2⟩ := isV_lst d3
    have s12 := s1.trans s2
    refine ⟨_, rfl, a, xs, rfl, SqL.of e1, fun p hp => ?_⟩
    have hc : cutD (ms.map eN) none (some (k : Int)) = ((ms.drop (HT.sIx (ms.map eN).length 0 none)).take (HT.sIx (ms.map eN).length (ms.map eN).length (some (k : Int)) - HT.sIx (ms.map eN).length 0 none)).map eN := by
      unfold cutD
      rw [List.map_take, List.map_drop]
    refine q p _ _ _ ⟨ms, _, pm, ?_, ?_, hc⟩ (none_back s12 hp) (s12.trans (Stp.of (same_new hp))) (inv_same hR (ok.stp s12) (same_new hp) i2) upd_same ?_
    · rw [List.length_take, List.length_drop]
      omega
    · intro n hn
      exact List.mem_of_mem_drop (List.mem_of_mem_take hn)
    · exact ((e2.cut none (some (k : Int))).add hp).same (same_new hp)
theorem ef_listRg {n : Nat} (h : Ev K R te r (· = eN n)) (hn : n ≤ 16777216) : EvF K R (tLstRg (tRg1 te)) r (· = (List.range n).map eN) := fun M σ H hR ok inv e Q q =>
  h M σ H hR ok inv e _ fun v H1 d ed s1 i1 d1 => by
    subst ed
    cases d1
    refine ⟨_, rfl, RgOk.of_le (by omega) (by omega) (by omega) (by omega), fun p hp => ?_⟩
    have hv : rgV 0 (n : Int) = (List.range n).map vN := by
      unfold rgV
      rw [show ((n : Int) - 0).toNat = n by omega]
      exact List.map_congr_left fun i _ => by rw [Int.zero_add]
    rw [hv]
    exact q p _ _ _ rfl (none_back s1 hp) (s1.trans (Stp.of (same_new hp))) (inv_same hR (ok.stp s1) (same_new hp) i1) upd_same (IsDs.of_nats _)
end
theorem zipD_map : ∀ (l m : List Nat), zipD (l.map eN) (m.map eN) = (l.zip m).map eP
  | [], _ => rfl
  | _ :: _, [] => rfl
  | x :: l, y :: m => by
    show D.tup [eN x, eN y] :: zipD (l.map eN) (m.map eN) = _
    rw [zipD_map l m]
    rfl
theorem cut_tlN (l : List Nat) : cutD (l.map eN) (some 1) none = (l.drop 1).map eN := by rw [cut_tl, List.map_drop]
theorem cut_hdN (l : List Nat) : cutD (l.map eN) none (some 1) = (l.take 1).map eN := by rw [cut_hd, List.map_take]
theorem rot_mem {l : List Nat} {x : Nat} (h : x ∈ l.drop 1 ++ l.take 1) : x ∈ l := by
  rcases List.mem_append.mp h with h | h
  · exact List.mem_of_mem_drop h
  · exact List.mem_of_mem_take h
theorem zip_len (l : List Nat) : (l.zip (l.drop 1 ++ l.take 1)).length ≤ l.length := by
  rw [List.length_zip]
  omega
end Gv
namespace Gv
abbrev ePL (l : List (Nat × Nat)) : D := .lst (l.map eP)
end Gv

namespace Gv
open PySem PySem.Spec PyProof.Rows L2
section
variable {P : Program} {w : World} {K : PySem.W.Frag} {mg : Str → Option Value} {base : Heap} {C : Addr}
def g_l_some_ring : Addr → List D → Oc → Prop := fun a ds oc => ∃ (B : Nat) (rg : Reg) (ns : List Nat), ds = [.adr a, eReg rg, .lst (ns.map eN)] ∧ (rg.Wf B ∧ ns.length ≤ 100 ∧ ∀ n ∈ ns, n < rg.people.length) ∧ oc = some (fun d => ∃ ts : List (Nat × Nat), ts.length ≤ 100 ∧ d = ePs ts)
abbrev C_l_some_ring (P : Program) (w : World) (K : PySem.W.Frag) (mg : Str → Option Value) (base : Heap) (C : Addr) : Prop := Cal P w K mg base CX0 4 "_law_some_ring" ["_law_deal", "_law_registry_here", "_law_people"] (SpR K C g_l_some_ring)
theorem sc_l_some_ring : FnScope ["_law_deal", "_law_registry_here", "_law_people", "_law_row", "_law_ties", "_law_person", "_law_other", "_law_able", "_law_friend"] ["_law_deal", "_law_registry_here", "_law_people"] (defScope s_l_some_ring) := ⟨rfl, rfl, rfl, by decide +kernel, rfl, by decide +kernel, by decide +kernel⟩
theorem len_l_some_ring : ∀ a ds oc, g_l_some_ring a ds oc → ds.length = 3 := fun _ _ _ ⟨_, _, _, e, _⟩ => by rw [e]; rfl
theorem cal_l_some_ring (d : Df K mg "_law_some_ring" s_l_some_ring) (T : Nms K mg) (c_l_mixed : C_l_mixed P w K mg base C) (c_l_any : C_l_any P w K mg base C) (c_l_friends : C_l_friends P w K mg base C) (c_l_tie_in : C_l_tie_in P w K mg base C) (c_l_of : C_l_of P w K mg base C)  : C_l_some_ring P w K mg base C := by
  refine cal_of d sc_l_some_ring (SpR.len len_l_some_ring) (fun _ _ _ _ _ _ us hl => match us, hl with | [_, _, _], _ => rfl) fun f cdv A outer s H vs Q E hr h => ⟨_, PSs.nox (pss_cons (ps_if (pt_cmpR op_lt (pe_callB (id := "len") call_len_seq rfl T.len (by decide +kernel) (pa_cons (pv 2) pa_nil)) pe_int (nomark _)) (pss_one (ps_ret (pe_tup (pa_cons (pe_tup (pa_cons pe_int (pa_cons pe_int pa_nil))) (pa_cons (pe_tup (pa_cons pe_int (pa_cons pe_int pa_nil))) pa_nil))))) pss_nil)
    (pss_cons (ps_par (i := 3) (j := 4) rfl sc_l_some_ring.nd rfl rfl (by decide) rfl rfl (pa_cons (pe_slice sl_list (pe_calc c_l_mixed (hr.mono (by decide)) rfl pass0 (pa_cons (pv 0) (pa_cons (pv 2) pa_nil))) po_none (po_some (pe_op op_add pe_int (pe_calc c_l_any (hr.mono (by decide)) rfl pass0 (pa_cons (pv 0) (pa_cons pe_int pa_nil)))))) (pa_cons (pe_lst pa_nil) pa_nil)) rfl)
    (pss_cons (ps_for PassesOwn.never rfl (pi_zip rfl T.zip (pa_cons (pv 3) (pa_cons (pe_op op_cat (pe_slice sl_list (pv 3) (po_some pe_int) po_none) (pe_slice sl_list (pv 3) po_none (po_some pe_int))) pa_nil))) (pg_tup rfl (pgs_cons (pg_name (i := 5) sc_l_some_ring.nd rfl (Or.inl rfl)) (pgs_cons (pg_name (i := 6) sc_l_some_ring.nd rfl (Or.inr rfl)) pgs_nil))) (pss_cons (ps_setLc (i := 7) (own := [("_law_friend", 8)]) (g := (gName 8)) rfl sc_l_some_ring.nd rfl rfl (sw_true rfl rfl rfl (by decide +kernel)) (pi_list (pe_calc c_l_friends (hr.mono (by decide)) rfl pass0 (pa_cons (pv 1) (pa_cons (pv 5) pa_nil)))) (blkOk_by (own := [("_law_friend", 8)]) (by kernel_rfl)) (fun _ _ _ _ _ => (pg_name (i := 8) sc_l_some_ring.nd rfl (Or.inl rfl))) (fun _ _ _ _ _ => (pts_one (pt_val (pe_calc c_l_tie_in (hr.mono (by decide)) rfl pass0 (pa_cons (pv 1) (pa_cons (pv 8) (pa_cons (pv 6) pa_nil))))))) (fun _ _ _ _ _ => (pv 8)))
    (pss_one (ps_set (i := 4) sc_l_some_ring.nd rfl (Or.inl rfl) (pe_op op_cat (pv 4) (pe_ifExp (pt_cmpR (op_neD hr.units) (pv 7) (pe_lst pa_nil) (nomark _)) (pe_lst (pa_cons (pe_tup (pa_cons (pe_calc c_l_of (hr.mono (by decide)) rfl pass0 (pa_cons (pv 0) (pa_cons (pv 7) pa_nil))) (pa_cons (pv 6) pa_nil))) pa_nil)) (pe_lst pa_nil)))))))
    (pss_one (ps_ret (pe_callTy (T := "tuple") call_tuple_of rfl T.tuple (by decide +kernel) (pa_cons (pv 4) pa_nil))))))),
    def_runR h fun a b ds oc g => by
    obtain ⟨B, rg, ns, rfl, ⟨wf, hn, hp⟩, rfl⟩ := g
    have hB := wf.hB
    have hf := wf.friends
    refine run_whenR (b := decide ((ns.length : Int) < 2)) (et_test1 (ev_op1 (ev_lenM (f := eN) (ev_var rfl).v (.inr rfl)).v ev_int.v op_ib)) (fun e => run_ret1 (d := ePs [(0, 0), (0, 0)]) (ev_tup1 (ea_c (ev_tup1 (ea_c ev_int (ea_c ev_int ea_nil)) sz2) (ea_c (ev_tup1 (ea_c ev_int (ea_c ev_int ea_nil)) sz2) ea_nil)) sz2) ⟨_, rfl, [(0, 0), (0, 0)], by decide, rfl⟩) fun e0 => ?_
    refine run_seq (N := fun r' => ∃ row : List Nat, (row.length ≤ ns.length ∧ ∀ n ∈ row, n ∈ ns) ∧ r' = slD [some (.adr a), some (eReg rg), some (.lst (ns.map eN)), some (.lst (row.map eN)), some (ePL []), none, none, none, none])
      (run_par (P := fun ds => ∃ row : List Nat, (row.length ≤ ns.length ∧ ∀ n ∈ row, n ∈ ns) ∧ ds = [.lst (row.map eN), .lst []]) ((ea_cons (Pd := fun d => ∃ row : List Nat, (row.length ≤ ns.length ∧ ∀ n ∈ row, n ∈ ns) ∧ d = .lst (row.map eN)) (Pr := fun _ l => l = [.lst []]) ((ev_slTake (P := fun ms => ms.length ≤ ns.length ∧ ∀ m ∈ ms, m ∈ ns) ((ev_callR1 (ea_c (ev_var rfl) (ea_c (ev_var rfl) ea_nil)) ⟨ns, rfl, by omega, rfl⟩).v.imp fun d ⟨ms, h1, h2, e⟩ => ⟨ms, ⟨h1, h2⟩, e⟩) (ev_op (Px := (· = eN 2)) (Py := fun _ y => ∃ k : Nat, k < 3 ∧ y = eN k) ev_int.v (fun _ _ => (ev_callR1 (ea_c (ev_var rfl) (ea_c ev_int ea_nil)) ⟨3, rfl, ⟨by decide, by decide⟩, rfl⟩).v) fun x y ex ⟨k, hk, ey⟩ => by
        subst ex; subst ey
        exact OpD.imp op_i0 fun d e => ⟨2 + k, e⟩)).v.imp fun d ⟨ds, ⟨ms, row, ⟨h1, h2⟩, h3, h4, e⟩, e2⟩ => ⟨row, ⟨by omega, fun n hn => h2 n (h4 n hn)⟩, by rw [e2, e]⟩) fun d _ => ea_c (ev_lst ea_nil fun ds e => by rw [e]; exact sz0).v1 ea_nil).imp fun l ⟨d, ds, ⟨row, h, e⟩, e2, e3⟩ => ⟨row, h, by rw [e3, e2, e]⟩) fun ds ⟨row, h, e⟩ => ⟨_, _, e, row, h, rfl⟩) fun r' ⟨row, ⟨hr1, hr2⟩, e⟩ => ?_
    subst e
    refine run_seq (N := fun r' => ∃ ts : List (Nat × Nat), ts.length ≤ ns.length ∧ ∃ x y z : Option D, r' = slD [some (.adr a), some (eReg rg), some (.lst (ns.map eN)), some (.lst (row.map eN)), some (ePL ts), x, y, z, none])
      (run_for (α := Nat × Nat) (enc := eP) (P := (· = row.zip (row.drop 1 ++ row.take 1))) ((ei_zip (ev_var rfl) ((ev_op1 ((ev_slL (ev_var rfl).v (eo_some ev_int) eo_none).v1.is (y := .lst ((row.drop 1).map eN)) (by rw [cut_tlN])).v ((ev_slL (ev_var rfl).v eo_none (eo_some ev_int)).v1.is (y := .lst ((row.take 1).map eN)) (by rw [cut_hdN])).v (op_catL (by rw [List.length_map, List.length_map, List.length_drop, List.length_take]; exact szC (by omega)))).is (y := .lst ((row.drop 1 ++ row.take 1).map eN)) (by rw [List.map_append]))).imp fun ds e => ⟨_, rfl, by rw [e, zipD_map]⟩) (fun _ z => z)
        (fun l i r' => ∃ ts : List (Nat × Nat), ts.length ≤ i ∧ ∃ x y z : Option D, r' = slD [some (.adr a), some (eReg rg), some (.lst (ns.map eN)), some (.lst (row.map eN)), some (ePL ts), x, y, z, none])
        (fun l e => ⟨[], Nat.le_refl _, none, none, none, rfl⟩)
        (fun l e i x r' hx ⟨ts, hts, x1, y1, z1, e2⟩ => ?_)
        (fun l e r' ⟨ts, hts, x1, y1, z1, e2⟩ => ⟨ts, by rw [e] at hts; have := zip_len row; omega, x1, y1, z1, e2⟩)) fun r' ⟨ts, hts, x1, y1, z1, e⟩ => ?_
    · subst e2; subst e
      have hi : i < (row.zip (row.drop 1 ++ row.take 1)).length := (List.getElem?_eq_some_iff.mp hx).1
      have hzl := zip_len row
      have hm : x ∈ row.zip (row.drop 1 ++ row.take 1) := List.mem_of_getElem? hx
      have hm1 : x.1 ∈ row := (List.of_mem_zip hm).1
      have hm2 : x.2 ∈ row := rot_mem (List.of_mem_zip hm).2
      refine ⟨_, _, tg_tup2, ?_⟩
      refine run_let1 (x := .lst (((rg.ofP x.1).filter fun f => rg.tie f x.2).map eN)) (ef_lcN (l := rg.ofP x.1) (enc := eN) (b := fun f => rg.tie f x.2) (f := eN) (ei_lst (ev_call1 (ea_c (ev_var rfl) (ea_c (ev_var rfl) ea_nil)) ⟨B, rg, x.1, rfl, wf, rfl⟩)) (szB (by
        have : (rg.ofP x.1).length ≤ B := by
          unfold Reg.ofP
          refine Nat.le_trans (List.length_filter_le _ _) ?_
          rw [List.length_range]
          exact hf
        omega)) (by decide)
        (fun f hfm => et_test1 (ev_call1 (ea_c (ev_var rfl) (ea_c (ev_var rfl) (ea_c (ev_var rfl) ea_nil))) ⟨B, rg, f, x.2, rfl, ⟨wf, ofP_lt hfm, hp _ (hr2 _ hm2)⟩, rfl⟩)) fun f _ _ => ev_var rfl).v1 ?_
      have hable : ((rg.ofP x.1).filter fun f => rg.tie f x.2).length ≤ 1000 := by
        refine Nat.le_trans (List.length_filter_le _ _) ?_
        unfold Reg.ofP
        refine Nat.le_trans (List.length_filter_le _ _) ?_
        rw [List.length_range]
        omega
      refine run_asg (P := fun d => ∃ cs : List (Nat × Nat), cs.length ≤ i + 1 ∧ d = ePL cs) (ev_op (Px := (· = ePL ts)) (Py := fun _ y => ∃ cs : List (Nat × Nat), cs.length ≤ 1 ∧ y = ePL cs) (ev_var rfl).v (fun _ _ => (ev_if (P := fun y => ∃ cs : List (Nat × Nat), cs.length ≤ 1 ∧ y = ePL cs) (et_test1 (ev_op1 (ev_var rfl).v (ev_lst ea_nil fun ds e => by rw [e]; exact sz0).v1.v (op_neL pl_N (l := (rg.ofP x.1).filter fun f => rg.tie f x.2) (m := []) rfl rfl))) (fun e => (ev_lst (P := fun ds => ∃ t : Nat × Nat, ds = [eP t]) ((ea_cons (Pd := fun d => ∃ t : Nat × Nat, d = eP t) (Pr := fun _ l => l = []) ((ev_pairD (Pa := fun d => ∃ f : Nat, d = eN f) (Pb := (· = eN x.2)) ((ev_callR1 (ea_c (ev_var rfl) (ea_c (ev_var rfl) ea_nil)) ⟨((rg.ofP x.1).filter fun f => rg.tie f x.2).map eN, rfl, ⟨fun z => (by
            rw [List.map_eq_nil_iff] at z
            rw [z] at e
            cases e), by rw [List.length_map]; omega⟩, rfl⟩).imp fun d hd => (by
              obtain ⟨f, _, e⟩ := List.mem_map.mp hd
              exact ⟨f, e.symm⟩)) (ev_var rfl)).imp fun d ⟨d1, d2, ⟨f, e1⟩, e2, e3⟩ => ⟨(f, x.2), by rw [e3, e1, e2]⟩) fun _ _ => ea_nil).imp fun l ⟨d, ds, ⟨t, e⟩, e2, e3⟩ => ⟨t, by rw [e3, e2, e]⟩) fun ds ⟨t, e⟩ => by rw [e]; exact sz1).v.imp fun d ⟨ds, ⟨t, e⟩, e2⟩ => ⟨[t], Nat.le_refl 1, by rw [e2, e]; rfl⟩) fun e => (ev_lst ea_nil fun ds e => by rw [e]; exact sz0).v1.imp fun d e => ⟨[], by decide, e⟩).v) fun u y eu ⟨cs, hcs, ey⟩ => by
            subst eu; subst ey
            exact OpD.imp (op_catL (by rw [List.length_map, List.length_map]; exact szC (by omega))) fun d e => ⟨ts ++ cs, by rw [List.length_append]; omega, by rw [e, ← List.map_append]⟩) fun d ⟨cs, hcs, e⟩ => ⟨cs, hcs, some (eN x.1), some (eN x.2), some (.lst (((rg.ofP x.1).filter fun f => rg.tie f x.2).map eN)), by rw [e]; rfl⟩
    · subst e
      exact run_ret1 (ev_tuple (ev_var rfl).v) ⟨_, rfl, ts, by omega, rfl⟩
    ⟩
end
end Gv

namespace Gv
open PySem PySem.Spec PyProof.Rows L2
def De.Sm : De → Prop
  | .ring ts => ts.length ≤ 100
  | .come _ ks => ks.length ≤ 2
  | _ => True
section
variable {K : PySem.W.Frag} {R : Rg} {W : Addr → Prop} {E : XK} {C : Addr} {r : REnv} {te ta tb : TE} {tr : TA} {N : REnv → Prop} {X : Prop} {d : D}
theorem ea_c' {P : List D → Prop} (h : Ev K R te r (· = d)) (hr : EvA K R tr r P) : EvA K R (tCons te tr) r (fun l => ∃ ds, P ds ∧ l = d :: ds) :=
  (ea_cons h (Pr := fun _ l => P l) fun _ _ => hr).imp fun l ⟨d', ds, e, p, e2⟩ => ⟨ds, p, by rw [e2, e]⟩
theorem ea_d {Pd : D → Prop} {P : List D → Prop} (h : Ev K R te r Pd) (hr : EvA K R tr r P) : EvA K R (tCons te tr) r (fun l => ∃ d ds, Pd d ∧ P ds ∧ l = d :: ds) := ea_cons h fun _ _ => hr
theorem ea_1 {Pd : D → Prop} (h : Ev K R te r Pd) : EvA K R (tCons te tNil) r (fun l => ∃ d, Pd d ∧ l = [d]) :=
  (ea_cons h (Pr := fun _ l => l = []) fun _ _ => ea_nil).imp fun l ⟨d, ds, p, e, e2⟩ => ⟨d, p, by rw [e2, e]⟩
theorem run_retD {Pd : D → Prop} (h : Ev K R te r Pd) (k : ∀ d, Pd d → ∃ dd : De, dd.Sm ∧ d = eD dd) : Run K C R W E (tRet te) r N (fun z => ∃ P, some (fun d => ∃ dd : De, dd.Sm ∧ d = eD dd) = some P ∧ P z) X :=
  run_ret h fun d p => ⟨_, rfl, k d p⟩
theorem op_gt0 {a : Nat} : OpD K (rI0 fun i j => .bl (decide (i > j))) (eN a) (eN 0) (· = .bl (decide (0 < a))) := op_ib.imp fun d e => e.trans (congrArg D.bl (decide_eq_decide.mpr (by omega)))
theorem op_gt0' {a : Nat} : OpD K (rI0 fun i j => .bl (decide (i > j))) (eN a) (eN 0) (fun d => ∃ c, True ∧ d = .bl c) := op_gt0.imp fun d e => ⟨_, trivial, e⟩
theorem op_ltN {a b : Nat} : OpD K (rI0 fun i j => .bl (decide (i < j))) (eN a) (eN b) (· = .bl (decide (a < b))) := op_ib.imp fun d e => e.trans (congrArg D.bl (decide_eq_decide.mpr (by omega)))
end
end Gv

namespace Gv
open PySem PySem.Spec PyProof.Rows L2
section
variable {P : Program} {w : World} {K : PySem.W.Frag} {mg : Str → Option Value} {base : Heap} {C : Addr}
def g_l_some_deed : Addr → List D → Oc → Prop := fun a ds oc => ∃ (B : Nat) (W : Wo), ds = [.adr a, eW W] ∧ (W.Wf B ∧ W.reg.fits ≠ [] ∧ W.reg.fits.length ≤ 1000) ∧ oc = some (fun d => ∃ dd : De, dd.Sm ∧ d = eD dd)
abbrev C_l_some_deed (P : Program) (w : World) (K : PySem.W.Frag) (mg : Str → Option Value) (base : Heap) (C : Addr) : Prop := Cal P w K mg base CX0 5 "_law_some_deed" ["_law_deal", "_law_world"] (SpR K C g_l_some_deed)
theorem sc_l_some_deed : FnScope ["_law_deal", "_law_world", "_law_day", "_law_registry_here", "_law_got", "_law_gave", "_law_due", "_law_away", "_law_many", "_law_all_friends", "_law_form", "_law_person", "_law_left", "_law_turn", "_law_ties", "_law_able", "_law_friend", "_law_kinds"] ["_law_deal", "_law_world"] (defScope s_l_some_deed) := ⟨rfl, rfl, rfl, by decide +kernel, rfl, by decide +kernel, by decide +kernel⟩
theorem len_l_some_deed : ∀ a ds oc, g_l_some_deed a ds oc → ds.length = 2 := fun _ _ _ ⟨_, _, e, _⟩ => by rw [e]; rfl
theorem cal_l_some_deed (d : Df K mg "_law_some_deed" s_l_some_deed) (T : Nms K mg) (c_l_any : C_l_any P w K mg base C) (c_l_some_ring : C_l_some_ring P w K mg base C) (c_l_ring_fits : C_l_ring_fits P w K mg base C) (c_l_link_fits : C_l_link_fits P w K mg base C) (c_l_of : C_l_of P w K mg base C)  : C_l_some_deed P w K mg base C := by
  refine cal_of d sc_l_some_deed (SpR.len len_l_some_deed) (fun _ _ _ _ _ _ us hl => match us, hl with | [_, _], _ => rfl) fun f cdv A outer s H vs Q E hr h => ⟨_, PSs.nox (pss_cons (ps_asg (pv 1) (pg_tup rfl (pgs_cons (pg_name (i := 2) sc_l_some_deed.nd rfl (Or.inl rfl)) (pgs_cons (pg_name (i := 3) sc_l_some_deed.nd rfl (Or.inr rfl)) (pgs_cons (pg_name (i := 4) sc_l_some_deed.nd rfl (Or.inr rfl)) (pgs_cons (pg_name (i := 5) sc_l_some_deed.nd rfl (Or.inl rfl)) (pgs_cons (pg_name (i := 6) sc_l_some_deed.nd rfl (Or.inl rfl)) (pgs_cons (pg_name (i := 7) sc_l_some_deed.nd rfl (Or.inr rfl)) pgs_nil))))))))
    (pss_cons (ps_par3 (i := 8) (j := 9) (l := 10) rfl sc_l_some_deed.nd rfl rfl rfl (by decide) (by decide) (by decide) rfl rfl rfl (pa_cons (pe_callB (id := "len") call_len_seq rfl T.len (by decide +kernel) (pa_cons (pe_ix ix_tup (pv 3) pe_int (fun _ _ => rfl)) pa_nil)) (pa_cons (pe_callB (id := "len") call_len_seq rfl T.len (by decide +kernel) (pa_cons (pe_ix ix_tup (pv 3) pe_int (fun _ _ => rfl)) pa_nil)) (pa_cons (pe_calc c_l_any (hr.mono (by decide)) rfl pass0 (pa_cons (pv 0) (pa_cons pe_int pa_nil))) pa_nil))) rfl)
    (pss_cons (ps_setLc (i := 12) (own := [("_law_person", 11)]) (g := (gName 11)) rfl sc_l_some_deed.nd rfl rfl (sw_true rfl rfl rfl (by decide +kernel)) (pi_range1 rfl T.range (pa_cons (pv 8) pa_nil)) (blkOk_by (own := [("_law_person", 11)]) (by kernel_rfl)) (fun _ _ _ _ _ => (pg_name (i := 11) sc_l_some_deed.nd rfl (Or.inl rfl))) (fun _ _ _ _ _ => (pts_one (PW.pt (pw_and (pt_cmpR op_notIn_seq (pv 11) (pv 4) rfl) (pw_and1 (pt_cmpR op_notIn_seq (pv 11) (pv 7) rfl)))))) (fun _ _ _ _ _ => (pv 11)))
    (pss_cons (ps_if (pt_cmpR op_lt (pv 10) pe_int (nomark _)) (pss_cons (ps_for PassesOwn.never rfl (pi_range1 rfl T.range (pa_cons pe_int pa_nil)) (pg_name (i := 13) sc_l_some_deed.nd rfl (Or.inl rfl)) (pss_cons (ps_set (i := 14) sc_l_some_deed.nd rfl (Or.inl rfl) (pe_calc c_l_some_ring (hr.mono (by decide)) rfl pass0 (pa_cons (pv 0) (pa_cons (pv 3) (pa_cons (pv 12) pa_nil)))))
    (pss_one (ps_if (pt_val (pe_calc c_l_ring_fits (hr.mono (by decide)) rfl pass0 (pa_cons (pv 1) (pa_cons (pv 14) pa_nil)))) (pss_one (ps_ret (pe_tup (pa_cons pe_str (pa_cons (pv 14) pa_nil))))) pss_nil))))
    (pss_one (ps_ret (pe_tup (pa_cons pe_str (pa_cons (pe_calc c_l_some_ring (hr.mono (by decide)) rfl pass0 (pa_cons (pv 0) (pa_cons (pv 3) (pa_cons (pe_listRg rfl rfl T.list (prg_1 rfl T.range (pv 8))) pa_nil)))) pa_nil)))))) pss_nil)
    (pss_cons (ps_if (PW.pt (pw_and (pt_cmpR op_lt (pv 10) pe_int (nomark _)) (pw_and (pt_cmpR op_gt (pv 8) pe_int (nomark _)) (pw_and1 (pt_cmpR op_gt (pv 9) pe_int (nomark _)))))) (pss_cons (ps_set (i := 15) sc_l_some_deed.nd rfl (Or.inl rfl) (pe_lst pa_nil))
    (pss_cons (ps_for PassesOwn.never rfl (pi_range1 rfl T.range (pa_cons (pv 9) pa_nil)) (pg_name (i := 16) sc_l_some_deed.nd rfl (Or.inr rfl)) (pss_one (ps_set (i := 15) sc_l_some_deed.nd rfl (Or.inl rfl) (pe_op op_cat (pv 15) (pe_lc (own := [("_law_person", 11)]) (g := (gName 11)) rfl sc_l_some_deed.nd (pi_list (pv 12)) (blkOk_by (own := [("_law_person", 11)]) (by kernel_rfl)) (fun _ _ _ _ _ => (pg_name (i := 11) sc_l_some_deed.nd rfl (Or.inl rfl))) (fun _ _ _ _ _ => (pts_one (pt_val (pe_calc c_l_link_fits (hr.mono (by decide)) rfl pass0 (pa_cons (pv 1) (pa_cons (pe_tup (pa_cons (pv 16) (pa_cons (pv 11) pa_nil))) pa_nil)))))) (fun _ _ _ _ _ => (pe_tup (pa_cons (pv 16) (pa_cons (pv 11) pa_nil)))))))))
    (pss_cons (ps_if (PW.pt (pw_and (pt_cmpR (op_neD hr.units) (pv 15) (pe_lst pa_nil) (nomark _)) (pw_and1 (pt_cmpR op_lt (pv 10) pe_int (nomark _))))) (pss_one (ps_ret (pe_tup (pa_cons pe_str (pa_cons (pe_calc c_l_of (hr.mono (by decide)) rfl pass0 (pa_cons (pv 0) (pa_cons (pv 15) pa_nil))) pa_nil))))) pss_nil)
    (pss_one (ps_ret (pe_tup (pa_cons pe_str (pa_cons (pe_tup (pa_cons (pe_calc c_l_any (hr.mono (by decide)) rfl pass0 (pa_cons (pv 0) (pa_cons (pv 9) pa_nil))) (pa_cons (pe_calc c_l_any (hr.mono (by decide)) rfl pass0 (pa_cons (pv 0) (pa_cons (pv 8) pa_nil))) pa_nil))) pa_nil)))))))) pss_nil)
    (pss_cons (ps_if (PW.pt (pw_and (pt_cmpR op_eq (pv 10) pe_int (nomark _)) (pw_and1 (pt_cmpR op_gt (pv 8) pe_int (nomark _))))) (pss_cons (ps_set (i := 11) sc_l_some_deed.nd rfl (Or.inl rfl) (pe_calc c_l_any (hr.mono (by decide)) rfl pass0 (pa_cons (pv 0) (pa_cons (pv 8) pa_nil))))
    (pss_one (ps_ret (pe_ifExp (pt_cmpR op_gt (pe_calc c_l_any (hr.mono (by decide)) rfl pass0 (pa_cons (pv 0) (pa_cons pe_int pa_nil))) pe_int (nomark _)) (pe_tup (pa_cons (pe_ifExp (pt_cmpR op_in_seq (pv 11) (pv 7) rfl) pe_str pe_str) (pa_cons (pv 11) pa_nil))) (pe_tup (pa_cons (pe_calc c_l_of (hr.mono (by decide)) rfl pass0 (pa_cons (pv 0) (pa_cons (pe_lst (pa_cons pe_str (pa_cons pe_str pa_nil))) pa_nil))) (pa_cons (pv 11) pa_nil))))))) pss_nil)
    (pss_cons (ps_if (PW.pt (pw_and (pt_cmpR op_eq (pv 10) pe_int (nomark _)) (pw_and (pt_cmpR op_gt (pv 8) pe_int (nomark _)) (pw_and1 (pt_cmpR op_gt (pv 9) pe_int (nomark _)))))) (pss_one (ps_ret (pe_tup (pa_cons pe_str (pa_cons (pe_calc c_l_any (hr.mono (by decide)) rfl pass0 (pa_cons (pv 0) (pa_cons (pv 9) pa_nil))) (pa_cons (pe_calc c_l_any (hr.mono (by decide)) rfl pass0 (pa_cons (pv 0) (pa_cons (pv 8) pa_nil))) (pa_cons (pe_cmpR op_gt (pe_calc c_l_any (hr.mono (by decide)) rfl pass0 (pa_cons (pv 0) (pa_cons pe_int pa_nil))) pe_int (nomark _)) pa_nil))))))) pss_nil)
    (pss_cons (ps_if (pt_cmpR op_eq (pv 10) pe_int (nomark _)) (pss_cons (ps_set (i := 17) sc_l_some_deed.nd rfl (Or.inl rfl) (pe_callTy (T := "tuple") call_tuple_of rfl T.tuple (by decide +kernel) (pa_cons (pe_lc (own := [("_law_turn", 13)]) (g := (gName 13)) (tt := tYes) rfl sc_l_some_deed.nd (pi_range1 rfl T.range (pa_cons (pe_calc c_l_any (hr.mono (by decide)) rfl pass0 (pa_cons (pv 0) (pa_cons pe_int pa_nil))) pa_nil)) (blkOk_by (own := [("_law_turn", 13)]) (by kernel_rfl)) (fun _ _ _ _ _ => (pg_name (i := 13) sc_l_some_deed.nd rfl (Or.inl rfl))) (fun _ _ _ _ _ => pts_nil) (fun _ _ _ _ _ => (pe_calc c_l_any (hr.mono (by decide)) rfl pass0 (pa_cons (pv 0) (pa_cons (pe_callB (id := "len") call_len_seq rfl T.len (by decide +kernel) (pa_cons (pe_ix ix_tup (pv 3) pe_int (fun _ _ => rfl)) pa_nil)) pa_nil))))) pa_nil)))
    (pss_one (ps_ret (pe_tup (pa_cons pe_str (pa_cons (pe_ifExp (pt_cmpR op_eq (pe_calc c_l_any (hr.mono (by decide)) rfl pass0 (pa_cons (pv 0) (pa_cons pe_int pa_nil))) pe_int (nomark _)) pe_non (pe_calc c_l_any (hr.mono (by decide)) rfl pass0 (pa_cons (pv 0) (pa_cons (pe_callB (id := "len") call_len_seq rfl T.len (by decide +kernel) (pa_cons (pe_ix ix_tup (pv 3) pe_int (fun _ _ => rfl)) pa_nil)) pa_nil)))) (pa_cons (pv 17) pa_nil))))))) pss_nil)
    (pss_one (ps_ret (pe_tup (pa_cons pe_str pa_nil)))))))))))),
    def_runR h fun a b ds oc g => by
    obtain ⟨B, W, rfl, ⟨wf, hft, hft2⟩, rfl⟩ := g
    have hB := wf.reg.hB
    have hf := wf.reg.friends
    have hp := wf.reg.people
    have hp1 := wf.p100
    have hll := left_len W
    refine run_let (ev_var rfl) tg6 ?_
    refine run_seq (N := fun r' => ∃ fo : Nat, r' = slD [some (.adr a), some (eW W), some (eN W.day), some (eReg W.reg), some (eT W.got), some (eT W.gave), some (ePs W.due), some (eT W.away), some (eN W.reg.people.length), some (eN W.reg.friends.length), some (eN fo), none, none, none, none, none, none, none])
      (run_par3 (P := fun ds => ∃ fo : Nat, ds = [eN W.reg.people.length, eN W.reg.friends.length, eN fo]) ((ea_c' (ev_lenM (f := eN) (ev_op1 (ev_var rfl).v ev_int.v (op_ixT rfl)).v (.inl rfl)) (ea_c' (ev_lenM (f := eF) (ev_op1 (ev_var rfl).v ev_int.v (op_ixT rfl)).v (.inl rfl)) (ea_1 (Pd := fun d => ∃ fo : Nat, fo < 12 ∧ d = eN fo) (ev_callR1 (ea_c (ev_var rfl) (ea_c ev_int ea_nil)) ⟨12, rfl, ⟨by decide, by decide⟩, rfl⟩)))).imp fun l ⟨ds, ⟨ds2, ⟨d, ⟨fo, _, e⟩, e2⟩, e3⟩, e4⟩ => ⟨fo, by rw [e4, e3, e2, e]⟩) fun ds ⟨fo, e⟩ => ⟨_, _, _, e, fo, rfl⟩) fun r' ⟨fo, e⟩ => ?_
    subst e
    refine run_let1 (x := .lst (W.left.map eN)) (ef_lcN (l := List.range W.reg.people.length) (enc := eN) (b := fun p => !decide (p ∈ W.got) && !decide (p ∈ W.away)) (f := eN) ((ei_rng1 (ev_var rfl) (by omega)).imp fun _ e => e) (by rw [List.length_range]; exact szB (by omega)) (by decide)
      (fun x _ => et_and1 (et_test1 (ev_op1 (ev_var rfl).v (ev_var rfl).v opR_ninN)) fun _ => et_test1 (ev_op1 (ev_var rfl).v (ev_var rfl).v opR_ninN)) fun x _ _ => ev_var rfl).v1 ?_
    show Run K C (dealR a b) (dealR a b).m E _ (slD [some (.adr a), some (eW W), some (eN W.day), some (eReg W.reg), some (eT W.got), some (eT W.gave), some (ePs W.due), some (eT W.away), some (eN W.reg.people.length), some (eN W.reg.friends.length), some (eN fo), none, some (.lst (W.left.map eN)), none, none, none, none, none]) _ _ _
    refine run_whenR (et_test1 (ev_op1 (ev_var rfl).v ev_int.v op_ib)) (fun _ => ?_) fun _ => ?_
    · refine run_seq (N := fun r' => ∃ x y : Option D, r' = slD [some (.adr a), some (eW W), some (eN W.day), some (eReg W.reg), some (eT W.got), some (eT W.gave), some (ePs W.due), some (eT W.away), some (eN W.reg.people.length), some (eN W.reg.friends.length), some (eN fo), none, some (.lst (W.left.map eN)), x, y, none, none, none])
        (run_for (α := Nat) (enc := eN) (P := (· = List.range 5)) ((ei_rng1 (n := 5) ev_int (by decide)).imp fun ds e => ⟨List.range 5, rfl, e⟩) (fun _ z => z)
          (fun l i r' => ∃ x y : Option D, r' = slD [some (.adr a), some (eW W), some (eN W.day), some (eReg W.reg), some (eT W.got), some (eT W.gave), some (ePs W.due), some (eT W.away), some (eN W.reg.people.length), some (eN W.reg.friends.length), some (eN fo), none, some (.lst (W.left.map eN)), x, y, none, none, none])
          (fun l e => ⟨none, none, rfl⟩)
          (fun l e i x r' hx ⟨x1, y1, e2⟩ => ?_)
          (fun l e r' h => h)) fun r' ⟨x1, y1, e⟩ => ?_
      · subst e2
        refine ⟨_, _, tg_name, ?_⟩
        refine run_letP (ev_callR1 (ea_c (ev_var rfl) (ea_c (ev_var rfl) (ea_c (ev_var rfl) ea_nil))) ⟨B, W.reg, W.left, rfl, ⟨wf.reg, by omega, fun n hn => left_lt hn⟩, rfl⟩) fun d ⟨ts, hts, e⟩ => ?_
        subst e
        refine run_if (P := fun _ => True) (et_test ((ev_callP (ea_c (ev_var rfl) (ea_c (ev_var rfl) ea_nil)) (fun ds e => ⟨B, W, ts, e, ⟨wf, by omega⟩, rfl⟩)).imp fun d ⟨c, e⟩ => ⟨c, trivial, e⟩)) (fun _ => run_retD (ev_tup1 (ea_c ev_str (ea_c (ev_var rfl) ea_nil)) sz2) fun d e => ⟨.ring ts, hts, e⟩) fun _ => run_next ⟨some (eN x), some (ePs ts), rfl⟩
      · subst e
        exact run_retD (ev_pairD ev_str (ev_callR1 (ea_c (ev_var rfl) (ea_c (ev_var rfl) (ea_c (ef_listRg (ev_var rfl) (by omega)).v1 ea_nil))) ⟨B, W.reg, List.range W.reg.people.length, rfl, ⟨wf.reg, by rw [List.length_range]; omega, fun n hn => List.mem_range.mp hn⟩, rfl⟩)) fun d ⟨x, y, e1, ⟨ts, hts, e2⟩, e3⟩ => ⟨.ring ts, hts, by rw [e3, e1, e2]; rfl⟩
    refine run_whenR (et_and1 (et_test1 (ev_op1 (ev_var rfl).v ev_int.v op_ib)) fun _ => et_and1 (et_test1 (ev_op1 (ev_var rfl).v ev_int.v op_gt0)) fun _ => et_test1 (ev_op1 (ev_var rfl).v ev_int.v op_gt0)) (fun e => ?_) fun _ => ?_
    · simp only [Bool.and_eq_true, decide_eq_true_eq] at e
      have hm := e.2.1
      have ha := e.2.2
      refine run_let1 (x := ePL []) (ev_lst ea_nil fun ds e => by rw [e]; exact sz0).v1 ?_
      refine run_seq (N := fun r' => ∃ bs : List (Nat × Nat), bs.length ≤ 100000 ∧ ∃ x : Option D, r' = slD [some (.adr a), some (eW W), some (eN W.day), some (eReg W.reg), some (eT W.got), some (eT W.gave), some (ePs W.due), some (eT W.away), some (eN W.reg.people.length), some (eN W.reg.friends.length), some (eN fo), none, some (.lst (W.left.map eN)), none, none, some (ePL bs), x, none])
        (run_for (α := Nat) (enc := eN) (P := (· = List.range W.reg.friends.length)) ((ei_rng1 (ev_var rfl) (by omega)).imp fun ds e => ⟨List.range W.reg.friends.length, rfl, e⟩) (fun _ z => z)
          (fun l i r' => ∃ bs : List (Nat × Nat), bs.length ≤ i * 100 ∧ ∃ x : Option D, r' = slD [some (.adr a), some (eW W), some (eN W.day), some (eReg W.reg), some (eT W.got), some (eT W.gave), some (ePs W.due), some (eT W.away), some (eN W.reg.people.length), some (eN W.reg.friends.length), some (eN fo), none, some (.lst (W.left.map eN)), none, none, some (ePL bs), x, none])
          (fun l e => ⟨[], Nat.zero_le _, none, rfl⟩)
          (fun l hl i x r' hx ⟨bs, hbs, x2, e2⟩ => ?_)
          (fun l hl r' ⟨bs, hbs, x2, e2⟩ => ⟨bs, by rw [hl, List.length_range] at hbs; omega, x2, e2⟩)) fun r' ⟨bs, hbs, x2, e⟩ => ?_
      · subst e2; subst hl
        have hil : i < (List.range W.reg.friends.length).length := (List.getElem?_eq_some_iff.mp hx).1
        rw [List.length_range] at hil
        refine ⟨_, _, tg_name, ?_⟩
        refine run_asg (P := fun d => ∃ cs : List (Nat × Nat), cs.length ≤ (i + 1) * 100 ∧ d = ePL cs) (ev_op (Px := (· = ePL bs)) (Py := fun _ y => ∃ cs : List (Nat × Nat), cs.length ≤ 100 ∧ y = ePL cs) (ev_var rfl).v (fun _ _ => ((ef_draw (j := 11) (P := (· = W.left)) (enc := eP) (p := fun _ _ => True) ((ei_lst (ev_var rfl)).imp fun ds e => ⟨W.left, rfl, e⟩) (fun l e => by rw [e]; exact szB (by omega)) (by decide) (fun l e y hy => (et_test ((ev_callP (ea_c (ev_var rfl) (ea_c (ev_tup1 (ea_c (ev_var rfl) (ea_c (ev_var rfl) ea_nil)) sz2) ea_nil)) (fun ds e => ⟨B, W, (x, y), e, wf, rfl⟩)).imp fun d ⟨c, e⟩ => ⟨c, trivial, e⟩))) fun l e y hy => (ev_tup1 (ea_c (ev_var rfl) (ea_c (ev_var rfl) ea_nil)) sz2).imp fun d e => ⟨(x, y), trivial, e⟩).v.v.imp fun d ⟨ds, ⟨l, ms, el, e, e3, _⟩, e2⟩ => ⟨ms, by rw [el] at e3; omega, by rw [e2, e]⟩)) fun x y ex ⟨cs, hcs, ey⟩ => by
            subst ex; subst ey
            exact OpD.imp (op_catL (by rw [List.length_map, List.length_map]; exact szC (by omega))) fun d e => ⟨bs ++ cs, by rw [List.length_append]; omega, by rw [e, ← List.map_append]⟩) fun d ⟨cs, hcs, e⟩ => ⟨cs, hcs, some (eN x), by rw [e]; rfl⟩
      · subst e
        refine run_whenR (et_and1 (et_test1 (ev_op1 (ev_var rfl).v (ev_lst ea_nil fun ds e => by rw [e]; exact sz0).v1.v (op_neP' (l := bs) rfl))) fun _ => et_test1 (ev_op1 (ev_var rfl).v ev_int.v op_ib)) (fun e => ?_) fun _ => ?_
        · have hbe : bs ≠ [] := fun z => by
            rw [z] at e
            cases e
          exact run_retD (ev_pairD ev_str (ev_callR1 (ea_c (ev_var rfl) (ea_c (ev_var rfl) ea_nil)) ⟨bs.map eP, rfl, ⟨fun z => hbe (List.map_eq_nil_iff.mp z), by rw [List.length_map]; exact hbs⟩, rfl⟩)) fun d ⟨x, y, e1, hy, e3⟩ => by
            obtain ⟨t, _, e2⟩ := List.mem_map.mp hy
            exact ⟨.link t, trivial, by rw [e3, e1, ← e2]; rfl⟩
        · exact run_retD (ev_pairD ev_str (ev_pairD (Pa := fun d => ∃ f : Nat, f < W.reg.friends.length ∧ d = eN f) (Pb := fun d => ∃ p : Nat, p < W.reg.people.length ∧ d = eN p) (ev_callR1 (ea_c (ev_var rfl) (ea_c (ev_var rfl) ea_nil)) ⟨W.reg.friends.length, rfl, ⟨ha, by omega⟩, rfl⟩) (ev_callR1 (ea_c (ev_var rfl) (ea_c (ev_var rfl) ea_nil)) ⟨W.reg.people.length, rfl, ⟨hm, by omega⟩, rfl⟩))) fun d ⟨x, y, e1, ⟨x2, y2, ⟨f, _, e4⟩, ⟨p, _, e5⟩, e2⟩, e3⟩ => ⟨.link (f, p), trivial, by rw [e3, e1, e2, e4, e5]; rfl⟩
    refine run_whenR (et_and1 (et_test1 (ev_op1 (ev_var rfl).v ev_int.v op_eqN)) fun _ => et_test1 (ev_op1 (ev_var rfl).v ev_int.v op_gt0)) (fun e => ?_) fun _ => ?_
    · simp only [Bool.and_eq_true, decide_eq_true_eq] at e
      have hm := e.2
      refine run_letP (ev_callR1 (ea_c (ev_var rfl) (ea_c (ev_var rfl) ea_nil)) ⟨W.reg.people.length, rfl, ⟨hm, by omega⟩, rfl⟩) fun d ⟨p, hp, e⟩ => ?_
      subst e
      refine run_retD (Pd := fun d => ∃ x : D, (x = .str "away" ∨ x = .str "back") ∧ d = .tup [x, eN p]) (ev_if (Pt := fun _ => True) (et_test (ev_op (Px := fun d => ∃ k : Nat, k < 4 ∧ d = eN k) (Py := fun _ y => y = eN 0) (ev_callR1 (ea_c (ev_var rfl) (ea_c ev_int ea_nil)) ⟨4, rfl, ⟨by decide, by decide⟩, rfl⟩).v (fun _ _ => ev_int.v) fun x y ⟨k, hk, ex⟩ ey => by
          subst ex; subst ey
          exact op_gt0'))
        (fun _ => (ev_pairD (Pa := fun x => x = .str "away" ∨ x = .str "back") (ev_if (et_test1 (ev_op1 (ev_var rfl).v (ev_var rfl).v opR_inN)) (fun _ => ev_str.imp fun d e => .inr e) fun _ => ev_str.imp fun d e => .inl e) (ev_var rfl)).imp fun d ⟨x, y, hx, hy, e⟩ => ⟨x, hx, by rw [e, hy]⟩)
        fun _ => (ev_pairD (Pa := fun x => x = .str "away" ∨ x = .str "back") ((ev_callR1 (ea_c (ev_var rfl) (ea_c (ev_lst (ea_c ev_str (ea_c ev_str ea_nil)) fun ds e => by rw [e]; exact sz2).v1 ea_nil)) ⟨[.str "away", .str "back"], rfl, ⟨by nofun, by decide⟩, rfl⟩).imp fun d h => (by
          rcases List.mem_cons.mp h with h | h
          · exact .inl h
          · exact .inr (List.mem_singleton.mp h))) (ev_var rfl)).imp fun d ⟨x, y, hx, hy, e⟩ => ⟨x, hx, by rw [e, hy]⟩) fun d ⟨x, hx, e⟩ => ?_
      rcases hx with hx | hx
      · exact ⟨.away p, trivial, by rw [e, hx]; rfl⟩
      · exact ⟨.back p, trivial, by rw [e, hx]; rfl⟩
    refine run_whenR (et_and1 (et_test1 (ev_op1 (ev_var rfl).v ev_int.v op_eqN)) fun _ => et_and1 (et_test1 (ev_op1 (ev_var rfl).v ev_int.v op_gt0)) fun _ => et_test1 (ev_op1 (ev_var rfl).v ev_int.v op_gt0)) (fun e => ?_) fun _ => ?_
    · simp only [Bool.and_eq_true, decide_eq_true_eq] at e
      have hm := e.2.1
      have ha := e.2.2
      exact run_retD (ev_tup (ea_c' ev_str (ea_d (Pd := fun d => ∃ f : Nat, f < W.reg.friends.length ∧ d = eN f) (ev_callR1 (ea_c (ev_var rfl) (ea_c (ev_var rfl) ea_nil)) ⟨W.reg.friends.length, rfl, ⟨ha, by omega⟩, rfl⟩) (ea_d (Pd := fun d => ∃ p : Nat, p < W.reg.people.length ∧ d = eN p) (ev_callR1 (ea_c (ev_var rfl) (ea_c (ev_var rfl) ea_nil)) ⟨W.reg.people.length, rfl, ⟨hm, by omega⟩, rfl⟩) (ea_1 (ev_op (P := fun d => ∃ c, True ∧ d = .bl c) (Px := fun d => ∃ k : Nat, k < 3 ∧ d = eN k) (Py := fun _ y => y = eN 0) (ev_callR1 (ea_c (ev_var rfl) (ea_c ev_int ea_nil)) ⟨3, rfl, ⟨by decide, by decide⟩, rfl⟩).v (fun _ _ => ev_int.v) fun x y ⟨k, hk, ex⟩ ey => by
          subst ex; subst ey
          exact op_gt0'))))) fun ds ⟨l1, ⟨d1, l2, _, ⟨d2, l3, _, ⟨d3, _, e5⟩, e4⟩, e3⟩, e2⟩ => by rw [e2, e3, e4, e5]; exact sz4) fun d ⟨ds, ⟨l1, ⟨d1, l2, ⟨f, _, f1⟩, ⟨d2, l3, ⟨p, _, f2⟩, ⟨d3, ⟨c, _, f3⟩, e5⟩, e4⟩, e3⟩, e2⟩, e⟩ => ⟨.test f p c, trivial, by rw [e, e2, e3, e4, e5, f1, f2, f3]; rfl⟩
    have hfl : 0 < W.reg.fits.length := List.length_pos_iff.mpr hft
    refine run_whenR (et_test1 (ev_op1 (ev_var rfl).v ev_int.v op_eqN)) (fun _ => ?_) fun _ => ?_
    · refine run_letP (P := fun d => ∃ ks : List Nat, ks.length ≤ 2 ∧ d = eT ks) ((ev_tupleF (ef_drawM (j := 13) (P := fun l => l.length ≤ 2) (enc := eN) (p := fun _ _ => True) ((ei_rng (P := fun n => n ≤ 2) ((ev_callR1 (ea_c (ev_var rfl) (ea_c ev_int ea_nil)) ⟨3, rfl, ⟨by decide, by decide⟩, rfl⟩).imp fun d ⟨k, hk, e⟩ => ⟨k, by omega, by omega, e⟩)).imp fun ds ⟨n, hn, e⟩ => ⟨List.range n, by rw [List.length_range]; exact hn, e⟩) (fun l e => szB (by omega)) (by decide)
        fun l e x hx => (ev_callR1 (ea_c (ev_var rfl) (ea_c (ev_lenM (f := eT) (ev_op1 (ev_var rfl).v ev_int.v (op_ixT rfl)).v (.inl rfl)) ea_nil)) ⟨W.reg.fits.length, rfl, ⟨hfl, by omega⟩, rfl⟩).imp fun d ⟨y, _, e⟩ => ⟨y, trivial, e⟩)).imp fun d ⟨ds, ⟨l, ms, hl, e, e3, _⟩, e2⟩ => ⟨ms, by omega, by rw [e2, e]⟩) fun d ⟨ks, hks, e⟩ => ?_
      subst e
      exact run_retD (ev_tup (ea_c' ev_str (ea_d (Pd := fun d => ∃ o : Option Nat, d = eO o) (ev_if (Pt := fun _ => True) (et_test (ev_op (P := fun d => ∃ c, True ∧ d = .bl c) (Px := fun d => ∃ k : Nat, k < 3 ∧ d = eN k) (Py := fun _ y => y = eN 0) (ev_callR1 (ea_c (ev_var rfl) (ea_c ev_int ea_nil)) ⟨3, rfl, ⟨by decide, by decide⟩, rfl⟩).v (fun _ _ => ev_int.v) fun x y ⟨k, hk, ex⟩ ey => by
          subst ex; subst ey
          exact op_eqN')) (fun _ => ev_non.imp fun d e => ⟨none, e⟩) fun _ => (ev_callR1 (ea_c (ev_var rfl) (ea_c (ev_lenM (f := eT) (ev_op1 (ev_var rfl).v ev_int.v (op_ixT rfl)).v (.inl rfl)) ea_nil)) ⟨W.reg.fits.length, rfl, ⟨hfl, by omega⟩, rfl⟩).imp fun d ⟨k, _, e⟩ => ⟨some k, e⟩) (ea_1 (ev_var rfl)))) fun ds ⟨l1, ⟨d1, l2, _, ⟨d2, _, e4⟩, e3⟩, e2⟩ => by rw [e2, e3, e4]; exact sz3) fun d ⟨ds, ⟨l1, ⟨d1, l2, ⟨o, f1⟩, ⟨d2, f2, e4⟩, e3⟩, e2⟩, e⟩ => ⟨.come o ks, hks, by rw [e, e2, e3, e4, f1, f2]; rfl⟩
    exact run_retD (ev_tup1 (ea_c ev_str ea_nil) sz1) fun d e => ⟨.day, trivial, e⟩
    ⟩
end
end Gv

namespace Gv
open PySem PySem.Spec PyProof.Rows L2
structure Idt (K : PySem.W.Frag) (mg : Str → Option Value) (C : Addr) : Prop where
  gC : mg "InvalidDeed" = some (.ref C)
  te : PySem.W.exmOne K (.ref C) (.ref C) = some true
theorem pe_callSc {X : Cx} {CX : CXT} {k : Nat} {x : Str} {ps : List Str} {sp : Sp} {E : L2.St → XK} {p pos : Pos} {e : Expr} {es : List Expr} {t : TA} (c : Cal X.prog X.w X.K X.mg X.base CX k x ps sp) (hr : Room k X.A) (hg : Gl X x) (hx : ∀ σ, PassesAt CX X σ (E σ)) (ha : PA X (e :: es) t)
    (hdb : (x == ("__debug__" : Str)) = false := by decide) (he : starEach (e :: es) X.env = (false, eval e X.env) :: starEach es X.env := by rfl) (hpl : (backTo pos (starEach es X.env)).any (·.1) = false := by rfl) :
    PE X (.Call (.Name x p) (e :: es) [] pos) (tCallS sp E t) := by
  obtain ⟨f, fd, F, hm, hk, hb⟩ := c
  exact pe_callS F hr hg hm hk hb hx ha hdb he hpl
end Gv

namespace Gv
open PySem PySem.Spec PyProof.Rows L2
section
variable {P : Program} {w : World} {K : PySem.W.Frag} {mg : Str → Option Value} {base : Heap} {C : Addr}
def g_can_do : List D → Oc → Prop := fun ds oc => ∃ (B : Nat) (W : Wo) (d : De), ds = [eW W, eD d] ∧ (W.Wf B ∧ d.Sz) ∧ oc = some (· = .bl (W.okD d))
abbrev C_can_do (P : Program) (w : World) (K : PySem.W.Frag) (mg : Str → Option Value) (base : Heap) (C : Addr) : Prop := Cal P w K mg base CX0 10 "can_do" ["world", "deed"] (SpD K C R0 g_can_do)
theorem sc_can_do : FnScope ["world", "deed"] ["world", "deed"] (defScope s_can_do) := ⟨rfl, rfl, rfl, by decide +kernel, rfl, by decide +kernel, by decide +kernel⟩
theorem len_can_do : ∀ ds oc, g_can_do ds oc → ds.length = 2 := fun _ _ ⟨_, _, _, e, _⟩ => by rw [e]; rfl
theorem cal_can_do (d : Df K mg "can_do" s_can_do) (T : Nms K mg) (c_do_deed : C_do_deed P w K mg base C) (I : Idt K mg C) : C_can_do P w K mg base C := by
  refine cal_of d sc_can_do (SpD.len len_can_do) (fun _ _ _ _ _ _ us hl => match us, hl with | [_, _], _ => rfl) fun f cdv A outer s H vs Q E hr h => ⟨_, PSs.nox (pss_cons (ps_try_only (tb := fun W => tDrop (tCallS (SpD K C R0 g_do_deed) (WE W) (tCons (tVar 0) (tCons (tVar 1) tNil)))) (ts := fun _ _ _ => tRet (tC (.bl false))) (Wout := fun _ _ _ _ => False) rfl rfl ⟨rfl, by decide, .inl I.gC⟩ takes0 (fun W pn xe tk _ => pss_one (ps_expr (pe_callSc c_do_deed (hr.mono (by decide)) rfl (fun σ => passAt tk σ) (pa_cons (pv 0) (pa_cons (pv 1) pa_nil))))) (fun a oe cls d pn _ _ => pss_one (ps_ret pe_bl)))
    (pss_one (ps_ret pe_bl))),
    def_run h fun ds oc g => by
    obtain ⟨B, W, d, rfl, wf, rfl⟩ := g
    intro M σ H De w1 w2 ok inv e kn kr kx
    obtain ⟨v0, h0, i0⟩ := e.get (i := 0) rfl
    obtain ⟨v1, h1, i1⟩ := e.get (i := 1) rfl
    refine ⟨_, h0, _, h1, M, [eW W, eD d], OkOc W d, fun _ z => z.elim, ok, trivial, .cons i0 (.cons i1 .nil), ⟨B, W, d, rfl, wf, rfl⟩, ?_⟩
    cases hok : W.okD d with
    | true =>
      rw [show OkOc W d = _ from if_pos hok]
      intro v H' x hx s i iv
      exact kr _ _ (.bl true) ⟨_, rfl, congrArg D.bl hok.symm⟩ s trivial (.bl true)
    | false =>
      rw [okOc0 hok]
      intro dd H' s i
      exact ⟨true, I.te, fun _ a ha => kr _ _ (.bl false) ⟨_, rfl, congrArg D.bl hok.symm⟩ s trivial (.bl false), fun z => by cases z⟩
    ⟩
end
end Gv

namespace Gv
open PySem PySem.Spec PyProof.Rows L2
/-- a list of the written part -/
def KLst (K : PySem.W.Frag) (a : Addr) (xs : List V) : Prop := ∃ (o : Obj) (its : Array Value) (n : Nat), K.lookup a = some o ∧ o.cls = .type "list" ∧ o.dict = none ∧ o.data = .seq its n ∧ its.size ≤ sizeLine ∧ Vals xs its.toList
/-- the script of the law: its list at a -/
def scrR (K : PySem.W.Frag) (a : Addr) (ns : List Int) : Rg where
  m := fun p => p = a ∧ ¬ KLst K a (ns.map V.int)
  inv := fun H => SqL K H a (ns.map V.int)
  stab := fun H H' h z => by
    by_cases hk : KLst K a (ns.map V.int)
    · exact .inr hk
    · have e := h a ⟨rfl, hk⟩
      rcases z with z | z
      · exact .inl (by unfold Rd at z ⊢; rw [e]; exact z)
      · exact absurd z hk
theorem scrR_ok {K : PySem.W.Frag} {a : Addr} {ns : List Int} {H : Hp} (h : SqL K H a (ns.map V.int)) : Ok (scrR K a ns).m H := fun p ⟨e, hk⟩ => by
  subst e
  rcases h with z | z
  · rcases z with z | ⟨o, z⟩
    · rw [z]; nofun
    · rw [z]; nofun
  · exact absurd z hk
def SpS (K : PySem.W.Frag) (C : Addr) (G : Addr → List D → Oc → Prop) : Sp := fun vs H Q E => ∃ a ns, SpD K C (scrR K a ns) (G a) vs H Q E
theorem SpS.len {K : PySem.W.Frag} {C : Addr} {G : Addr → List D → Oc → Prop} {n : Nat} (h : ∀ a ds oc, G a ds oc → ds.length = n) : ∀ vs H Q E, SpS K C G vs H Q E → vs.length = n := fun vs H Q E ⟨a, b, z⟩ => SpD.len (h a) vs H Q E z
section
variable {K : PySem.W.Frag} {C : Addr} {E : XK} {t : TA} {te ta tb : TE} {r : REnv} {P : D → Prop} {R : Rg}
theorem def_runS {G : Addr → List D → Oc → Prop} {N : List Str} {vs : List V} {H : Hp} {Q : VK} {t : TS} (h : SpS K C G vs H Q E)
    (run : ∀ a ns ds oc, G a ds oc → Run K C (scrR K a ns) (scrR K a ns).m E t (startR N.length ds) (fun _ => ∃ P, oc = some P ∧ P .non) (fun d => ∃ P, oc = some P ∧ P d) (oc = none)) :
    t { nx := fun _ H' => Q .non H', rt := Q } (L2.start N vs) H := by
  obtain ⟨a, b, h⟩ := h
  exact def_run h (run a b)
def cutI (ns : List Int) : List Int := (ns.drop (HT.sIx ns.length 0 none)).take (HT.sIx ns.length ns.length (some 48) - HT.sIx ns.length 0 none)
theorem cutI_len (ns : List Int) : (cutI ns).length ≤ 48 := by
  unfold cutI
  rw [List.length_take]
  have : HT.sIx ns.length ns.length (some 48) = min 48 ns.length := HT.sIx_nat _ _ 48
  rw [this]
  omega
theorem ev_scr {a : Addr} {ns : List Int} (h : r[0]? = some (some (.d (.adr a)))) : EvF K (scrR K a ns) (tSl (rSlL K) (tVar 0) tNoPart (tPart (tC (.int 48)))) r (· = (cutI ns).map D.int) := fun M σ H hR ok inv e Q q => by
  obtain ⟨v, h0, i0⟩ := e.get h
  cases i0
  refine ⟨_, h0, _, rfl, a, _, rfl, inv, fun p hp => ?_⟩
  have hc : cutV (ns.map V.int) none (some 48) = (cutI ns).map V.int := by
    unfold cutV cutI
    rw [List.length_map, List.map_take, List.map_drop]
  rw [hc]
  exact q p _ _ _ rfl hp (Stp.of (same_new hp)) (inv_same hR ok (same_new hp) inv) upd_same (IsDs.of_ints _)
theorem ev_intQ {i : Int} (h : Ev K R te r (· = .int i)) : Ev K R (tCB rIntQ (tCons te tNil)) r (· = .int i) :=
  ev_cb1 h.v fun rm M H v ok hv Q q => by
    have e := isV_int hv
    subst e
    exact .inl ⟨i, rfl, q _ H _ rfl (same_refl H) (.int i)⟩
theorem ev_absQ {i : Int} (h : Ev K R te r (· = .int i)) : Ev K R (tCB (fun xs H Q => ∃ i, xs = [V.int i] ∧ Q (.int (if i < 0 then -i else i)) H) (tCons te tNil)) r (· = eN i.natAbs) :=
  ev_cb1 h.v fun rm M H v ok hv Q q => by
    have e := isV_int hv
    subst e
    refine ⟨i, rfl, q _ H _ ?_ (same_refl H) (.int _)⟩
    have : (if i < 0 then -i else i) = (i.natAbs : Int) := by split <;> omega
    rw [this]
theorem op_mulC {i j : Nat} (h1 : i < 2 ^ 40) (h2 : j < 2 ^ 40) : OpD K rMulQ (eN i) (eN j) (· = eN (i * j)) := (op_iC (wide_mul (a := 40) (b := 40) (by show i < 2 ^ 40; exact h1) (by show j < 2 ^ 40; exact h2) (by decide) (by decide) (by decide))).imp fun d e => e
theorem op_modC {i j : Nat} (h : 0 < j) : OpD K rModQ (eN i) (eN j) (· = eN (i % j)) := (op_iC (by show (0 : Int) < j; omega)).imp fun d e => e
theorem op_addC {i j : Nat} : OpD K rAddQ (eN i) (eN j) (· = eN (i + j)) := op_i0.imp fun d e => e
end
end Gv

namespace Gv
open PySem PySem.Spec PyProof.Rows L2
section
variable {P : Program} {w : World} {K : PySem.W.Frag} {mg : Str → Option Value} {base : Heap} {C : Addr}
def g_l_draw : Addr → List D → Oc → Prop := fun a ds oc => ∃ salt : Nat, ds = [.adr a, eN salt] ∧ salt ≤ 1000 ∧ oc = some (fun d => ∃ (cs : List Nat) (k : Nat), cs.length ≤ 48 ∧ k < 2147483647 ∧ d = .lst [.lst (cs.map eN), eN k])
abbrev C_l_draw (P : Program) (w : World) (K : PySem.W.Frag) (mg : Str → Option Value) (base : Heap) (C : Addr) : Prop := Cal P w K mg base CX0 2 "_law_draw" ["_law_script", "_law_salt"] (SpS K C g_l_draw)
theorem sc_l_draw : FnScope ["_law_script", "_law_salt", "_law_cell", "_law_cells", "_law_blend"] ["_law_script", "_law_salt"] (defScope s_l_draw) := ⟨rfl, rfl, rfl, by decide +kernel, rfl, by decide +kernel, by decide +kernel⟩
theorem len_l_draw : ∀ a ds oc, g_l_draw a ds oc → ds.length = 2 := fun _ _ _ ⟨_, e, _⟩ => by rw [e]; rfl
theorem cal_l_draw (d : Df K mg "_law_draw" s_l_draw) (T : Nms K mg)   : C_l_draw P w K mg base C := by
  refine cal_of d sc_l_draw (SpS.len len_l_draw) (fun _ _ _ _ _ _ us hl => match us, hl with | [_, _], _ => rfl) fun f cdv A outer s H vs Q E hr h => ⟨_, PSs.nox (pss_cons (ps_setLc (i := 3) (own := [("_law_cell", 2)]) (g := (gName 2)) (tt := tYes) rfl sc_l_draw.nd rfl rfl (sw_true rfl rfl rfl (by decide +kernel)) (pi_list (pe_slice sl_list (pv 0) po_none (po_some pe_int))) (blkOk_by (own := [("_law_cell", 2)]) (by kernel_rfl)) (fun _ _ _ _ _ => (pg_name (i := 2) sc_l_draw.nd rfl (Or.inl rfl))) (fun _ _ _ _ _ => pts_nil) (fun _ _ _ _ _ => (pe_callB (id := "abs") call_abs rfl T.abs (by decide +kernel) (pa_cons (pe_callTy (T := "int") call_int1 rfl T.int (by decide +kernel) (pa_cons (pv 2) pa_nil)) pa_nil))))
    (pss_cons (ps_set (i := 4) sc_l_draw.nd rfl (Or.inl rfl) (pe_op op_add pe_int (pe_op op_mulW pe_int (pv 1))))
    (pss_cons (ps_for PassesOwn.never rfl (pi_list (pv 3)) (pg_name (i := 2) sc_l_draw.nd rfl (Or.inl rfl)) (pss_one (ps_set (i := 4) sc_l_draw.nd rfl (Or.inl rfl) (pe_op op_mod (pe_callTy (T := "int") call_int1 rfl T.int (by decide +kernel) (pa_cons (pe_op op_add (pe_op op_add (pe_op op_mulW (pv 4) pe_int) (pe_op op_mod (pv 2) pe_int)) pe_int) pa_nil)) pe_int))))
    (pss_one (ps_ret (pe_lst (pa_cons (pe_revL (pe_lc (own := [("_law_cell", 2)]) (g := (gName 2)) rfl sc_l_draw.nd (pi_list (pv 3)) (blkOk_by (own := [("_law_cell", 2)]) (by kernel_rfl)) (fun _ _ _ _ _ => (pg_name (i := 2) sc_l_draw.nd rfl (Or.inl rfl))) (fun _ _ _ _ _ => (pts_one (pt_cmpR op_ge (pv 2) (pe_op op_pow pe_int pe_int) (nomark _)))) (fun _ _ _ _ _ => (pv 2)))) (pa_cons (pv 4) pa_nil)))))))),
    def_runS h fun a ns ds oc g => by
    obtain ⟨salt, rfl, hs, rfl⟩ := g
    have hcl := cutI_len ns
    refine run_let1 (x := .lst (((cutI ns).map Int.natAbs).map eN)) ((ef_lcM (l := cutI ns) (enc := D.int) (f := fun i => eN i.natAbs) (ei_lst (ev_scr rfl).v1) (szB (by omega)) (by decide) (fun i _ => ev_absQ (ev_intQ (ev_var rfl)))).v1.is (by rw [List.map_map]; rfl)) ?_
    refine run_let1 (x := eN (7919 + 104729 * salt)) (ev_op1 ev_int.v (ev_op1 ev_int.v (ev_var rfl).v (op_mulC (i := 104729) (j := salt) (by decide) (by omega))).v (op_addC (i := 7919))) ?_
    generalize hcs : (cutI ns).map Int.natAbs = cs
    have hcsl : cs.length ≤ 48 := by rw [← hcs, List.length_map]; exact hcl
    refine run_seq (N := fun r' => ∃ k : Nat, k < 2147483647 ∧ ∃ x : Option D, r' = slD [some (.adr a), some (eN salt), x, some (.lst (cs.map eN)), some (eN k)])
      (run_for (α := Nat) (enc := eN) (P := (· = cs)) ((ei_lst (ev_var rfl)).imp fun ds e => ⟨cs, rfl, e⟩) (fun _ z => z)
        (fun l i r' => ∃ k : Nat, k < 2147483647 ∧ ∃ x : Option D, r' = slD [some (.adr a), some (eN salt), x, some (.lst (cs.map eN)), some (eN k)])
        (fun l e => ⟨_, by omega, none, rfl⟩)
        (fun l e i x r' hx ⟨k, hk, x1, e2⟩ => ?_)
        (fun l e r' h => h)) fun r' ⟨k, hk, x1, e⟩ => ?_
    · subst e2
      refine ⟨_, _, tg_name, ?_⟩
      exact run_asg (ev_op1 (ev_intQ (ev_op1 (ev_op1 (ev_op1 (ev_var rfl).v ev_int.v (op_mulC (i := k) (j := 48271) (by omega) (by decide))).v (ev_op1 (ev_var rfl).v ev_int.v (op_modC (i := x) (j := 2147483549) (by decide))).v op_addC).v ev_int.v (op_addC (j := 11)))).v ev_int.v (op_modC (j := 2147483647) (by decide))) fun d e => ⟨(k * 48271 + x % 2147483549 + 11) % 2147483647, Nat.mod_lt _ (by decide), some (eN x), by rw [e]; rfl⟩
    · subst e
      refine run_ret1 (ev_lst (ea_c (ev_rev (l := (cs.filter fun c : Nat => decide (((10 : Int) ^ (18 : Int).toNat) ≤ (c : Int))).map eN) (ef_lcN (l := cs) (enc := eN) (b := fun c : Nat => decide (((10 : Int) ^ (18 : Int).toNat) ≤ (c : Int))) (f := eN) (ei_lst (ev_var rfl)) (szB (by omega)) (by decide) (fun c _ => et_test1 (ev_op1 (ev_var rfl).v (ev_op1 ev_int.v ev_int.v (op_iC ⟨by decide, by decide, by decide⟩)).v op_ib)) fun c _ _ => ev_var rfl).v1.v).v1 (ea_c (ev_var rfl) ea_nil)) fun ds e => by rw [e]; exact sz2).v1 ⟨_, rfl, (cs.filter fun c : Nat => decide (((10 : Int) ^ (18 : Int).toNat) ≤ (c : Int))).reverse, k, ?_, hk, ?_⟩
      · rw [List.length_reverse]
        exact Nat.le_trans (List.length_filter_le _ _) hcsl
      · rw [List.map_reverse]
    ⟩
end
end Gv

namespace Gv
open PySem PySem.Spec PyProof.Rows
/-! ### the plain law -/
theorem sorted_perm_eq {l m : List Nat} (h : l.Perm m) (hl : l.Pairwise (· ≤ ·)) (hm : m.Pairwise (· ≤ ·)) : l = m :=
  List.Perm.eq_of_pairwise (fun a b _ _ h1 h2 => Nat.le_antisymm h1 h2) hl hm h
theorem lenSet_nodup {ns : List Int} (h : ns.Nodup) : lenSet ns = ns.length := by
  unfold lenSet
  rw [L2.firstMet_nodup _ h _ (Nat.le_refl _), List.take_length]
theorem nodup_lenSet {ns : List Int} (h : lenSet ns = ns.length) : ns.Nodup := by
  have key : ∀ i, i ≤ ns.length → (firstMet (fun i => ns.getD i 0) i).length = i → firstMet (fun i => ns.getD i 0) i = ns.take i ∧ (ns.take i).Nodup := by
    intro i
    induction i with
    | zero => intro _ _; exact ⟨rfl, List.nodup_nil⟩
    | succ i ih =>
      intro hi hl
      rw [firstMet_succ] at hl ⊢
      have hle := firstMet_length_le (fun i => ns.getD i 0) i
      have hlt : i < ns.length := hi
      have e1 : ns.getD i 0 = ns[i] := by
        rw [List.getD_eq_getElem?_getD, List.getElem?_eq_getElem hlt]; rfl
      unfold step_dedup at hl ⊢
      split at hl
      · omega
      · rename_i hno
        rw [List.length_append, List.length_singleton] at hl
        obtain ⟨ih1, ih2⟩ := ih (by omega) (by omega)
        rw [if_neg hno]
        have e2 : ns.take (i + 1) = ns.take i ++ [ns[i]] := by
          rw [List.take_add_one, List.getElem?_eq_getElem hlt]; rfl
        rw [ih1, e2]
        refine ⟨by rw [e1], ?_⟩
        refine List.nodup_append.mpr ⟨ih2, List.pairwise_singleton _ _, fun a ha b hb e => hno ?_⟩
        have eb : b = ns[i] := List.mem_singleton.mp hb
        refine List.any_eq_true.mpr ⟨a, by rw [ih1]; exact ha, ?_⟩
        show (a == ns.getD i 0) = true
        rw [e1, e, eb, beq_self_eq_true]
  have := (key ns.length (Nat.le_refl _) h).2
  rw [List.take_length] at this
  exact this
theorem nodup_ofNat {l : List Nat} : (l.map Int.ofNat).Nodup ↔ l.Nodup := by
  unfold List.Nodup
  rw [List.pairwise_map]
  constructor
  · intro h
    exact h.imp fun hab e => hab (congrArg _ e)
  · intro h
    exact h.imp fun hab e => hab (Int.ofNat.inj e)
theorem fm_eq (g : Nat → Option Nat) : ∀ l : List Nat, (l.filter fun f => !(g f).isNone).map (fun f => (g f).getD 0) = l.filterMap g
  | [] => rfl
  | x :: l => by
    have ih := fm_eq g l
    cases e : g x with
    | none => rw [List.filterMap_cons_none e, List.filter_cons_of_neg (by rw [e]; decide), ih]
    | some n => rw [List.filterMap_cons_some e, List.filter_cons_of_pos (by rw [e]; rfl), List.map_cons, ih, e]; rfl
theorem owners_eq (W : Wo) : W.owners = W.gave.filterMap W.reg.own := fm_eq _ _
theorem mem_owners {W : Wo} {o : Nat} : o ∈ W.owners ↔ ∃ f ∈ W.gave, W.reg.own f = some o := by
  rw [owners_eq, List.mem_filterMap]
theorem mem_ofP {r : Reg} {f p : Nat} : f ∈ r.ofP p ↔ f < r.friends.length ∧ r.own f = some p := by
  unfold Reg.ofP
  rw [List.mem_filter, List.mem_range, decide_eq_true_eq]
theorem mem_waits {W : Wo} {p : Nat} : p ∈ W.waits ↔ p ∈ W.got ∧ W.reg.ofP p ≠ [] ∧ p ∉ W.owners := by
  unfold Wo.waits
  rw [List.mem_filter, Bool.and_eq_true, Bool.not_eq_true', Bool.not_eq_true', decide_eq_false_iff_not, decide_eq_false_iff_not]
theorem mem_left {W : Wo} {p : Nat} : p ∈ W.left ↔ p < W.reg.people.length ∧ p ∉ W.got ∧ p ∉ W.away := by
  unfold Wo.left
  rw [List.mem_filter, List.mem_range, Bool.and_eq_true, Bool.not_eq_true', Bool.not_eq_true', decide_eq_false_iff_not, decide_eq_false_iff_not]
/-- what holds of the world and the books behind n turns -/
structure Inv (n : Nat) (W : Wo) (bk : List (Nat × Nat)) : Prop where
  fits : W.reg.fits ≠ []
  fits4 : W.reg.fits.length ≤ 4
  people : W.reg.people.length ≤ 60
  friends : W.reg.friends.length ≤ 120
  barred : W.reg.barred.length ≤ 63 + n
  kind : ∀ x ∈ W.reg.friends, x.1 < W.reg.fits.length
  own : ∀ x ∈ W.reg.friends, ∀ o, x.2 = some o → o < W.reg.people.length
  got : W.got = sortN (seconds bk)
  gave : W.gave = sortN (firsts bk)
  gotN : W.got.Nodup
  gotL : ∀ p ∈ W.got, p < W.reg.people.length
  gaveL : ∀ f ∈ W.gave, f < W.reg.friends.length
  ownN : W.owners.Nodup
  ownS : ∀ o ∈ W.owners, o ∈ W.got
  due : firsts W.due = W.waits
  days : ∀ q ∈ W.due, q.2 ≤ W.day
  away : W.away.length ≤ n
theorem nodup_le {l : List Nat} {n : Nat} (h : l.Nodup) (hb : ∀ x ∈ l, x < n) : l.length ≤ n := by
  have h := L2.nat_nodup_len l (List.range n) h fun x hx => List.mem_range.mpr (hb x hx)
  rw [List.length_range] at h
  exact h
section
variable {n : Nat} {W W' : Wo} {bk : List (Nat × Nat)}
theorem Inv.lens (I : Inv n W bk) : W.got.length = W.gave.length := by
  rw [I.got, I.gave, sortN_len, sortN_len]
  unfold seconds firsts
  rw [List.length_map, List.length_map]
theorem Inv.gotlen (I : Inv n W bk) : W.got.length ≤ 60 := Nat.le_trans (nodup_le I.gotN I.gotL) I.people
theorem Inv.duelen (I : Inv n W bk) : W.due.length ≤ 60 := by
  have h : (firsts W.due).length = W.due.length := by unfold firsts; rw [List.length_map]
  rw [← h, I.due]
  exact Nat.le_trans (List.length_filter_le _ _) I.gotlen
theorem Inv.gotS (I : Inv n W bk) : W.got.Pairwise (· ≤ ·) := by rw [I.got]; exact sortN_pw _
theorem Inv.wf (I : Inv n W bk) (hn : n ≤ 30) : W.Wf 1000 where
  reg := { hB := Nat.le_refl _, people := by have := I.people; omega, friends := by have := I.friends; omega, barred := by have := I.barred; omega, barred100 := by have := I.barred; omega, kind := I.kind, own := I.own }
  got := by have := I.gotlen; omega
  gave := by have := I.gotlen; have := I.lens; omega
  due := by have := I.duelen; omega
  due60 := by have := I.duelen; omega
  p100 := by have := I.people; omega
  away := by have := I.away; omega
  givers := I.gaveL
theorem Inv.holds (I : Inv n W bk) : W.holdsB = true := by
  have h1 : W.holds1 = false := by
    unfold Wo.holds1
    rw [decide_eq_false (by simp [I.lens]), decide_eq_false (by
      rw [lenSet_nodup (nodup_ofNat.mpr I.ownN), List.length_map]
      simp)]
    have : (W.owners.filter fun o => !decide (o ∈ W.got)) = [] := List.filter_eq_nil_iff.mpr fun o ho => by simp [I.ownS o ho]
    rw [this]
    rfl
  have h2 : W.holds2 = false := by
    unfold Wo.holds2
    rw [decide_eq_true I.due]
    have : (W.due.filter fun q => !decide (q.2 < W.day + 1)) = [] := List.filter_eq_nil_iff.mpr fun q hq => by
      have := I.days q hq
      have h : q.2 < W.day + 1 := by omega
      simp [h]
    rw [this]
    rfl
  have hc : W.owners.length + W.waits.length + W.alone.length = W.got.length := by
    have e0 : (W.got.filter fun p => decide (p ∈ W.owners)).length = W.owners.length := by
      refine List.Perm.length_eq ?_
      refine (List.perm_ext_iff_of_nodup ?_ I.ownN).mpr ?_
      · exact I.gotN.sublist List.filter_sublist
      · intro a
        rw [List.mem_filter, decide_eq_true_eq]
        exact ⟨fun h => h.2, fun h => ⟨I.ownS a h, h⟩⟩
    have key : ∀ l : List Nat, (∀ p ∈ l, p ∈ W.owners → W.reg.ofP p ≠ []) → (l.filter fun p => decide (p ∈ W.owners)).length + (l.filter fun p => !decide (W.reg.ofP p = []) && !decide (p ∈ W.owners)).length + (l.filter fun p => decide (W.reg.ofP p = [])).length = l.length := by
      intro l
      induction l with
      | nil => intro _; rfl
      | cons p l ih =>
        intro h
        have ih := ih fun q hq => h q (List.mem_cons_of_mem _ hq)
        have hp := h p List.mem_cons_self
        by_cases a : p ∈ W.owners
        · have b := hp a
          simp only [List.filter_cons, a, b, decide_true, decide_false, Bool.not_true, Bool.not_false, Bool.and_false, if_true, List.length_cons, Bool.false_eq_true, if_false]
          omega
        · by_cases b : W.reg.ofP p = []
          · simp only [List.filter_cons, a, b, decide_true, decide_false, Bool.not_true, Bool.not_false, Bool.and_true, if_true, List.length_cons, Bool.false_eq_true, if_false, Bool.false_and]
            omega
          · simp only [List.filter_cons, a, b, decide_true, decide_false, Bool.not_true, Bool.not_false, Bool.and_true, if_true, List.length_cons, Bool.false_eq_true, if_false, Bool.true_and]
            omega
    have := key W.got fun p _ ho => by
      obtain ⟨f, hf, e⟩ := mem_owners.mp ho
      intro z
      have : f ∈ W.reg.ofP p := mem_ofP.mpr ⟨I.gaveL f hf, e⟩
      rw [z] at this
      cases this
    unfold Wo.waits Wo.alone
    omega
  have hd : W.due.length = W.waits.length := by
    rw [← I.due]
    unfold firsts
    rw [List.length_map]
  unfold Wo.holdsB
  rw [h1, h2, decide_eq_true]
  · rfl
  · have := I.lens
    omega
end
end Gv

namespace Gv
open PySem PySem.Spec PyProof.Rows
theorem rot_perm {α : Type} (l : List α) : (l.drop 1 ++ l.take 1).Perm l := by
  have h := List.perm_append_comm (l₁ := l.drop 1) (l₂ := l.take 1)
  rw [List.take_append_drop] at h
  exact h
/-- what a ring that may be done is -/
structure RingOk (W : Wo) (ts : List (Nat × Nat)) : Prop where
  tie : ∀ t ∈ ts, t.1 < W.reg.friends.length ∧ t.2 < W.reg.people.length ∧ W.reg.tie t.1 t.2 = true
  nod : (seconds ts).Nodup
  left : ∀ p ∈ seconds ts, p ∈ W.left
  own : (ts.map fun t => W.reg.own t.1).Perm ((seconds ts).map some)
theorem ringOk {W : Wo} {ts : List (Nat × Nat)} (h : W.isRing ts = true) : RingOk W ts := by
  unfold Wo.isRing at h
  simp only [Bool.and_eq_true, decide_eq_true_eq, List.all_eq_true] at h
  obtain ⟨⟨⟨⟨_, h2⟩, h3⟩, h4⟩, h5⟩ := h
  refine ⟨fun t ht => ?_, ?_, fun p hp => h4 p hp, ?_⟩
  · have := h2 t ht
    unfold Reg.isTie at this
    simp only [Bool.and_eq_true, decide_eq_true_eq] at this
    exact ⟨this.1.1, this.1.2, this.2⟩
  · refine nodup_ofNat.mp (nodup_lenSet ?_)
    rw [h3, List.length_map]
    unfold seconds
    rw [List.length_map]
  · rw [h5]
    exact (rot_perm _).symm
theorem tie_ne {r : Reg} {f p : Nat} (h : r.tie f p = true) : r.own f ≠ some p := fun e => by
  unfold Reg.tie at h
  rw [if_pos (by rw [decide_eq_true e]; rfl)] at h
  cases h
/-- what a link that may be done is -/
structure LinkOk (W : Wo) (t : Nat × Nat) : Prop where
  f : t.1 < W.reg.friends.length
  p : t.2 < W.reg.people.length
  tie : W.reg.tie t.1 t.2 = true
  left : t.2 ∈ W.left
  own : (W.reg.own t.1 = none ∧ t.1 ∉ W.gave) ∨ ∃ o, W.reg.own t.1 = some o ∧ o ∈ firsts W.due
theorem linkOk {W : Wo} {t : Nat × Nat} (h : W.okD (.link t) = true) : LinkOk W t := by
  rw [okD_link] at h
  simp only [Bool.and_eq_true, decide_eq_true_eq] at h
  obtain ⟨⟨h1, h2⟩, h3⟩ := h
  obtain ⟨f, hf, h4⟩ := List.mem_flatMap.mp h3
  obtain ⟨p, hp, e⟩ := List.mem_map.mp h4
  obtain ⟨hp1, hp2⟩ := List.mem_filter.mp hp
  subst e
  refine ⟨h1, h2, hp2, hp1, ?_⟩
  have hg := (sortN_perm _).mem_iff.mp hf
  rcases List.mem_append.mp hg with hg | hg
  · obtain ⟨a, b⟩ := List.mem_filter.mp hg
    have c := (List.mem_filter.mp a).2
    refine .inl ⟨Option.isNone_iff_eq_none.mp c, ?_⟩
    simpa using b
  · obtain ⟨q, hq, hm⟩ := List.mem_flatMap.mp hg
    split at hm
    · cases hm
    · exact .inr ⟨q.1, (mem_ofP.mp hm).2, List.mem_map.mpr ⟨q, hq, rfl⟩⟩
section
variable {n : Nat} {W W' : Wo} {bk : List (Nat × Nat)}
theorem Inv.mono (I : Inv n W bk) {m : Nat} (h : n ≤ m) : Inv m W bk :=
  { I with barred := by have := I.barred; omega, away := by have := I.away; omega }
theorem filter_or {α : Type} {p q : α → Bool} {l : List α} (h : ∀ x ∈ l, p x = q x) : l.filter p = l.filter q := List.filter_congr h
theorem nd_app {α : Type} {l m : List α} (h1 : l.Nodup) (h2 : m.Nodup) (h : ∀ a ∈ l, a ∉ m) : (l ++ m).Nodup := List.nodup_append.mpr ⟨h1, h2, fun a ha b hb e => h a ha (e ▸ hb)⟩
theorem Inv.ring (I : Inv n W bk) {ts : List (Nat × Nat)} (R : RingOk W ts) : Inv (n + 1) { W with got := sortN (W.got ++ seconds ts), gave := sortN (W.gave ++ firsts ts) } (bk ++ ts) := by
  have hs : seconds (bk ++ ts) = seconds bk ++ seconds ts := by unfold seconds; rw [List.map_append]
  have hf : firsts (bk ++ ts) = firsts bk ++ firsts ts := by unfold firsts; rw [List.map_append]
  have pg : (sortN (W.got ++ seconds ts)).Perm (W.got ++ seconds ts) := sortN_perm _
  have pv : (sortN (W.gave ++ firsts ts)).Perm (W.gave ++ firsts ts) := sortN_perm _
  have hleft : ∀ p ∈ seconds ts, p < W.reg.people.length ∧ p ∉ W.got ∧ p ∉ W.away := fun p hp => mem_left.mp (R.left p hp)
  have po : (Wo.owners { W with got := sortN (W.got ++ seconds ts), gave := sortN (W.gave ++ firsts ts) }).Perm (W.owners ++ seconds ts) := by
    rw [owners_eq, owners_eq]
    refine (pv.filterMap _).trans ?_
    show ((W.gave ++ firsts ts).filterMap W.reg.own).Perm _
    rw [List.filterMap_append]
    refine List.Perm.append_left _ ?_
    have e1 : (firsts ts).filterMap W.reg.own = (ts.map fun t => W.reg.own t.1).filterMap id := by
      unfold firsts
      rw [List.filterMap_map, List.filterMap_map]
      rfl
    have e2 : ((seconds ts).map some).filterMap id = seconds ts := by
      rw [List.filterMap_map]
      exact List.filterMap_some
    rw [e1]
    refine (R.own.filterMap id).trans ?_
    rw [e2]
  have gN : (W.got ++ seconds ts).Nodup := nd_app I.gotN R.nod fun a ha hb => (hleft a hb).2.1 ha
  refine { I with barred := (by have := I.barred; show W.reg.barred.length ≤ 63 + (n + 1); omega), away := (by have := I.away; show W.away.length ≤ n + 1; omega), got := ?_, gave := ?_, gotN := ?_, gotL := ?_, gaveL := ?_, ownN := ?_, ownS := ?_, due := ?_ }
  · show sortN (W.got ++ seconds ts) = sortN (seconds (bk ++ ts))
    refine sorted_perm_eq (pg.trans ?_) (sortN_pw _) (sortN_pw _)
    rw [hs, I.got]
    exact ((sortN_perm _).append_right _).trans (sortN_perm _).symm
  · show sortN (W.gave ++ firsts ts) = sortN (firsts (bk ++ ts))
    refine sorted_perm_eq (pv.trans ?_) (sortN_pw _) (sortN_pw _)
    rw [hf, I.gave]
    exact ((sortN_perm _).append_right _).trans (sortN_perm _).symm
  · exact pg.nodup_iff.mpr gN
  · intro p hp
    rcases List.mem_append.mp (pg.mem_iff.mp hp) with h | h
    · exact I.gotL p h
    · exact (hleft p h).1
  · intro f hf
    rcases List.mem_append.mp (pv.mem_iff.mp hf) with h | h
    · exact I.gaveL f h
    · obtain ⟨t, ht, e⟩ := List.mem_map.mp h
      rw [← e]
      exact (R.tie t ht).1
  · exact po.nodup_iff.mpr (nd_app I.ownN R.nod fun a ha hb => (hleft a hb).2.1 (I.ownS a ha))
  · intro o ho
    refine pg.mem_iff.mpr ?_
    rcases List.mem_append.mp (po.mem_iff.mp ho) with h | h
    · exact List.mem_append_left _ (I.ownS o h)
    · exact List.mem_append_right _ h
  · show firsts W.due = Wo.waits { W with got := sortN (W.got ++ seconds ts), gave := sortN (W.gave ++ firsts ts) }
    rw [I.due]
    refine sorted_perm_eq ?_ (I.gotS.sublist List.filter_sublist) ((sortN_pw _).sublist List.filter_sublist)
    refine List.Perm.trans ?_ (pg.filter _).symm
    rw [List.filter_append]
    have e1 : ((seconds ts).filter fun p => !decide (W.reg.ofP p = []) && !decide (p ∈ Wo.owners { W with got := sortN (W.got ++ seconds ts), gave := sortN (W.gave ++ firsts ts) })) = [] := List.filter_eq_nil_iff.mpr fun p hp => by
      have : p ∈ Wo.owners { W with got := sortN (W.got ++ seconds ts), gave := sortN (W.gave ++ firsts ts) } := po.mem_iff.mpr (List.mem_append_right _ hp)
      simp [this]
    have e2 : (W.got.filter fun p => !decide (W.reg.ofP p = []) && !decide (p ∈ Wo.owners { W with got := sortN (W.got ++ seconds ts), gave := sortN (W.gave ++ firsts ts) })) = W.waits := by
      unfold Wo.waits
      refine List.filter_congr fun p hp => ?_
      have : p ∈ Wo.owners { W with got := sortN (W.got ++ seconds ts), gave := sortN (W.gave ++ firsts ts) } ↔ p ∈ W.owners := by
        rw [po.mem_iff, List.mem_append]
        exact ⟨fun h => h.elim id fun h => absurd hp (hleft p h).2.1, .inl⟩
      rw [decide_eq_decide.mpr this]
    show W.waits.Perm (List.filter (fun p => !decide (W.reg.ofP p = []) && !decide (p ∈ Wo.owners { W with got := sortN (W.got ++ seconds ts), gave := sortN (W.gave ++ firsts ts) })) W.got ++ List.filter (fun p => !decide (W.reg.ofP p = []) && !decide (p ∈ Wo.owners { W with got := sortN (W.got ++ seconds ts), gave := sortN (W.gave ++ firsts ts) })) (seconds ts))
    rw [e1, e2, List.append_nil]
theorem firsts_sorted (l : List (Nat × Nat)) : (firsts (sortP l)).Pairwise (· ≤ ·) := by
  unfold firsts
  rw [List.pairwise_map]
  exact (sortP_pw l).imp fun h => by
    have := leP_iff.mp h
    omega
abbrev dueL (W : Wo) (t : Nat × Nat) : List (Nat × Nat) := sortP ((W.due.filter fun q => !decide (W.reg.own t.1 = some q.1)) ++ if 0 < (W.reg.ofP t.2).length then [(t.2, W.day)] else [])
theorem Inv.link (I : Inv n W bk) {t : Nat × Nat} (R : LinkOk W t) : Inv (n + 1) { W with got := sortN (W.got ++ [t.2]), gave := sortN (W.gave ++ [t.1]), due := dueL W t } (bk ++ [t]) := by
  have hs : seconds (bk ++ [t]) = seconds bk ++ [t.2] := by unfold seconds; rw [List.map_append]; rfl
  have hf : firsts (bk ++ [t]) = firsts bk ++ [t.1] := by unfold firsts; rw [List.map_append]; rfl
  have pg : (sortN (W.got ++ [t.2])).Perm (W.got ++ [t.2]) := sortN_perm _
  have pv : (sortN (W.gave ++ [t.1])).Perm (W.gave ++ [t.1]) := sortN_perm _
  obtain ⟨hp1, hp2, hp3⟩ := mem_left.mp R.left
  have hne := tie_ne R.tie
  have ow : ∀ o, W.reg.own t.1 = some o → o ∈ W.got ∧ o ∉ W.owners := fun o ho => by
    rcases R.own with ⟨h, _⟩ | ⟨o', h1, h2⟩
    · rw [h] at ho; cases ho
    · rw [h1] at ho
      cases ho
      rw [I.due] at h2
      have := mem_waits.mp h2
      exact ⟨this.1, this.2.2⟩
  have po : (Wo.owners { W with got := sortN (W.got ++ [t.2]), gave := sortN (W.gave ++ [t.1]), due := dueL W t }).Perm (W.owners ++ (W.reg.own t.1).toList) := by
    rw [owners_eq, owners_eq]
    refine (pv.filterMap _).trans ?_
    show ((W.gave ++ [t.1]).filterMap W.reg.own).Perm _
    rw [List.filterMap_append]
    refine List.Perm.append_left _ ?_
    cases e : W.reg.own t.1 with
    | none => rw [List.filterMap_cons_none e]; exact List.Perm.refl _
    | some o => rw [List.filterMap_cons_some e]; exact List.Perm.refl _
  have gN : (W.got ++ [t.2]).Nodup := nd_app I.gotN (List.pairwise_singleton _ _) fun a ha hb => hp2 (List.mem_singleton.mp hb ▸ ha)
  have mo : ∀ p, p ∈ Wo.owners { W with got := sortN (W.got ++ [t.2]), gave := sortN (W.gave ++ [t.1]), due := dueL W t } ↔ p ∈ W.owners ∨ W.reg.own t.1 = some p := fun p => by
    rw [po.mem_iff, List.mem_append, Option.mem_toList]
  have pd : (firsts (dueL W t)).Perm ((W.waits.filter fun p => !decide (W.reg.own t.1 = some p)) ++ if 0 < (W.reg.ofP t.2).length then [t.2] else []) := by
    unfold firsts dueL
    refine ((sortP_perm _).map _).trans ?_
    rw [List.map_append, ← I.due]
    unfold firsts
    rw [List.filter_map]
    have : (if 0 < (W.reg.ofP t.2).length then [(t.2, W.day)] else []).map (fun q : Nat × Nat => q.1) = if 0 < (W.reg.ofP t.2).length then [t.2] else [] := by split <;> rfl
    rw [this]
    exact List.Perm.refl _
  refine { I with barred := (by have := I.barred; show W.reg.barred.length ≤ 63 + (n + 1); omega), away := (by have := I.away; show W.away.length ≤ n + 1; omega), got := ?_, gave := ?_, gotN := ?_, gotL := ?_, gaveL := ?_, ownN := ?_, ownS := ?_, due := ?_, days := ?_ }
  · show sortN (W.got ++ [t.2]) = sortN (seconds (bk ++ [t]))
    refine sorted_perm_eq (pg.trans ?_) (sortN_pw _) (sortN_pw _)
    rw [hs, I.got]
    exact ((sortN_perm _).append_right _).trans (sortN_perm _).symm
  · show sortN (W.gave ++ [t.1]) = sortN (firsts (bk ++ [t]))
    refine sorted_perm_eq (pv.trans ?_) (sortN_pw _) (sortN_pw _)
    rw [hf, I.gave]
    exact ((sortN_perm _).append_right _).trans (sortN_perm _).symm
  · exact pg.nodup_iff.mpr gN
  · intro p hp
    rcases List.mem_append.mp (pg.mem_iff.mp hp) with h | h
    · exact I.gotL p h
    · rw [List.mem_singleton.mp h]; exact hp1
  · intro f hf
    rcases List.mem_append.mp (pv.mem_iff.mp hf) with h | h
    · exact I.gaveL f h
    · rw [List.mem_singleton.mp h]; exact R.f
  · refine po.nodup_iff.mpr (nd_app I.ownN ?_ fun a ha hb => ?_)
    · cases W.reg.own t.1 with
      | none => exact List.nodup_nil
      | some o => exact List.pairwise_singleton _ _
    · exact (ow a (Option.mem_toList.mp hb)).2 ha
  · intro o ho
    refine pg.mem_iff.mpr (List.mem_append_left _ ?_)
    rcases (mo o).mp ho with h | h
    · exact I.ownS o h
    · exact (ow o h).1
  · show firsts (dueL W t) = Wo.waits { W with got := sortN (W.got ++ [t.2]), gave := sortN (W.gave ++ [t.1]), due := dueL W t }
    refine sorted_perm_eq ?_ (firsts_sorted _) ((sortN_pw _).sublist List.filter_sublist)
    refine pd.trans (List.Perm.trans ?_ (pg.filter _).symm)
    rw [List.filter_append]
    have e1 : ([t.2].filter fun p => !decide (W.reg.ofP p = []) && !decide (p ∈ Wo.owners { W with got := sortN (W.got ++ [t.2]), gave := sortN (W.gave ++ [t.1]), due := dueL W t })) = if 0 < (W.reg.ofP t.2).length then [t.2] else [] := by
      have hno : t.2 ∉ Wo.owners { W with got := sortN (W.got ++ [t.2]), gave := sortN (W.gave ++ [t.1]), due := dueL W t } := fun h => by
        rcases (mo t.2).mp h with h | h
        · exact hp2 (I.ownS _ h)
        · exact hne h
      by_cases hz : W.reg.ofP t.2 = []
      · rw [List.filter_cons_of_neg (by simp [hz]), if_neg (by simp [hz])]
        rfl
      · rw [List.filter_cons_of_pos (by simp [hz, hno]), if_pos (List.length_pos_iff.mpr hz)]
        rfl
    have e2 : (W.got.filter fun p => !decide (W.reg.ofP p = []) && !decide (p ∈ Wo.owners { W with got := sortN (W.got ++ [t.2]), gave := sortN (W.gave ++ [t.1]), due := dueL W t })) = W.waits.filter fun p => !decide (W.reg.own t.1 = some p) := by
      unfold Wo.waits
      rw [List.filter_filter]
      refine List.filter_congr fun p hp => ?_
      have h : decide (p ∈ Wo.owners { W with got := sortN (W.got ++ [t.2]), gave := sortN (W.gave ++ [t.1]), due := dueL W t }) = (decide (p ∈ W.owners) || decide (W.reg.own t.1 = some p)) := by
        rw [← Bool.decide_or]
        exact decide_eq_decide.mpr (mo p)
      rw [h]
      cases decide (W.reg.ofP p = []) <;> cases decide (p ∈ W.owners) <;> cases decide (W.reg.own t.1 = some p) <;> rfl
    show List.Perm _ (List.filter (fun p => !decide (W.reg.ofP p = []) && !decide (p ∈ Wo.owners { W with got := sortN (W.got ++ [t.2]), gave := sortN (W.gave ++ [t.1]), due := dueL W t })) W.got ++ List.filter (fun p => !decide (W.reg.ofP p = []) && !decide (p ∈ Wo.owners { W with got := sortN (W.got ++ [t.2]), gave := sortN (W.gave ++ [t.1]), due := dueL W t })) [t.2])
    rw [e1, e2]
  · intro q hq
    rcases List.mem_append.mp ((sortP_perm _).mem_iff.mp hq) with h | h
    · exact I.days q (List.mem_filter.mp h).1
    · split at h
      · rw [List.mem_singleton.mp h]
        exact Nat.le_refl _
      · cases h
theorem own_later {r : Reg} {k : Option Nat} {ks : List Nat} {f : Nat} (h : f < r.friends.length) : (r.later k ks).own f = r.own f := by
  unfold Reg.own Reg.fr Reg.later
  show ((r.friends ++ _).getD f _).2 = _
  rw [List.getD_eq_getElem?_getD, List.getElem?_append_left h, List.getD_eq_getElem?_getD]
theorem ofP_later {r : Reg} {k : Option Nat} {ks : List Nat} {p : Nat} (h : p < r.people.length) : (r.later k ks).ofP p = r.ofP p := by
  unfold Reg.ofP
  have hl : (r.later k ks).friends.length = r.friends.length + ks.length := by
    show (r.friends ++ ks.map _).length = _
    rw [List.length_append, List.length_map]
  rw [hl, List.range_add, List.filter_append]
  have e1 : ((List.range ks.length).map (r.friends.length + ·)).filter (fun i => decide ((r.later k ks).own i = some p)) = [] := List.filter_eq_nil_iff.mpr fun i hi => by
    obtain ⟨j, hj, e⟩ := List.mem_map.mp hi
    have hj := List.mem_range.mp hj
    have : (r.later k ks).own i = k.map fun _ => r.people.length := by
      unfold Reg.own Reg.fr Reg.later
      show ((r.friends ++ ks.map _).getD i _).2 = _
      rw [List.getD_eq_getElem?_getD, ← e, List.getElem?_append_right (by omega), Nat.add_sub_cancel_left, List.getElem?_map, List.getElem?_eq_getElem hj]
      rfl
    rw [this]
    cases k with
    | none => simp
    | some k => simp; omega
  rw [e1, List.append_nil]
  exact List.filter_congr fun i hi => by rw [own_later (List.mem_range.mp hi)]
theorem Inv.come (I : Inv n W bk) {k : Option Nat} {ks : List Nat} (h : W.okD (.come k ks) = true) : Inv (n + 1) { W with reg := W.reg.later k ks } bk := by
  rw [okD_come] at h
  simp only [Bool.and_eq_true, decide_eq_true_eq, List.all_eq_true, Bool.or_eq_true] at h
  obtain ⟨⟨h1, h2⟩, h3⟩ := h
  have hpl : (W.reg.later k ks).people.length = W.reg.people.length + k.toList.length := by
    show (W.reg.people ++ k.toList).length = _
    rw [List.length_append]
  have hfl : (W.reg.later k ks).friends.length = W.reg.friends.length + ks.length := by
    show (W.reg.friends ++ ks.map _).length = _
    rw [List.length_append, List.length_map]
  have ho : (Wo.owners { W with reg := W.reg.later k ks }) = W.owners := by
    rw [owners_eq, owners_eq]
    show W.gave.filterMap (W.reg.later k ks).own = _
    have : ∀ l : List Nat, (∀ f ∈ l, f < W.reg.friends.length) → l.filterMap (W.reg.later k ks).own = l.filterMap W.reg.own := by
      intro l
      induction l with
      | nil => intro _; rfl
      | cons f l ih =>
        intro hl
        have e := own_later (k := k) (ks := ks) (hl f List.mem_cons_self)
        have ih := ih fun g hg => hl g (List.mem_cons_of_mem _ hg)
        cases e2 : W.reg.own f with
        | none => rw [List.filterMap_cons_none (e.trans e2), List.filterMap_cons_none e2, ih]
        | some o => rw [List.filterMap_cons_some (e.trans e2), List.filterMap_cons_some e2, ih]
    exact this _ I.gaveL
  refine { I with barred := (by have := I.barred; show W.reg.barred.length ≤ 63 + (n + 1); omega), away := (by have := I.away; show W.away.length ≤ n + 1; omega), people := ?_, friends := ?_, kind := ?_, own := ?_, gotL := ?_, gaveL := ?_, ownN := ?_, ownS := ?_, due := ?_ }
  · show (W.reg.later k ks).people.length ≤ 60
    rw [hpl]
    have := I.people
    cases k with
    | none => simp; omega
    | some k =>
      have : W.reg.people.length < 60 := by
        rcases h1 with h1 | h1
        · cases h1
        · exact h1.2
      simp
      omega
  · show (W.reg.later k ks).friends.length ≤ 120
    rw [hfl]
    exact h3
  · intro x hx
    rcases List.mem_append.mp (show x ∈ W.reg.friends ++ ks.map _ from hx) with hx | hx
    · exact I.kind x hx
    · obtain ⟨i, hi, e⟩ := List.mem_map.mp hx
      rw [← e]
      exact h2 i hi
  · intro x hx o hxo
    show o < (W.reg.later k ks).people.length
    rw [hpl]
    rcases List.mem_append.mp (show x ∈ W.reg.friends ++ ks.map _ from hx) with hx | hx
    · have := I.own x hx o hxo
      omega
    · obtain ⟨i, hi, e⟩ := List.mem_map.mp hx
      rw [← e] at hxo
      cases k with
      | none => cases hxo
      | some k =>
        have hxo : some W.reg.people.length = some o := hxo
        cases hxo
        simp
  · intro p hp
    have := I.gotL p hp
    show p < (W.reg.later k ks).people.length
    omega
  · intro f hf
    have := I.gaveL f hf
    show f < (W.reg.later k ks).friends.length
    omega
  · rw [ho]; exact I.ownN
  · rw [ho]; exact I.ownS
  · show firsts W.due = Wo.waits { W with reg := W.reg.later k ks }
    rw [I.due]
    unfold Wo.waits
    rw [ho]
    exact List.filter_congr fun p hp => by rw [ofP_later (I.gotL p hp)]
theorem Inv.step (I : Inv n W bk) {d : De} (h : W.okD d = true) (s : Step W d W') : Inv (n + 1) W' (bk ++ d.gifts) := by
  have hb := I.barred
  have ha := I.away
  cases s with
  | test0 f p l hl =>
    rw [show bk ++ De.gifts (.test f p false) = bk from List.append_nil _]
    exact { I with barred := by show l.length ≤ 63 + (n + 1); omega, away := by show W.away.length ≤ n + 1; omega }
  | test1 f p =>
    rw [show bk ++ De.gifts (.test f p true) = bk from List.append_nil _]
    exact I.mono (by omega)
  | ring ts => exact I.ring (ringOk h)
  | link t => exact I.link (linkOk h)
  | away p =>
    rw [show bk ++ De.gifts (.away p) = bk from List.append_nil _]
    exact { I with barred := by show W.reg.barred.length ≤ 63 + (n + 1); omega, away := by show (sortN (W.away ++ [p])).length ≤ n + 1; rw [sortN_len, List.length_append, List.length_singleton]; omega }
  | back p =>
    rw [show bk ++ De.gifts (.back p) = bk from List.append_nil _]
    exact { I with barred := by show W.reg.barred.length ≤ 63 + (n + 1); omega, away := by show (W.away.filter _).length ≤ n + 1; have := List.length_filter_le (fun q => !decide (q = p)) W.away; omega }
  | come k ks =>
    rw [show bk ++ De.gifts (.come k ks) = bk from List.append_nil _]
    exact I.come h
  | day =>
    rw [show bk ++ De.gifts .day = bk from List.append_nil _]
    exact { I with barred := by show W.reg.barred.length ≤ 63 + (n + 1); omega, away := by show W.away.length ≤ n + 1; omega, days := fun q hq => by have := I.days q hq; show q.2 ≤ W.day + 1; omega }
/-- what the law asks of each gift -/
structure GiftOk (W W' : Wo) (bk gs : List (Nat × Nat)) (t : Nat × Nat) : Prop where
  f : t.1 < W.reg.friends.length
  f' : t.1 < W'.reg.friends.length
  p : t.2 < W.reg.people.length
  nb : t.2 ∉ seconds bk
  nf : t.1 ∉ firsts bk
  tie : W.reg.tie t.1 t.2 = true
  ng : t.2 ∉ W.got
  na : t.2 ∉ W.away
  own : ∀ o, W'.reg.own t.1 = some o → o ∈ seconds bk ∨ o ∈ seconds gs
theorem Inv.gifts (I : Inv n W bk) {d : De} (h : W.okD d = true) (s : Step W d W') : ∀ t ∈ d.gifts, GiftOk W W' bk d.gifts t := by
  have mg : ∀ p, p ∈ W.got ↔ p ∈ seconds bk := fun p => by rw [I.got]; exact (sortN_perm _).mem_iff
  have mv : ∀ f, f ∈ W.gave ↔ f ∈ firsts bk := fun p => by rw [I.gave]; exact (sortN_perm _).mem_iff
  cases s with
  | ring ts =>
    have R := ringOk h
    intro t ht
    have ht : t ∈ ts := ht
    obtain ⟨t1, t2, t3⟩ := R.tie t ht
    have hs : t.2 ∈ seconds ts := List.mem_map.mpr ⟨t, ht, rfl⟩
    obtain ⟨_, l2, l3⟩ := mem_left.mp (R.left _ hs)
    have hown : ∃ o ∈ seconds ts, W.reg.own t.1 = some o := by
      have : W.reg.own t.1 ∈ (seconds ts).map some := R.own.mem_iff.mp (List.mem_map.mpr ⟨t, ht, rfl⟩)
      obtain ⟨o, ho, e⟩ := List.mem_map.mp this
      exact ⟨o, ho, e.symm⟩
    obtain ⟨o, ho, eo⟩ := hown
    refine ⟨t1, t1, t2, fun z => l2 ((mg _).mpr z), fun z => ?_, t3, l2, l3, fun o' ho' => ?_⟩
    · exact (mem_left.mp (R.left o ho)).2.1 (I.ownS o (mem_owners.mpr ⟨_, (mv _).mpr z, eo⟩))
    · have ho' : W.reg.own t.1 = some o' := ho'
      rw [eo] at ho'
      cases ho'
      exact .inr ho
  | link t =>
    have R := linkOk h
    intro t' ht
    have e : t' = t := List.mem_singleton.mp ht
    subst e
    obtain ⟨_, l2, l3⟩ := mem_left.mp R.left
    refine ⟨R.f, R.f, R.p, fun z => l2 ((mg _).mpr z), fun z => ?_, R.tie, l2, l3, fun o ho => ?_⟩
    · rcases R.own with ⟨_, h2⟩ | ⟨o, h1, h2⟩
      · exact h2 ((mv _).mpr z)
      · rw [I.due] at h2
        exact (mem_waits.mp h2).2.2 (mem_owners.mpr ⟨_, (mv _).mpr z, h1⟩)
    · have ho : W.reg.own t'.1 = some o := ho
      rcases R.own with ⟨h1, _⟩ | ⟨o', h1, h2⟩
      · rw [h1] at ho; cases ho
      · rw [h1] at ho
        cases ho
        rw [I.due] at h2
        exact .inl ((mg _).mp (mem_waits.mp h2).1)
  | _ => intro t ht; cases ht
theorem nday {x : Str} (h : ¬ x = "day") (n : Nat) : n = n + if x = "day" then 1 else 0 := by rw [if_neg h]; rfl
theorem step_day {d : De} (s : Step W d W') : W'.day = W.day + if d.nm = "day" then 1 else 0 := by
  cases s with
  | day => exact (congrArg (fun z => W.day + z) (if_pos rfl)).symm
  | test0 f p l hl => exact nday (x := "test") (show ¬ (("test" : Str) = "day") by decide +kernel) W.day
  | test1 f p => exact nday (x := "test") (show ¬ (("test" : Str) = "day") by decide +kernel) W.day
  | ring ts => exact nday (x := "ring") (show ¬ (("ring" : Str) = "day") by decide +kernel) W.day
  | link t => exact nday (x := "link") (show ¬ (("link" : Str) = "day") by decide +kernel) W.day
  | away p => exact nday (x := "away") (show ¬ (("away" : Str) = "day") by decide +kernel) W.day
  | back p => exact nday (x := "back") (show ¬ (("back" : Str) = "day") by decide +kernel) W.day
  | come k ks => exact nday (x := "come") (show ¬ (("come" : Str) = "day") by decide +kernel) W.day
/-- the ring's owners are its people -/
theorem ring_owners (I : Inv n W bk) {ts : List (Nat × Nat)} (h : W.okD (.ring ts) = true) (s : Step W (.ring ts) W') : ∃ os : List Nat, (ts.map fun t => W'.reg.own t.1) = os.map some ∧ sortN os = sortN (seconds ts) := by
  have R := ringOk h
  have e : W'.reg = W.reg := by cases s; rfl
  rw [e]
  have : ∀ l : List (Nat × Nat), (∀ t ∈ l, ∃ o, W.reg.own t.1 = some o) → ∃ os : List Nat, (l.map fun t => W.reg.own t.1) = os.map some := by
    intro l
    induction l with
    | nil => intro _; exact ⟨[], rfl⟩
    | cons t l ih =>
      intro h
      obtain ⟨o, ho⟩ := h t List.mem_cons_self
      obtain ⟨os, e⟩ := ih fun u hu => h u (List.mem_cons_of_mem _ hu)
      exact ⟨o :: os, by rw [List.map_cons, e, ho]; rfl⟩
  obtain ⟨os, eos⟩ := this ts fun t ht => by
    have : W.reg.own t.1 ∈ (seconds ts).map some := R.own.mem_iff.mp (List.mem_map.mpr ⟨t, ht, rfl⟩)
    obtain ⟨o, _, e⟩ := List.mem_map.mp this
    exact ⟨o, e.symm⟩
  refine ⟨os, eos, ?_⟩
  have hp : (os.map some).Perm ((seconds ts).map some) := by rw [← eos]; exact R.own
  have hp2 := hp.filterMap id
  rw [List.filterMap_map, List.filterMap_map] at hp2
  have hp3 : os.Perm (seconds ts) := by
    have e1 : os.filterMap (id ∘ some) = os := List.filterMap_some
    have e2 : (seconds ts).filterMap (id ∘ some) = seconds ts := List.filterMap_some
    rw [e1, e2] at hp2
    exact hp2
  exact sorted_perm_eq ((sortN_perm _).trans (hp3.trans (sortN_perm _).symm)) (sortN_pw _) (sortN_pw _)
end
/-- at the start -/
theorem Inv.start {r : Reg} (h : r.Ok0) : Inv 0 ⟨0, r, [], [], [], []⟩ [] where
  fits := h.fits
  fits4 := h.fits4
  people := by have := h.people; show r.people.length ≤ 60; omega
  friends := by have := h.friends; show r.friends.length ≤ 120; omega
  barred := h.barred
  kind := h.kind
  own := h.own
  got := by simp [sortN, seconds]
  gave := by simp [sortN, firsts]
  gotN := List.nodup_nil
  gotL := fun _ z => by cases z
  gaveL := fun _ z => by cases z
  ownN := List.nodup_nil
  ownS := fun _ z => by cases z
  due := rfl
  days := fun _ z => by cases z
  away := Nat.le_refl _
end Gv

namespace Gv
open PySem PySem.Spec PyProof.Rows L2
theorem passL {X : Cx} : Passes (L2.CX X.prog X.w) X E0 := fun _ _ _ _ _ _ _ ⟨_, _, _, _, _, _, _, _, _, _, _, _, h⟩ => h.elim
def spLaw (K : PySem.W.Frag) : Sp := fun vs H Q _ => ∃ (a : Addr) (ns : List Int), vs = [.ref a] ∧ SqL K H a (ns.map V.int) ∧ ∀ H', Q (.bl true) H'
section
variable {K : PySem.W.Frag} {R : Rg} {W : Addr → Prop} {E : XK} {C : Addr} {M : Addr → Prop} {H H' : Hp} {r : REnv} {te ta tb : TE} {tt : TT} {ts tu : TS} {N N' : REnv → Prop} {Rt Rt' : D → Prop} {X : Prop} {x : D}
theorem run_asgTP {g : TG} {P : D → Prop} (h : Ev K R te r P) (k : ∀ d, P d → ∃ js f, TgD K g d js f ∧ N (f r)) : Run K C R W E (tAsg te g) r N Rt X := fun M σ H De h1 h2 ok inv e kn kr kx =>
  h M σ H (fun p z => h2 p (h1 p z)) ok inv e _ fun v H' d pd s i' hd => by
    obtain ⟨js, f, tg, n⟩ := k d pd
    exact tg R.m M H' σ r v _ (e.stp (fun p z => h2 p (h1 p z)) s) hd fun σ' e' _ => kn σ' H' _ n (s.mono h1) i' e'
theorem env_none {rm : Addr → Prop} {σ : L2.St} : EnvOk K rm M H σ (List.replicate σ.length none) := ⟨by rw [List.length_replicate], fun i o s h1 h2 => by
  rw [List.getElem?_replicate] at h2
  split at h2
  · cases h2; trivial
  · cases h2⟩
/-- [x for a pair in a list of pairs] -/
theorem ef_pairs {te : TE} {i j : Nat} {vs : List Nat} {l : List (Nat × Nat)} {f : Nat × Nat → D} (h : Ev K R ta r (· = ePL l)) (hz : l.length ≤ 16777215) (hi1 : i ∈ vs) (hj : j ∈ vs)
    (he : ∀ x ∈ l, Ev K R te (((wipeR r vs).set i (some (.d (eN x.1)))).set j (some (.d (eN x.2)))) (· = f x)) : EvF K R (tLc (iList K ta) (gTup K 2 (gCons (gName i) (gCons (gName j) gNil))) tYes te vs) r (· = l.map f) := by
  have := ef_lcP (l := l) (e1 := fun x => eN x.1) (e2 := fun x => eN x.2) (b := fun _ => true) (f := f) (tt := tYes) (ei_lst h) (szB hz) hi1 hj (fun _ _ => et_yes) fun x hx _ => he x hx
  have e : l.filter (fun _ => true) = l := List.filter_eq_self.mpr fun _ _ => rfl
  rw [e] at this
  exact this
theorem ef_seconds {i j : Nat} {vs : List Nat} {l : List (Nat × Nat)} (h : Ev K R ta r (· = ePL l)) (hz : l.length ≤ 16777215) (hi1 : i ∈ vs) (hj : j ∈ vs) (hg : ∀ x : Nat × Nat, (((wipeR r vs).set i (some (.d (eN x.1)))).set j (some (.d (eN x.2))))[j]? = some (some (.d (eN x.2)))) :
    EvF K R (tLc (iList K ta) (gTup K 2 (gCons (gName i) (gCons (gName j) gNil))) tYes (tVar j) vs) r (· = (seconds l).map eN) := by
  have := ef_pairs (te := tVar j) (f := fun x => eN x.2) h hz hi1 hj fun x _ => ev_var (hg x)
  unfold seconds
  rw [List.map_map]
  exact this
theorem ef_firsts {i j : Nat} {vs : List Nat} {l : List (Nat × Nat)} (h : Ev K R ta r (· = ePL l)) (hz : l.length ≤ 16777215) (hi1 : i ∈ vs) (hj : j ∈ vs) (hg : ∀ x : Nat × Nat, (((wipeR r vs).set i (some (.d (eN x.1)))).set j (some (.d (eN x.2))))[i]? = some (some (.d (eN x.1)))) :
    EvF K R (tLc (iList K ta) (gTup K 2 (gCons (gName i) (gCons (gName j) gNil))) tYes (tVar i) vs) r (· = (firsts l).map eN) := by
  have := ef_pairs (te := tVar i) (f := fun x => eN x.1) h hz hi1 hj fun x _ => ev_var (hg x)
  unfold firsts
  rw [List.map_map]
  exact this
end
theorem run_go {K : PySem.W.Frag} {R : Rg} {E : XK} {C : Addr} {H : Hp} {r : REnv} {t : TS} {De : Ends} {σ : L2.St} (run : Run K C R R.m E t r (fun _ => False) (· = .bl true) False) (ok : Ok R.m H) (inv : R.inv H) (env : EnvOk K R.m R.m H σ r) (q : ∀ H', De.rt (.bl true) H') : t De σ H :=
  run R.m σ H De (fun _ z => z) (fun _ z => z) ok inv env (fun _ _ _ z => z.elim) (fun v H' d ed _ _ iv => by
    subst ed
    cases iv
    exact q H') (fun z => z.elim)
theorem sortN_idem {l m : List Nat} (h : l.Perm m) : sortN l = sortN m := sorted_perm_eq ((sortN_perm _).trans (h.trans (sortN_perm _).symm)) (sortN_pw _) (sortN_pw _)
theorem De.Sm.sz {d : De} (h : d.Sm) : d.Sz := by
  cases d with
  | ring ts => have h : ts.length ≤ 100 := h; show ts.length ≤ 1000; omega
  | come k ks => have h : ks.length ≤ 2 := h; show ks.length ≤ 1000; omega
  | _ => trivial
theorem De.Sm.gifts {d : De} (h : d.Sm) : d.gifts.length ≤ 100 := by
  cases d with
  | ring ts => exact h
  | link t => show 1 ≤ 100; omega
  | _ => exact Nat.zero_le _
end Gv

namespace Gv
open PySem PySem.Spec PyProof.Rows L2
section
variable {P : Program} {w : World} {K : PySem.W.Frag} {mg : Str → Option Value} {base : Heap} {C : Addr}

theorem sc_law : FnScope ["_law_script", "_law_deal", "_law_registry_here", "_law_world", "_law_books", "_law_turn", "_law_deed", "_law_later", "_law_gifts_here", "_law_friend", "_law_person", "_law_owner", "_law_before", "_law_people", "_law_far", "_law_one"] ["_law_script"] (defScope s_law) := ⟨rfl, rfl, rfl, by decide +kernel, rfl, by decide +kernel, by decide +kernel⟩
theorem ok_law {f : Addr} {fd : FuncData} (F : FnP K "law" s_law f fd) (T : Nms K mg) (c_l_draw : C_l_draw P w K mg base C) (c_l_registry : C_l_registry P w K mg base C) (c_start_world : C_start_world P w K mg base C) (c_l_some_deed : C_l_some_deed P w K mg base C) (c_can_do : C_can_do P w K mg base C) (c_l_gifts : C_l_gifts P w K mg base C) (c_do_deed : C_do_deed P w K mg base C) (c_l_holds : C_l_holds P w K mg base C) (c_l_tie_in : C_l_tie_in P w K mg base C) : FnOk P w K mg base CX0 11 f fd ["_law_script"] (spLaw K) := by
  refine F.ok sc_law (fun vs H Q E h => by obtain ⟨a, ns, rfl, _⟩ := h; rfl) fun cdv A outer s H vs Q E hr h => ⟨_, PSs.nox (pss_cons (ps_set (i := 1) sc_law.nd rfl (Or.inl rfl) (pe_calc c_l_draw (hr.mono (by decide)) rfl pass0 (pa_cons (pv 0) (pa_cons pe_int pa_nil))))
    (pss_cons (ps_set (i := 2) sc_law.nd rfl (Or.inl rfl) (pe_calc c_l_registry (hr.mono (by decide)) rfl pass0 (pa_cons (pv 1) pa_nil)))
    (pss_cons (ps_par (i := 3) (j := 4) rfl sc_law.nd rfl rfl (by decide) rfl rfl (pa_cons (pe_calc c_start_world (hr.mono (by decide)) rfl pass0 (pa_cons (pv 2) pa_nil)) (pa_cons (pe_lst pa_nil) pa_nil)) rfl)
    (pss_cons (ps_for PassesOwn.never rfl (pi_range1 rfl T.range (pa_cons pe_int pa_nil)) (pg_name (i := 5) sc_law.nd rfl (Or.inl rfl)) (pss_cons (ps_set (i := 6) sc_law.nd rfl (Or.inl rfl) (pe_calc c_l_some_deed (hr.mono (by decide)) rfl pass0 (pa_cons (pv 1) (pa_cons (pv 3) pa_nil))))
    (pss_one (ps_if (pt_val (pe_calc c_can_do (hr.mono (by decide)) rfl pass0 (pa_cons (pv 3) (pa_cons (pv 6) pa_nil)))) (pss_cons (ps_asg (pe_tup (pa_cons (pe_calc c_do_deed (hr.mono (by decide)) rfl passL (pa_cons (pv 3) (pa_cons (pv 6) pa_nil))) (pa_cons (pe_calc c_l_gifts (hr.mono (by decide)) rfl pass0 (pa_cons (pv 6) pa_nil)) pa_nil))) (pg_tup rfl (pgs_cons (pg_name (i := 7) sc_law.nd rfl (Or.inr rfl)) (pgs_cons (pg_name (i := 8) sc_law.nd rfl (Or.inl rfl)) pgs_nil))))
    (pss_cons (ps_if (PW.pt (pw_or (pt_not (pt_val (pe_calc c_l_holds (hr.mono (by decide)) rfl pass0 (pa_cons (pv 7) pa_nil)))) (pw_or1 (pt_cmpR op_ne (pe_ix ix_tup (pv 7) pe_int (fun _ _ => rfl)) (pe_op op_add (pe_ix ix_tup (pv 3) pe_int (fun _ _ => rfl)) (pe_ifExp (pt_cmpR op_eq (pe_ix ix_tup (pv 6) pe_int (fun _ _ => rfl)) pe_str (nomark _)) pe_int pe_int)) (nomark _))))) (pss_one (ps_ret pe_bl)) pss_nil)
    (pss_cons (ps_for PassesOwn.never rfl (pi_list (pv 8)) (pg_tup rfl (pgs_cons (pg_name (i := 9) sc_law.nd rfl (Or.inl rfl)) (pgs_cons (pg_name (i := 10) sc_law.nd rfl (Or.inl rfl)) pgs_nil))) (pss_cons (ps_set (i := 11) sc_law.nd rfl (Or.inl rfl) (pe_ix ix_tup (pe_ix ix_tup (pe_ix ix_tup (pe_ix ix_tup (pv 7) pe_int (fun _ _ => rfl)) pe_int (fun _ _ => rfl)) (pv 9) (fun _ _ => rfl)) pe_int (fun _ _ => rfl)))
    (pss_cons (ps_if (PW.pt (pw_or (pt_cmpR op_in_seq (pv 10) (pe_lc (own := [("_law_far", 14), ("_law_one", 15)]) (g := (gTup _ 2 (gCons (gName 14) (gCons (gName 15) gNil)))) (tt := tYes) rfl sc_law.nd (pi_list (pv 4)) (blkOk_by (own := [("_law_far", 14), ("_law_one", 15)]) (by kernel_rfl)) (fun _ _ _ _ _ => (pg_tup rfl (pgs_cons (pg_name (i := 14) sc_law.nd rfl (Or.inl rfl)) (pgs_cons (pg_name (i := 15) sc_law.nd rfl (Or.inl rfl)) pgs_nil)))) (fun _ _ _ _ _ => pts_nil) (fun _ _ _ _ _ => (pv 15))) rfl) (pw_or1 (pt_cmpR op_in_seq (pv 9) (pe_lc (own := [("_law_far", 14), ("_law_one", 15)]) (g := (gTup _ 2 (gCons (gName 14) (gCons (gName 15) gNil)))) (tt := tYes) rfl sc_law.nd (pi_list (pv 4)) (blkOk_by (own := [("_law_far", 14), ("_law_one", 15)]) (by kernel_rfl)) (fun _ _ _ _ _ => (pg_tup rfl (pgs_cons (pg_name (i := 14) sc_law.nd rfl (Or.inl rfl)) (pgs_cons (pg_name (i := 15) sc_law.nd rfl (Or.inl rfl)) pgs_nil)))) (fun _ _ _ _ _ => pts_nil) (fun _ _ _ _ _ => (pv 14))) rfl)))) (pss_one (ps_ret pe_bl)) pss_nil)
    (pss_cons (ps_if (PW.pt (pw_or (pt_not (pt_val (pe_calc c_l_tie_in (hr.mono (by decide)) rfl pass0 (pa_cons (pe_ix ix_tup (pv 3) pe_int (fun _ _ => rfl)) (pa_cons (pv 9) (pa_cons (pv 10) pa_nil)))))) (pw_or (pt_cmpR op_in_seq (pv 10) (pe_ix ix_tup (pv 3) pe_int (fun _ _ => rfl)) rfl) (pw_or1 (pt_cmpR op_in_seq (pv 10) (pe_ix ix_tup (pv 3) pe_int (fun _ _ => rfl)) rfl))))) (pss_one (ps_ret pe_bl)) pss_nil)
    (pss_cons (ps_setLc (i := 12) (own := [("_law_far", 14), ("_law_one", 15)]) (g := (gTup _ 2 (gCons (gName 14) (gCons (gName 15) gNil)))) (tt := tYes) rfl sc_law.nd rfl rfl (sw_true rfl rfl rfl (by decide +kernel)) (pi_list (pv 4)) (blkOk_by (own := [("_law_far", 14), ("_law_one", 15)]) (by kernel_rfl)) (fun _ _ _ _ _ => (pg_tup rfl (pgs_cons (pg_name (i := 14) sc_law.nd rfl (Or.inl rfl)) (pgs_cons (pg_name (i := 15) sc_law.nd rfl (Or.inl rfl)) pgs_nil)))) (fun _ _ _ _ _ => pts_nil) (fun _ _ _ _ _ => (pv 15)))
    (pss_one (ps_if (PW.pt (pw_and (pt_cmpR op_notN (pv 11) pe_non (nomark _)) (pw_and (pt_cmpR op_notIn_seq (pv 11) (pv 12) rfl) (pw_and1 (pt_cmpR op_notIn_seq (pv 11) (pe_lc (own := [("_law_far", 14), ("_law_one", 15)]) (g := (gTup _ 2 (gCons (gName 14) (gCons (gName 15) gNil)))) (tt := tYes) rfl sc_law.nd (pi_list (pv 8)) (blkOk_by (own := [("_law_far", 14), ("_law_one", 15)]) (by kernel_rfl)) (fun _ _ _ _ _ => (pg_tup rfl (pgs_cons (pg_name (i := 14) sc_law.nd rfl (Or.inl rfl)) (pgs_cons (pg_name (i := 15) sc_law.nd rfl (Or.inl rfl)) pgs_nil)))) (fun _ _ _ _ _ => pts_nil) (fun _ _ _ _ _ => (pv 15))) rfl))))) (pss_one (ps_ret pe_bl)) pss_nil)))))))
    (pss_cons (ps_set (i := 13) sc_law.nd rfl (Or.inl rfl) (pe_callB (id := "sorted") cr_sortedI rfl T.sorted (by decide +kernel) (pa_cons (pe_lc (own := [("_law_friend", 9), ("_law_person", 10)]) (g := (gTup _ 2 (gCons (gName 9) (gCons (gName 10) gNil)))) (tt := tYes) rfl sc_law.nd (pi_list (pv 8)) (blkOk_by (own := [("_law_friend", 9), ("_law_person", 10)]) (by kernel_rfl)) (fun _ _ _ _ _ => (pg_tup rfl (pgs_cons (pg_name (i := 9) sc_law.nd rfl (Or.inl rfl)) (pgs_cons (pg_name (i := 10) sc_law.nd rfl (Or.inl rfl)) pgs_nil)))) (fun _ _ _ _ _ => pts_nil) (fun _ _ _ _ _ => (pv 10))) pa_nil)))
    (pss_cons (ps_if (PW.pt (pw_and (pt_cmpR op_eq (pe_ix ix_tup (pv 6) pe_int (fun _ _ => rfl)) pe_str (nomark _)) (pw_and1 (pt_cmpR (op_neD hr.units) (pe_callB (id := "sorted") cr_sortedI rfl T.sorted (by decide +kernel) (pa_cons (pe_lc (own := [("_law_friend", 9), ("_law_person", 10)]) (g := (gTup _ 2 (gCons (gName 9) (gCons (gName 10) gNil)))) (tt := tYes) (te := (tOp (rIxT K) (tOp (rIxT K) (tOp (rIxT K) (tOp (rIxT K) (tVar 7) (tC (.int 1))) (tC (.int 2))) (tVar 9)) (tC (.int 1)))) rfl sc_law.nd (pi_list (pv 8)) (blkOk_by (own := [("_law_friend", 9), ("_law_person", 10)]) (by kernel_rfl)) (fun _ _ _ _ _ => (pg_tup rfl (pgs_cons (pg_name (i := 9) sc_law.nd rfl (Or.inl rfl)) (pgs_cons (pg_name (i := 10) sc_law.nd rfl (Or.inl rfl)) pgs_nil)))) (fun _ _ _ _ _ => pts_nil) (fun _ _ _ _ _ => (pe_ix ix_tup (pe_ix ix_tup (pe_ix ix_tup (pe_ix ix_tup (pv 7) pe_int (fun _ _ => rfl)) pe_int (fun _ _ => rfl)) (pv 9) (fun _ _ => rfl)) pe_int (fun _ _ => rfl)))) pa_nil)) (pv 13) (nomark _))))) (pss_one (ps_ret pe_bl)) pss_nil)
    (pss_cons (ps_set (i := 4) sc_law.nd rfl (Or.inl rfl) (pe_op op_cat (pv 4) (pv 8)))
    (pss_cons (ps_if (pt_cmpR (op_neD hr.units) (pe_callB (id := "sorted") cr_sortedI rfl T.sorted (by decide +kernel) (pa_cons (pe_lc (own := [("_law_friend", 9), ("_law_person", 10)]) (g := (gTup _ 2 (gCons (gName 9) (gCons (gName 10) gNil)))) (tt := tYes) rfl sc_law.nd (pi_list (pv 4)) (blkOk_by (own := [("_law_friend", 9), ("_law_person", 10)]) (by kernel_rfl)) (fun _ _ _ _ _ => (pg_tup rfl (pgs_cons (pg_name (i := 9) sc_law.nd rfl (Or.inl rfl)) (pgs_cons (pg_name (i := 10) sc_law.nd rfl (Or.inl rfl)) pgs_nil)))) (fun _ _ _ _ _ => pts_nil) (fun _ _ _ _ _ => (pv 10))) pa_nil)) (pe_callTy (T := "list") call_list_of rfl T.list (by decide +kernel) (pa_cons (pe_ix ix_tup (pv 7) pe_int (fun _ _ => rfl)) pa_nil)) (nomark _)) (pss_one (ps_ret pe_bl)) pss_nil)
    (pss_cons (ps_if (pt_cmpR (op_neD hr.units) (pe_callB (id := "sorted") cr_sortedI rfl T.sorted (by decide +kernel) (pa_cons (pe_lc (own := [("_law_friend", 9), ("_law_person", 10)]) (g := (gTup _ 2 (gCons (gName 9) (gCons (gName 10) gNil)))) (tt := tYes) rfl sc_law.nd (pi_list (pv 4)) (blkOk_by (own := [("_law_friend", 9), ("_law_person", 10)]) (by kernel_rfl)) (fun _ _ _ _ _ => (pg_tup rfl (pgs_cons (pg_name (i := 9) sc_law.nd rfl (Or.inl rfl)) (pgs_cons (pg_name (i := 10) sc_law.nd rfl (Or.inl rfl)) pgs_nil)))) (fun _ _ _ _ _ => pts_nil) (fun _ _ _ _ _ => (pv 9))) pa_nil)) (pe_callTy (T := "list") call_list_of rfl T.list (by decide +kernel) (pa_cons (pe_ix ix_tup (pv 7) pe_int (fun _ _ => rfl)) pa_nil)) (nomark _)) (pss_one (ps_ret pe_bl)) pss_nil)
    (pss_one (ps_set (i := 3) sc_law.nd rfl (Or.inl rfl) (pv 7))))))))))) pss_nil))))
    (pss_one (ps_ret pe_bl)))))), by
    obtain ⟨a0, ns0, rfl, hS, hQ⟩ := h
    refine ⟨_, rfl, a0, ns0, (scrR K a0 ns0).m, [.adr a0, eN 56], _, fun _ z => z, scrR_ok hS, hS, .cons (.adr a0) (.cons (.int _) .nil), ⟨56, rfl, by decide, rfl⟩, ?_⟩
    rintro v H1 d ⟨cs, k, hcs, hk, rfl⟩ s1 i1 d1
    obtain ⟨a, xs, rfl, ha, hx⟩ := isV_lst (rm := (scrR K a0 ns0).m) (.inl d1)
    cases hx with
    | cons hx1 hx2 =>
    cases hx2 with
    | cons hx2 hx3 =>
    cases hx3
    cases hx2
    obtain ⟨b, ys, rfl, hb, hy⟩ := isV_lst (rm := (scrR K a0 ns0).m) (.inl hx1)
    have ey := hy.nats
    subst ey
    have hab : a ≠ b := fun z => by
      rw [z, hb] at ha
      cases cs with
      | nil => cases ha
      | cons c cs => cases ha
    have deal : DealAt a b cs k H1 := ⟨hab, by omega, hk, ha, hb⟩

    have okR : Ok (dealR a b).m H1 := fun q hq => by
      rcases hq with e | e
      · rw [e, deal.ha]; nofun
      · rw [e, deal.hb]; nofun
    have env : EnvOk K (dealR a b).m (dealR a b).m H1 (((L2.start ["_law_script", "_law_deal", "_law_registry_here", "_law_world", "_law_books", "_law_turn", "_law_deed", "_law_later", "_law_gifts_here", "_law_friend", "_law_person", "_law_owner", "_law_before", "_law_people", "_law_far", "_law_one"] [V.ref a0]).set 1 (some (.ref a)))) (slD [none, some (.adr a), none, none, none, none, none, none, none, none, none, none, none, none, none, none]) :=
      (env_none (σ := L2.start ["_law_script", "_law_deal", "_law_registry_here", "_law_world", "_law_books", "_law_turn", "_law_deed", "_law_later", "_law_gifts_here", "_law_friend", "_law_person", "_law_owner", "_law_before", "_law_people", "_law_far", "_law_one"] [V.ref a0])).set (i := 1) (.adr a)
    show (tSeq _ _) _ _ H1
    refine run_go (C := C) (E := E0) ?_ okR ⟨cs, k, deal⟩ env hQ
    refine run_letP (ev_callR1 (ea_c (ev_var rfl) ea_nil) ⟨rfl, trivial, rfl⟩) fun d ⟨rg, hrg, e⟩ => ?_
    subst e
    refine run_parL (x := eW ⟨0, rg, [], [], [], []⟩) (y := ePL []) (ea_c (ev_call1 (ea_c (ev_var rfl) ea_nil) ⟨rg, rfl, rfl⟩) (ea_c (ev_lst ea_nil fun ds e => by rw [e]; exact sz0).v1 ea_nil)) ?_
    refine run_seq (N := fun _ => True)
      (run_for (α := Nat) (enc := eN) (P := (· = List.range 30)) ((ei_rng1 (n := 30) ev_int (by decide)).imp fun ds e => ⟨List.range 30, rfl, e⟩) (fun _ z => z)
        (fun l i r' => ∃ (W : Wo) (bk : List (Nat × Nat)), Inv i W bk ∧ bk.length ≤ i * 100 ∧ ∃ x5 x6 x7 x8 x9 x10 x11 x12 x13 x14 x15 : Option D, r' = slD [none, some (.adr a), some (eReg rg), some (eW W), some (ePL bk), x5, x6, x7, x8, x9, x10, x11, x12, x13, x14, x15])
        (fun l e => ⟨⟨0, rg, [], [], [], []⟩, [], .start hrg, Nat.le_refl _, none, none, none, none, none, none, none, none, none, none, none, rfl⟩)
        (fun l e i x r' hx ⟨W, bk, I, hbk, x5, x6, x7, x8, x9, x10, x11, x12, x13, x14, x15, e2⟩ => ?_)
        (fun l e r' h => trivial)) fun r' _ => run_ret1 ev_bl rfl
    subst e2; subst e
    have hi : i < 30 := by
      have := (List.getElem?_eq_some_iff.mp hx).1
      rw [List.length_range] at this
      exact this
    have wf := I.wf (by omega)
    have hft := I.fits
    have hf4 := I.fits4
    refine ⟨_, _, tg_name, ?_⟩
    refine run_letP (ev_callR1 (ea_c (ev_var rfl) (ea_c (ev_var rfl) ea_nil)) ⟨1000, W, rfl, ⟨wf, hft, by omega⟩, rfl⟩) fun d ⟨dd, hdd, e⟩ => ?_
    subst e
    have hgl := hdd.gifts
    refine run_if1 (et_test1 (ev_call1 (ea_c (ev_var rfl) (ea_c (ev_var rfl) ea_nil)) ⟨1000, W, dd, rfl, ⟨wf, hdd.sz⟩, rfl⟩)) (fun hok => ?_) fun _ => run_next ⟨W, bk, I.mono (by omega), by omega, some (eN x), some (eD dd), x7, x8, x9, x10, x11, x12, x13, x14, x15, rfl⟩
    refine run_seq (N := fun r' => ∃ W' : Wo, Step W dd W' ∧ r' = slD [none, some (.adr a), some (eReg rg), some (eW W), some (ePL bk), some (eN x), some (eD dd), some (eW W'), some (ePL dd.gifts), x9, x10, x11, x12, x13, x14, x15]) (run_asgTP (P := fun d => ∃ W' : Wo, Step W dd W' ∧ d = .tup [eW W', ePL dd.gifts]) ((ev_pairD (Pa := fun d => ∃ W' : Wo, Step W dd W' ∧ d = eW W') (Pb := (· = ePL dd.gifts)) (ev_callP (ea_c (ev_var rfl) (ea_c (ev_var rfl) ea_nil)) fun ds e => ⟨1000, W, dd, e, ⟨wf, hdd.sz⟩, (if_pos hok).symm⟩) (ev_call1 (ea_c (ev_var rfl) ea_nil) ⟨dd, rfl, rfl⟩)).imp fun d ⟨x, y, ⟨W', hs, e1⟩, e2, e3⟩ => ⟨W', hs, by rw [e3, e1, e2]⟩) fun d ⟨W', hs, e⟩ => e ▸ ⟨_, _, tg_tup2, W', hs, rfl⟩) fun r' ⟨W', hs, e⟩ => ?_
    subst e
    have I' := I.step hok hs
    have wf' := I'.wf (by omega)
    have GO := I.gifts hok hs
    refine run_whenR (b := false) ((et_or1 (et_not (et_test1 (ev_call1 (ea_c (ev_var rfl) ea_nil) ⟨1000, W', rfl, wf', rfl⟩))) fun _ => et_test1 (ev_op1 (ev_op1 (ev_var rfl).v ev_int.v (op_ixT rfl)).v (ev_op1 (ev_op1 (ev_var rfl).v ev_int.v (op_ixT rfl)).v (ev_if (P := (· = eN (if dd.nm = "day" then 1 else 0))) (et_test1 (ev_op1 (ev_op1 (ev_var rfl).v ev_int.v (op_ixT (at0 _ _))).v ev_str.v op_eqW)) (fun e => ev_int.is (by rw [if_pos (of_decide_eq_true e.symm)]; rfl)) fun e => ev_int.is (by rw [if_neg (of_decide_eq_false e.symm)]; rfl)).v (op_addC)).v op_neN)).is (by
      rw [I'.holds, step_day hs, decide_eq_true rfl]
      rfl)) (fun e => by cases e) fun _ => ?_
    refine run_seq (N := fun r' => ∃ y9 y10 y11 y12 : Option D, r' = slD [none, some (.adr a), some (eReg rg), some (eW W), some (ePL bk), some (eN x), some (eD dd), some (eW W'), some (ePL dd.gifts), y9, y10, y11, y12, x13, x14, x15])
      (run_for (α := Nat × Nat) (enc := eP) (P := (· = dd.gifts)) ((ei_lst (ev_var rfl)).imp fun ds e => ⟨dd.gifts, rfl, e⟩) (fun _ z => z)
        (fun l i r' => ∃ y9 y10 y11 y12 : Option D, r' = slD [none, some (.adr a), some (eReg rg), some (eW W), some (ePL bk), some (eN x), some (eD dd), some (eW W'), some (ePL dd.gifts), y9, y10, y11, y12, x13, x14, x15])
        (fun l e => ⟨x9, x10, x11, x12, rfl⟩)
        (fun l e j t r' ht ⟨y9, y10, y11, y12, e2⟩ => ?_)
        (fun l e r' h => h)) fun r' ⟨y9, y10, y11, y12, e⟩ => ?_
    · subst e2; subst e
      have g := GO t (List.mem_of_getElem? ht)
      refine ⟨_, _, tg_tup2, ?_⟩
      refine run_let1 (x := eO (W'.reg.own t.1)) (ev_op1 (ev_op1 (ev_op1 (ev_op1 (ev_var rfl).v ev_int.v (op_ixT rfl)).v ev_int.v (op_ixT rfl)).v (ev_var rfl).v (op_ixT (atM (f := eF) g.f' (0, none)))).v ev_int.v (op_ixT rfl)) ?_
      refine run_whenR (b := false) ((et_or1 (et_test1 (ev_op1 (ev_var rfl).v (ef_seconds (l := bk) (ev_var rfl) (by omega) (by decide) (by decide) fun _ => rfl).v1.v opR_inNL)) fun _ => et_test1 (ev_op1 (ev_var rfl).v (ef_firsts (l := bk) (ev_var rfl) (by omega) (by decide) (by decide) fun _ => rfl).v1.v opR_inNL)).is (by
        rw [decide_eq_false g.nb, decide_eq_false g.nf]
        rfl)) (fun e => by cases e) fun _ => ?_
      refine run_whenR (b := false) ((et_or1 (et_not (et_test1 (ev_call1 (ea_c (ev_op1 (ev_var rfl).v ev_int.v (op_ixT rfl)) (ea_c (ev_var rfl) (ea_c (ev_var rfl) ea_nil))) ⟨1000, W.reg, t.1, t.2, rfl, ⟨wf.reg, g.f, g.p⟩, rfl⟩))) fun _ => et_or1 (et_test1 (ev_op1 (ev_var rfl).v (ev_op1 (ev_var rfl).v ev_int.v (op_ixT rfl)).v opR_inN)) fun _ => et_test1 (ev_op1 (ev_var rfl).v (ev_op1 (ev_var rfl).v ev_int.v (op_ixT rfl)).v opR_inN)).is (by
        rw [g.tie, decide_eq_false g.ng, decide_eq_false g.na]
        rfl)) (fun e => by cases e) fun _ => ?_
      refine run_let1 (x := .lst ((seconds bk).map eN)) (ef_seconds (l := bk) (ev_var rfl) (by omega) (by decide) (by decide) fun _ => rfl).v1 ?_
      refine run_if1 (b := false) ?_ (fun e => by cases e) fun _ => run_next ⟨some (eN t.1), some (eN t.2), some (eO (W'.reg.own t.1)), some (.lst ((seconds bk).map eN)), rfl⟩
      cases ho : W'.reg.own t.1 with
      | none => exact et_and1 (a := false) (b := true) (et_test1 (ev_op1 (ev_var (x := eO none) rfl).v ev_non.v op_notN0)) (fun e => by cases e)
      | some o =>
        refine (et_and1 (et_test1 (ev_op1 (ev_var (x := eO (some o)) rfl).v ev_non.v op_notN0)) fun _ => et_and1 (et_test1 (ev_op1 (ev_var (x := eN o) rfl).v (ev_var rfl).v opR_ninNL)) fun _ => et_test1 (ev_op1 (ev_var (x := eN o) rfl).v (ef_seconds (l := dd.gifts) (ev_var rfl) (by omega) (by decide) (by decide) fun _ => rfl).v1.v opR_ninNL)).is ?_
        rcases g.own o ho with h | h
        · rw [decide_eq_true h]
          cases decide (o ∈ seconds dd.gifts) <;> rfl
        · rw [decide_eq_true h]
          cases decide (o ∈ seconds bk) <;> rfl
    subst e
    refine run_let1 (x := .lst ((sortN (seconds dd.gifts)).map eN)) (ef_sortedN (ef_seconds (l := dd.gifts) (ev_var rfl) (by omega) (by decide) (by decide) fun _ => rfl).v1.v).v1 ?_
    refine run_whenR (b := false) ?_ (fun e => by cases e) fun _ => ?_
    · by_cases hr : dd.nm = "ring"
      · obtain ⟨ts, rfl⟩ := nm_ring hr
        obtain ⟨os, e1, e2⟩ := ring_owners I hok hs
        have hol : os.length = ts.length := by
          have := congrArg List.length e1
          rw [List.length_map, List.length_map] at this
          exact this.symm
        refine (et_and1 (et_test1 (ev_op1 (ev_op1 (ev_var rfl).v ev_int.v (op_ixT (at0 _ _))).v ev_str.v op_eqW)) fun _ => et_test1 (ev_op1 (ef_sortedN (l := os) ((ef_pairs (l := ts) (f := fun t => eO (W'.reg.own t.1)) (ev_var rfl) (by have : ts.length ≤ 100 := hgl; omega) (by decide) (by decide) fun t ht => ev_op1 (ev_op1 (ev_op1 (ev_op1 (ev_var rfl).v ev_int.v (op_ixT rfl)).v ev_int.v (op_ixT rfl)).v (ev_var rfl).v (op_ixT (atM (f := eF) (GO t ht).f' (0, none)))).v ev_int.v (op_ixT rfl)).v.v.imp fun d ⟨ds, e3, e4⟩ => by
          rw [e4, e3]
          have : (ts.map fun t => eO (W'.reg.own t.1)) = (ts.map fun t => W'.reg.own t.1).map eO := by rw [List.map_map]; rfl
          rw [this, e1, List.map_map]
          rfl)).v1.v (ev_var rfl).v (op_neL pl_N (l := sortN os) (m := sortN (seconds ts)) rfl rfl))).is ?_
        rw [decide_eq_true e2, Bool.not_true, Bool.and_false]
      · exact (et_and1 (b := false) (et_test1 (ev_op1 (ev_op1 (ev_var rfl).v ev_int.v (op_ixT (at0 _ _))).v ev_str.v op_eqW)) fun e => absurd (of_decide_eq_true e) hr).is (Bool.and_false _)
    refine run_let1 (x := ePL (bk ++ dd.gifts)) ((ev_op1 (ev_var rfl).v (ev_var rfl).v (op_catL (l := bk.map eP) (m := dd.gifts.map eP) (by rw [List.length_map, List.length_map]; exact szC (by omega)))).is (by rw [← List.map_append])) ?_
    refine run_whenR (b := false) ((et_test1 (ev_op1 (ef_sortedN (ef_seconds (l := bk ++ dd.gifts) (ev_var rfl) (by rw [List.length_append]; omega) (by decide) (by decide) fun _ => rfl).v1.v).v1.v (ef_list (l := W'.got.map eN) ((ev_op1 (ev_var rfl).v ev_int.v (op_ixT rfl)).v.imp fun d e => .inl e)).v1.v (op_neL pl_N (l := sortN (seconds (bk ++ dd.gifts))) (m := W'.got) rfl rfl))).is (by
      rw [decide_eq_true I'.got.symm]
      rfl)) (fun e => by cases e) fun _ => ?_
    refine run_whenR (b := false) ((et_test1 (ev_op1 (ef_sortedN (ef_firsts (l := bk ++ dd.gifts) (ev_var rfl) (by rw [List.length_append]; omega) (by decide) (by decide) fun _ => rfl).v1.v).v1.v (ef_list (l := W'.gave.map eN) ((ev_op1 (ev_var rfl).v ev_int.v (op_ixT rfl)).v.imp fun d e => .inl e)).v1.v (op_neL pl_N (l := sortN (firsts (bk ++ dd.gifts))) (m := W'.gave) rfl rfl))).is (by
      rw [decide_eq_true I'.gave.symm]
      rfl)) (fun e => by cases e) fun _ => ?_
    refine run_asg (P := (· = eW W')) (ev_var rfl) fun d e => ⟨W', bk ++ dd.gifts, I', by rw [List.length_append]; omega, some (eN x), some (eD dd), some (eW W'), some (ePL dd.gifts), y9, y10, y11, y12, some (.lst ((sortN (seconds dd.gifts)).map eN)), x14, x15, by rw [e]; rfl⟩
    ⟩
end
end Gv

namespace Gv
open PySem PySem.Spec PyProof.Rows L2
/-! Sets of pairs with tables of up to 512 slots: only what they may hold, not in which order. -/
def Mk (m : Nat) : Prop := m ∈ [7, 31, 127, 511]
def ringL (m : Nat) : Nat → Nat → List Nat
  | 0, _ => []
  | n + 1, i => i :: ringL m n ((i * 5 + 1) % (m + 1))
def ringB (m : Nat) : Bool := ((List.range (m + 1)).all fun j => (ringL m (m + 1) 0).contains j) && lcgN m (m + 1) == 0
theorem ring_all : [7, 31, 127, 511].all ringB = true := by decide +kernel
theorem ringL_is (m : Nat) : ∀ (n a x : Nat), x ∈ ringL m n (lcgN m a) → ∃ b, b < a + n ∧ lcgN m b = x
  | 0, _, _, h => nomatch h
  | n + 1, a, x, h => by
    rcases List.mem_cons.mp h with e | h
    · exact ⟨a, Nat.lt_add_of_pos_right (Nat.succ_pos n), e.symm⟩
    · obtain ⟨b, h1, h2⟩ := ringL_is m n (a + 1) x h
      exact ⟨b, by omega, h2⟩
theorem mk_ring {m : Nat} (h : Mk m) : (∀ j, j ≤ m → ∃ b, b ≤ m ∧ lcgN m b = j) ∧ lcgN m (m + 1) = 0 := by
  have q := List.all_eq_true.mp ring_all m h
  unfold ringB at q
  rw [Bool.and_eq_true, List.all_eq_true, beq_iff_eq] at q
  refine ⟨fun j hj => ?_, q.2⟩
  have c := q.1 j (List.mem_range.mpr (by omega))
  obtain ⟨b, h1, h2⟩ := ringL_is m (m + 1) 0 j (List.contains_iff_mem.mp c)
  exact ⟨b, by omega, h2⟩
theorem mk_again {m : Nat} (h : Mk m) : ∀ c, lcgN m (c + (m + 1)) = lcgN m c
  | 0 => by rw [Nat.zero_add]; exact (mk_ring h).2
  | c + 1 => by
    have ih := mk_again h c
    have e : c + 1 + (m + 1) = (c + (m + 1)) + 1 := by omega
    rw [e]
    unfold lcgN
    rw [ih]
theorem mk_reach {m i j : Nat} (h : Mk m) (hi : i ≤ m) (hj : j ≤ m) : ∃ c, c ≤ m ∧ lcgI m i c = j := by
  obtain ⟨u, hu, rfl⟩ := (mk_ring h).1 i hi
  obtain ⟨v, hv, rfl⟩ := (mk_ring h).1 j hj
  by_cases le : u ≤ v
  · exact ⟨v - u, by omega, by rw [lcgN_add, show u + (v - u) = v by omega]⟩
  · exact ⟨v + (m + 1) - u, by omega, by rw [lcgN_add, show u + (v + (m + 1) - u) = v + (m + 1) by omega, mk_again h]⟩
theorem mk_runs {m : Nat} (hM : Mk m) (h : Int) {j : Nat} (hj : j ≤ m) : ∃ n, n ≤ m + 12 ∧ runI m (SetTable.bits h) n = j := by
  obtain ⟨c, hc, e⟩ := mk_reach hM (runI_le m (SetTable.bits h) 12) hj
  refine ⟨12 + c, by omega, ?_⟩
  rw [runI_tail (bits_lt h), e]
theorem mk_meets {m : Nat} (hM : Mk m) (h : Int) {j : Nat} (hj : j ≤ m) : ∃ c, c < 10 * SetTable.turns m ∧ way m h c = j := by
  obtain ⟨n, hn, e⟩ := mk_runs hM h hj
  obtain ⟨c, hc, e2⟩ := run_nth m (SetTable.bits h) n
  have hT : SetTable.turns m = m + 15 := rfl
  refine ⟨c, by omega, ?_⟩
  have : way m h c = (runAt m (runI m (SetTable.bits h) n) (SetTable.bits h / 32 ^ n)).j := congrArg SetTable.Probe.j e2
  rw [this, ← e]
  rfl
theorem way_in (m : Nat) (h : Int) (c : Nat) : way m h c ≤ m := by
  have h0 : SetTable.bits h % (m + 1) ≤ m := Nat.lt_succ_iff.mp (Nat.mod_lt _ (Nat.succ_pos m))
  have b := runEnd_bd h0
  have z := nth_in (m := m) c (runAt m (SetTable.bits h % (m + 1)) (SetTable.bits h)) (by
    show SetTable.bits h % (m + 1) + (SetTable.runEnd m (SetTable.bits h % (m + 1)) - SetTable.bits h % (m + 1)) ≤ m
    omega)
  show (nth m _ c).j ≤ m
  omega
/-- a table of n elements -/
structure TabW (t : SetTable) (n : Nat) : Prop where
  up : Ris t.place.toList
  nodum : t.dummies = #[]
  many : t.place.size = n
  msk : Mk t.mask
  low : ∀ x ∈ t.place.toList, x ≤ t.mask
theorem TabW.gap {t : SetTable} {n : Nat} (T : TabW t n) (hn : n ≤ t.mask) (h : Int) : ∃ c, c < 10 * SetTable.turns t.mask ∧ way t.mask h c ∉ t.place.toList ∧ ∀ d, d < c → way t.mask h d ∈ t.place.toList := by
  have hl : t.place.toList.length < t.mask + 1 := by rw [Array.length_toList, T.many]; omega
  obtain ⟨j, hj, out⟩ := st_missing _ _ hl
  obtain ⟨c0, h0, e0⟩ := mk_meets T.msk h (Nat.lt_succ_iff.mp hj)
  obtain ⟨c, h1, h2, h3⟩ := st_least (p := fun c => way t.mask h c ∉ t.place.toList) c0 (by rw [e0]; exact out)
  exact ⟨c, by omega, h2, fun d hd => Classical.byContradiction (h3 d hd)⟩
theorem mk_odd {m : Nat} (h : Mk m) : m % 2 = 1 := by
  have : [7, 31, 127, 511].all (fun m => m % 2 == 1) = true := rfl
  exact beq_iff_eq.mp (List.all_eq_true.mp this m h)
theorem mk_le {m : Nat} (h : Mk m) : m ≤ 511 := by
  have : [7, 31, 127, 511].all (fun m => decide (m ≤ 511)) = true := rfl
  exact of_decide_eq_true (List.all_eq_true.mp this m h)
theorem TabW.put {t : SetTable} {n j : Nat} (T : TabW t n) (hj : j ∉ t.place.toList) (hm : j ≤ t.mask) : TabW (t.put j).1 (n + 1) := by
  have cut := (below_cut T.up j).1
  have cut' : SetTable.below t.place j ≤ t.place.toList.length := by rw [Array.length_toList]; exact cut
  have no : t.place[SetTable.below t.place j]? ≠ some j := fun e => hj (List.mem_of_getElem? (Array.getElem?_toList.trans e))
  have pl := put_place t j
  refine ⟨ris_insert T.up no, put_dm T.nodum j, ?_, T.msk, fun x hx => ?_⟩
  · have := congrArg List.length pl
    rw [len_ins _ cut', Array.length_toList, Array.length_toList, T.many] at this
    exact this
  · rw [pl] at hx
    rcases mem_ins.mp hx with e | e
    · exact e ▸ hm
    · exact T.low x e
/-! ### laying anew -/
theorem mk_free {m : Nat} (hM : Mk m) (owner : Array (Option Nat)) (h : Int) {j : Nat} (hj : j ≤ m) (hf : oAt owner j = none) :
    ∃ c, SetTable.layClean.free m owner (SetTable.turns m) (SetTable.bits h % (m + 1)) (SetTable.bits h) = some (way m h c) ∧ oAt owner (way m h c) = none := by
  obtain ⟨n, hn, e⟩ := mk_runs hM h hj
  have at0 : oAt owner (way m h (off m (SetTable.bits h % (m + 1)) (SetTable.bits h) n)) = none := by
    have : way m h (off m (SetTable.bits h % (m + 1)) (SetTable.bits h) n) = j := by
      unfold way
      rw [nth_off, itL_run]
      exact e
    rw [this]
    exact hf
  obtain ⟨c, c1, c2, c3⟩ := st_least (p := fun c => oAt owner (way m h c) = none) _ at0
  have hT : SetTable.turns m = m + 15 := rfl
  exact ⟨c, free_spec m owner _ n _ _ c (by omega) c1 (fun d hd => Option.isNone_eq_false_iff.mpr (Option.ne_none_iff_isSome.mp (c3 d hd))) (by rw [show oAt owner (nth m _ c).j = none from c2]; rfl), c2⟩
/-- who sits where, when n are laid -/
structure Sits (m n : Nat) (owner : Array (Option Nat)) : Prop where
  sz : owner.size = m + 1
  all : ∀ k, k < n → ∃ j, j ≤ m ∧ oAt owner j = some k
  ps : ∃ ps : List Nat, ps.length = n ∧ ∀ j, j ≤ m → oAt owner j ≠ none → j ∈ ps
theorem Sits.more {m n : Nat} {owner : Array (Option Nat)} (hM : Mk m) (S : Sits m n owner) (hn : n ≤ m) (h : Int) : ∃ o2, stepF m (some (owner, n)) h = some (o2, n + 1) ∧ Sits m (n + 1) o2 := by
  obtain ⟨ps, p1, p2⟩ := S.ps
  obtain ⟨j, hj, out⟩ := st_missing ps (m + 1) (by omega)
  have hjm : j ≤ m := by omega
  obtain ⟨c, e, hc⟩ := mk_free hM owner h hjm (Classical.byContradiction fun z => out (p2 j hjm z))
  have hw := way_in m h c
  generalize way m h c = y at e hc hw
  refine ⟨_, stepF_some e, by rw [Array.size_setIfInBounds]; exact S.sz, fun k hk => ?_, y :: ps, by rw [List.length_cons, p1], fun z hz hne => ?_⟩
  · by_cases ek : k = n
    · exact ⟨y, hw, by rw [ek]; exact oAt_set_self _ (by rw [S.sz]; omega)⟩
    · obtain ⟨z, z1, z2⟩ := S.all k (by omega)
      exact ⟨z, z1, by rw [oAt_set_ne _ (fun e => by rw [e, hc] at z2; cases z2)]; exact z2⟩
  · by_cases ez : z = y
    · rw [ez]; exact List.mem_cons_self
    · rw [oAt_set_ne _ ez] at hne
      exact List.mem_cons_of_mem _ (p2 z hz hne)
theorem Sits.run {m : Nat} (hM : Mk m) : ∀ (hs : List Int) {n : Nat} {owner : Array (Option Nat)}, Sits m n owner → n + hs.length ≤ m → ∃ o2, hs.foldl (stepF m) (some (owner, n)) = some (o2, n + hs.length) ∧ Sits m (n + hs.length) o2
  | [], n, owner, S, _ => ⟨owner, rfl, S⟩
  | h :: hs, n, owner, S, hl => by
    have hl' : n + (hs.length + 1) ≤ m := hl
    obtain ⟨o1, e1, S1⟩ := S.more hM (by omega) h
    obtain ⟨o2, e2, S2⟩ := Sits.run hM hs S1 (by omega)
    have en : n + (h :: hs).length = n + 1 + hs.length := by rw [List.length_cons]; omega
    rw [List.foldl_cons, e1, en]
    exact ⟨o2, e2, S2⟩
theorem laid_anew (t : SetTable) {hs : Array Int} {wanted m : Nat} (hw : SetTable.sizeAbove wanted = m + 1) (hM : Mk m) (hn : hs.size ≤ m) :
    ∃ t' order, t.relaid hs wanted = some (t', order) ∧ order.toList.Perm (List.range hs.size) ∧ TabW t' hs.size ∧ t'.mask = m ∧ t'.led = t.led ∧ t'.plain = t.plain := by
  have S0 : Sits m 0 (Array.replicate (m + 1) none) := ⟨by rw [Array.size_replicate], fun k hk => absurd hk (Nat.not_lt_zero k), [], rfl, fun j hj z => absurd (oAt_init hj) z⟩
  obtain ⟨o, e, S⟩ := Sits.run hM hs.toList S0 (by rw [Array.length_toList]; omega)
  rw [Array.length_toList, Nat.zero_add] at e S
  have hlay : SetTable.layClean m hs = some o := by rw [layClean_eq, e]; rfl
  have hlay' : SetTable.layClean (SetTable.sizeAbove wanted - 1) hs = some o := by rw [hw]; exact hlay
  have rel : t.relaid hs wanted = some (tabOf t m o, ((liveOf m o).map (·.2)).toArray) := by
    rw [relaid_eq, hlay', hw]
    rfl
  obtain ⟨up, inr⟩ := ris_live (fun j => o.getD j none) (List.range (m + 1)) List.pairwise_lt_range
  have up : Ris ((liveOf m o).map (·.1)) := up
  have inr : ∀ x ∈ (liveOf m o).map (·.1), x ∈ List.range (m + 1) := inr
  obtain ⟨ps, p1, p2⟩ := S.ps
  have l1 : ((liveOf m o).map (·.1)).length ≤ ps.length := nat_nodup_len _ _ (List.Pairwise.imp Nat.ne_of_lt up) fun x hx => by
    obtain ⟨⟨y, k⟩, hq, rfl⟩ := List.mem_map.mp hx
    obtain ⟨b1, b2⟩ := (mem_live S.sz).mp hq
    exact p2 y b1 (by rw [b2]; nofun)
  have inside : ∀ k, k < hs.size → k ∈ (liveOf m o).map (·.2) := fun k hk => by
    obtain ⟨j, b1, b2⟩ := S.all k hk
    exact List.mem_map.mpr ⟨_, (mem_live S.sz).mpr ⟨b1, b2⟩, rfl⟩
  have l2 : (List.range hs.size).length ≤ ((liveOf m o).map (·.2)).length := nat_nodup_len _ _ List.nodup_range fun k hk => inside k (List.mem_range.mp hk)
  have many : (liveOf m o).length = hs.size := by
    rw [List.length_map, p1] at l1
    rw [List.length_map, List.length_range] at l2
    omega
  refine ⟨_, _, rel, perm_range _ _ (by show ((liveOf m o).map (·.2)).length = _; rw [List.length_map, many]) inside, ⟨up, rfl, ?_, hM, fun x hx => Nat.lt_succ_iff.mp (List.mem_range.mp (inr x hx))⟩, rfl, rfl, rfl⟩
  show ((liveOf m o).map (·.1)).toArray.size = hs.size
  rw [List.size_toArray, List.length_map, many]
end Gv

namespace Gv
open PySem PySem.Spec PyProof.Rows L2
section
variable {P : Program} {w : World} {A : Around} {E : Value → Shared → Prop} {s : Shared} {ks : List (Addr × List Int)} {a : Addr} {es : Array (Int × Value)} {ep : Nat} {t : SetTable}
/-- a set whose elements are some of the pairs ks -/
structure SetW (P : Program) (w : World) (ks : List (Addr × List Int)) (h : Heap) (a : Addr) (es : Array (Int × Value)) (ep : Nat) (t : SetTable) : Prop where
  ob : ∃ o, h.get? a = some o ∧ o.ExactSet ∧ o.data = .set es ep t
  rows : ∀ e ∈ es.toList, ∃ q ∈ ks, e = (thash P w q.2, Value.ref q.1)
  tup : ∀ q ∈ ks, IsT P w h q.2 q.1
  tab : TabW t es.size
  plain : t.plain = true
  led : w.params.followText "set-order" = true ∨ t.led = true
  room : es.size * 5 < t.mask * 3
theorem fits_w (T : TabW t es.size) (hr : es.size ≤ t.mask) : t.fits es.size = true := by
  unfold SetTable.fits SetTable.fill
  rw [T.nodum, T.many]
  simp
  exact hr
theorem SetW.fit (R : SetW P w ks s.heap a es ep t) : t.fits es.size = true := fits_w R.tab (by have := R.room; omega)
theorem nodummy (m : Nat) : ∀ (n : Nat) (p : SetTable.Probe), p.dummy = none → (nth m p n).dummy = none
  | 0, _, h => h
  | n + 1, p, h => nodummy m n (adv m p) (by unfold adv; split <;> exact h)
theorem seek (R : SetW P w ks s.heap a es ep t) {x : Addr} {k : List Int} (hx : IsT P w s.heap k x) (hu : A.units < cLine) {m : Nat} (em : t.mask = m) {θ : Int} (eθ : thash P w k = θ) {p0 : SetTable.Probe} (e0 : p0 = runAt m (SetTable.bits θ % (m + 1)) (SetTable.bits θ)) {G : Nat} (hG : G < 10 * SetTable.turns m)
    (g1 : (nth m p0 G).j ∉ t.place.toList) (g2 : ∀ c, c < G → (nth m p0 c).j ∈ t.place.toList) {Q : SetFound → Shared → Prop} (q1 : Q (.there none) s) (q2 : Q (.free (nth m p0 G).j false) s) :
    ∀ (f c : Nat) (stand : Option SetTable.Probe), stand.getD (t.probeStart θ) = nth m p0 c → c ≤ G → G < c + f → wpAny (model P w) A (setSearchFrom a (.ref x) θ true f stand) Q E s := by
  intro f
  induction f with
  | zero => intro c _ _ h1 h2; omega
  | succ f ih =>
    intro c stand hst hc hf
    obtain ⟨o, ho, _, hd⟩ := R.ob
    have fit := R.fit
    rw [setSearchFrom_succ]
    refine wpAny_bind (wpAny_setState_of ho hd fit ?_)
    dsimp only
    have odd : ¬ t.gaveWay = true := by
      unfold SetTable.gaveWay
      rw [mk_odd R.tab.msk]
      decide
    refine wp_if_neg odd ?_
    try refine wpAny_bind (wpAny_pure ?_)
    have along : ∀ d, nth m (nth m p0 c) d = nth m p0 (c + d) := fun d => (nth_add m c p0 d).symm
    have seen := go_spec t R.tab.up R.tab.nodum (fun i => (es[i]?.map (·.1)).getD 0) θ (10 * SetTable.turns m) (G - c) (nth m p0 c) (nodummy m c p0 (by rw [e0]; rfl)) (by omega)
      (fun d hd => by rw [em, along]; exact g2 _ (by omega)) (by rw [em, along, Nat.add_sub_cancel' hc]; exact g1)
    rw [em] at seen
    have start : t.probe (fun i => (es[i]?.map (·.1)).getD 0) θ (stand.getD (t.probeStart θ)) = SetTable.probe.go t (fun i => (es[i]?.map (·.1)).getD 0) θ (10 * SetTable.turns m) (nth m p0 c) := by
      rw [hst, ← em]
      rfl
    rw [start]
    rcases seen with ⟨d, i, hd2, hi, _, _, met⟩ | ⟨_, met⟩
    · rw [met]
      dsimp only
      rw [along] at hi ⊢
      rw [along]
      have il : i < es.size := by
        have := (List.getElem?_eq_some_iff.mp hi).1
        rw [Array.length_toList, R.tab.many] at this
        exact this
      have ei : es[i]? = some es[i] := Array.getElem?_eq_getElem il
      obtain ⟨r, hr, er⟩ := R.rows es[i] (Array.getElem_mem_toList il)
      rw [er] at ei
      have live : t.slot (nth m p0 (c + d)).j = .live i := slot_live R.tab.up hi
      have behind : wpAny (model P w) A (searchRest a (.ref x) θ true f es t (nth m p0 (c + d)).j i (nth m p0 (c + (d + 1)))) Q E s := by
        unfold searchRest
        rw [ei]
        dsimp only
        refine wpAny_bind <| wpAny_holding <| wpAny_eqBool_tuple hu (R.tup r hr) hx ?_
        refine wpAny_bind <| wpAny_setState_of ho hd fit ?_
        dsimp only
        by_cases same : r.2 = k
        · exact wp_if_pos (by simp [same]) (wpAny_pure q1)
        · refine wp_if_neg (by simp [same]) ?_
          try refine wpAny_bind (wpAny_pure ?_)
          rw [sameMem]
          dsimp only
          simp only [if_true, live, ei]
          refine wpAny_bind <| wpAny_isSame_ref_self <| wpAny_bind <| wpAny_pure ?_
          simp only [if_true]
          exact wp_if_neg (by simp [same]) (ih _ _ rfl (by omega) (by omega))
      by_cases hl : t.led = true
      · refine wp_if_neg (by simp [hl]) ?_
        try refine wpAny_bind (wpAny_pure ?_)
        exact behind
      · refine wp_if_pos (by simp [hl]) <| wpAny_bind <| seen_tup hx (fun y hy => ?_) ?_
        · obtain ⟨e, he, rfl⟩ := List.mem_map.mp hy
          have he : e ∈ es.toList := by
            have : e ∈ es ∧ e.1 = θ := by simpa using he
            simpa using this.1
          obtain ⟨r2, hr2, rfl⟩ := R.rows e he
          exact ⟨r2.2, r2.1, rfl, R.tup r2 hr2⟩
        · refine wp_if_neg Bool.false_ne_true ?_
          try refine wpAny_bind (wpAny_pure ?_)
          exact behind
    · rw [met]
      dsimp only
      rw [along, Nat.add_sub_cancel' hc]
      exact wpAny_pure q2
theorem seek_at (R : SetW P w ks s.heap a es ep t) {x : Addr} {k : List Int} (hx : IsT P w s.heap k x) (hu : A.units < cLine) {Q : SetFound → Shared → Prop} (q1 : Q (.there none) s) (q2 : ∀ j, j ∉ t.place.toList → j ≤ t.mask → Q (.free j false) s) :
    wpAny (model P w) A (setSearch a (.ref x) (thash P w k) true) Q E s := by
  have hr := R.room
  have hm := mk_le R.tab.msk
  obtain ⟨G, g0, g1, g2⟩ := R.tab.gap (by omega) (thash P w k)
  have hT : SetTable.turns t.mask = t.mask + 15 := rfl
  unfold setSearch
  exact seek R hx hu rfl rfl rfl g0 g1 g2 q1 (q2 _ g1 (way_in _ _ _)) 100000 0 none rfl (Nat.zero_le _) (by omega)
/-- the entries, laid in another order -/
theorem rows_of_order {order : Array Nat} (hp : order.toList.Perm (List.range es.size)) (R : ∀ e ∈ es.toList, ∃ q ∈ ks, e = (thash P w q.2, Value.ref q.1)) :
    (order.filterMap (es[·]?)).size = es.size ∧ ∀ e ∈ (order.filterMap (es[·]?)).toList, ∃ q ∈ ks, e = (thash P w q.2, Value.ref q.1) := by
  have e1 : (order.filterMap (es[·]?)).toList = order.toList.filterMap (es[·]?) := by simp
  have e2 : (order.filterMap (es[·]?)).toList.Perm es.toList := by
    rw [e1]
    refine (hp.filterMap _).trans ?_
    rw [filterMap_getElem?_range]
  exact ⟨by rw [← Array.length_toList, e2.length_eq, Array.length_toList], fun e he => R e (e2.mem_iff.mp he)⟩
/-- the set, its table laid anew -/
theorem relay_w {o : Obj} (ho : s.heap.get? a = some o) (hex : o.ExactSet) (hd : o.data = .set es ep t) (rows : ∀ e ∈ es.toList, ∃ q ∈ ks, e = (thash P w q.2, Value.ref q.1)) (tup : ∀ q ∈ ks, IsT P w s.heap q.2 q.1) (tab : TabW t es.size) (pl : t.plain = true)
    (ld : w.params.followText "set-order" = true ∨ t.led = true) (hr : es.size ≤ t.mask) {wanted m : Nat} (hw : SetTable.sizeAbove wanted = m + 1) (hM : Mk m) (hn : es.size * 5 < m * 3) {Q : Unit → Shared → Prop}
    (hQ : ∀ h' es' ep' t', Heap.SameBut a s.heap h' → es'.size = es.size → SetW P w ks h' a es' ep' t' → Q () { s with heap := h' }) : wpAny (model P w) A (setRelay a wanted) Q E s := by
  have big := mk_le hM
  obtain ⟨t', order, e, hp, T, em, el, epl⟩ := laid_anew t (hs := es.map (·.1)) hw hM (by rw [Array.size_map]; omega)
  rw [Array.size_map] at hp T
  obtain ⟨sz, rows'⟩ := rows_of_order hp rows
  rw [setRelay_eq]
  refine wpAny_bind <| wpAny_setState_of ho hd (fits_w tab hr) ?_
  dsimp only
  refine wp_if_neg (by rw [hw, sizeLine_eq]; omega) ?_
  try refine wpAny_bind (wpAny_pure ?_)
  rw [e]
  refine wpAny_bind <| wp_if_neg (by rw [sz]; simp) ?_
  try refine wpAny_bind (wpAny_pure ?_)
  refine wpAny_pure ?_
  dsimp only
  have but : Heap.SameBut a s.heap (s.heap.update a (Obj.putSet (order.filterMap (es[·]?)) t')) := .update ..
  refine wpAny_storeSet_of ho hd (hQ _ (order.filterMap (es[·]?)) (ep + 1) t' but sz ?_) (by rw [sz, sizeLine_eq]; omega)
  refine ⟨⟨_, store_at ho hd, hex, rfl⟩, rows', fun q hq => isT_same (tup q hq) ho hd but, by rw [sz]; exact T, epl.trans pl, by rw [el]; exact ld, by rw [sz, em]; exact hn⟩
theorem grow_tab : (([(7, 5, 31), (31, 19, 127), (127, 77, 511)] : List (Nat × Nat × Nat)).all fun q => SetTable.sizeAbove (SetTable.grown q.2.1) == q.2.2 + 1) = true := by decide +kernel
theorem grow_to {m n : Nat} (h : (m, n) ∈ [(7, 5), (31, 19), (127, 77)]) : ∃ m', Mk m' ∧ SetTable.sizeAbove (SetTable.grown n) = m' + 1 ∧ n * 5 < m' * 3 := by
  have g : ∀ q ∈ ([(7, 5, 31), (31, 19, 127), (127, 77, 511)] : List (Nat × Nat × Nat)), SetTable.sizeAbove (SetTable.grown q.2.1) = q.2.2 + 1 := fun q hq => beq_iff_eq.mp (List.all_eq_true.mp grow_tab q hq)
  simp only [List.mem_cons, Prod.mk.injEq, List.not_mem_nil, or_false] at h
  rcases h with ⟨_, rfl⟩ | ⟨_, rfl⟩ | ⟨_, rfl⟩
  · exact ⟨31, by unfold Mk; simp, g (7, 5, 31) (by simp), by omega⟩
  · exact ⟨127, by unfold Mk; simp, g (31, 19, 127) (by simp), by omega⟩
  · exact ⟨511, by unfold Mk; simp, g (127, 77, 511) (by simp), by omega⟩
/-- one more pair -/
theorem add_w (R : SetW P w ks s.heap a es ep t) {x : Addr} {k : List Int} (hm : (x, k) ∈ ks) (hu : A.units < cLine) (few : es.size < 200) {Q : Bool → Shared → Prop}
    (hQ : ∀ b h' es' ep' t', Heap.SameBut a s.heap h' → es'.size ≤ es.size + 1 → SetW P w ks h' a es' ep' t' → Q b { s with heap := h' }) : wpAny (model P w) A (setAddHashed a (.ref x) (thash P w k)) Q E s := by
  obtain ⟨o, ho, hex, hd⟩ := R.ob
  have hx : IsT P w s.heap k x := R.tup _ hm
  have hr := R.room
  unfold setAddHashed
  refine wpAny_holding ?_
  rw [show (100000 : Nat) = 99999 + 1 from rfl, setAddHashedIn_succ]
  refine wpAny_bind <| wpAny_setState_of ho hd R.fit ?_
  dsimp only
  refine wp_if_neg (by simp [byScan, Value.scannable]) ?_
  try refine wpAny_bind (wpAny_pure ?_)
  refine wpAny_bind <| seek_at R hx hu ?_ fun j j1 j2 => ?_
  · exact wpAny_pure (hQ false s.heap es ep t (.refl a s.heap) (Nat.le_succ _) R)
  · dsimp only
    refine wpAny_bind <| wpAny_setState_of ho hd R.fit ?_
    have T1 := R.tab.put j1 j2
    have msk : (t.put j).1.mask = t.mask := rfl
    have pl1 : (t.put j).1.plain = true := R.plain
    have ld1 : w.params.followText "set-order" = true ∨ (t.put j).1.led = true := R.led
    have pos : (t.put j).2 = SetTable.below t.place j := rfl
    dsimp only
    generalize t.put j = q at T1 msk pl1 ld1 pos ⊢
    obtain ⟨t1, p⟩ := q
    dsimp only at T1 msk pl1 ld1 pos ⊢
    first
      | (refine wpAny_bind ?_; refine wp_if_pos pl1 ?_; refine hashBy_tup hx ?_)
      | refine wp_if_pos pl1 (wpAny_bind (hashBy_tup hx ?_))
    simp only [if_true]
    have pm := SetTable.insertAt_perm es p (thash P w k, Value.ref x)
    have sz1 : (SetTable.insertAt es p (thash P w k, Value.ref x)).size = es.size + 1 := by
      have := pm.length_eq
      rw [Array.length_toList, Array.length_toList, Array.size_push] at this
      exact this
    have rows1 : ∀ e ∈ (SetTable.insertAt es p (thash P w k, Value.ref x)).toList, ∃ q ∈ ks, e = (thash P w q.2, Value.ref q.1) := fun e he => by
      have he := pm.mem_iff.mp he
      rw [Array.toList_push] at he
      rcases List.mem_append.mp he with h | h
      · exact R.rows e h
      · exact ⟨_, hm, List.mem_singleton.mp h⟩
    generalize SetTable.insertAt es p (thash P w k, Value.ref x) = es1 at sz1 rows1 ⊢
    rw [← sz1] at T1
    refine wpAny_bind <| wpAny_storeSet_of ho hd ?_ (by rw [sz1, sizeLine_eq]; omega)
    have but : Heap.SameBut a s.heap (s.heap.update a (Obj.putSet es1 t1)) := .update ..
    have ho1 := store_at (es' := es1) (t' := t1) ho hd
    have tup1 : ∀ q ∈ ks, IsT P w (s.heap.update a (Obj.putSet es1 t1)) q.2 q.1 := fun q hq => isT_same (R.tup q hq) ho hd but
    generalize s.heap.update a (Obj.putSet es1 t1) = h1 at but ho1 tup1 ⊢
    have fill : t1.fill = es.size + 1 := by
      unfold SetTable.fill
      rw [T1.nodum, T1.many, sz1]
      rfl
    by_cases full : t1.tooFull = true
    · have hfull : (es.size + 1) * 5 ≥ t.mask * 3 := by
        have := full
        unfold SetTable.tooFull at this
        rw [decide_eq_true_eq, fill, msk] at this
        exact this
      have which : (t.mask, es.size + 1) ∈ [(7, 5), (31, 19), (127, 77)] := by
        have mm : t.mask = 7 ∨ t.mask = 31 ∨ t.mask = 127 ∨ t.mask = 511 := by simpa [Mk] using R.tab.msk
        simp only [List.mem_cons, Prod.mk.injEq, List.not_mem_nil, or_false]
        omega
      obtain ⟨m', M', g1, g2⟩ := grow_to which
      have le1 : es1.size ≤ t1.mask := by
        rw [sz1, msk]
        simp only [List.mem_cons, Prod.mk.injEq, List.not_mem_nil, or_false] at which
        omega
      have last : wpAny (model P w) A (setRelay a (SetTable.grown (es.size + 1))) (fun _ s' => wpAny (model P w) A (pure true) Q E s') E { s with heap := h1 } :=
        relay_w (s := { s with heap := h1 }) ho1 hex rfl rows1 tup1 T1 pl1 ld1 le1 g1 M' (by rw [sz1]; exact g2) fun h2 es2 ep2 t2 b2 z2 R2 => wpAny_pure (hQ true h2 es2 ep2 t2 (but.trans b2) (by rw [z2, sz1]; exact Nat.le_refl _) R2)
      first
        | (refine wpAny_bind ?_; exact wp_if_pos (by simp [full]) last)
        | exact wp_if_pos (by simp [full]) (wpAny_bind last)
    · have room1 : es1.size * 5 < t1.mask * 3 := by
        have := full
        unfold SetTable.tooFull at this
        rw [decide_eq_true_eq, fill] at this
        rw [sz1]
        omega
      have fin : Q true { s with heap := h1 } := hQ true h1 es1 (ep + 1) t1 but (by rw [sz1]; exact Nat.le_refl _) ⟨⟨_, ho1, hex, rfl⟩, rows1, tup1, T1, pl1, ld1, room1⟩
      first
        | exact wp_if_neg (by simp [full]) (wpAny_pure fin)
        | (refine wpAny_bind ?_; exact wp_if_neg (by simp [full]) (wpAny_pure (wpAny_pure fin)))
end
end Gv

namespace Gv
open PySem PySem.Spec PyProof.Rows L2
section
variable {P : Program} {w : World} {A : Around} {E : Value → Shared → Prop} {s : Shared} {ks : List (Addr × List Int)} {a : Addr} {es : Array (Int × Value)} {ep : Nat} {t : SetTable}
/-- some set over ks with at most n elements -/
def HasW (P : Program) (w : World) (ks : List (Addr × List Int)) (n : Nat) (h : Heap) (a : Addr) : Prop := ∃ es ep t, es.size ≤ n ∧ SetW P w ks h a es ep t
theorem SetW.later {h h' : Heap} (R : SetW P w ks h a es ep t) (ka : ∀ o, h.get? a = some o → h'.get? a = some o) (kt : ∀ q ∈ ks, IsT P w h' q.2 q.1) : SetW P w ks h' a es ep t := by
  obtain ⟨o, ho, r⟩ := R.ob
  exact { R with ob := ⟨o, ka o ho, r⟩, tup := kt }
abbrev newSetO (w : World) : Obj := { cls := .type "set", dict := none, data := .set #[] 0 (.fresh 0 0 (!w.params.followText "set-order")) }
theorem HasW.new {h : Heap} (ho : h.get? a = some (newSetO w)) (kt : ∀ q ∈ ks, IsT P w h q.2 q.1) : HasW P w ks 0 h a := by
  refine ⟨#[], 0, .fresh 0 0 (!w.params.followText "set-order"), Nat.le_refl _, ⟨_, ho, ⟨rfl, rfl, rfl⟩, rfl⟩, nofun, kt, ⟨List.Pairwise.nil, rfl, rfl, by unfold Mk; exact List.mem_cons_self, nofun⟩, rfl, ?_, by show 0 * 5 < 7 * 3; omega⟩
  show _ ∨ (!w.params.followText "set-order") = true
  cases w.params.followText "set-order" <;> simp
/-- the loop of set.update over a walk of the pairs' addresses -/
theorem update_w {I : Addr} {fp wr : List Addr} {G : Array GenState → Array GenState → Prop} {n : Nat} {Pv : Nat → Value → Prop} {St : Nat → Shared → Prop} {R : Result → Shared → Prop}
    (W : WalksS P w A.in1 I fp wr G n Pv St) (S : Addr) (out : S ∉ fp) (few : n < 200) (val : ∀ i v, Pv i v → ∃ q ∈ ks, v = .ref q.1) (h0 : Heap) (tup : ∀ q ∈ ks, IsT P w h0 q.2 q.1) (S0 : h0.get? S = none) (w0 : ∀ b ∈ wr, h0.get? b = none) (hu : A.in1.units < cLine) :
    ∀ (left i : Nat) (s : Shared), i + left = n → St i s → (∀ b o, h0.get? b = some o → s.heap.get? b = some o) → HasW P w ks i s.heap S →
      (∀ s', Moved (S :: wr) G s s' → HasW P w ks n s'.heap S → (∀ b o, h0.get? b = some o → s'.heap.get? b = some o) → R (.ok (.ret .none)) s') → codeAny (model P w) A (.builtin "set.update.loop" ⟨[.ref S, .ref I], []⟩) R s := by
  have wide : ∀ b ∈ wr, b ∈ S :: wr := fun b hb => List.mem_cons_of_mem _ hb
  have Swr : S ∉ wr := fun h => out (W.sub _ h)
  have stay : ∀ {s s' : Shared}, Moved wr G s s' → (∀ b o, h0.get? b = some o → s.heap.get? b = some o) → ∀ b o, h0.get? b = some o → s'.heap.get? b = some o := fun mv kp b o e =>
    mv.heap b o (fun hb => by have := w0 b hb; rw [this] at e; cases e) (kp b o e)
  have set' : ∀ {s s' : Shared} {i : Nat}, Moved wr G s s' → (∀ b o, h0.get? b = some o → s'.heap.get? b = some o) → HasW P w ks i s.heap S → HasW P w ks i s'.heap S := fun mv kp ⟨es, ep, t, z, R⟩ =>
    ⟨es, ep, t, z, R.later (fun o e => mv.heap S o Swr e) fun q hq => isT_keep (tup q hq) kp⟩
  intro left
  induction left with
  | zero =>
    intro i s hi st kp hs hR
    have hi : i = n := hi
    subst hi
    refine codeAny_builtin F.entry_set_update_loop ?_
    rw [Around.under_plainId F.plain_set_update_loop _]
    show wpAny _ A.in1 (pyNext (.ref I) >>= _) _ _ s
    refine wpAny_bind <| W.done s _ _ st fun s' mv => ?_
    show wpAny _ A.in1 (ret .none) _ _ s'
    exact wpAny_pure (hR s' (mv.mono wide) (set' mv (stay mv kp) hs) (stay mv kp))
  | succ left ih =>
    intro i s hi st kp hs hR
    refine codeAny_builtin F.entry_set_update_loop ?_
    rw [Around.under_plainId F.plain_set_update_loop _]
    show wpAny _ A.in1 (pyNext (.ref I) >>= _) _ _ s
    refine wpAny_bind <| W.item i s _ _ (by omega) st fun v s' hv st' mv => ?_
    obtain ⟨q, hq, rfl⟩ := val i v hv
    have kp' := stay mv kp
    obtain ⟨es, ep, t, z, R⟩ := set' mv kp' hs
    show wpAny _ A.in1 (holding [Value.ref q.1] (setAdd S (.ref q.1)) >>= _) _ _ s'
    refine wpAny_bind <| wpAny_holding ?_
    unfold setAdd
    refine wpAny_holding <| wpAny_bind <| wpAny_pyHash_tuple hu (R.tup q hq) ?_
    refine add_w (s := { s' with toks := s'.toks + (q.2.length + 1) }) R hq hu (by omega) fun b h' es' ep' t' but sz R' => ?_
    have kp2 : ∀ b o, h0.get? b = some o → h'.get? b = some o := fun b o e => (but.2 b fun z => by rw [z, S0] at e; cases e).trans (kp' b o e)
    refine wpAny_pure ⟨plainId_quiet F.plain_set_update_loop _, ih (i + 1) _ (by omega) (W.frame _ s' _ _ st' (Nat.le_add_right _ _) fun b hb o e => ?_) kp2 ⟨es', ep', t', by omega, R'⟩ fun s2 mv2 hs2 kp3 => ?_⟩
    · exact (but.2 b fun z => out (z ▸ hb)).trans e
    · refine hR s2 (Moved.trans W.gtrans ((mv.mono wide).then_heap (Nat.le_add_right _ _) fun b o hb e => ?_) mv2) hs2 kp3
      exact (but.2 b fun z => hb (z ▸ List.mem_cons_self)).trans e
/-- set(xs), xs a list of the pairs' addresses -/
theorem set_w {l : Addr} {its : Array Value} {Q : Value → Shared → Prop} (hh : A.handled = none) (hl : s.heap.IsList l its) (val : ∀ v ∈ its.toList, ∃ q ∈ ks, v = .ref q.1) (tup : ∀ q ∈ ks, IsT P w s.heap q.2 q.1) (few : its.size < 200) (hu : A.units + 3 < cLine)
    (h : ∀ (h' : Heap) (tk : Nat), HasW P w ks its.size h' s.heap.objs.size → (∀ b o, s.heap.get? b = some o → h'.get? b = some o) → Q (.ref s.heap.objs.size) { s with heap := h', toks := tk }) : wpAny (model P w) A (call (.type "set") [.ref l]) Q E s := by
  obtain ⟨_, _, mro⟩ := F.called_set.mro
  have made := F.called_set.made
  have sub := F.called_set.sub
  refine wpAny_call <| codeAny_of_tree ?_
  show wpAny _ _ (callAny (.type "set") _) _ _ _
  refine wpAny_pure ⟨Code.quiet_builtin _ (by decide +kernel), codeAny_builtin F.entry_type_call ?_⟩
  rw [Around.under_plain (weight_type_call_type "set" [.ref l] []) rfl]
  have a1 := F.called_set.notType
  have a2 := F.called_set.canCreate
  have a3 := F.typeCall_set_1 (.ref l)
  repeat (any_goals (first | assumption | wp_step))
  let hp1 : Heap := s.heap.push (newSetO w)
  refine codeAny_mono (code_set_led1 (.ref l) (E := E) (Q₁ := fun obj s₁ => obj = .ref s.heap.objs.size ∧ s₁ = { s with heap := s.heap.push (newSetO w) }) ⟨rfl, rfl⟩) fun r s₁ hr => ?_
  match r, hr with
  | .error e, hr => exact hr
  | .ok .next, hr => exact hr.elim
  | .ok .brk, hr => exact hr.elim
  | .ok .cont, hr => exact hr.elim
  | .ok (.ret obj), hr =>
    obtain ⟨rfl, rfl⟩ := hr
    have gS : (s.heap.push (newSetO w)).get? s.heap.objs.size = some (newSetO w) := Heap.get?_push_size _ rfl
    have tS : Shared.TypeIs { s with heap := s.heap.push (newSetO w) } (.ref s.heap.objs.size) "set" := ⟨_, gS, rfl⟩
    have b1 := F.called_set.init.lookup
    have b2 := F.called_set.init.bind (.ref s.heap.objs.size)
    repeat (any_goals (first | assumption | wp_step))
    refine codeAny_mono (codeAny_call_builtin (R := wants (fun r s₂ => r = .none ∧ ∃ h' tk, s₂ = { s with heap := h', toks := tk } ∧ HasW P w ks its.size h' s.heap.objs.size ∧ ∀ b o, s.heap.get? b = some o → h'.get? b = some o) E) F.called_set.init.plain F.entry_set_init (check_set_init_1 tS ?_)) fun r₂ s₂ hr₂ => ?_
    · obtain ⟨⟨oc, od, dt, sl⟩, ho, hc, nl, hd⟩ := hl
      simp only at hc hd
      subst hc; subst hd
      have ho' : (s.heap.push (newSetO w)).get? l = some ⟨.type "list", od, .seq its nl, sl⟩ := Heap.get?_push_of_some _ ho
      have hl1 : (s.heap.push (newSetO w)).IsList l its := ⟨_, ho', rfl, nl, rfl⟩
      have c1 := F.sub_list_set
      have c2 := F.sub_list_frozenset
      have c3 : (Value.type "list" == Value.type "dict") = false := by decide
      unfold Builtin.«set.__init__» noKeywords Builtin.Frozenset.updateFrom
      generalize it : pyIter = PI
      wp_walk
      subst it
      refine wpAny_pyIter_list hl1 ?_
      refine wpAny_bind <| wpAny_runValue ?_
      have lt : l < s.heap.objs.size := Heap.lt_size ho
      have zz : (s.heap.push (newSetO w)).objs.size = s.heap.objs.size + 1 := Heap.size_push ..
      have d1 : l ≠ (s.heap.push (newSetO w)).objs.size := by rw [zz]; exact Nat.ne_of_lt (Nat.lt_succ_of_lt lt)
      have hh3 : A.in1.in1.in1.handled = none := by simp [hh]
      have free : ∀ b, s.heap.objs.size ≤ b → s.heap.get? b = none := fun b hb => by
        cases q : s.heap.get? b with
        | none => rfl
        | some o => exact absurd hb (Nat.not_le.mpr (Heap.lt_size q))
      refine update_w ((Walks.list hh3 _ l d1 its).toS) s.heap.objs.size ?_ few (fun i v hv => ?_) s.heap tup (free _ (Nat.le_refl _)) (fun b hb => ?_) hu its.size 0 _ (Nat.zero_add _) ⟨⟨_, Heap.get?_push_size _ rfl, rfl, rfl⟩, hl1.push _⟩ (fun b o e => Heap.get?_push_of_some _ (Heap.get?_push_of_some _ e)) ?_ ?_
      · rw [zz]
        simp only [List.mem_cons, List.not_mem_nil, or_false, not_or]
        exact ⟨Nat.ne_of_lt (Nat.lt_succ_self _), Nat.ne_of_gt lt⟩
      · have hv : its[i]? = some v := hv
        exact val v (List.mem_of_getElem? (Array.getElem?_toList.trans hv))
      · rw [List.mem_singleton.mp hb, zz]
        exact free _ (Nat.le_succ _)
      · exact .new (Heap.get?_push_of_some _ gS) fun q hq => isT_keep (tup q hq) fun b o e => Heap.get?_push_of_some _ (Heap.get?_push_of_some _ e)
      · intro s' mv hs kp
        obtain ⟨h', g2, d', tk', os'⟩ := s'
        obtain rfl : g2 = s.gens := mv.gens
        obtain rfl : d' = s.drawn := mv.drawn
        obtain rfl : os' = s.os := mv.os
        show wpAny _ _ _ _ _ _
        refine wpAny_pure ?_
        show wpAny _ _ (ret .none) _ _ _
        exact wpAny_pure ⟨rfl, h', tk', rfl, hs, kp⟩
    · match r₂, hr₂ with
      | .error e, hr₂ => exact hr₂
      | .ok .next, hr₂ => exact hr₂.elim
      | .ok .brk, hr₂ => exact hr₂.elim
      | .ok .cont, hr₂ => exact hr₂.elim
      | .ok (.ret r), hr₂ =>
        obtain ⟨rfl, h', tk, rfl, hs, kp⟩ := hr₂
        repeat (any_goals (first | assumption | wp_step))
        exact h _ _ hs kp
/-- sorted(set): some of the pairs -/
theorem sortset_w {n : Nat} {Q : Value → Shared → Prop} (hs : HasW P w ks n s.heap a) (few : n < 200) (hh : A.handled = none) (two : ∀ q ∈ ks, q.2.length = 2)
    (hQ : ∀ s' p (out : List Value) (c : Nat), (∀ b o, s.heap.get? b = some o → s'.heap.get? b = some o) → s'.gens = s.gens → s'.os = s.os → s.heap.objs.size ≤ p → s'.heap.get? p = some (seqObj "list" out.toArray c) → out.length ≤ n → (∀ v ∈ out, ∃ q ∈ ks, v = .ref q.1) → Q (.ref p) s') :
    wpAny (model P w) A (call (.builtin "sorted") [.ref a]) Q E s := by
  obtain ⟨es, ep, t, z, R⟩ := hs
  obtain ⟨o, ho, hex, hd⟩ := R.ob
  refine Calls.call_function_entry kind_sorted plain_sorted entry_sorted (args_sorted1 _) ?_
  unfold Builtin.«sorted»
  refine wpAny_bind (m := checkCount "sorted" 1 1 _) <| wpAny_pure ?_
  refine wpAny_bind <| collect_set (A := A.in1) hh ⟨o, ho, hex.1, hd⟩ R.fit (by unfold scanBound; omega) R.tab.up R.led fun s1 vs k1 z1 g1 o1 pm => ?_
  have vl : vs.length ≤ n := by
    rw [pm.length_eq, List.length_map, Array.length_toList]
    exact z
  have big : vs.length ≤ sizeLine := by rw [sizeLine_eq]; omega
  have from' : ∀ v ∈ vs, ∃ q ∈ ks, v = .ref q.1 := fun v hv => by
    obtain ⟨e, he, rfl⟩ := List.mem_map.mp (pm.mem_iff.mp hv)
    obtain ⟨q, hq, rfl⟩ := R.rows e he
    exact ⟨q, hq, rfl⟩
  refine wpAny_bind <| wpAny_newList ?_ big
  have gL : (s1.heap.push (seqObj "list" vs.toArray 0)).get? s1.heap.objs.size = some (seqObj "list" vs.toArray 0) := Heap.get?_push_size _ rfl
  have kp : ∀ b o, s.heap.get? b = some o → (s1.heap.push (seqObj "list" vs.toArray 0)).get? b = some o := fun b o e => Heap.get?_push_of_some _ (k1 b o e)
  let key : Value → Int × Int := fun v => ((TS.intsOf (s1.heap.push (seqObj "list" vs.toArray 0)) v).getD 0 0, (TS.intsOf (s1.heap.push (seqObj "list" vs.toArray 0)) v).getD 1 0)
  have pairs : ∀ v ∈ vs, Srt.IsPair (s1.heap.push (seqObj "list" vs.toArray 0)) v (key v).1 (key v).2 := fun v hv => by
    obtain ⟨q, hq, rfl⟩ := from' v hv
    have ti := isT_keep (R.tup q hq) kp
    have ei := (tupInts_of ti).ints
    have h2 := two q hq
    obtain ⟨o, items, m, b1, b2, b3, b4⟩ := ti
    have e1 : (key (.ref q.1)).1 = q.2.getD 0 0 := by show (TS.intsOf _ _).getD 0 0 = _; rw [ei]
    have e2 : (key (.ref q.1)).2 = q.2.getD 1 0 := by show (TS.intsOf _ _).getD 1 0 = _; rw [ei]
    rw [e1, e2]
    match hq2 : q.2, h2 with
    | [i, j], _ =>
      rw [hq2] at b4
      have ia := ints_of_items b4
      generalize hil : items.toList = il at ia
      cases ia with
      | cons i t1 ia =>
        cases ia with
        | cons j t2 ia =>
          cases ia
          have : items = #[.int i t1, .int j t2] := by rw [← Array.toArray_toList (xs := items), hil]
          subst this
          exact ⟨q.1, o, t1, t2, m, rfl, b1, b2, b3⟩
  have notT : ∀ o, (s1.heap.push (seqObj "list" vs.toArray 0)).get? s1.heap.objs.size = some o → o.cls ≠ .type "tuple" := fun o e => by
    rw [gL] at e
    cases e
    intro c
    exact absurd (Value.type.inj c) (by decide)
  refine wpAny_bind <| wpAny_holding <| wpAny_call_entry slot_list_sort ⟨_, gL, rfl⟩ entry_list_sort (SrtO.list_sort_ord (s := { s1 with heap := s1.heap.push (seqObj "list" vs.toArray 0) }) (SrtO.swo_lex key) gL big (fun h2 => SrtO.pairs_sortableO (by omega) pairs notT) fun out _ st => ⟨_, rfl, ?_⟩) (args_list_sort _)
  obtain ⟨c, hc⟩ := sortedHeap_at (vs := vs) (out := out.toArray) gL
  refine wpAny_pure ⟨_, rfl, hQ _ s1.heap.objs.size out c (fun b u e => ?_) g1 o1 z1 hc (by rw [st.perm.length_eq]; exact vl) fun v hv => from' v (st.perm.mem_iff.mp hv)⟩
  have lt := Heap.lt_size (k1 b u e)
  show (sortedHeap (s1.heap.push (seqObj "list" vs.toArray 0)) s1.heap.objs.size vs out.toArray).get? b = some u
  rw [sortedHeap_old (Nat.ne_of_lt lt) (by rw [size_push']; exact Nat.lt_succ_of_lt lt)]
  exact kp b u e
end
end Gv

namespace Gv
open PySem PySem.Spec PyProof.Rows L2
def tSortSet (K : PySem.W.Frag) (ta : TE) : TE := fun σ H Q => ta σ H fun x H1 => ∃ (l : Addr) (xs : List V) (ps : List (Int × Int)), x = V.ref l ∧ SqL K H1 l xs ∧ xs.length = ps.length ∧ xs.length < 200 ∧
  (∀ q ∈ xs.zip ps, ∃ t, q.1 = V.ref t ∧ SqT K H1 t [.int q.2.1, .int q.2.2]) ∧ ∀ (ys : List V) p, ys.length ≤ xs.length → (∀ y ∈ ys, y ∈ xs) → H1 p = none → Q (.ref p) (upd H1 p (.lst ys))
def adr : V → Addr
  | .ref t => t
  | _ => (default : Addr)
theorem zip_has {α β : Type} : ∀ {xs : List α} {ps : List β} {x : α}, xs.length = ps.length → x ∈ xs → ∃ p, (x, p) ∈ xs.zip ps
  | [], _, _, _, h => nomatch h
  | y :: xs, [], _, hl, _ => by cases hl
  | y :: xs, p :: ps, x, hl, h => by
    rcases List.mem_cons.mp h with e | h
    · exact ⟨p, by rw [e]; exact List.mem_cons_self⟩
    · obtain ⟨p', hp⟩ := zip_has (Nat.succ.inj hl) h
      exact ⟨p', List.mem_cons_of_mem _ hp⟩
section
variable {X : Cx}
theorem boot_sorted0 : bootBuiltins "sorted" = some (.builtin "sorted") := by decide +kernel
theorem pe_sortSet {a : Expr} {ta : TE} {p p2 q pos : Pos} (hc : X.calm = true) (hu : X.A.units + 65 < cLine) (hg : Gl X "sorted") (hm : X.mg "sorted" = none) (hg2 : Gl X "set") (hm2 : X.mg "set" = none) (ha : PE X a ta)
    (na : starEach [a] X.env = (false, eval a X.env) :: starEach [] X.env := by rfl) :
    PE X (.Call (.Name "sorted" p) [.Call (.Name "set" p2) [a] [] q] [] pos) (tSortSet X.K ta) := by
  refine ⟨fun pins s σ H Q I h => ?_⟩
  refine Call_ (ld_blt I hg hm boot_sorted0 ?_)
  refine callWith_builtin1 (args_cons ?_ rfl) rfl rfl
  refine Call_ (ld_blt I hg2 hm2 boot_set ?_)
  refine callWith_type1 (args_cons (thn (ha.run pins s σ H _ I h) fun v s1 ⟨x, H1, I1, r1, l, xs, ps, ex, hS, hlen, few, hx, q1⟩ => args_nil ?_) na) na rfl
  subst ex
  cases r1
  obtain ⟨its, rv, pl, hz⟩ := I1.list hS
  have hx' : ∀ x ∈ xs, ∃ t, x = V.ref t := fun x hxm => by
    obtain ⟨p, hp⟩ := zip_has hlen hxm
    obtain ⟨t, e, _⟩ := hx _ hp
    exact ⟨t, e⟩
  obtain ⟨e1, e2⟩ := refs_back rv hx'
  let ks : List (Addr × List Int) := (xs.zip ps).map fun q => (adr q.1, [q.2.1, q.2.2])
  have mem : ∀ {x : V}, x ∈ xs → ∃ k ∈ ks, x = V.ref k.1 := fun {x} hxm => by
    obtain ⟨p, hp⟩ := zip_has hlen hxm
    obtain ⟨t, e, _⟩ := hx _ hp
    refine ⟨_, List.mem_map.mpr ⟨_, hp, rfl⟩, ?_⟩
    have e : x = V.ref t := e
    rw [e]
    rfl
  have back : ∀ k ∈ ks, V.ref k.1 ∈ xs := fun k hk => by
    obtain ⟨r, hr, rfl⟩ := List.mem_map.mp hk
    obtain ⟨t, e, _⟩ := hx r hr
    have := (List.of_mem_zip (a := r.1) (b := r.2) hr).1
    show V.ref (adr r.1) ∈ xs
    rw [e] at this ⊢
    exact this
  have tup : ∀ k ∈ ks, IsT X.prog X.w s1.heap k.2 k.1 := fun k hk => by
    obtain ⟨r, hr, rfl⟩ := List.mem_map.mp hk
    obtain ⟨t, e, ht⟩ := hx r hr
    have : adr r.1 = t := by rw [e]; rfl
    show IsT X.prog X.w s1.heap [r.2.1, r.2.2] (adr r.1)
    rw [this]
    exact I1.isT (k := [r.2.1, r.2.2]) ht
  have vl : its.length = xs.length := rv.length.symm
  refine set_w (ks := ks) (I1.ok.hd hc) pl.isList (fun v hv => ?_) tup (by rw [List.size_toArray, vl]; exact few) (by omega) fun h' tk hs kp => args_nil ?_
  · have hv : v ∈ its := by simpa using hv
    obtain ⟨t, rfl⟩ := e2 v hv
    obtain ⟨k, hk, e⟩ := mem (x := V.ref t) (by rw [e1]; exact List.mem_map.mpr ⟨_, hv, rfl⟩)
    injection e with e
    exact ⟨k, hk, by rw [e]⟩
  rw [List.size_toArray, vl] at hs
  have I2 : L2.Inv X pins σ H1 { s1 with heap := h', toks := tk } := I1.kept kp
  change HasW _ _ _ _ ({ s1 with heap := h', toks := tk } : Shared).heap _ at hs
  generalize ({ s1 with heap := h', toks := tk } : Shared) = s2 at hs I2 ⊢
  refine sortset_w hs few (I2.ok.hd hc) (fun k hk => ?_) fun s' p out c k g o hp gp ol om => ?_
  · obtain ⟨r, hr, rfl⟩ := List.mem_map.mp hk
    rfl
  have refs : ∀ u ∈ out, ∃ a, u = Value.ref a := fun u hum => by
    obtain ⟨k, _, e⟩ := om u hum
    exact ⟨_, e⟩
  have vb := vals_back refs
  have hn : H1 p = none := I2.hok.fresh hp
  have len : (out.map backV).length ≤ sizeLine := by rw [List.length_map, sizeLine_eq]; omega
  have J : L2.Inv X pins σ (upd H1 p (.lst (out.map backV))) { s2 with heap := s'.heap, gens := s'.gens, drawn := s'.drawn, toks := s'.toks } :=
    I2.call (ch := []) (Un.laid k hp hn) (I2.hok.laid k hp ⟨len, out, c, vb, gp⟩) (by rw [g]; exact I2.bare) fun _ z => nomatch z
  have es : s' = { s2 with heap := s'.heap, gens := s'.gens, drawn := s'.drawn, toks := s'.toks } := by
    obtain ⟨a1, a2, a3, a4, a5⟩ := s'
    obtain ⟨b1, b2, b3, b4, b5⟩ := s2
    cases o
    rfl
  rw [es]
  refine ⟨.ref p, _, J, rfl, q1 _ p (by rw [List.length_map]; exact ol) (fun y hy => ?_) hn⟩
  obtain ⟨u, hum, rfl⟩ := List.mem_map.mp hy
  obtain ⟨k, hk, rfl⟩ := om u hum
  exact back k hk
end
section
variable {K : PySem.W.Frag} {R : Rg} {r : REnv} {te : TE} {M : Addr → Prop} {H : Hp}
theorem IsDs.some_of {l : List (Nat × Nat)} {xs : List V} (h : IsDs K M H xs (l.map eP)) : ∀ ys : List V, (∀ y ∈ ys, y ∈ xs) → ∃ l' : List (Nat × Nat), l'.length = ys.length ∧ IsDs K M H ys (l'.map eP)
  | [], _ => ⟨[], rfl, .nil⟩
  | y :: ys, hy => by
    obtain ⟨l', e, z⟩ := h.some_of ys fun u hu => hy u (List.mem_cons_of_mem _ hu)
    obtain ⟨i, hi⟩ := List.mem_iff_getElem?.mp (hy y List.mem_cons_self)
    obtain ⟨d, hd, zd⟩ := h.back hi
    rw [List.getElem?_map] at hd
    obtain ⟨q, _, rfl⟩ := Option.map_eq_some_iff.mp hd
    exact ⟨q :: l', by rw [List.length_cons, List.length_cons, e], .cons zd z⟩
theorem ef_sortSet {l : List (Nat × Nat)} (h : EvV K R te r (· = .lst (l.map eP))) (hz : l.length < 200) : EvF K R (tSortSet K te) r (fun ds => ∃ l' : List (Nat × Nat), l'.length ≤ l.length ∧ ds = l'.map eP) := fun M σ H hR ok inv e Q q =>
  h M σ H hR ok inv e _ fun v H1 d pd s1 i1 d1 => by
    subst pd
    obtain ⟨a, xs, rfl, h1, h2⟩ := isV_lst d1
    have hl := h2.len
    rw [List.length_map] at hl
    refine ⟨a, xs, l.map fun p => ((p.1 : Int), (p.2 : Int)), rfl, SqL.of h1, by rw [List.length_map, hl], by omega, fun q hq => ?_, fun ys p ly my hp => ?_⟩
    · obtain ⟨a, xs, e1, e2, e3⟩ := isV_tup (rm := R.m) (.inl (h2.zipP q hq))
      refine ⟨a, e1, ?_⟩
      have := e2.sq
      cases e3 with
      | cons f1 f2 =>
        cases f2 with
        | cons g1 g2 =>
          cases f1; cases g1; cases g2
          exact this
    · obtain ⟨l', e, z⟩ := h2.some_of ys my
      exact q p _ _ _ ⟨l', by omega, rfl⟩ (none_back s1 hp) (s1.trans (Stp.of (same_new hp))) (inv_same hR (ok.stp s1) (same_new hp) i1) upd_same ((z.add hp).same (same_new hp))
end
end Gv
namespace Gv
open PySem PySem.Spec PyProof.Rows L2
theorem ea_starP {K : PySem.W.Frag} {R : Rg} {r : REnv} {te : TE} {tr : TA} {l : List D} {P P' : List D → Prop} (h : Ev K R te r (· = .tup l)) (hr : EvA K R tr r P) (k : ∀ ds, P ds → P' (l ++ ds)) : EvA K R (StX.tStar K te tr) r P' := fun M σ H hR ok inv e Q q =>
  h M σ H hR ok inv e _ fun v H1 d pd s1 i1 d1 => by
    subst pd
    obtain ⟨a, xs, rfl, h1, h2⟩ := isV_tup (rm := R.m) (.inl d1)
    exact ⟨a, xs, rfl, .inl h1.sq, hr M σ H1 hR (ok.stp s1) i1 (e.stp hR s1) _ fun vs H2 ds' pd' s2 i2 d2 => q _ H2 _ (k _ pd') (s1.trans s2) i2 ((h2.stp (fun q z => hR q z) s2).app d2)⟩
end Gv

namespace Gv
open PySem PySem.Spec PyProof.Rows L2
section
variable {P : Program} {w : World} {K : PySem.W.Frag} {mg : Str → Option Value} {base : Heap} {C : Addr}

theorem sc_barred_more : FnScope ["registry", "friend", "person"] ["registry", "friend", "person"] (defScope s_barred_more) := ⟨rfl, rfl, rfl, by decide +kernel, rfl, by decide +kernel, by decide +kernel⟩
theorem cal_barred_more (d : Df K mg "barred_more" s_barred_more) (T : Nms K mg)   : C_barred_more P w K mg base C := by
  refine cal_of d sc_barred_more (SpD.len len_barred_more) (fun _ _ _ _ _ _ us hl => match us, hl with | [_, _, _], _ => rfl) fun f cdv A outer s H vs Q E hr h => ⟨_, PSs.nox (pss_one (ps_ret (pe_tup (StX.pa_star (pe_slice sl_tup (pv 0) po_none (po_some pe_int)) (pa_cons (pe_callTy (T := "tuple") call_tuple_of rfl T.tuple (by decide +kernel) (pa_cons (pe_sortSet rfl (hu65 hr) rfl T.sorted rfl T.set (pe_lst (StX.pa_star (pe_ix ix_tup (pv 0) pe_int (fun _ _ => rfl)) (pa_cons (pe_tup (pa_cons (pv 1) (pa_cons (pv 2) pa_nil))) pa_nil)))) pa_nil)) pa_nil))))),
    def_run h fun ds oc g => by
    obtain ⟨rg, f, p, rfl, hb, rfl⟩ := g
    refine run_ret (ev_tup (P := fun ds => ∃ l : List (Nat × Nat), l.length ≤ rg.barred.length + 1 ∧ ds = [.tup (rg.fits.map eT), eT rg.people, .tup (rg.friends.map eF), ePs l]) (ea_starP (l := [.tup (rg.fits.map eT), eT rg.people, .tup (rg.friends.map eF)]) ((ev_slT (l := [.tup (rg.fits.map eT), eT rg.people, .tup (rg.friends.map eF), ePs rg.barred]) (ev_var rfl).v eo_none (eo_some (i := 3) ev_int) (show ¬ (HT.sIx 4 0 none = 0 ∧ HT.sIx 4 4 (some 3) = 4) by decide)).is rfl) ((ea_1 (Pd := fun d => ∃ l : List (Nat × Nat), l.length ≤ rg.barred.length + 1 ∧ d = ePs l) ((ev_tupleF (ef_sortSet (l := rg.barred ++ [(f, p)]) ((ev_lst (ea_star (l := rg.barred.map eP) ((ev_op1 (ev_var rfl).v ev_int.v (op_ixT rfl)).v.imp fun d e => .inl e) (ea_c (ev_tup1 (ea_c (ev_var rfl) (ea_c (ev_var rfl) ea_nil)) sz2) ea_nil)) (fun ds e => by rw [e, List.length_append, List.length_map]; exact szC (by simp; omega))).v.v.imp fun d ⟨ds, e1, e2⟩ => by rw [e2, e1, List.map_append]; rfl) (by rw [List.length_append]; simp; omega))).imp fun d ⟨ds, ⟨l', hl, e1⟩, e2⟩ => ⟨l', by rw [List.length_append] at hl; exact hl, by rw [e2, e1]⟩)))
      (fun ds ⟨d, ⟨l, hl, e⟩, e2⟩ => ⟨l, hl, by rw [e2, e]; rfl⟩)) (fun ds ⟨l, _, e⟩ => by rw [e]; exact sz4)) fun d ⟨ds, ⟨l, hl, e1⟩, e2⟩ => ⟨_, rfl, l, hl, by rw [e2, e1]⟩
    ⟩
end
end Gv

namespace Gv
open PySem PySem.W PySem.Calls PyProof.Rows PySem.HandSPX
/-! ### InvalidDeed.__init__ -/
def idA : Arguments := { posonlyargs := [], args := [{ arg := "self", annotation := none, pos := ⟨6, 17, 6, 21⟩ }, { arg := "at", annotation := none, pos := ⟨6, 23, 6, 25⟩ }], vararg := none, kwonlyargs := [], kw_defaults := [], kwarg := none, defaults := [] }
def idSup : Stmt := .Expr (.Call (.Attribute (.Call (.Name "super" ⟨7, 8, 7, 13⟩) [] [] ⟨7, 8, 7, 15⟩) "__init__" ⟨7, 8, 7, 24⟩) [.Constant (.str "invalid deed") 0 ⟨7, 25, 7, 39⟩] [] ⟨7, 8, 7, 40⟩) ⟨7, 8, 7, 40⟩
def idSet : Stmt := .Assign [.Attribute (.Name "self" ⟨8, 8, 8, 12⟩) "at" ⟨8, 8, 8, 15⟩] (.Name "at" ⟨8, 18, 8, 20⟩) ⟨8, 8, 8, 20⟩
def idB : List Stmt := [idSup, idSet]
def idS : Scope := { kind := .function, names := [("self", .local), ("at", .local), ("__class__", .free), ("super", .globalImplicit)], isGenerator := false, isCoroutine := false, more := [] }
/-- what the written part tells of InvalidDeed, at C, and of its __init__, at fI -/
structure IdTxt (P : Program) (K : Frag) (mg : Str → Option Value) (C fI cc cda : Addr) : Prop where
  gC : mg "InvalidDeed" = some (.ref C)
  gS : mg "super" = none
  te : exmOne K (.ref C) (.ref C) = some true
  cls : ∃ nm q N bs bm sn sub ab col dd k0 k1 k2 k3 k5, K.lookup C = some (excClassObj nm q C N bs bm true sn sub ab col dd k0 k1 k2 k3 k5 "ValueError.__new__") ∧ refsVE bm = true
  sa : findIn K (.ref C) "__setattr__" = some (some (.builtin "object.__setattr__"))
  noN : findIn K (.ref C) "at" = some none
  iC : findIn K (.ref C) "__init__" = some (some (.ref fI))
  tI : typeIn K (.ref fI) = some (.type "function")
  kC : keepIn K (.ref C) = true
  exC : subIn K (.ref C) (.type "BaseException") = some true
  veC : subIn K (.ref C) (.type "ValueError") = some true
  tyC : typeIn K (.ref C) = some (.type "type")
  opq : nsIn K cStatics "thirdparty.any" = some none
  sup : ks_superIn K C C "__init__" = some (some (.builtin "ValueError.__init__"))
  mroC : mroIn K C (.ref C) = some true
  cell : ∃ cl cld csl, K.lookup cc = some ⟨cl, cld, .cell (some (.ref C)), csl⟩
  code : ∃ ccl cdd vs ccs file tf, K.lookup cda = some ⟨ccl, cdd, .fields vs, ccs⟩ ∧ vs[2]? = some (.str file tf) ∧ ((P.main.file : Str) == file) = true
  top : (P.main.scope.names.lookup ("super" : Str)).isSome = false
  fn : ∃ (oc : Value) (od : Option Addr) (doc pm : Value) (an : Option Addr) (ct : Value) (osl : Array (Option Value)),
    K.lookup fI = some ⟨oc, od, .func (ksFn "__init__" "InvalidDeed.__init__" idA idB idS .none .none doc pm an (.ref cda) ct cc), osl⟩ ∧ codeIn K (.ref cda) "InvalidDeed.__init__" = true
theorem IdTxt.idt {P : Program} {K : Frag} {mg : Str → Option Value} {C fI cc cda : Addr} (T : IdTxt P K mg C fI cc cda) : Idt K mg C := ⟨T.gC, T.te⟩
section
variable {P : Program} {w : World} {A : Around} {E : Value → Shared → Prop} {R : Result → Shared → Prop} {s : Shared} {K : Frag} {mg : Str → Option Value} {C fI cc cda : Addr}
variable {h : Heap} {g : Array GenState} {d : Drawn} {t : Nat} {os : OsState}
/-- ValueError.__init__ bound to the exception, called -/
theorem call_mw {nm q : Str} {C N : Addr} {bs bm : List Value} {hdct : Bool} {sn : List Str} {sub : List Value} {ab : Bool} {col : Option Bool} {dd : Option Addr} {k0 k1 k2 k3 k5 : Option Value} {u x t0 : Addr} {rest : List Value} {Q : Value → Shared → Prop}
    (hC : h.get? C = some (excClassObj nm q C N bs bm hdct sn sub ab col dd k0 k1 k2 k3 k5 "ValueError.__new__")) (hx : h.get? x = some (excO C t0)) (hu : h.get? u = some (kxs_mw "ValueError.__init__" x)) (hz : rest.length ≤ sizeLine)
    (hq : ∀ h' t1, (∀ b o, b ≠ x → h.get? b = some o → h'.get? b = some o) → h'.get? x = some (excO C t1) → Q .none ⟨h', g, d, t, os⟩) : wpAny (model P w) A (call (.ref u) rest) Q E ⟨h, g, d, t, os⟩ := by
  have FB := F.excBase_ValueError
  refine wpAny_call <| codeAny_of_tree ?_
  show wpAny _ A.in1 (callAny (.ref u) ⟨rest, []⟩) _ _ _
  simp only [callAny]
  refine wpAny_bind <| wpAny_load hu ?_
  have isMw : (Value.type "method-wrapper" == Value.type "method" || Value.type "method-wrapper" == Value.type "builtin_function_or_method" || Value.type "method-wrapper" == Value.type "method-wrapper") = true := by decide
  simp only [kxs_mw, isMw, if_true]
  refine KFB.if_so (by decide) ?_
  refine wpAny_bind <| check_bound_init FB.toExcCallFacts hC hx rfl ?_
  refine wpAny_bind <| wpAny_pure <| wpAny_pure ?_
  refine ⟨plainId_quiet FB.init.plain _, codeAny_builtin FB.initEntry ?_⟩
  exact exc_init_tree (cls := .ref C) (t0 := t0) (dv := none) (c2 := .none) (c3 := .none) (b4 := .bool false) hx hz fun h' k e _ => hq h' _ k e
/-- what __init__ leaves of a fresh exception at x -/
structure IdEnd (h h' : Heap) (x C dx t1 : Addr) (v : Value) : Prop where
  keep : ∀ b o, b ≠ x → h.get? b = some o → h'.get? b = some o
  obj : h'.get? x = some { cls := .ref C, dict := some dx, data := .fields #[.ref t1, .none, .none, .none, .bool false, .none] }
  dbig : h.objs.size ≤ dx
  dne : dx ≠ x
  ns : h'.Ns1 dx (fun y => if y = "at" then some v else none)
theorem id_init (T : IdTxt P K mg C fI cc cda) {x t0 : Addr} {v : Value} (X : K.In s.heap) (g0 : s.heap.Ns mainGlobals mg) (b0 : ∃ mb, s.heap.Ns builtinsNs mb ∧ ∀ x : Str, x ≠ "__name__" → mb x = bootBuiltins x) (hlim : s.heap.NoLimit) (hx : s.heap.get? x = some (excO C t0)) (hnx : K.lookup x = none) (hroom : A.depth < recursionLimit)
    (hq : ∀ h' tk dx t1, IdEnd s.heap h' x C dx t1 v → R (.ok (.ret .none)) { s with heap := h', toks := tk }) : codeAny (model P w) A (.call (.ref fI) ⟨[.ref x, v], []⟩) R s := by
  obtain ⟨oc, od, doc, pm, an, ct, osl, ho, hcd⟩ := T.fn
  obtain ⟨nm, q, N, bs, bm, sn, sub, ab, col, dd, k0, k1, k2, k3, k5, hC, hbm⟩ := T.cls
  obtain ⟨ccl, cdd, vs, ccs, file, tf, c1, c2, c3⟩ := T.code
  obtain ⟨cl, cld, csl, hcell⟩ := T.cell
  obtain ⟨mb, b1, b2⟩ := b0
  have hcl : clsIn K C = some { name := nm, bases := bs, mro := .ref C :: bm, ns := N, qualname := q, hasDict := true, slotNames := sn, subclasses := sub, abstract := ab, collection := col, hasDel := false } := by unfold clsIn; rw [hC]
  have hsup := T.sup
  unfold ks_superIn at hsup
  rw [hcl] at hsup
  refine ks_codeAny_call_defAt (fd := ksFn "__init__" "InvalidDeed.__init__" idA idB idS .none .none doc pm an (.ref cda) ct cc) (body := idB) (binds := [("self", .ref x), ("at", v)]) hroom (X _ _ ho) rfl hlim (codeRec_of X hcd) rfl (BindsTo.of_eq (by first | rfl | with_unfolding_all rfl)) (show ∀ x ∈ idS.names, x.2 ≠ .cell by decide +kernel) (fun y hy => ?_) (fun h₁ hns hk₁ => ?_) rfl rfl rfl
  · simp only [List.mem_cons, List.not_mem_nil, or_false] at hy
    rcases hy with rfl | rfl
    · first | rfl | decide +kernel
    · first | rfl | decide +kernel
  have X₁ : K.In h₁ := X.keeps hk₁
  have hx₁ := hk₁ _ _ hx
  have hC₁ := X₁ _ _ hC
  show _root_.PySem.wpAt _ _ _ (execs (idSup :: [idSet]) (ksEnv "InvalidDeed.__init__" idS s.heap.objs.size fI (.ref cda) cc)) _ _ _
  refine ks_wpAt_execs_cons ?_
  refine ks_wpAt_Expr_any ?_
  refine ks_wpAt_MethodCall ?_
  refine ks_wpAt_super_base (f := fI) (cc := cda) (ar := { arg := "self", annotation := none, pos := ⟨6, 17, 6, 21⟩ }) (by first | rfl | decide +kernel) (by first | rfl | decide +kernel) (by decide) rfl (X₁ _ _ ho) rfl rfl rfl (X₁ _ _ c1) rfl c2 c3 T.top ?_
  refine ks_loadName_global rfl (by first | rfl | decide +kernel) (loadGlobal_builtin (g0.keeps hk₁) T.gS (b1.keeps hk₁) ((b2 _ (by decide +kernel)).trans (by decide +kernel)) ⟨rfl, ?_⟩)
  refine wpAny_loadName_free rfl (by first | rfl | decide +kernel) rfl ⟨_, X₁ _ _ hcell, rfl⟩ ?_
  refine wpAny_loadName_local rfl (by first | rfl | decide +kernel) hns (by first | rfl | with_unfolding_all rfl | kernel_rfl) ?_
  refine ks_wpAny_isType_cls hC₁ rfl ⟨rfl, ?_⟩
  refine ks_wpAny_call_super hC₁ rfl hx₁ rfl (fun c => nofun) (looks_mroIn X₁ T.mroC) fun h₂ e₂ k₂ => ?_
  have X₂ : K.In h₂ := X₁.keeps k₂
  have hx₂ := k₂ _ _ hx₁
  have inst : InstAt h₂ x (excO C t0) C none := ⟨hx₂, rfl, rfl, trivial⟩
  refine kxs_getMethod kxs_ValueError e₂ (looks_opaque X₂ T.opq) (l₀ := .ref C :: bm) ?_ rfl X₂ hsup (inst.type.andThen (looks_subIn X₂ T.veC)) (ks_ne X₂ inst hcl) (by decide) ?_
  · exact fun A Q E s k q => wpAny_bind <| (looks_clsIn X₂ hcl) A _ E s k (wpAny_pure q)
  have k₃ : ∀ b o, h₂.get? b = some o → (h₂.push (kxs_mw "ValueError.__init__" x)).get? b = some o := fun b o e => Heap.get?_push_of_some _ e
  have e₃ : (h₂.push (kxs_mw "ValueError.__init__" x)).get? h₂.objs.size = some (kxs_mw "ValueError.__init__" x) := Heap.get?_push_size _ rfl
  refine kxs_callWith (i := "ValueError.__init__") (x := x) rfl (evalArgs_plain ?_)
  refine spliced_cons (Constant_str (k := 0) (pos := ⟨7, 25, 7, 39⟩) ?_)
  refine spliced_nil ⟨e₃, ?_⟩
  refine call_mw (k₃ _ _ (k₂ _ _ hC₁)) (k₃ _ _ hx₂) e₃ (by show 1 ≤ sizeLine; decide) fun h₄ t1 k₄ hx₄ => ?_
  have big : s.heap.objs.size < h₁.objs.size := hns.lt
  have ne : ∀ b o, s.heap.get? b = some o → K.lookup b ≠ none → b ≠ x := fun b o _ hb z => hb (z ▸ hnx)
  have X₄ : K.In h₄ := fun b o e => k₄ b o (fun z => by rw [z, hnx] at e; cases e) (k₃ _ _ (X₂ b o e))
  have keep4 : ∀ b o, b ≠ x → h₁.get? b = some o → h₄.get? b = some o := fun b o hb e => k₄ b o hb (k₃ _ _ (k₂ _ _ e))
  have hxL : s.heap.objs.size ≠ x := Nat.ne_of_gt (Heap.lt_size hx)
  have hns₄ : h₄.Ns s.heap.objs.size (fun y => ([("self", Value.ref x), ("at", v)] : List (Str × Value)).reverse.lookup y) := by
    obtain ⟨oL, es, ep, hL, r⟩ := hns
    exact ⟨oL, es, ep, keep4 _ _ hxL hL, r⟩
  refine ks_wpAt_execs_cons ?_
  refine ks_wpAt_Assign_Attr ?_
  refine wpAt_of_wpAny ?_
  refine wpAny_Name (wpAny_loadName_local rfl (by first | rfl | decide +kernel) hns₄ (by first | rfl | with_unfolding_all rfl | kernel_rfl) ?_) (by decide)
  refine wpAny_Name (wpAny_loadName_local rfl (by first | rfl | decide +kernel) hns₄ (by first | rfl | with_unfolding_all rfl | kernel_rfl) ?_) (by decide)
  refine set_plain X₄ (ox := excO C t1) (od := none) ⟨hx₄, rfl, rfl, trivial⟩ T.sa ?_
  refine exc_osa X₄ hx₄ hcl (show refsVE (.ref C :: bm) = true from hbm) rfl T.noN (fun h₅ tk₅ dx k₅ dn dne hx₅ hn₅ => ?_)
  refine wpAt_of_wpAny (wpAny_execs_nil (hq h₅ tk₅ dx t1 ⟨fun b o hb e => k₅ b o hb (keep4 b o hb (hk₁ b o e)), hx₅, ?_, dne, hn₅⟩))
  exact Nat.le_trans (Nat.le_of_lt hns₄.lt) dn
end
end Gv

namespace Gv
open PySem PySem.W PySem.Calls PyProof.Rows PySem.HandSPX
/-- a made InvalidDeed -/
structure IdMade (h h' : Heap) (e C d : Addr) (v : Value) : Prop where
  keep : ∀ b o, h.get? b = some o → h'.get? b = some o
  new : h.objs.size ≤ e
  obj : ∃ oe vs, h'.get? e = some oe ∧ oe.cls = .ref C ∧ oe.dict = some d ∧ oe.data = .fields vs ∧ vs[1]? = some .none
  dbig : h.objs.size ≤ d
  dne : d ≠ e
  ns : h'.Ns1 d (fun y => if y = "at" then some v else none)
section
variable {P : Program} {w : World} {A : Around} {E : Value → Shared → Prop} {R : Result → Shared → Prop} {s : Shared} {K : Frag} {mg : Str → Option Value} {C fI cc cda : Addr}
theorem id_made (T : IdTxt P K mg C fI cc cda) {v : Value} (X : K.In s.heap) (g0 : s.heap.Ns mainGlobals mg) (b0 : ∃ mb, s.heap.Ns builtinsNs mb ∧ ∀ x : Str, x ≠ "__name__" → mb x = bootBuiltins x) (hlim : s.heap.NoLimit) (hroom : A.depth + 1 < recursionLimit)
    (hq : ∀ h' tk e d, IdMade s.heap h' e C d v → R (.ok (.ret (.ref e))) { s with heap := h', toks := tk }) : codeAny (model P w) A (.call (.ref C) ⟨[v], []⟩) R s := by
  obtain ⟨nm, q, N, bs, bm, sn, sub, ab, col, dd, k0, k1, k2, k3, k5, hC, hbm⟩ := T.cls
  obtain ⟨mb, b1, b2⟩ := b0
  obtain ⟨hp, g, dr, tk, os⟩ := s
  have up : ∀ b o, hp.get? b = some o → ((hp.push (kdv_tup [v])).push (excO C hp.objs.size)).get? b = some o := fun b o e => Heap.get?_push_of_some _ <| Heap.get?_push_of_some _ e
  have at1 : ((hp.push (kdv_tup [v])).push (excO C hp.objs.size)).get? (hp.objs.size + 1) = some (excO C hp.objs.size) := by heap_get
  have free : K.lookup (hp.objs.size + 1) = none := by
    cases e : K.lookup (hp.objs.size + 1) with
    | none => rfl
    | some o => exact absurd (Heap.lt_size (show hp.get? _ = some o from X _ _ e)) (Nat.not_lt.mpr (Nat.le_succ _))
  refine call_own F.excBase_ValueError (fun Y => refsVE_contains Y bm hbm) (X _ _ hC) (looks_findIn X T.iC) (fun self => bind_fn X self T.tI) (by show 1 ≤ sizeLine; decide) ?_
  refine id_init (s := ⟨(hp.push (kdv_tup [v])).push (excO C hp.objs.size), g, dr, tk, os⟩) T (X.keeps up) (g0.keeps up) ⟨mb, b1.keeps up, b2⟩ (hlim.keeps up) at1 free (show A.depth + 1 < recursionLimit from hroom) fun h' tk' dx t1 M => ?_
  have old : ∀ b o, hp.get? b = some o → h'.get? b = some o := fun b o e => M.keep b o (Nat.ne_of_lt (Nat.lt_succ_of_lt (Heap.lt_size e))) (up b o e)
  have z : hp.objs.size + 1 + 1 ≤ dx := by
    have := M.dbig
    first
      | (simpa only [Heap.size_push] using this)
      | exact this
  exact ⟨rfl, hq h' tk' (hp.objs.size + 1) dx ⟨old, Nat.le_succ _, ⟨_, _, M.obj, rfl, rfl, rfl, rfl⟩, Nat.le_trans (Nat.le_succ _) (Nat.le_of_succ_le z), M.dne, M.ns⟩⟩
end
end Gv
namespace Gv
open PySem PySem.Spec PyProof.Rows L2
theorem relO_at {v : V} {v' : Value} (r : RelV v v') (f : Str) : RelO (List.lookup f [(("at" : Str), v)]) (if f = "at" then some v' else none) := by
  by_cases e : f = "at"
  · rw [e, if_pos rfl, List.lookup_cons_self]
    exact r
  · have no : (f == ("at" : Str)) = false := beq_false_of_ne e
    rw [if_neg e, List.lookup_cons, no]
    trivial
section
variable {X : Cx} {C fI cc cda : Addr}
/-- InvalidDeed(e) -/
def tMkId (C : Addr) (ta : TA) : L2.St → Hp → XK → Prop := fun σ H Q => ta σ H fun vs H1 => ∃ v, vs = [v] ∧ ∀ d, H1 d = none → Q (.ref C) (some d) (upd H1 d (.xd [(("at" : Str), v)]))
theorem pmk_id {a : Expr} {ta : TA} {p pos : Pos} {k : Nat} (T : IdTxt X.prog X.K X.mg C fI cc cda) (hr : Room k X.A) (ha : PA X [a] ta) (hg : Gl X "InvalidDeed" := by rfl)
    (he : starEach (a :: []) X.env = (false, eval a X.env) :: starEach [] X.env := by rfl) (hpl : (backTo pos (starEach [] X.env)).any (·.1) = false := by rfl) : PMk X (.Call (.Name "InvalidDeed" p) [a] [] pos) (tMkId C ta) := by
  intro pins s σ H Q I h
  refine wpAny_Call_Name_kw (ld_glob I hg T.gC ?_)
  refine PySem.W.callWith_K (h₀ := X.base) I.ok.mod.kin T.kC (thn (ha.run pos pins s σ H _ I h) fun us s1 ⟨vs, H1, I1, r1, v, ev, q1⟩ => ⟨I1.kIn, ?_⟩) he hpl
  subst ev
  obtain ⟨u, rfl, rv⟩ := vals1 r1
  show wpAny _ _ (call (.ref C) [u]) _ _ _
  have dp := hr.dp
  obtain ⟨mb, m1, m2⟩ := I1.mod.blt
  refine wpAny_call (id_made T I1.kIn (I1.mod.glob.keeps I1.bk) ⟨mb, m1.keeps I1.bk, m2⟩ (I1.mod.nolimit.keeps I1.bk) (by omega) fun h' tk' e d M => ?_)
  obtain ⟨hp, g, dr, tk, os⟩ := s1
  show MkP X pins σ Q (.ref e) ⟨h', g, dr, tk', os⟩
  obtain ⟨oe, fv, hoe, hcl, hdi, hda, h1⟩ := M.obj
  obtain ⟨G, g1, g2⟩ := restrict h' fun b => decide (b ≠ e)
  have same : ∀ b, b ≠ e → G.get? b = h'.get? b := fun b hb => g1 b (decide_eq_true hb)
  have gone : G.get? e = none := g2 e (by simp)
  have old : ∀ b o, hp.get? b = some o → G.get? b = some o := fun b o z => (same b (Nat.ne_of_lt (Nat.lt_of_lt_of_le (Heap.lt_size z) M.new))).trans (M.keep b o z)
  have xd : ObjOk X.prog X.w (upd H1 d (.xd [(("at" : Str), v)])) G d (.xd [(("at" : Str), v)]) := ⟨_, M.ns.at (fun o z => (same d M.dne).trans z), fun f => relO_at rv f⟩
  have J : L2.Inv X pins σ (upd H1 d (.xd [(("at" : Str), v)])) ⟨G, g, dr, tk', os⟩ := I1.laid (t' := tk') old M.dbig xd
  refine ⟨e, oe, fv, ⟨G, g, dr, tk', os⟩, _, .ref C, some d, rfl, J, fun b o z => ?_, gone, hoe, ⟨hcl, hdi⟩, hda, h1, ?_, rfl, I1.bare, raises_own T.exC T.tyC, q1 d (I1.hok.fresh M.dbig)⟩
  · by_cases hb : b = e
    · have z' : G.get? b = some o := z
      rw [hb, gone] at z'
      cases z'
    · exact (same b hb).symm.trans z
  · rw [upd_ne (Ne.symm M.dne)]
    exact I1.hok.fresh M.new
end
theorem sc_need : FnScope ["is_right", "at"] ["is_right", "at"] (defScope s_need) := ⟨rfl, rfl, rfl, by decide +kernel, rfl, by decide +kernel, by decide +kernel⟩
theorem cal_need {P : Program} {w : World} {K : PySem.W.Frag} {mg : Str → Option Value} {base : Heap} {C fI cc cda : Addr} (d : Df K mg "need" s_need) (T : IdTxt P K mg C fI cc cda) : C_need P w K mg base C := by
  refine cal_of d sc_need (SpD.len len_need) (fun _ _ _ _ _ _ us hl => match us, hl with | [_, _], _ => rfl) fun f cdv A outer s H vs Q E hr h => ⟨_, pss_one (ps_if (pt_not (pt_val (pv 0))) (pss_one (ps_raise rfl (takes_of rfl rfl rfl rfl) (pmk_id T hr (pa_cons (pv 1) pa_nil)))) pss_nil),
    def_run h fun ds oc g => by
    obtain ⟨b, k, rfl, rfl⟩ := g
    refine run_if1 (et_not (et_test1 (ev_var rfl))) (fun e => ?_) fun e => ?_
    · rw [Bool.not_eq_true'] at e
      subst e
      intro M σ H De w1 w2 ok inv e kn kr kx
      obtain ⟨v1, h1, i1⟩ := e.get (i := 1) rfl
      exact ⟨_, h1, v1, rfl, fun dx hd => kx rfl dx _ (Stp.of (same_new hd)) trivial⟩
    · rw [Bool.not_eq_false'] at e
      subst e
      exact run_next ⟨_, rfl, rfl⟩⟩
end Gv

namespace Gv
open PySem PySem.Spec PyProof.Rows L2
/-! ### what the head looks at, more than defs -/
abbrev idC (K : PySem.W.Frag) : Addr := He.ga K "InvalidDeed"
abbrev idF (K : PySem.W.Frag) : Addr := He.ma K (idC K) "__init__"
def idFd (K : PySem.W.Frag) : Option FuncData := match K.lookup (idF K) with
  | some ⟨_, _, .func fd, _⟩ => some fd
  | _ => none
def idCc (K : PySem.W.Frag) : Addr := match idFd K with
  | some fd => (match fd.closure with
    | [(_, c)] => c
    | _ => 0)
  | _ => 0
def idCda (K : PySem.W.Frag) : Addr := match idFd K with
  | some fd => (match fd.code with
    | .ref c => c
    | _ => 0)
  | _ => 0
abbrev FnI : Type := Option (Str × Str × Arguments × FuncBody × Scope × Addr × List Str × Addr)
def fnI (K : PySem.W.Frag) : FnI := (idFd K).map fun fd => (fd.name, fd.qualname, fd.params, fd.body, fd.scope, fd.globals, fd.closure.map (·.1), fd.builtins)
def valI : FnI := some ("__init__", "InvalidDeed.__init__", idA, .stmts idB, idS, mainGlobals, ["__class__"], builtinsNs)
def words : List Str := ["test", "ring", "link", "away", "back", "come", "day"]
def sizes : List (Str × Int) := [("test", 4), ("ring", 2), ("link", 2), ("away", 2), ("back", 2), ("come", 3), ("day", 1)]
def tupW (K : PySem.W.Frag) (a : Addr) : Bool := match K.lookup a with
  | some ⟨.type "tuple", _, .seq its _, _⟩ => decide (its.size ≤ 1000) && He.relAll (words.map V.str) its.toList
  | _ => false
def clsB (K : PySem.W.Frag) (C : Addr) : Bool := match K.lookup C with
  | some ⟨.type "type", _, .cls cd, sl⟩ => (match cd.mro, sl.toList with
    | .ref C' :: bm, [_, _, _, _, some (.builtin n), _] => C' == C && (n == "ValueError.__new__" && (!cd.hasDel && (cd.hasDict && PySem.HandSPX.refsVE bm)))
    | _, _ => false)
  | _ => false
def cellB (K : PySem.W.Frag) (cc C : Addr) : Bool := match K.lookup cc with
  | some ⟨_, _, .cell (some (.ref D)), _⟩ => D == C
  | _ => false
def codeB (K : PySem.W.Frag) (cda : Addr) : Bool := match K.lookup cda with
  | some ⟨_, _, .fields vs, _⟩ => (match (vs[2]? : Option Value) with
    | some (Value.str f _) => (("/claim/cut.py" : Str) == f)
    | _ => false)
  | _ => false
def plainFd (K : PySem.W.Frag) : Bool := match idFd K with
  | some fd => (match fd.defaults, fd.kwdefaults, fd.code, fd.closure with
    | .none, .none, .ref c, [_] => PySem.W.codeIn K (.ref c) "InvalidDeed.__init__"
    | _, _, _, _ => false)
  | _ => false
def xB (K : PySem.W.Frag) : List Bool :=
  [tupW K (He.ga K "WORDS"), He.valsB K (He.ga K "SIZES") (sizes.map fun q => (q.1, He.Dv.int q.2)), clsB K (idC K), He.eqO (PySem.W.findIn K (.ref (idC K)) "__setattr__") (some (some (.builtin "object.__setattr__"))),
   He.eqO (PySem.W.findIn K (.ref (idC K)) "at") (some none), He.eqO (PySem.W.findIn K (.ref (idC K)) "__init__") (some (some (.ref (idF K)))), decide (PySem.W.typeIn K (.ref (idF K)) = some (.type "function")), PySem.W.keepIn K (.ref (idC K)),
   decide (PySem.W.subIn K (.ref (idC K)) (.type "BaseException") = some true), decide (PySem.W.subIn K (.ref (idC K)) (.type "ValueError") = some true), decide (PySem.W.typeIn K (.ref (idC K)) = some (.type "type")),
   He.eqO (PySem.W.nsIn K cStatics "thirdparty.any") (some none), He.eqO (PySem.W.ks_superIn K (idC K) (idC K) "__init__") (some (some (.builtin "ValueError.__init__"))), decide (PySem.W.mroIn K (idC K) (.ref (idC K)) = some true),
   cellB K (idCc K) (idC K), codeB K (idCda K), plainFd K, decide (PySem.W.exmOne K (.ref (idC K)) (.ref (idC K)) = some true)]
def ts : List He.Tab := [(fun K => He.ga K "SIZES", sizes.map (·.1))]
def faX : List He.Fa := faG1 ++ faG2 ++ faB ++ [.glo "InvalidDeed", .glo "WORDS", .glo "SIZES", .int "MOST_PEOPLE" 60, .int "MOST_FRIENDS" 120]
abbrev AlX : Type := He.AlT × (FnI × List Bool)
def obsX (K : PySem.W.Frag) : AlX := (He.obsT faX fn ts K, (fnI K, xB K))
def valX (w : World) : AlX := (He.valT fn ts w, (valI, List.replicate 18 true))
def asX (g : Addr → Option Obj) : List Addr := cStatics :: He.asD g 5
def hk : PySem.W.Hook where
  α := AlX
  obs := fun s => obsX (He.frG s.heap.get? (asX s.heap.get?))
  val := valX
  says := fun w h => ∃ K : PySem.W.Frag, K.In h ∧ obsX K = valX w
  of := fun _ _ e => ⟨_, He.frG_in, e⟩
  keeps := fun _ _ _ ⟨K, hK, c⟩ k => ⟨K, PySem.W.Frag.In.keeps hK k, c⟩
def ob (s : PySem.W.SharedT) : AlX := obsX (He.frG (HandSHeadRun.getT s) (asX (HandSHeadRun.getT s)))
theorem ob_eq (s : PySem.W.SharedT) : ob s = hk.obs s.abs := by
  have e : HandSHeadRun.getT s = s.abs.heap.get? := funext (HandSHeadRun.getT_eq s)
  unfold ob
  rw [e]
  rfl
end Gv

namespace Gv
open PySem PySem.Spec PyProof.Rows L2
theorem runX (w : World) : HandSHeadRun.RunEq R (PySem.W.view R.prog [51]) hk ob 3000 names w := by
  refine PySem.W.byRow2 "special-get-raises" (P := fun w => HandSHeadRun.RunEq R (PySem.W.view R.prog [51]) hk ob 3000 names w) (fun w => ?_) (fun w => ?_) w
  · intro os
    kernel_rfl
  · intro os
    kernel_rfl
end Gv

namespace Gv
open PySem PySem.Spec PyProof.Rows L2
section
variable {w : World} {K : PySem.W.Frag} {h : Heap} {mg : Str → Option Value}
theorem cls_of {C : Addr} (q : clsB K C = true) : ∃ nm qn N bs bm sn sub ab col dd k0 k1 k2 k3 k5, K.lookup C = some (excClassObj nm qn C N bs bm true sn sub ab col dd k0 k1 k2 k3 k5 "ValueError.__new__") ∧ PySem.HandSPX.refsVE bm = true := by
  unfold clsB at q
  split at q
  · rename_i dd cd sl ho
    split at q
    · rename_i C' bm k0 k1 k2 k3 n k5 hm hs
      simp only [Bool.and_eq_true, beq_iff_eq, Bool.not_eq_true'] at q
      obtain ⟨rfl, rfl, hdel, hdict, hve⟩ := q
      obtain ⟨nm, bs, mro, ns, qn, hd, sn, sub, ab, col, del⟩ := cd
      dsimp only at hm hdel hdict
      subst hm hdel hdict
      have hsl : sl = #[k0, k1, k2, k3, some (.builtin "ValueError.__new__"), k5] := by
        rw [← hs]
      subst hsl
      exact ⟨nm, qn, ns, bs, bm, sn, sub, ab, col, dd, k0, k1, k2, k3, k5, ho, hve⟩
    · cases q
  · cases q
theorem idFd_of {fd : FuncData} (e : idFd K = some fd) : ∃ oc od osl, K.lookup (idF K) = some ⟨oc, od, .func fd, osl⟩ := by
  unfold idFd at e
  split at e
  · rename_i oc od f sl ho
    cases e
    exact ⟨_, _, _, ho⟩
  · cases e
theorem fn_of_head (e : fnI K = valI) (p : plainFd K = true) : ∃ (oc : Value) (od : Option Addr) (doc pm : Value) (an : Option Addr) (ct : Value) (osl : Array (Option Value)),
    K.lookup (idF K) = some ⟨oc, od, .func (PySem.W.ksFn "__init__" "InvalidDeed.__init__" idA idB idS .none .none doc pm an (.ref (idCda K)) ct (idCc K)), osl⟩ ∧ PySem.W.codeIn K (.ref (idCda K)) "InvalidDeed.__init__" = true := by
  cases hf : idFd K with
  | none =>
    unfold fnI at e
    rw [hf] at e
    cases e
  | some fd =>
    obtain ⟨oc, od, osl, hl⟩ := idFd_of hf
    unfold fnI at e
    rw [hf] at e
    have e := Option.some.inj e
    unfold plainFd at p
    rw [hf] at p
    dsimp only at p
    split at p
    · rename_i c q h1 h2 h3 h4
      have ec : idCda K = c := by unfold idCda; rw [hf]; dsimp only; rw [h3]
      have eq : idCc K = q.2 := by unfold idCc; rw [hf]; dsimp only; rw [h4]
      rw [ec, eq]
      obtain ⟨f1, f2, f3, f4, f5, f6, f7, f8, f9, f10, f11, f12, f13, f14, f15⟩ := fd
      dsimp only at e h1 h2 h3 h4
      simp only [Prod.mk.injEq] at e
      obtain ⟨rfl, rfl, rfl, rfl, rfl, rfl, e7, rfl⟩ := e
      subst h1 h2 h3 h4
      obtain ⟨q1, q2⟩ := q
      have e8 : q1 = ("__class__" : Str) := by
        have : [q1] = [("__class__" : Str)] := e7
        exact (List.cons.inj this).1
      subst e8
      exact ⟨oc, od, _, _, _, _, osl, hl, p⟩
    · cases p
theorem tup_of {a : Addr} (q : tupW K a = true) : KTup K a (words.map V.str) := by
  unfold tupW at q
  split at q
  · rename_i od its n sl ho
    rw [Bool.and_eq_true, decide_eq_true_eq] at q
    exact ⟨_, its, _, ho, rfl, rfl, by rw [sizeLine_eq]; omega, He.relAll_ok q.2⟩
  · cases q
theorem cell_of {cc C : Addr} (q : cellB K cc C = true) : ∃ cl cld csl, K.lookup cc = some ⟨cl, cld, .cell (some (.ref C)), csl⟩ := by
  unfold cellB at q
  split at q
  · rename_i cl cld D csl ho
    rw [beq_iff_eq.mp q] at ho
    exact ⟨_, _, _, ho⟩
  · cases q
theorem code_of {cda : Addr} (q : codeB K cda = true) : ∃ ccl cdd vs ccs file tf, K.lookup cda = some ⟨ccl, cdd, .fields vs, ccs⟩ ∧ vs[2]? = some (.str file tf) ∧ (("/claim/cut.py" : Str) == file) = true := by
  unfold codeB at q
  split at q
  · rename_i ccl cdd vs ccs ho
    split at q
    · rename_i f tf hv
      exact ⟨_, _, _, _, _, _, ho, hv, q⟩
    · cases q
  · cases q
end
abbrev PP : Program := PySem.Challenge.rw_givesifgets_k56_whole_runs_give_nothing.prog
theorem pp_file : (PP.main.file : Str) = "/claim/cut.py" := by kernel_rfl
theorem pp_top : (PP.main.scope.names.lookup ("super" : Str)).isSome = false := by kernel_rfl

theorem facts {w : World} {K : PySem.W.Frag} {h : Heap} {mg : Str → Option Value} {fa : Addr} (X : K.In h) (G : h.Ns mainGlobals mg) (hfa : mg ("law" : Str) = some (.ref fa)) (c : obsX K = valX w) :
    ∃ fd : FuncData, (∀ (s : Shared) (v : Value), BindsTo s fd ⟨[v], []⟩ [("_law_script", v)]) ∧ ∀ base : Heap, K.In base → base.Ns mainGlobals mg → FnOk PP w K mg base CX0 11 fa fd ["_law_script"] (spLaw K) := by
  have cT : He.SaysT faX fn ts w K := congrArg (fun z : AlX => z.1) c
  have cD := cT.d
  have cI : fnI K = valI := congrArg (fun z : AlX => z.2.1) c
  have cX : xB K = List.replicate 18 true := congrArg (fun z : AlX => z.2.2) c
  have key : ∀ b ∈ xB K, b = true := by
    rw [cX]
    exact fun b hb => List.eq_of_mem_replicate hb
  have d_is_integer : Df K mg "is_integer" s_is_integer := by
    obtain ⟨fd, F⟩ := cD.def_ 0 (d := mkD "is_integer" s_is_integer) rfl
    exact ⟨_, fd, F, He.glo_ok X G (cD.fact 0 (f := .glo "is_integer") rfl)⟩
  have d_is_number : Df K mg "is_number" s_is_number := by
    obtain ⟨fd, F⟩ := cD.def_ 1 (d := mkD "is_number" s_is_number) rfl
    exact ⟨_, fd, F, He.glo_ok X G (cD.fact 1 (f := .glo "is_number") rfl)⟩
  have d_is_index : Df K mg "is_index" s_is_index := by
    obtain ⟨fd, F⟩ := cD.def_ 2 (d := mkD "is_index" s_is_index) rfl
    exact ⟨_, fd, F, He.glo_ok X G (cD.fact 2 (f := .glo "is_index") rfl)⟩
  have d_is_row_of : Df K mg "is_row_of" s_is_row_of := by
    obtain ⟨fd, F⟩ := cD.def_ 3 (d := mkD "is_row_of" s_is_row_of) rfl
    exact ⟨_, fd, F, He.glo_ok X G (cD.fact 3 (f := .glo "is_row_of") rfl)⟩
  have d_is_word_of : Df K mg "is_word_of" s_is_word_of := by
    obtain ⟨fd, F⟩ := cD.def_ 4 (d := mkD "is_word_of" s_is_word_of) rfl
    exact ⟨_, fd, F, He.glo_ok X G (cD.fact 4 (f := .glo "is_word_of") rfl)⟩
  have d_is_pair_of : Df K mg "is_pair_of" s_is_pair_of := by
    obtain ⟨fd, F⟩ := cD.def_ 5 (d := mkD "is_pair_of" s_is_pair_of) rfl
    exact ⟨_, fd, F, He.glo_ok X G (cD.fact 5 (f := .glo "is_pair_of") rfl)⟩
  have d_has_tie : Df K mg "has_tie" s_has_tie := by
    obtain ⟨fd, F⟩ := cD.def_ 6 (d := mkD "has_tie" s_has_tie) rfl
    exact ⟨_, fd, F, He.glo_ok X G (cD.fact 6 (f := .glo "has_tie") rfl)⟩
  have d_friends_of : Df K mg "friends_of" s_friends_of := by
    obtain ⟨fd, F⟩ := cD.def_ 7 (d := mkD "friends_of" s_friends_of) rfl
    exact ⟨_, fd, F, He.glo_ok X G (cD.fact 7 (f := .glo "friends_of") rfl)⟩
  have d_free_friends : Df K mg "free_friends" s_free_friends := by
    obtain ⟨fd, F⟩ := cD.def_ 8 (d := mkD "free_friends" s_free_friends) rfl
    exact ⟨_, fd, F, He.glo_ok X G (cD.fact 8 (f := .glo "free_friends") rfl)⟩
  have d_barred_more : Df K mg "barred_more" s_barred_more := by
    obtain ⟨fd, F⟩ := cD.def_ 9 (d := mkD "barred_more" s_barred_more) rfl
    exact ⟨_, fd, F, He.glo_ok X G (cD.fact 9 (f := .glo "barred_more") rfl)⟩
  have d_start_world : Df K mg "start_world" s_start_world := by
    obtain ⟨fd, F⟩ := cD.def_ 10 (d := mkD "start_world" s_start_world) rfl
    exact ⟨_, fd, F, He.glo_ok X G (cD.fact 10 (f := .glo "start_world") rfl)⟩
  have d_owner_of : Df K mg "owner_of" s_owner_of := by
    obtain ⟨fd, F⟩ := cD.def_ 11 (d := mkD "owner_of" s_owner_of) rfl
    exact ⟨_, fd, F, He.glo_ok X G (cD.fact 11 (f := .glo "owner_of") rfl)⟩
  have d_people_left : Df K mg "people_left" s_people_left := by
    obtain ⟨fd, F⟩ := cD.def_ 12 (d := mkD "people_left" s_people_left) rfl
    exact ⟨_, fd, F, He.glo_ok X G (cD.fact 12 (f := .glo "people_left") rfl)⟩
  have d_givers_left : Df K mg "givers_left" s_givers_left := by
    obtain ⟨fd, F⟩ := cD.def_ 13 (d := mkD "givers_left" s_givers_left) rfl
    exact ⟨_, fd, F, He.glo_ok X G (cD.fact 13 (f := .glo "givers_left") rfl)⟩
  have d_links_left : Df K mg "links_left" s_links_left := by
    obtain ⟨fd, F⟩ := cD.def_ 14 (d := mkD "links_left" s_links_left) rfl
    exact ⟨_, fd, F, He.glo_ok X G (cD.fact 14 (f := .glo "links_left") rfl)⟩
  have d_need : Df K mg "need" s_need := by
    obtain ⟨fd, F⟩ := cD.def_ 15 (d := mkD "need" s_need) rfl
    exact ⟨_, fd, F, He.glo_ok X G (cD.fact 15 (f := .glo "need") rfl)⟩
  have d_put_in : Df K mg "put_in" s_put_in := by
    obtain ⟨fd, F⟩ := cD.def_ 16 (d := mkD "put_in" s_put_in) rfl
    exact ⟨_, fd, F, He.glo_ok X G (cD.fact 16 (f := .glo "put_in") rfl)⟩
  have d_is_tie : Df K mg "is_tie" s_is_tie := by
    obtain ⟨fd, F⟩ := cD.def_ 17 (d := mkD "is_tie" s_is_tie) rfl
    exact ⟨_, fd, F, He.glo_ok X G (cD.fact 17 (f := .glo "is_tie") rfl)⟩
  have d_is_ring : Df K mg "is_ring" s_is_ring := by
    obtain ⟨fd, F⟩ := cD.def_ 18 (d := mkD "is_ring" s_is_ring) rfl
    exact ⟨_, fd, F, He.glo_ok X G (cD.fact 18 (f := .glo "is_ring") rfl)⟩
  have d_tested : Df K mg "tested" s_tested := by
    obtain ⟨fd, F⟩ := cD.def_ 19 (d := mkD "tested" s_tested) rfl
    exact ⟨_, fd, F, He.glo_ok X G (cD.fact 19 (f := .glo "tested") rfl)⟩
  have d_ringed : Df K mg "ringed" s_ringed := by
    obtain ⟨fd, F⟩ := cD.def_ 20 (d := mkD "ringed" s_ringed) rfl
    exact ⟨_, fd, F, He.glo_ok X G (cD.fact 20 (f := .glo "ringed") rfl)⟩
  have d_linked : Df K mg "linked" s_linked := by
    obtain ⟨fd, F⟩ := cD.def_ 21 (d := mkD "linked" s_linked) rfl
    exact ⟨_, fd, F, He.glo_ok X G (cD.fact 21 (f := .glo "linked") rfl)⟩
  have d_come : Df K mg "come" s_come := by
    obtain ⟨fd, F⟩ := cD.def_ 22 (d := mkD "come" s_come) rfl
    exact ⟨_, fd, F, He.glo_ok X G (cD.fact 22 (f := .glo "come") rfl)⟩
  have d_do_deed : Df K mg "do_deed" s_do_deed := by
    obtain ⟨fd, F⟩ := cD.def_ 23 (d := mkD "do_deed" s_do_deed) rfl
    exact ⟨_, fd, F, He.glo_ok X G (cD.fact 23 (f := .glo "do_deed") rfl)⟩
  have d_can_do : Df K mg "can_do" s_can_do := by
    obtain ⟨fd, F⟩ := cD.def_ 24 (d := mkD "can_do" s_can_do) rfl
    exact ⟨_, fd, F, He.glo_ok X G (cD.fact 24 (f := .glo "can_do") rfl)⟩
  have d_l_draw : Df K mg "_law_draw" s_l_draw := by
    obtain ⟨fd, F⟩ := cD.def_ 25 (d := mkD "_law_draw" s_l_draw) rfl
    exact ⟨_, fd, F, He.glo_ok X G (cD.fact 25 (f := .glo "_law_draw") rfl)⟩
  have d_l_any : Df K mg "_law_any" s_l_any := by
    obtain ⟨fd, F⟩ := cD.def_ 26 (d := mkD "_law_any" s_l_any) rfl
    exact ⟨_, fd, F, He.glo_ok X G (cD.fact 26 (f := .glo "_law_any") rfl)⟩
  have d_l_of : Df K mg "_law_of" s_l_of := by
    obtain ⟨fd, F⟩ := cD.def_ 27 (d := mkD "_law_of" s_l_of) rfl
    exact ⟨_, fd, F, He.glo_ok X G (cD.fact 27 (f := .glo "_law_of") rfl)⟩
  have d_l_mixed : Df K mg "_law_mixed" s_l_mixed := by
    obtain ⟨fd, F⟩ := cD.def_ 28 (d := mkD "_law_mixed" s_l_mixed) rfl
    exact ⟨_, fd, F, He.glo_ok X G (cD.fact 28 (f := .glo "_law_mixed") rfl)⟩
  have d_l_registry : Df K mg "_law_registry" s_l_registry := by
    obtain ⟨fd, F⟩ := cD.def_ 29 (d := mkD "_law_registry" s_l_registry) rfl
    exact ⟨_, fd, F, He.glo_ok X G (cD.fact 29 (f := .glo "_law_registry") rfl)⟩
  have d_l_is_number : Df K mg "_law_is_number" s_l_is_number := by
    obtain ⟨fd, F⟩ := cD.def_ 30 (d := mkD "_law_is_number" s_l_is_number) rfl
    exact ⟨_, fd, F, He.glo_ok X G (cD.fact 30 (f := .glo "_law_is_number") rfl)⟩
  have d_l_tie_in : Df K mg "_law_tie_in" s_l_tie_in := by
    obtain ⟨fd, F⟩ := cD.def_ 31 (d := mkD "_law_tie_in" s_l_tie_in) rfl
    exact ⟨_, fd, F, He.glo_ok X G (cD.fact 31 (f := .glo "_law_tie_in") rfl)⟩
  have d_l_friends : Df K mg "_law_friends" s_l_friends := by
    obtain ⟨fd, F⟩ := cD.def_ 32 (d := mkD "_law_friends" s_l_friends) rfl
    exact ⟨_, fd, F, He.glo_ok X G (cD.fact 32 (f := .glo "_law_friends") rfl)⟩
  have d_l_ring_fits : Df K mg "_law_ring_fits" s_l_ring_fits := by
    obtain ⟨fd, F⟩ := cD.def_ 33 (d := mkD "_law_ring_fits" s_l_ring_fits) rfl
    exact ⟨_, fd, F, He.glo_ok X G (cD.fact 33 (f := .glo "_law_ring_fits") rfl)⟩
  have d_l_link_fits : Df K mg "_law_link_fits" s_l_link_fits := by
    obtain ⟨fd, F⟩ := cD.def_ 34 (d := mkD "_law_link_fits" s_l_link_fits) rfl
    exact ⟨_, fd, F, He.glo_ok X G (cD.fact 34 (f := .glo "_law_link_fits") rfl)⟩
  have d_l_some_ring : Df K mg "_law_some_ring" s_l_some_ring := by
    obtain ⟨fd, F⟩ := cD.def_ 35 (d := mkD "_law_some_ring" s_l_some_ring) rfl
    exact ⟨_, fd, F, He.glo_ok X G (cD.fact 35 (f := .glo "_law_some_ring") rfl)⟩
  have d_l_some_deed : Df K mg "_law_some_deed" s_l_some_deed := by
    obtain ⟨fd, F⟩ := cD.def_ 36 (d := mkD "_law_some_deed" s_l_some_deed) rfl
    exact ⟨_, fd, F, He.glo_ok X G (cD.fact 36 (f := .glo "_law_some_deed") rfl)⟩
  have d_l_holds : Df K mg "_law_holds" s_l_holds := by
    obtain ⟨fd, F⟩ := cD.def_ 37 (d := mkD "_law_holds" s_l_holds) rfl
    exact ⟨_, fd, F, He.glo_ok X G (cD.fact 37 (f := .glo "_law_holds") rfl)⟩
  have d_l_gifts : Df K mg "_law_gifts" s_l_gifts := by
    obtain ⟨fd, F⟩ := cD.def_ 38 (d := mkD "_law_gifts" s_l_gifts) rfl
    exact ⟨_, fd, F, He.glo_ok X G (cD.fact 38 (f := .glo "_law_gifts") rfl)⟩
  obtain ⟨fdL, FL⟩ := cD.def_ 39 (d := mkD "law" s_law) rfl
  have eL := hfa.symm.trans (He.glo_ok X G (cD.fact 39 (f := .glo "law") rfl))
  cases eL
  have T : Nms K mg := ⟨He.free_ok X G (cD.fact 40 (f := .free "len") rfl), He.free_ok X G (cD.fact 41 (f := .free "range") rfl), He.free_ok X G (cD.fact 42 (f := .free "isinstance") rfl), He.free_ok X G (cD.fact 43 (f := .free "tuple") rfl), He.free_ok X G (cD.fact 44 (f := .free "all") rfl), He.free_ok X G (cD.fact 45 (f := .free "set") rfl), He.free_ok X G (cD.fact 46 (f := .free "sorted") rfl), He.free_ok X G (cD.fact 47 (f := .free "enumerate") rfl), He.free_ok X G (cD.fact 48 (f := .free "int") rfl), He.free_ok X G (cD.fact 49 (f := .free "bool") rfl), He.free_ok X G (cD.fact 50 (f := .free "str") rfl), He.free_ok X G (cD.fact 51 (f := .free "abs") rfl), He.free_ok X G (cD.fact 52 (f := .free "list") rfl), He.free_ok X G (cD.fact 53 (f := .free "zip") rfl)⟩
  obtain ⟨tP, hP⟩ := He.int_ok X G (cD.fact 59 (f := .int "MOST_PEOPLE" 60) rfl)
  obtain ⟨tF, hF⟩ := He.int_ok X G (cD.fact 60 (f := .int "MOST_FRIENDS" 120) rfl)
  have gC := He.glo_ok X G (cD.fact 56 (f := .glo "InvalidDeed") rfl)
  have gW := He.glo_ok X G (cD.fact 57 (f := .glo "WORDS") rfl)
  have gZ := He.glo_ok X G (cD.fact 58 (f := .glo "SIZES") rfl)
  have x0 : (tupW K (He.ga K "WORDS")) = true := key _ (List.mem_of_getElem? (show (xB K)[0]? = some _ from rfl))
  have x1 : (He.valsB K (He.ga K "SIZES") (sizes.map fun q => (q.1, He.Dv.int q.2))) = true := key _ (List.mem_of_getElem? (show (xB K)[1]? = some _ from rfl))
  have x2 : (clsB K (idC K)) = true := key _ (List.mem_of_getElem? (show (xB K)[2]? = some _ from rfl))
  have x3 : (He.eqO (PySem.W.findIn K (.ref (idC K)) "__setattr__") (some (some (.builtin "object.__setattr__")))) = true := key _ (List.mem_of_getElem? (show (xB K)[3]? = some _ from rfl))
  have x4 : (He.eqO (PySem.W.findIn K (.ref (idC K)) "at") (some none)) = true := key _ (List.mem_of_getElem? (show (xB K)[4]? = some _ from rfl))
  have x5 : (He.eqO (PySem.W.findIn K (.ref (idC K)) "__init__") (some (some (.ref (idF K))))) = true := key _ (List.mem_of_getElem? (show (xB K)[5]? = some _ from rfl))
  have x6 : (decide (PySem.W.typeIn K (.ref (idF K)) = some (.type "function"))) = true := key _ (List.mem_of_getElem? (show (xB K)[6]? = some _ from rfl))
  have x7 : (PySem.W.keepIn K (.ref (idC K))) = true := key _ (List.mem_of_getElem? (show (xB K)[7]? = some _ from rfl))
  have x8 : (decide (PySem.W.subIn K (.ref (idC K)) (.type "BaseException") = some true)) = true := key _ (List.mem_of_getElem? (show (xB K)[8]? = some _ from rfl))
  have x9 : (decide (PySem.W.subIn K (.ref (idC K)) (.type "ValueError") = some true)) = true := key _ (List.mem_of_getElem? (show (xB K)[9]? = some _ from rfl))
  have x10 : (decide (PySem.W.typeIn K (.ref (idC K)) = some (.type "type"))) = true := key _ (List.mem_of_getElem? (show (xB K)[10]? = some _ from rfl))
  have x11 : (He.eqO (PySem.W.nsIn K cStatics "thirdparty.any") (some none)) = true := key _ (List.mem_of_getElem? (show (xB K)[11]? = some _ from rfl))
  have x12 : (He.eqO (PySem.W.ks_superIn K (idC K) (idC K) "__init__") (some (some (.builtin "ValueError.__init__")))) = true := key _ (List.mem_of_getElem? (show (xB K)[12]? = some _ from rfl))
  have x13 : (decide (PySem.W.mroIn K (idC K) (.ref (idC K)) = some true)) = true := key _ (List.mem_of_getElem? (show (xB K)[13]? = some _ from rfl))
  have x14 : (cellB K (idCc K) (idC K)) = true := key _ (List.mem_of_getElem? (show (xB K)[14]? = some _ from rfl))
  have x15 : (codeB K (idCda K)) = true := key _ (List.mem_of_getElem? (show (xB K)[15]? = some _ from rfl))
  have x16 : (plainFd K) = true := key _ (List.mem_of_getElem? (show (xB K)[16]? = some _ from rfl))
  have x17 : (decide (PySem.W.exmOne K (.ref (idC K)) (.ref (idC K)) = some true)) = true := key _ (List.mem_of_getElem? (show (xB K)[17]? = some _ from rfl))
  obtain ⟨es, n, kd⟩ := cT.tab 0
  have Gm : Glo w K mg := {
    aW := He.ga K "WORDS", aS := He.ga K "SIZES", uP := .int 60 tP, uF := .int 120 tF, m_WORDS := gW, r_WORDS := rfl, kW := tup_of x0, m_SIZES := gZ, r_SIZES := rfl,
    kS := fun q hq => by
      obtain ⟨u, e1, e2⟩ := He.valsB_ok x1 (q := (q.1, He.Dv.int q.2)) (List.mem_map.mpr ⟨q, hq, rfl⟩)
      exact ⟨es, n, u, kd.1, kd.lit, e1, e2⟩
    m_MOST_PEOPLE := hP, r_MOST_PEOPLE := ⟨tP, rfl⟩, m_MOST_FRIENDS := hF, r_MOST_FRIENDS := ⟨tF, rfl⟩ }
  have I : IdTxt PP K mg (idC K) (idF K) (idCc K) (idCda K) := {
    gC := gC, gS := He.free_ok X G (cD.fact 54 (f := .free "super") rfl), te := of_decide_eq_true x17, cls := cls_of x2, sa := He.eqO_ok x3, noN := He.eqO_ok x4, iC := He.eqO_ok x5, tI := of_decide_eq_true x6, kC := x7, exC := of_decide_eq_true x8, veC := of_decide_eq_true x9, tyC := of_decide_eq_true x10,
    opq := He.eqO_ok x11, sup := He.eqO_ok x12, mroC := of_decide_eq_true x13, cell := cell_of x14, code := by
      obtain ⟨a1, a2, a3, a4, a5, a6, b1, b2, b3⟩ := code_of x15
      exact ⟨a1, a2, a3, a4, a5, a6, b1, b2, by rw [pp_file]; exact b3⟩
    top := pp_top, fn := fn_of_head cI x16 }
  have b := FunD.bindsA (ps := ["_law_script"]) FL fun _ _ _ _ _ _ us hl => match us, hl with | [_], _ => rfl
  refine ⟨fdL, fun s v => b s [v] rfl, fun base _ _ => ?_⟩
  have c_need : C_need PP w K mg base (idC K) := cal_need d_need I
  have c_barred_more : C_barred_more PP w K mg base (idC K) := cal_barred_more d_barred_more T
  have c_is_integer : C_is_integer PP w K mg base (idC K) := cal_is_integer d_is_integer T 
  have c_is_number : C_is_number PP w K mg base (idC K) := cal_is_number d_is_number T c_is_integer
  have c_is_index : C_is_index PP w K mg base (idC K) := cal_is_index d_is_index T c_is_number
  have c_is_row_of : C_is_row_of PP w K mg base (idC K) := cal_is_row_of d_is_row_of T 
  have c_is_word_of : C_is_word_of PP w K mg base (idC K) := cal_is_word_of d_is_word_of T 
  have c_is_pair_of : C_is_pair_of PP w K mg base (idC K) := cal_is_pair_of d_is_pair_of T c_is_index c_is_row_of
  have c_has_tie : C_has_tie PP w K mg base (idC K) := cal_has_tie d_has_tie T 
  have c_friends_of : C_friends_of PP w K mg base (idC K) := cal_friends_of d_friends_of T 
  have c_free_friends : C_free_friends PP w K mg base (idC K) := cal_free_friends d_free_friends T 
  have c_start_world : C_start_world PP w K mg base (idC K) := cal_start_world d_start_world T 
  have c_owner_of : C_owner_of PP w K mg base (idC K) := cal_owner_of d_owner_of T 
  have c_people_left : C_people_left PP w K mg base (idC K) := cal_people_left d_people_left T 
  have c_put_in : C_put_in PP w K mg base (idC K) := cal_put_in d_put_in T 
  have c_givers_left : C_givers_left PP w K mg base (idC K) := cal_givers_left d_givers_left T c_free_friends c_friends_of
  have c_links_left : C_links_left PP w K mg base (idC K) := cal_links_left d_links_left T c_people_left c_givers_left c_has_tie
  have c_is_tie : C_is_tie PP w K mg base (idC K) := cal_is_tie d_is_tie T c_is_pair_of c_has_tie
  have c_is_ring : C_is_ring PP w K mg base (idC K) := cal_is_ring d_is_ring T c_is_tie c_owner_of c_people_left
  have c_tested : C_tested PP w K mg base (idC K) := cal_tested d_tested T c_need c_is_index c_has_tie c_barred_more
  have c_ringed : C_ringed PP w K mg base (idC K) := cal_ringed d_ringed T c_need c_is_ring c_put_in
  have c_linked : C_linked PP w K mg base (idC K) := cal_linked d_linked T c_need c_links_left c_is_pair_of c_owner_of c_friends_of c_put_in
  have c_come : C_come PP w K mg base (idC K) := cal_come d_come T c_need c_is_index Gm
  have c_do_deed : C_do_deed PP w K mg base (idC K) := cal_do_deed d_do_deed T c_need c_is_word_of c_is_row_of c_tested c_ringed c_linked c_come c_is_index c_put_in Gm
  have c_l_is_number : C_l_is_number PP w K mg base (idC K) := cal_l_is_number d_l_is_number T 
  have c_l_tie_in : C_l_tie_in PP w K mg base (idC K) := cal_l_tie_in d_l_tie_in T 
  have c_l_friends : C_l_friends PP w K mg base (idC K) := cal_l_friends d_l_friends T 
  have c_l_link_fits : C_l_link_fits PP w K mg base (idC K) := cal_l_link_fits d_l_link_fits T c_l_is_number c_l_tie_in
  have c_l_gifts : C_l_gifts PP w K mg base (idC K) := cal_l_gifts d_l_gifts T 
  have c_l_ring_fits : C_l_ring_fits PP w K mg base (idC K) := cal_l_ring_fits d_l_ring_fits T c_l_is_number c_l_tie_in
  have c_l_holds : C_l_holds PP w K mg base (idC K) := cal_l_holds d_l_holds T c_l_friends c_l_is_number
  have c_l_any : C_l_any PP w K mg base (idC K) := cal_l_any d_l_any T 
  have c_l_of : C_l_of PP w K mg base (idC K) := cal_l_of d_l_of T c_l_any
  have c_l_mixed : C_l_mixed PP w K mg base (idC K) := cal_l_mixed d_l_mixed T c_l_any
  have c_l_registry : C_l_registry PP w K mg base (idC K) := cal_l_registry d_l_registry T c_l_any
  have c_l_some_ring : C_l_some_ring PP w K mg base (idC K) := cal_l_some_ring d_l_some_ring T c_l_mixed c_l_any c_l_friends c_l_tie_in c_l_of
  have c_l_some_deed : C_l_some_deed PP w K mg base (idC K) := cal_l_some_deed d_l_some_deed T c_l_any c_l_some_ring c_l_ring_fits c_l_link_fits c_l_of
  have c_can_do : C_can_do PP w K mg base (idC K) := cal_can_do d_can_do T c_do_deed I.idt
  have c_l_draw : C_l_draw PP w K mg base (idC K) := cal_l_draw d_l_draw T 
  exact ok_law FL T c_l_draw c_l_registry c_start_world c_l_some_deed c_can_do c_l_gifts c_do_deed c_l_holds c_l_tie_in
end Gv
open PySem PySem.W PySem.Calls PyProof.Rows
theorem PySem.Challenge.cw_givesifgets_k56_whole_runs_give_nothing_holds : PySem.Challenge.rw_givesifgets_k56_whole_runs_give_nothing.Holds := by
  w_on; o_law
  refine HandSHeadRun.head_any (r := OpenLaw.row PySem.Challenge.rw_givesifgets_k56_whole_runs_give_nothing) (q := view (OpenLaw.row PySem.Challenge.rw_givesifgets_k56_whole_runs_give_nothing).prog [51]) (H := Gv.hk) (ob := Gv.ob) (M := 3000) (loose := Gv.names)
    (d := HandSHeadRun.topDef (OpenLaw.row PySem.Challenge.rw_givesifgets_k56_whole_runs_give_nothing).prog 51) (kwd := []) Gv.ob_eq (by kernel_rfl) (fun s => by kernel_rfl) Gv.runX (by kernel_rfl) (by kernel_rfl) (by kernel_rfl) (by rfl) (by first | assumption | decide +kernel)
    (by decide +kernel) ⟨rfl, rfl, rfl, rfl, rfl, by decide +kernel⟩ ?hw ?hc
  case hw => w_witness2
  case hc =>
    refine L2.walk_ofE (l := PySem.Challenge.rw_givesifgets_k56_whole_runs_give_nothing) (n := 63) (k := 11) (x := "_law_script") (CX := L2.CX0) rfl (by decide) (by kernel_rfl) ⟨rfl, by decide, by decide⟩ ?F (fun _ _ _ _ z => z)
    intro w mg fa h Y G hmg0
    obtain ⟨K, KX, c⟩ := Y
    have hmg : mg ("law" : PySem.Str) = some (.ref fa) := by
      have e : (HandSHeadRun.topDef (OpenLaw.row PySem.Challenge.rw_givesifgets_k56_whole_runs_give_nothing).prog 51).name = ("law" : PySem.Str) := by kernel_rfl
      rw [← e]
      exact hmg0
    obtain ⟨fd, hb, hF⟩ := Gv.facts (w := w) KX G hmg c
    exact ⟨K, fd, Gv.spLaw K, KX, hb, fun H a ns hl _ hS => ⟨a, ns, rfl, hS, fun _ => rfl⟩, hF⟩

