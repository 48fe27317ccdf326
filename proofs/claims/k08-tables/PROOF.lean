import PyProof.Rows.All
import Wide.All
import OpenK.AllK
import Wide.FinOn
import KE.KStateDown
import HandS.ForMost
import HandS.Exc
import HandS.ExcOwn
import HandS.ExcIs
import HandS.WordsExc
import HandS.Defaults
import HandS.Head0
import HandS.Head1
import HandS.Head2
import HandS.HeadEnd
import HandS.HeadHook1
import HandS.HeadHook2
import HandS.HeadHook3
import HandS.HeadHook4
import PySem.Challenge.RW_schemebound_k08_whole_tables_of_kinds
import PyProof.WalksMore
import KE.KDictKeyed
import KE.KEqDict
import HandS.Zip
import HandS.DictComp
import HandS.IterVal
import HandS.Codes
import HandS.Style
import HandS.TupAny
import HandS.Conv
import HandS.SortInts
set_option Elab.async false
set_option linter.all false
set_option maxRecDepth 100000
set_option maxHeartbeats 0
/-! The text by places and the head: each def, each constant of the module, told by facts that one kernel run of the top shows. -/
namespace K8
open PySem PySem.Spec PyProof.Rows L2
def topS (i : Nat) : Stmt := PySem.Challenge.pw_schemebound_k08_whole_tables_of_kinds.main.body.getD i (.Pass ⟨0, 0, 0, 0⟩)
abbrev sRequire : Stmt := topS 15
abbrev sChoose : Stmt := topS 16
abbrev sPowerOf : Stmt := topS 17
abbrev sWaysOf : Stmt := topS 18
abbrev sCheckedRows : Stmt := topS 19
abbrev sCheckedPart : Stmt := topS 20
abbrev sChecked : Stmt := topS 21
abbrev sIsScheme : Stmt := topS 22
abbrev sPointCount : Stmt := topS 23
abbrev sKindCount : Stmt := topS 24
abbrev sPointsOf : Stmt := topS 25
abbrev sKindsOf : Stmt := topS 26
abbrev sFiguresOf : Stmt := topS 27
abbrev sMembersOf : Stmt := topS 28
abbrev sKindIn : Stmt := topS 29
abbrev sKindTable : Stmt := topS 30
abbrev sLRow : Stmt := topS 32
abbrev sLNumbers : Stmt := topS 33
abbrev sLSets : Stmt := topS 34
abbrev sLRows : Stmt := topS 35
abbrev sLListed : Stmt := topS 36
abbrev sLPower : Stmt := topS 38
abbrev sLChoose : Stmt := topS 39
abbrev sLPoints : Stmt := topS 40
abbrev sLKinds : Stmt := topS 41
abbrev sLFigures : Stmt := topS 44
abbrev sLMembers : Stmt := topS 45
abbrev sLKind : Stmt := topS 46
abbrev sLSmall : Stmt := topS 48
abbrev sLIsTold : Stmt := topS 49
abbrev sLRefused : Stmt := topS 50
abbrev sLaw : Stmt := topS 51
def dRequire : He.DefD := ⟨("require", none), "require", "require", defArgs sRequire, defBody sRequire, defScope sRequire, [], []⟩
def dChoose : He.DefD := ⟨("choose", none), "choose", "choose", defArgs sChoose, defBody sChoose, defScope sChoose, [], []⟩
def dPowerOf : He.DefD := ⟨("power_of", none), "power_of", "power_of", defArgs sPowerOf, defBody sPowerOf, defScope sPowerOf, [], []⟩
def dWaysOf : He.DefD := ⟨("ways_of", none), "ways_of", "ways_of", defArgs sWaysOf, defBody sWaysOf, defScope sWaysOf, [], []⟩
def dCheckedRows : He.DefD := ⟨("checked_rows", none), "checked_rows", "checked_rows", defArgs sCheckedRows, defBody sCheckedRows, defScope sCheckedRows, [], []⟩
def dCheckedPart : He.DefD := ⟨("checked_part", none), "checked_part", "checked_part", defArgs sCheckedPart, defBody sCheckedPart, defScope sCheckedPart, [.int 1], []⟩
def dChecked : He.DefD := ⟨("checked", none), "checked", "checked", defArgs sChecked, defBody sChecked, defScope sChecked, [], []⟩
def dIsScheme : He.DefD := ⟨("is_scheme", none), "is_scheme", "is_scheme", defArgs sIsScheme, defBody sIsScheme, defScope sIsScheme, [], []⟩
def dPointCount : He.DefD := ⟨("point_count", none), "point_count", "point_count", defArgs sPointCount, defBody sPointCount, defScope sPointCount, [], []⟩
def dKindCount : He.DefD := ⟨("kind_count", none), "kind_count", "kind_count", defArgs sKindCount, defBody sKindCount, defScope sKindCount, [], []⟩
def dPointsOf : He.DefD := ⟨("points_of", none), "points_of", "points_of", defArgs sPointsOf, defBody sPointsOf, defScope sPointsOf, [], []⟩
def dKindsOf : He.DefD := ⟨("kinds_of", none), "kinds_of", "kinds_of", defArgs sKindsOf, defBody sKindsOf, defScope sKindsOf, [], []⟩
def dFiguresOf : He.DefD := ⟨("figures_of", none), "figures_of", "figures_of", defArgs sFiguresOf, defBody sFiguresOf, defScope sFiguresOf, [], []⟩
def dMembersOf : He.DefD := ⟨("members_of", none), "members_of", "members_of", defArgs sMembersOf, defBody sMembersOf, defScope sMembersOf, [], []⟩
def dKindIn : He.DefD := ⟨("kind_in", none), "kind_in", "kind_in", defArgs sKindIn, defBody sKindIn, defScope sKindIn, [], []⟩
def dKindTable : He.DefD := ⟨("kind_table", none), "kind_table", "kind_table", defArgs sKindTable, defBody sKindTable, defScope sKindTable, [], []⟩
def dLRow : He.DefD := ⟨("_law_row", none), "_law_row", "_law_row", defArgs sLRow, defBody sLRow, defScope sLRow, [], []⟩
def dLNumbers : He.DefD := ⟨("_law_numbers", none), "_law_numbers", "_law_numbers", defArgs sLNumbers, defBody sLNumbers, defScope sLNumbers, [], []⟩
def dLSets : He.DefD := ⟨("_law_sets", none), "_law_sets", "_law_sets", defArgs sLSets, defBody sLSets, defScope sLSets, [], []⟩
def dLRows : He.DefD := ⟨("_law_rows", none), "_law_rows", "_law_rows", defArgs sLRows, defBody sLRows, defScope sLRows, [], []⟩
def dLListed : He.DefD := ⟨("_law_listed", none), "_law_listed", "_law_listed", defArgs sLListed, defBody sLListed, defScope sLListed, [], []⟩
def dLPower : He.DefD := ⟨("_law_power", none), "_law_power", "_law_power", defArgs sLPower, defBody sLPower, defScope sLPower, [], []⟩
def dLChoose : He.DefD := ⟨("_law_choose", none), "_law_choose", "_law_choose", defArgs sLChoose, defBody sLChoose, defScope sLChoose, [], []⟩
def dLPoints : He.DefD := ⟨("_law_points", none), "_law_points", "_law_points", defArgs sLPoints, defBody sLPoints, defScope sLPoints, [], []⟩
def dLKinds : He.DefD := ⟨("_law_kinds", none), "_law_kinds", "_law_kinds", defArgs sLKinds, defBody sLKinds, defScope sLKinds, [], []⟩
def dLFigures : He.DefD := ⟨("_law_figures", none), "_law_figures", "_law_figures", defArgs sLFigures, defBody sLFigures, defScope sLFigures, [], []⟩
def dLMembers : He.DefD := ⟨("_law_members", none), "_law_members", "_law_members", defArgs sLMembers, defBody sLMembers, defScope sLMembers, [], []⟩
def dLKind : He.DefD := ⟨("_law_kind", none), "_law_kind", "_law_kind", defArgs sLKind, defBody sLKind, defScope sLKind, [], []⟩
def dLSmall : He.DefD := ⟨("_law_small", none), "_law_small", "_law_small", defArgs sLSmall, defBody sLSmall, defScope sLSmall, [], []⟩
def dLIsTold : He.DefD := ⟨("_law_is_told", none), "_law_is_told", "_law_is_told", defArgs sLIsTold, defBody sLIsTold, defScope sLIsTold, [], []⟩
def dLRefused : He.DefD := ⟨("_law_refused", none), "_law_refused", "_law_refused", defArgs sLRefused, defBody sLRefused, defScope sLRefused, [], []⟩
def dLaw : He.DefD := ⟨("law", none), "law", "law", defArgs sLaw, defBody sLaw, defScope sLaw, [], []⟩
def fnL : List He.DefD := [dRequire, dChoose, dPowerOf, dWaysOf, dCheckedRows, dCheckedPart, dChecked, dIsScheme, dPointCount, dKindCount, dPointsOf, dKindsOf, dFiguresOf, dMembersOf, dKindIn, dKindTable, dLRow, dLNumbers, dLSets, dLRows, dLListed, dLPower, dLChoose, dLPoints, dLKinds, dLFigures, dLMembers, dLKind, dLSmall, dLIsTold, dLRefused, dLaw]
def faL0 : List He.Fa := [.glo "require", .glo "choose", .glo "power_of", .glo "ways_of", .glo "checked_rows", .glo "checked_part", .glo "checked", .glo "is_scheme", .glo "point_count", .glo "kind_count", .glo "points_of", .glo "kinds_of", .glo "figures_of", .glo "members_of", .glo "kind_in", .glo "kind_table", .glo "_law_row", .glo "_law_numbers", .glo "_law_sets", .glo "_law_rows", .glo "_law_listed", .glo "_law_power", .glo "_law_choose", .glo "_law_points", .glo "_law_kinds", .glo "_law_figures", .glo "_law_members", .glo "_law_kind", .glo "_law_small", .glo "_law_is_told"]
def faL1 : List He.Fa := [.glo "_law_refused", .glo "law", .glo "MEMBERS", .glo "InvalidScheme", .glo "InvalidQuestion", .exc "InvalidQuestion", .exc "InvalidScheme", .exm "InvalidQuestion" "InvalidQuestion" true, .int "MOST_PARTS" 8, .int "MOST_KINDS" 60, .int "MOST_LISTED" 24, .int "MOST_LISTED_KINDS" 8, .int "MOST_TABLE" 100, .int "MOST_LENGTH" 40, .int "MOST_FIGURES" 1000, .int "MOST_MEMBERS" 80, .int "MOST_POINTS" (10 ^ 60), .free "len", .free "all", .free "tuple", .free "sorted", .free "list", .free "range", .free "zip", .free "max", .free "abs", .free "int", .free "isinstance", .free "ValueError"]
def faL : List He.Fa := faL0 ++ faL1
def tsL : List He.Tab := [(fun K => He.ga K "MEMBERS", ["words", "sets", "listed", "product"])]
def exB (K : PySem.W.Frag) : Bool := He.valsB K (He.ga K "MEMBERS") [("words", .int 3), ("sets", .int 3), ("listed", .int 2), ("product", .int 3)] &&
  (He.eqO (PySem.W.findIn K (.ref (He.ga K "InvalidQuestion")) "__getattribute__") (some (some (.builtin "BaseException.__getattribute__"))) &&
  (He.eqO (PySem.W.findIn K (.ref (He.ga K "InvalidQuestion")) "__getattr__") (some none) &&
  (decide (PySem.W.subIn K (.ref (He.ga K "InvalidQuestion")) (.type "BaseException") = some true) &&
  (PySem.W.hasDictIn K (He.ga K "InvalidQuestion") &&
  (He.eqO (PySem.W.findIn K (.ref (He.ga K "InvalidQuestion")) "__class__") (some (some (.builtin "object.__class__"))) &&
  (He.eqO (PySem.W.specialIn K (.builtin "object.__class__") "__get__") (some (some (.builtin "getset_descriptor.__get__"))) &&
  (decide (PySem.W.takesIn K (.builtin "object.__class__") = some true) &&
  (decide (PySem.W.mroIn K (He.ga K "InvalidQuestion") (.type "object") = some true) &&
  (decide (PySem.W.kitOne K (.ref (He.ga K "InvalidQuestion")) (.type "ValueError") = some true) &&
  decide (PySem.W.kitOne K (.ref (He.ga K "InvalidQuestion")) (.ref (He.ga K "InvalidScheme")) = some false))))))))))
def looseL0 : List PySem.Str := ["SchemeboundError", "InvalidScheme", "InvalidQuestion", "MOST_PARTS", "MOST_KINDS", "MOST_LISTED", "MOST_LISTED_KINDS", "MOST_TABLE", "MOST_LENGTH", "MOST_FIGURES", "MOST_MEMBERS", "MOST_POINTS", "MEMBERS", "require", "choose", "power_of", "ways_of", "checked_rows", "checked_part", "checked", "is_scheme", "point_count", "kind_count", "points_of", "kinds_of"]
def looseL1 : List PySem.Str := ["figures_of", "members_of", "kind_in", "kind_table", "_law_row", "_law_numbers", "_law_sets", "_law_rows", "_law_listed", "_law_power", "_law_choose", "_law_points", "_law_kinds", "_law_figures", "_law_members", "_law_kind", "_law_small", "_law_is_told", "_law_refused", "_law_leaf", "_law_many", "_law_tree", "_law_point"]
def looseL : List PySem.Str := looseL0 ++ looseL1
abbrev RR : PySem.W.OpenRow := PySem.W.OpenLaw.row PySem.Challenge.rw_schemebound_k08_whole_tables_of_kinds
abbrev hkL : PySem.W.Hook := He.hookX 4 faL fnL tsL [] exB
def obL (s : PySem.W.SharedT) : He.AlX := He.obsX 4 faL fnL tsL [] exB (HandSHeadRun.getT s)
theorem obL_eq (s : PySem.W.SharedT) : obL s = hkL.obs s.abs := He.obsX_eq (HandSHeadRun.getT_eq s)
theorem runL (w : World) : HandSHeadRun.RunEq RR (PySem.W.view RR.prog [51]) hkL obL 3000 looseL w :=
  PySem.W.byRow2 "special-get-raises" (P := fun w => HandSHeadRun.RunEq RR (PySem.W.view RR.prog [51]) hkL obL 3000 looseL w) (fun w => by
    intro os
    kernel_rfl) (fun w => by
    intro os
    kernel_rfl) w
end K8
set_option Elab.async false
set_option linter.all false
set_option maxRecDepth 100000
set_option maxHeartbeats 4000000
/-! Rules of my own: == of dicts with tuple keys, max of a tuple, zip as a value, a dict comprehension with two clauses. -/
namespace K8R
open PySem PySem.Spec PyProof.Rows L2
/-! ### dicts with tuple keys compared: equal ones -/
section
variable {prog : Program} {w : World} {K : Type} [DecidableEq K] {knd : HeapKind prog w K} {A : Around} {E : Value → Shared → Prop} {s : Shared}
theorem same_tup {nm : String} {a b : Addr} {ka kb : List (K × Addr × Value)} {Q : Bool → Shared → Prop} (hu : knd.room A) (ha : (a == sysModules) = false) (hb : (b == sysModules) = false)
    (da : s.heap.DictOfH knd a ka) (db : s.heap.DictOfH knd b kb) (hl : ka.length = kb.length)
    (hits : ∀ x ∈ ka, ∃ p, atKey kb x.1 = some p ∧ SeqAt.EqAt A s x.2.2 p.2 true) (h : Q true s) : wpAny (model prog w) A (Builtin.Dict.samePairs nm a b) Q E s := by
  obtain ⟨oa, es, ep, hoa, _, hda, hea, hia, hna⟩ := da
  obtain ⟨ob, fs, fp, hob, _, hdb, heb, hib, hnb⟩ := db
  have sa : es.size = ka.length := size_of_entries hea
  have sb : fs.size = kb.length := size_of_entries heb
  have hsz : es.size = fs.size := by rw [sa, sb, hl]
  unfold Builtin.Dict.samePairs Builtin.Dict.showsAll
  rw [if_neg (show ¬ (a == sysModules) = true by rw [ha]; exact Bool.false_ne_true), if_neg (show ¬ (b == sysModules) = true by rw [hb]; exact Bool.false_ne_true)]
  refine wpAny_bind (wpAny_pure (wpAny_bind (wpAny_pure ?_)))
  refine wpAny_bind (wpAny_dictEntries hoa hda ?_)
  dsimp only
  refine wpAny_bind (wpAny_dictEntries hob hdb ?_)
  rw [if_neg (by rw [hsz]; simp)]
  refine wpAny_bind (wpAny_dictEpoch hoa hda ?_)
  refine wpAny_bind ?_
  rw [Std.Legacy.Range.forIn_eq_forIn_range']
  simp only [Std.Legacy.Range.size, Nat.sub_zero, Nat.add_sub_cancel, Nat.div_one]
  refine wpAny_forIn_list _ (fun l q s' => s' = s ∧ q = (none, ()) ∧ ∃ i, l = List.range' i (es.size - i) ∧ i ≤ es.size) _ ?_ ?_ _ _ ⟨rfl, rfl, 0, by simp, Nat.zero_le _⟩
  · rintro x l q s' ⟨rfl, rfl, i, hr, hi⟩
    have hlt : i < es.size := by
      rcases Nat.lt_or_ge i es.size with z | z
      · exact z
      · rw [Nat.sub_eq_zero_of_le z] at hr; simp at hr
    obtain ⟨rfl, hrest⟩ : x = i ∧ l = List.range' (i + 1) (es.size - (i + 1)) := by
      have e : es.size - i = (es.size - (i + 1)) + 1 := by omega
      rw [e, List.range'_succ] at hr
      injection hr with h1 h2
      exact ⟨h1, h2⟩
    refine wpAny_bind (wpAny_dictEntries hoa hda ?_)
    have hlk : x < ka.length := by rw [← sa]; exact hlt
    obtain ⟨k, b1, v, hkv⟩ : ∃ k b1 v, ka[x]? = some (k, b1, v) := ⟨_, _, _, List.getElem?_eq_getElem hlk⟩
    have hm : (k, b1, v) ∈ ka := List.mem_of_getElem? hkv
    have hex : es[x]? = some ⟨knd.hash k, .ref b1, v⟩ := by rw [entry_at hea x, hkv]; rfl
    rw [hex]
    dsimp only
    obtain ⟨p, hp, he⟩ := hits _ hm
    refine wpAny_bind (wpAny_holding (wpAny_bind (wpAny_dictFind_heap hu (hia _ hm) hob hdb heb hib hnb (fun no => ?_) (fun j r hj => ?_))))
    · rw [atKey_none_of_get no] at hp
      cases hp
    · have hr2 : atKey kb k = some r := atKey_of_get hnb hj
      have er : r = p := Option.some.inj (hr2.symm.trans hp)
      have hfj : fs[j]? = some ⟨knd.hash k, .ref r.1, r.2⟩ := by rw [entry_at heb j, hj]; rfl
      dsimp only
      refine wpAny_bind (wpAny_dictEntries hob hdb ?_)
      rw [hfj]
      dsimp only
      rw [er]
      refine wpAny_holding (he prog w _ _ ?_)
      show wpAny _ _ (if (!true) = true then _ else _) _ _ _
      rw [if_neg (by decide)]
      refine wpAny_bind (wpAny_dictEpoch hoa hda ?_)
      rw [if_neg (by simp)]
      exact wpAny_pure ⟨rfl, rfl, x + 1, hrest, hlt⟩
  · rintro q s' ⟨rfl, rfl, i, hr, hi⟩
    exact wpAny_pure h
theorem eq_tup {a b : Addr} {ka kb : List (K × Addr × Value)} {Q : Value → Shared → Prop} (hu : knd.room A.in1) (ha : (a == sysModules) = false) (hb : (b == sysModules) = false)
    (da : s.heap.DictOfH knd a ka) (db : s.heap.DictOfH knd b kb) (hc : A.units < cLine) (hl : ka.length = kb.length)
    (hits : ∀ x ∈ ka, ∃ p, atKey kb x.1 = some p ∧ SeqAt.EqAt A.in1 s x.2.2 p.2 true) (h : Q (.bool true) s) : wpAny (model prog w) A (compareOp .Eq (.ref a) (.ref b)) Q E s := by
  refine wpAny_richCompare_same_room (op := .Eq) da.typeIs db.typeIs PySem.F.slot_dict_eq (wpAny_call_entry PySem.F.slot_dict_eq da.typeIs PySem.F.entry_dict_eq ?_ (PySem.F.args_dict_eq_2 _ _)) hc
  show wpAny _ _ (Builtin.Dict.dictSlotArgs "__eq__" ⟨[.ref a, .ref b], []⟩ >>= _) _ _ s
  refine wpAny_bind ?_
  unfold Builtin.Dict.dictSlotArgs
  refine wpAny_bind (wpAny_notOrdered_dict da.typeIs ?_)
  show wpAny _ _ (pure (Value.ref a, Value.ref b)) _ _ s
  refine wpAny_pure (wpAny_bind (wpAny_isInstance (T := "dict") db.typeIs PySem.F.sub_dict_dict ?_))
  simp only [Bool.not_true, Bool.false_eq_true, if_false]
  refine wpAny_bind (wpAny_pure (wpAny_bind (wpAny_pure (wpAny_bind (same_tup hu ha hb da db hl hits (wpAny_pure ⟨_, rfl, ?_, ?_⟩))))))
  · exact fun x => nomatch x
  · exact h
theorem ne_tup {a b : Addr} {ka kb : List (K × Addr × Value)} {Q : Value → Shared → Prop} (hu : knd.room A.in1) (ha : (a == sysModules) = false) (hb : (b == sysModules) = false)
    (da : s.heap.DictOfH knd a ka) (db : s.heap.DictOfH knd b kb) (hc : A.units < cLine) (hl : ka.length = kb.length)
    (hits : ∀ x ∈ ka, ∃ p, atKey kb x.1 = some p ∧ SeqAt.EqAt A.in1 s x.2.2 p.2 true) (h : Q (.bool false) s) : wpAny (model prog w) A (compareOp .NotEq (.ref a) (.ref b)) Q E s := by
  refine wpAny_richCompare_same_room (op := .NotEq) da.typeIs db.typeIs PySem.F.slot_dict_ne (wpAny_call_entry PySem.F.slot_dict_ne da.typeIs PySem.F.entry_dict_ne ?_ (PySem.F.args_dict_ne_2 _ _)) hc
  show wpAny _ _ (Builtin.Dict.dictSlotArgs "__ne__" ⟨[.ref a, .ref b], []⟩ >>= _) _ _ s
  refine wpAny_bind ?_
  unfold Builtin.Dict.dictSlotArgs
  refine wpAny_bind (wpAny_notOrdered_dict da.typeIs ?_)
  show wpAny _ _ (pure (Value.ref a, Value.ref b)) _ _ s
  refine wpAny_pure (wpAny_bind (wpAny_isInstance (T := "dict") db.typeIs PySem.F.sub_dict_dict ?_))
  simp only [Bool.not_true, Bool.false_eq_true, if_false]
  refine wpAny_bind (wpAny_pure (wpAny_bind (wpAny_pure (wpAny_bind (same_tup hu ha hb da db hl hits (wpAny_pure ⟨_, rfl, ?_, ?_⟩))))))
  · exact fun x => nomatch x
  · exact h
end
/-- what two dicts with tuple keys must hold to be equal -/
def SameT (ks ls : List (List Key × V)) : Prop := ks.length = ls.length ∧ ∀ p ∈ ks, valV ls p.1 = some p.2 ∧ flatB p.2 = true
theorem hits_tup {A : Around} {s : Shared} {H : Hp} {ks ls : List (List Key × V)} {va vb : List (List Key × Addr × Value)} (ra : KT H ks va) (rb : KT H ls vb) (h : ∀ p ∈ ks, valV ls p.1 = some p.2 ∧ flatB p.2 = true) :
    ∀ x ∈ va, ∃ p, atKey vb x.1 = some p ∧ SeqAt.EqAt A s x.2.2 p.2 true := by
  unfold KT at ra
  induction ra with
  | nil => intro x hx; exact nomatch hx
  | @cons p q ps qs e t ih =>
    intro x hx
    rcases List.mem_cons.mp hx with z | hx
    · subst z
      obtain ⟨e1, e2⟩ := h p List.mem_cons_self
      have rr : RelO (some p.2) ((atKey vb p.1).map (·.2)) := by rw [← e1]; exact rb.val p.1
      obtain ⟨y, hy, ry⟩ := rr.some_of
      obtain ⟨r, hr, hr2⟩ := Option.map_eq_some_iff.mp hy
      refine ⟨r, by rw [← e.1]; exact hr, ?_⟩
      rw [hr2]
      exact eqAt_same e.2.2 ry e2
    · exact ih (fun p' hp' => h p' (List.mem_cons_of_mem _ hp')) x hx
section
variable {X : Cx}
def rEqT : R2 := fun x y H Q => ∃ a b ks ls, x = .ref a ∧ y = .ref b ∧ H a = some (.dT ks) ∧ H b = some (.dT ls) ∧ SameT ks ls ∧ Q (.bl true) H
def rNeT : R2 := fun x y H Q => ∃ a b ks ls, x = .ref a ∧ y = .ref b ∧ H a = some (.dT ks) ∧ H b = some (.dT ls) ∧ SameT ks ls ∧ Q (.bl false) H
theorem op_eqT (hu : X.A.units + 1 < cLine) : OpR X (compareOp .Eq) rEqT := by
  intro pins s σ H x y v u Q I rx ry h
  obtain ⟨a, b, ks, ls, rfl, rfl, ea, eb, ⟨hl, hp⟩, q⟩ := h
  obtain rfl : v = Value.ref a := rx
  obtain rfl : u = Value.ref b := ry
  obtain ⟨_, ya, va, ra, da⟩ := dt_of I.hok ea
  obtain ⟨_, yb, vb, rb, db⟩ := dt_of I.hok eb
  have hl' : va.length = vb.length := by rw [← Paired.length ra, ← Paired.length rb]; exact hl
  exact eq_tup (tupleKind_room_in1 hu) ya yb da db (by omega) hl' (hits_tup ra rb hp) ⟨.bl true, H, I, rfl, q⟩
theorem op_neT (hu : X.A.units + 1 < cLine) : OpR X (compareOp .NotEq) rNeT := by
  intro pins s σ H x y v u Q I rx ry h
  obtain ⟨a, b, ks, ls, rfl, rfl, ea, eb, ⟨hl, hp⟩, q⟩ := h
  obtain rfl : v = Value.ref a := rx
  obtain rfl : u = Value.ref b := ry
  obtain ⟨_, ya, va, ra, da⟩ := dt_of I.hok ea
  obtain ⟨_, yb, vb, rb, db⟩ := dt_of I.hok eb
  have hl' : va.length = vb.length := by rw [← Paired.length ra, ← Paired.length rb]; exact hl
  exact ne_tup (tupleKind_room_in1 hu) ya yb da db (by omega) hl' (hits_tup ra rb hp) ⟨.bl false, H, I, rfl, q⟩
end
/-! ### max of a tuple of ints -/
section
variable {prog : Program} {w : World} {A : Around} {E : Value → Shared → Prop} {s : Shared}
theorem max_tup {t : Addr} {xs : Array (Int × Tok)} {Q : Value → Shared → Prop} (hh : A.handled = none) (hl : s.heap.IsTuple t (intItems xs)) (hne : 0 < xs.size)
    (h : ∀ v h' tk, (intItems xs)[argBest (fun i j => decide (numAt xs i > numAt xs j)) (xs.size - 1)]? = some v → (∀ b o, s.heap.get? b = some o → h'.get? b = some o) → Q v { s with heap := h', toks := tk }) :
    wpAny (model prog w) A (call (.builtin "max") [.ref t]) Q E s := by
  have hlt : t < s.heap.objs.size := by obtain ⟨_, e, _⟩ := hl; exact Heap.lt_size e
  refine call_max_walk (wpAny_pyIter_tuple hl ?_)
  refine ⟨_, _, _, _, _, _, _, rfl, Walks.tuple (A := A.in1) hh _ t (Nat.ne_of_lt hlt) (intItems xs), ⟨⟨_, Heap.get?_push_size _ rfl, rfl, rfl⟩, hl.push _⟩, fun b hb => ?_, by simpa [intItems] using hne, CmpOf.ints_gt (numAt xs) (fun _ _ => intItems_at), fun v h' tk hP hk => ?_⟩
  · show b < (s.heap.push _).objs.size
    rw [Heap.size_push]
    rcases List.mem_cons.mp hb with e | hb
    · rw [e]; exact Nat.lt_succ_self _
    · rcases List.mem_cons.mp hb with e | hb
      · rw [e]; exact Nat.lt_succ_of_lt hlt
      · cases hb
  · refine h v h' tk (by simpa [intItems] using hP) fun b o e => hk b o (fun hm => ?_) (Heap.get?_push_of_some _ e)
    rcases List.mem_cons.mp hm with e1 | hm
    · exact absurd (e1 ▸ Heap.lt_size e) (Nat.lt_irrefl _)
    · cases hm
end
def rMaxT (K : PySem.W.Frag) : List V → Hp → VK → Prop := fun vs H Q => ∃ (a : Addr) (ns : List Int), vs = [V.ref a] ∧ SqT K H a (ns.map V.int) ∧ 0 < ns.length ∧ ∀ m, m ∈ ns → (∀ y, y ∈ ns → y ≤ m) → Q (.int m) H
theorem cr_maxT {X : Cx} (hc : X.calm = true) : CallR X (.builtin "max") (rMaxT X.K) := by
  intro pins s σ H vs us Q I r h
  obtain ⟨a, ns, rfl, hs, hne, q⟩ := h
  obtain ⟨its, rv, hl, _⟩ := I.tuple hs
  rw [Vals.ref1 r]
  have hi := rv.ints
  obtain ⟨xs, e⟩ := hi.allInts.items
  have hn : numsOf (intItems xs).toList = ns := by rw [← e]; exact hi.numsOf
  rw [nums_intItems] at hn
  subst hn
  rw [e] at hl
  have hsz : 0 < xs.size := by simpa using hne
  refine max_tup (I.ok.hd hc) hl hsz fun v h' tk hv hk => ?_
  obtain ⟨t, rfl⟩ := intItems_at hv
  obtain ⟨h1, h2⟩ := argBest_gt (numAt xs) (xs.size - 1)
  refine ⟨.int _, H, I.kept hk, ⟨_, rfl⟩, q _ ?_ fun b hb => ?_⟩
  · rw [numAt_eq]; exact PySem.getD_mem (by rw [List.length_map, Array.length_toList]; omega)
  · obtain ⟨j, hj, rfl⟩ := mem_getD hb
    rw [List.length_map, Array.length_toList] at hj
    rw [← numAt_eq]; exact h2 j (by omega)
end K8R
set_option Elab.async false
set_option linter.all false
set_option maxRecDepth 100000
set_option maxHeartbeats 4000000
namespace K8R
open PySem PySem.Spec PyProof.Rows L2
/-! ### zip of two tuples, held by a name, walked by a comprehension -/
def zipH (H : Hp) (z TI TO i1 i2 a b : Addr) : Hp :=
  upd (upd (upd (upd (upd H z (.ext fun h => IsZip h z TI TO .none)) TI (.ext fun h => IsPair h TI (.ref i1) (.ref i2))) TO (.ext fun h => ∃ x y, IsPair h TO x y)) i1 (.ext fun h => h.IsTupleIter i1 a 0)) i2 (.ext fun h => h.IsTupleIter i2 b 0)
/-- nothing is told of the five -/
structure Five (H : Hp) (z TI TO i1 i2 : Addr) : Prop where
  z : H z = none
  TI : H TI = none
  TO : H TO = none
  i1 : H i1 = none
  i2 : H i2 = none
structure Young (n : Nat) (z TI TO i1 i2 : Addr) : Prop where
  z : n ≤ z
  TI : n ≤ TI
  TO : n ≤ TO
  i1 : n ≤ i1
  i2 : n ≤ i2
theorem zipH_old {H : Hp} {z TI TO i1 i2 a b c : Addr} (h1 : c ≠ z) (h2 : c ≠ TI) (h3 : c ≠ TO) (h4 : c ≠ i1) (h5 : c ≠ i2) : zipH H z TI TO i1 i2 a b c = H c := by
  unfold zipH
  rw [upd_ne h5, upd_ne h4, upd_ne h3, upd_ne h2, upd_ne h1]
section
variable {H : Hp} {z TI TO i1 i2 a b : Addr} (D : ZipApart z TI TO i1 i2 a b)
include D
theorem zipH_z : zipH H z TI TO i1 i2 a b z = some (.ext fun h => IsZip h z TI TO .none) := by
  unfold zipH
  rw [upd_ne D.i2z.symm, upd_ne D.i1z.symm, upd_ne D.TOz.symm, upd_ne D.TIz.symm, upd_same]
theorem zipH_TI : zipH H z TI TO i1 i2 a b TI = some (.ext fun h => IsPair h TI (.ref i1) (.ref i2)) := by
  unfold zipH
  rw [upd_ne D.TIi2, upd_ne D.TIi1, upd_ne D.TITO, upd_same]
theorem zipH_TO : zipH H z TI TO i1 i2 a b TO = some (.ext fun h => ∃ x y, IsPair h TO x y) := by
  unfold zipH
  rw [upd_ne D.TOi2, upd_ne D.TOi1, upd_same]
theorem zipH_i1 : zipH H z TI TO i1 i2 a b i1 = some (.ext fun h => h.IsTupleIter i1 a 0) := by
  unfold zipH
  rw [upd_ne D.i12, upd_same]
theorem zipH_i2 : zipH H z TI TO i1 i2 a b i2 = some (.ext fun h => h.IsTupleIter i2 b 0) := by
  unfold zipH
  rw [upd_same]
end
def rZipV (K : PySem.W.Frag) (n : Nat) : List V → Hp → VK → Prop := fun vs H Q => ∃ (a b : Addr) (xs ys : List V), vs = [V.ref a, V.ref b] ∧ SqT K H a xs ∧ SqT K H b ys ∧
  ∀ z TI TO i1 i2, ZipApart z TI TO i1 i2 a b → Five H z TI TO i1 i2 → Young n z TI TO i1 i2 → Q (.ref z) (zipH H z TI TO i1 i2 a b)
theorem iter_at {h : Heap} {a l : Addr} {i : Nat} (x : h.IsTupleIter a l i) : ∃ o, h.get? a = some o := by
  obtain ⟨o, e, _⟩ := x
  exact ⟨o, e⟩
theorem call_zipV {X : Cx} : CallR X (.type "zip") (rZipV X.K X.s_0.heap.objs.size) := by
  intro pins s σ H vs us Q I r h
  obtain ⟨a, b, xs, ys, rfl, hx, hy, q⟩ := h
  obtain ⟨u, u2, rfl, ru, ru2⟩ := vals2 r
  cases ru
  cases ru2
  obtain ⟨its, rv, p1, _⟩ := I.tuple hx
  obtain ⟨its2, rv2, p2, _⟩ := I.tuple hy
  have lt1 : a < s.heap.objs.size := p1.lt
  have lt2 : b < s.heap.objs.size := p2.lt
  refine RZ.call_zipT (show s.heap.IsTuple a its.toArray from p1) (show s.heap.IsTuple b its2.toArray from p2) fun h' hz hTI hTO h1 h2 hsz hk => ?_
  have D := PySem.W.ktu_apart s.heap.objs.size a b lt1 lt2
  have le : ∀ k, s.heap.objs.size ≤ s.heap.objs.size + k := fun k => Nat.le_add_right _ _
  have five : Five H (s.heap.objs.size + 4) (s.heap.objs.size + 2) (s.heap.objs.size + 3) s.heap.objs.size (s.heap.objs.size + 1) :=
    ⟨I.hok.fresh (le 4), I.hok.fresh (le 2), I.hok.fresh (le 3), I.hok.fresh (Nat.le_refl _), I.hok.fresh (le 1)⟩
  have young : Young X.s_0.heap.objs.size (s.heap.objs.size + 4) (s.heap.objs.size + 2) (s.heap.objs.size + 3) s.heap.objs.size (s.heap.objs.size + 1) :=
    ⟨Nat.le_trans I.sz (le 4), Nat.le_trans I.sz (le 2), Nat.le_trans I.sz (le 3), I.sz, Nat.le_trans I.sz (le 1)⟩
  have old : ∀ c, c < s.heap.objs.size → zipH H (s.heap.objs.size + 4) (s.heap.objs.size + 2) (s.heap.objs.size + 3) s.heap.objs.size (s.heap.objs.size + 1) a b c = H c := fun c hc =>
    zipH_old (Nat.ne_of_lt (by omega)) (Nat.ne_of_lt (by omega)) (Nat.ne_of_lt (by omega)) (Nat.ne_of_lt hc) (Nat.ne_of_lt (by omega))
  have told : ∀ c o, H c = some o → zipH H (s.heap.objs.size + 4) (s.heap.objs.size + 2) (s.heap.objs.size + 3) s.heap.objs.size (s.heap.objs.size + 1) a b c = some o := fun c o e => by
    rw [old c (I.hok.lt e)]
    exact e
  have J : Inv X pins σ (zipH H (s.heap.objs.size + 4) (s.heap.objs.size + 2) (s.heap.objs.size + 3) s.heap.objs.size (s.heap.objs.size + 1) a b) { s with heap := h' } := by
    refine I.un (t' := s.toks) ⟨fun c o e _ _ _ => hk c o e, fun c o e _ _ _ => ⟨o.slots, hk c o e⟩, fun c o e n _ => by rw [old c (Heap.lt_size e)]; exact n, fun c o e _ => ⟨o, hk c o e⟩,
      fun c xs e => told c _ e, fun c o u e => told c _ e, fun c ps e => ⟨#[], by rw [told c _ e]; simp⟩⟩ fun c o e => ?_
    by_cases c5 : c = s.heap.objs.size + 1
    · subst c5
      rw [zipH_i2 D] at e
      cases e
      exact ⟨h2, iter_at h2, fun g1 g2 z k => z.at k⟩
    by_cases c4 : c = s.heap.objs.size
    · subst c4
      rw [zipH_i1 D] at e
      cases e
      exact ⟨h1, iter_at h1, fun g1 g2 z k => z.at k⟩
    by_cases c3 : c = s.heap.objs.size + 3
    · subst c3
      rw [zipH_TO D] at e
      cases e
      exact ⟨⟨_, _, hTO⟩, ⟨_, hTO⟩, fun g1 g2 ⟨x, y, z⟩ k => ⟨x, y, k _ z⟩⟩
    by_cases c2 : c = s.heap.objs.size + 2
    · subst c2
      rw [zipH_TI D] at e
      cases e
      exact ⟨hTI, ⟨_, hTI⟩, fun g1 g2 z k => k _ z⟩
    by_cases c1 : c = s.heap.objs.size + 4
    · subst c1
      rw [zipH_z D] at e
      cases e
      exact ⟨hz, ⟨_, hz⟩, fun g1 g2 z k => k _ z⟩
    rw [zipH_old c1 c2 c3 c4 c5] at e
    exact (I.hok c o e).stay (fun b u _ z => hk b u z) (fun b z => told b _ z) fun b ys z => told b _ z
  exact ⟨.ref _, _, J, rfl, q _ _ _ _ _ D five young⟩
/-- the zip that the name in slot k holds -/
def iZipV (K : PySem.W.Frag) (n k : Nat) : TI := fun σ H R => ∃ (z TI TO i1 i2 a b : Addr) (H0 : Hp), σ[k]? = some (some (.ref z)) ∧ ZipApart z TI TO i1 i2 a b ∧ Five H0 z TI TO i1 i2 ∧ Young n z TI TO i1 i2 ∧
  H = zipH H0 z TI TO i1 i2 a b ∧ R (RZ.ItzT K a b) H0
theorem ext_ok {P : Program} {w : World} {H : Hp} {h : Heap} {a : Addr} {φ : Heap → Prop} (ok : HOk P w H h) (e : H a = some (.ext φ)) : φ h := by
  obtain ⟨q, _⟩ := (show ObjOk P w H h a (.ext φ) from ok a _ e)
  exact q
theorem pi_zipv {X : Cx} {k : Nat} {x : Str} {p tpos : Pos} {elts : List Expr} {kk : Nat} (hN : X.N[k]? = some x) (hv : Vis X.env.scope x) (hd : (x == ("__debug__" : Str)) = false := by decide) (hcd : (x == ("__classdict__" : Str)) = false := by decide) :
    PI X (.Tuple elts kk tpos) (.Name x p) (iZipV X.K X.s_0.heap.objs.size k) := by
  refine ⟨fun pins s σ H R I h => ?_⟩
  obtain ⟨z, TI, TO, i1, i2, a, b, H0, hs, D, F, Y, eH, q⟩ := h
  subst eH
  refine thn ((pe_var (pos := p) (i := k) hN hv hd hcd).run pins s σ _ (fun v H1 => v = .ref z ∧ H1 = zipH H0 z TI TO i1 i2 a b) I ⟨.ref z, hs, rfl, rfl⟩) fun u s1 ⟨v, H1, I1, r1, ev, eH⟩ => ?_
  subst ev
  rw [eH] at I1
  cases r1
  have tz := ext_ok I1.hok (zipH_z D)
  have tTI := ext_ok I1.hok (zipH_TI D)
  have tTO := ext_ok I1.hok (zipH_TO D)
  have t1 := ext_ok I1.hok (zipH_i1 D)
  have t2 := ext_ok I1.hok (zipH_i2 D)
  have fp : ∀ c ∈ [z, TI, TO, i1, i2], FpOk X pins H0 c := fun c hc => by
    have e : c = z ∨ c = TI ∨ c = TO ∨ c = i1 ∨ c = i2 := by simpa using hc
    rcases e with e | e | e | e | e
    · rw [e]; exact ⟨F.z, (ItX.inv_fp I1 (zipH_z D) Y.z).2⟩
    · rw [e]; exact ⟨F.TI, (ItX.inv_fp I1 (zipH_TI D) Y.TI).2⟩
    · rw [e]; exact ⟨F.TO, (ItX.inv_fp I1 (zipH_TO D) Y.TO).2⟩
    · rw [e]; exact ⟨F.i1, (ItX.inv_fp I1 (zipH_i1 D) Y.i1).2⟩
    · rw [e]; exact ⟨F.i2, (ItX.inv_fp I1 (zipH_i2 D) Y.i2).2⟩
  have J0 : Inv X pins σ H0 s1 := by
    have j1 := ItX.inv_drop I1 (zipH_i2 D)
    unfold zipH at j1
    rw [ItX.dropH_upd (by rw [upd_ne D.i12.symm, upd_ne D.TOi2.symm, upd_ne D.TIi2.symm, upd_ne D.i2z]; exact F.i2)] at j1
    have j2 := ItX.inv_drop j1 upd_same
    rw [ItX.dropH_upd (by rw [upd_ne D.TOi1.symm, upd_ne D.TIi1.symm, upd_ne D.i1z]; exact F.i1)] at j2
    have j3 := ItX.inv_drop j2 upd_same
    rw [ItX.dropH_upd (by rw [upd_ne D.TITO.symm, upd_ne D.TOz]; exact F.TO)] at j3
    have j4 := ItX.inv_drop j3 upd_same
    rw [ItX.dropH_upd (by rw [upd_ne D.TIz]; exact F.TI)] at j4
    have j5 := ItX.inv_drop j4 upd_same
    rw [ItX.dropH_upd F.z] at j5
    exact j5
  refine wpAny_pyIter_zip tz ?_
  exact ⟨z, [z, TI, TO, i1, i2], _, _, H0, rfl, J0, RZ.turn_zipT D, ⟨tz, tTI, tTO, t1, t2⟩, fp, q⟩
/-- a comprehension over zip of two tuples of one length: Pv by the turn -/
theorem lc_zipT {K : PySem.W.Frag} {a b : Addr} {xs ys : List V} {g : TG} {tt : TT} {te : TE} {vs : List Nat} {σ : L2.St} {H1 : Hp} {D : Addr} {Qd : Hp → Prop} (hl : xs.length = ys.length) (Pv : Nat → Hp → Prop) (h0 : Pv 0 (upd H1 D (.lst [])))
    (hq : ∀ i H, Pv i H → SqT K H a xs ∧ SqT K H b ys)
    (hs : ∀ (i : Nat) (x y : V) (T : Addr) (H : Hp), xs[i]? = some x → ys[i]? = some y → Pv i H → H T = none → g (.ref T) (wipe σ vs) (upd H T (.tup [x, y])) fun σ2 H2 => wipe σ2 vs = wipe σ vs ∧ tt σ2 H2 fun b H3 =>
      if b = true then te σ2 H3 fun y H4 => ∃ acc, H4 D = some (.lst acc) ∧ acc.length < sizeLine ∧ Pv (i + 1) (upd H4 D (.lst (acc ++ [y]))) else Pv (i + 1) H3) (hd : ∀ H, Pv xs.length H → Qd H) :
    ∃ W : Nat → Nat → Hp → Prop, (∃ m, W 0 m (upd H1 D (.lst []))) ∧ ∀ i m H, W i m H →
      ((RZ.ItzT K a b).stop i H ∧ Qd H) ∨ ((RZ.ItzT K a b).go i H ∧ ∃ Nx : Hp → Prop, (∀ H', Nx H' → ∃ m', m' < m ∧ W (i + 1) m' H') ∧ ∀ x H', (RZ.ItzT K a b).yld i H x H' → g x (wipe σ vs) H' fun σ2 H2 => wipe σ2 vs = wipe σ vs ∧ tt σ2 H2 fun b H3 =>
        if b = true then te σ2 H3 fun y H4 => ∃ acc, H4 D = some (.lst acc) ∧ acc.length < sizeLine ∧ Nx (upd H4 D (.lst (acc ++ [y]))) else Nx H3) := by
  refine ⟨fun i m H => m = xs.length - i ∧ i ≤ xs.length ∧ Pv i H, ⟨xs.length, by simp, Nat.zero_le _, h0⟩, ?_⟩
  rintro i m H ⟨rfl, hi, p⟩
  obtain ⟨q1, q2⟩ := hq i H p
  by_cases hlt : i < xs.length
  · have g1 : xs[i]? = some xs[i] := List.getElem?_eq_getElem hlt
    have g2 : ys[i]? = some (ys[i]'(by omega)) := List.getElem?_eq_getElem _
    refine .inr ⟨⟨xs, ys, _, _, q1, q2, g1, g2⟩, Pv (i + 1), fun H' p' => ⟨xs.length - (i + 1), by omega, rfl, hlt, p'⟩, fun v H' y => ?_⟩
    obtain ⟨T, x1, y1, rfl, hT, rfl, f1, f2⟩ := y
    exact hs i x1 y1 T H (f1 xs q1) (f2 ys q2) p hT
  · have e : i = xs.length := by omega
    subst e
    exact .inl ⟨⟨xs, ys, q1, q2, .inl (Nat.le_refl _)⟩, hd H p⟩
end K8R
set_option Elab.async false
set_option linter.all false
set_option maxRecDepth 100000
set_option maxHeartbeats 4000000
namespace K8R
open PySem PySem.Spec PyProof.Rows L2
/-! ### a dict comprehension with two clauses -/
abbrev twoFor (k v t0 i0 t1 i1 : Expr) (c0 c1 : List Expr) (sc : Scope) (pos : Pos) : Expr := .DictComp k v [⟨t0, i0, c0, 0⟩, ⟨t1, i1, c1, 0⟩] sc pos
section
variable {prog : Program} {w : World} {A : Around} {R : Result → Shared → Prop} {s : Shared} {k v t0 i0 t1 i1 : Expr} {c0 c1 : List Expr} {sc : Scope} {pos : Pos} {it : Value} {D : Addr} {env : Env}
theorem turnOut (acc : Value) : compTurn (twoFor k v t0 i0 t1 i1 c0 c1 sc pos) 0 it acc env = (do
      standAt i0.pos
      match ← pyNext it with
      | none => pure (.done .next)
      | some y =>
        letOwnedTupleGo t0 it y
        assign t0 env y
        let mut ok := true
        for c in c0 do
          if ok then ok ← isTrue c env (eval c env)
        if ok then
          let x ← eval i1 env
          standAt i1.pos
          let x ← foldedSetIterable i1 env x
          let _ ← runOwn (.compStart (twoFor k v t0 i0 t1 i1 c0 c1 sc pos) 1 (← holding [x] (pyIter x)) acc env) env
        again (.compLoop (twoFor k v t0 i0 t1 i1 c0 c1 sc pos) 0 it acc env)) := by rfl
theorem turnIn : compTurn (twoFor k v t0 i0 t1 i1 c0 c1 sc pos) 1 it (.ref D) env = (do
      standAt i1.pos
      match ← pyNext it with
      | none => pure (.done .next)
      | some y =>
        letOwnedTupleGo t1 it y
        assign t1 env y
        let mut ok := true
        for c in c1 do
          if ok then ok ← isTrue c env (eval c env)
        if ok then
          (do
            let kv ← eval k env
            let vv ← holding [kv] (eval v env)
            standAt { k.pos with endLine := v.pos.endLine, endCol := v.pos.endCol }
            holding [kv, vv] (dictSet D kv vv))
        again (.compLoop (twoFor k v t0 i0 t1 i1 c0 c1 sc pos) 1 it (.ref D) env)) := by rfl
/-- a clause's tests, one behind another -/
abbrev tests (cs : List Expr) (env : Env) : Sem Bool := forIn cs true fun c r => if r = true then do let ok ← isTrue c env (eval c env); pure (ForInStep.yield ok) else pure (ForInStep.yield r)
theorem loopOut {acc : Value} (hs : ∀ x, foldedSetIterable i1 env x = pure x) (I : Nat → Shared → Prop)
    (turn : ∀ n s, I n s → wpAny (model prog w) A (pyNext it) (fun r s₁ => match r with
      | none => R (.ok .next) s₁
      | some y => wpAny (model prog w) A (letOwnedTupleGo t0 it y) (fun _ s₁' => wpAny (model prog w) A (assign t0 env y) (fun _ s₂ =>
          wpAny (model prog w) A (tests c0 env) (fun ok s₃ =>
            if ok = true then wpAny (model prog w) A (eval i1 env) (fun x s₄ => wpAny (model prog w) A (pyIter x) (fun it1 s₅ =>
              codeAny (model prog w) A (.compStart (twoFor k v t0 i0 t1 i1 c0 c1 sc pos) 1 it1 acc env) (fun r s' => match r with
                | .ok _ => ∃ m, m < n ∧ I m s'
                | .error _ => False) s₅) (notedBy (model prog w) A env fun e s' => R (.error e) s') s₄) (notedBy (model prog w) A env fun e s' => R (.error e) s') s₃
            else ∃ m, m < n ∧ I m s₃) (notedBy (model prog w) A env fun e s' => R (.error e) s') s₂) (notedBy (model prog w) A env fun e s' => R (.error e) s') s₁') (notedBy (model prog w) A env fun e s' => R (.error e) s') s₁) (notedBy (model prog w) A env fun e s' => R (.error e) s') s)
    (n : Nat) (h : I n s) : codeAny (model prog w) A (.compLoop (twoFor k v t0 i0 t1 i1 c0 c1 sc pos) 0 it acc env) R s := by
  refine codeAny_loop rfl I (fun n s hI => ?_) n h
  show wpAny _ A ((compTurn (twoFor k v t0 i0 t1 i1 c0 c1 sc pos) 0 it acc env).onRaise (fun x => do noteFrame x env; theTreesLotGoes x)) _ _ s
  refine wpAny_noted ?_
  rw [turnOut]
  refine wpAny_bind (wpAny_standAt (wpAny_bind (wpAny_mono (turn n s hI) (fun r s₁ h₁ => ?_) fun _ _ z => z)))
  cases r with
  | none => exact wpAny_pure h₁
  | some y =>
    refine wpAny_bind (wpAny_mono h₁ (fun _ s₁' h₁' => ?_) fun _ _ z => z)
    refine wpAny_bind (wpAny_mono h₁' (fun _ s₂ h₂ => wpAny_bind (wpAny_mono h₂ (fun ok s₃ h₃ => ?_) fun _ _ z => z)) fun _ _ z => z)
    cases ok with
    | false => exact wpAny_pure ⟨rfl, h₃⟩
    | true =>
      refine wpAny_bind (wpAny_mono h₃ (fun x s₄ h₄ => ?_) fun _ _ z => z)
      refine wpAny_bind (wpAny_standAt (wpAny_bind (wpAny_of_eq (hs x) (wpAny_bind (wpAny_holding (wpAny_mono h₄ (fun it1 s₅ h₅ => ?_) fun _ _ z => z))))))
      refine wpAny_bind (wpAny_runOwn ?_)
      rw [Around.mark_none]
      refine codeAny_mono h₅ fun r s' hr => ?_
      cases r with
      | ok f =>
        first
          | exact wpAny_pure ⟨rfl, hr⟩
          | exact wpAny_bind (wpAny_pure (wpAny_pure ⟨rfl, hr⟩))
      | error e => exact hr.elim
theorem loopIn (I : Nat → Shared → Prop)
    (turn : ∀ n s, I n s → wpAny (model prog w) A (pyNext it) (fun r s₁ => match r with
      | none => R (.ok .next) s₁
      | some y => wpAny (model prog w) A (letOwnedTupleGo t1 it y) (fun _ s₁' => wpAny (model prog w) A (assign t1 env y) (fun _ s₂ =>
          wpAny (model prog w) A (tests c1 env) (fun ok s₃ =>
            if ok = true then wpAny (model prog w) A (eval k env) (fun kv s₄ => wpAny (model prog w) A (eval v env) (fun vv s₅ =>
              wpAny (model prog w) A (dictSet D kv vv) (fun _ s₆ => ∃ m, m < n ∧ I m s₆) (notedBy (model prog w) A env fun e s' => R (.error e) s') s₅) (notedBy (model prog w) A env fun e s' => R (.error e) s') s₄) (notedBy (model prog w) A env fun e s' => R (.error e) s') s₃
            else ∃ m, m < n ∧ I m s₃) (notedBy (model prog w) A env fun e s' => R (.error e) s') s₂) (notedBy (model prog w) A env fun e s' => R (.error e) s') s₁') (notedBy (model prog w) A env fun e s' => R (.error e) s') s₁) (notedBy (model prog w) A env fun e s' => R (.error e) s') s)
    (n : Nat) (h : I n s) : codeAny (model prog w) A (.compLoop (twoFor k v t0 i0 t1 i1 c0 c1 sc pos) 1 it (.ref D) env) R s := by
  refine codeAny_loop rfl I (fun n s hI => ?_) n h
  show wpAny _ A ((compTurn (twoFor k v t0 i0 t1 i1 c0 c1 sc pos) 1 it (.ref D) env).onRaise (fun x => do noteFrame x env; theTreesLotGoes x)) _ _ s
  refine wpAny_noted ?_
  rw [turnIn]
  refine wpAny_bind (wpAny_standAt (wpAny_bind (wpAny_mono (turn n s hI) (fun r s₁ h₁ => ?_) fun _ _ z => z)))
  cases r with
  | none => exact wpAny_pure h₁
  | some y =>
    refine wpAny_bind (wpAny_mono h₁ (fun _ s₁' h₁' => ?_) fun _ _ z => z)
    refine wpAny_bind (wpAny_mono h₁' (fun _ s₂ h₂ => wpAny_bind (wpAny_mono h₂ (fun ok s₃ h₃ => ?_) fun _ _ z => z)) fun _ _ z => z)
    cases ok with
    | false => exact wpAny_pure ⟨rfl, h₃⟩
    | true =>
      exact wpAny_bind (wpAny_bind (wpAny_mono h₃ (fun kv s₄ h₄ => wpAny_bind (wpAny_holding (wpAny_mono h₄ (fun vv s₅ h₅ => wpAny_bind (wpAny_standAt (wpAny_holding (wpAny_mono h₅ (fun _ s₆ h₆ => wpAny_pure ⟨rfl, h₆⟩) fun _ _ z => z)))) fun _ _ z => z))) fun _ _ z => z))
theorem start1 {acc : Value} (h0 : codeAny (model prog w) A (.compLoop (twoFor k v t0 i0 t1 i1 c0 c1 sc pos) 1 it acc env) R s)
    (h : wpAny (model prog w) A (pyIter it) (fun it' s' => codeAny (model prog w) A (.compLoop (twoFor k v t0 i0 t1 i1 c0 c1 sc pos) 1 it' acc env) R s') (notedBy (model prog w) A env fun x s' => R (.error x) s') s) :
    codeAny (model prog w) A (.compStart (twoFor k v t0 i0 t1 i1 c0 c1 sc pos) 1 it acc env) R s := by
  refine codeAny_of_tree ?_
  show wpAny _ _ ((compStart (twoFor k v t0 i0 t1 i1 c0 c1 sc pos) 1 it acc env).onRaise (fun x => do noteFrame x env; standAt theWindowsPlace)) _ _ s
  refine wpAny_notedAt ?_
  unfold compStart
  show wpAny _ _ (ask >>= _) _ _ s
  refine wpAny_bind (wpAny_askSetting (wpAny_ite ?_))
  split
  · first
      | exact wpAny_bind (wpAny_pure (wpAny_pure (And.intro rfl h0)))
      | exact wpAny_pure (And.intro rfl h0)
  · first
      | exact wpAny_bind (wpAny_rule (wpAny_bind (wpAny_standAt (wpAny_bind (wpAny_mono h (fun it' s' h' => wpAny_pure (And.intro rfl h')) fun _ _ x => x)))))
      | (refine wpAny_bind (wpAny_rule ?_); show wpAny _ _ (standAt i1.pos >>= _) _ _ s; exact wpAny_bind (wpAny_standAt (wpAny_bind (wpAny_mono h (fun it' s' h' => wpAny_pure (And.intro rfl h')) fun _ _ x => x))))
end
section
variable {X : Cx}
/-- {k: v for t0 in i0 for t1 in i1}, no tests: D the new dict; vs the block's names, vs1 those of the second target -/
def tDc2 (wi : TI) (g : TG) (wi1 : TI) (g1 : TG) (tk tv : TE) (vs vs1 : List Nat) : TE := fun σ H Q => wi σ H fun J H1 => ∀ D, H1 D = none → ∃ W : Nat → Nat → Hp → Prop, (∃ m, W 0 m (upd H1 D (.dK []))) ∧ ∀ i m H, W i m H →
  (J.stop i H ∧ Q (.ref D) H) ∨ (J.go i H ∧ ∃ Nx : Hp → Prop, (∀ H', Nx H' → ∃ m', m' < m ∧ W (i + 1) m' H') ∧ ∀ x H', J.yld i H x H' → g x (wipe σ vs) H' fun σ2 H2 => wipe σ2 vs = wipe σ vs ∧
    wi1 σ2 H2 fun J1 H4 => ∃ W1 : Nat → Nat → Hp → Prop, (∃ m, W1 0 m H4) ∧ ∀ j k H, W1 j k H →
      (J1.stop j H ∧ Nx H) ∨ (J1.go j H ∧ ∃ Nx1 : Hp → Prop, (∀ H', Nx1 H' → ∃ k', k' < k ∧ W1 (j + 1) k' H') ∧ ∀ x H', J1.yld j H x H' → g1 x (wipe σ2 vs1) H' fun σ3 H5 => wipe σ3 vs1 = wipe σ2 vs1 ∧
        tk σ3 H5 fun y H6 => tv σ3 H6 fun z H7 => ∃ kvs k, y = kV k ∧ H7 D = some (.dK kvs) ∧ kvs.length < sizeLine ∧ Nx1 (upd H7 D (.dK (putK kvs k z)))))
theorem pe_dc2 {kx vx tg iter tg1 iter1 : Expr} {scope : Scope} {own : List (Str × Nat)} {vs1 : List Nat} {pos : Pos} {wi wi1 : TI} {g g1 : TG} {tk tv : TE} (hc : X.calm = true) (hN : X.N.Nodup) (hi : PI X tg iter wi) (ok : BlkOk X.N X.env.scope scope own) (hv : ∀ i ∈ vs1, i ∈ own.map (·.2))
    (hg : ∀ (s : Shared) (H : Hp) (C : Addr) (cl : List (Str × Addr)) (fp : List Addr), PG (X.blk s H scope (compEnvC scope cl C X.env) fp) tg g)
    (hi1 : ∀ (s : Shared) (H : Hp) (C : Addr) (cl : List (Str × Addr)) (fp : List Addr), PI (X.blk s H scope (compEnvC scope cl C X.env) fp) tg1 iter1 wi1)
    (hg1 : ∀ (s : Shared) (H : Hp) (C : Addr) (cl : List (Str × Addr)) (fp : List Addr), PG (X.blk s H scope (compEnvC scope cl C X.env) fp) tg1 g1)
    (hk : ∀ (s : Shared) (H : Hp) (C : Addr) (cl : List (Str × Addr)) (fp : List Addr), PE (X.blk s H scope (compEnvC scope cl C X.env) fp) kx tk)
    (he : ∀ (s : Shared) (H : Hp) (C : Addr) (cl : List (Str × Addr)) (fp : List Addr), PE (X.blk s H scope (compEnvC scope cl C X.env) fp) vx tv)
    (hs : ∀ x, foldedSetIterable iter X.env x = pure x := by intro _; rfl) (hs1 : ∀ env x, foldedSetIterable iter1 env x = pure x := by intro _ _; rfl) :
    PE X (twoFor kx vx tg iter tg1 iter1 [] [] scope pos) (tDc2 wi g wi1 g1 tk tv (own.map (·.2)) vs1) := by
  refine ⟨fun pins s σ H Q I h => ?_⟩
  rw [arm_eval_DictComp]
  have hfree : ∀ y ∈ scope.names, y.2 = .free → ∃ c, X.env.cells.lookup y.1 = some c := fun y hy e => by
    rcases ok.free y hy e with q | q
    · exact I.ok.has _ (.inl q)
    · exact I.ok.has _ (.inr q)
  refine wpAny_comprehension_free (use := none) rfl hs (closure_ok hfree) ok.kind (fun y hy e => by rw [ok.uniq y hy, e])
    (thn (hi.run pins s σ H _ I h) fun xv s1 hx => thn hx fun itv s2 h2 => ?_)
  obtain ⟨it, fp, tn, J, H2, e, I2, T, st2, f2, q⟩ := h2
  subst e
  refine wpAny_newObj_type (newEnv_comp ?_)
  generalize hD : s2.heap.objs.size = D
  have hDn : H2 D = none := I2.hok.fresh (Nat.le_of_eq hD)
  obtain ⟨W, ⟨m0, w0⟩, turn⟩ := q D hDn
  generalize hs3 : ({ s2 with heap := s2.heap.push { cls := .type "dict", data := .dict #[] } } : Shared) = s3
  have I3 : Inv X pins σ (upd H2 D (.dK [])) s3 := by
    rw [← hs3]
    refine I2.laid (t' := s2.toks) (fun b o e => Heap.get?_push_of_some _ e) (Nat.le_of_eq hD) ?_
    rw [← hD]
    exact dk_empty s2.heap I2.big
  have h3 : s3.heap = s2.heap.push { cls := .type "dict", data := .dict #[] } := by rw [← hs3]
  have sz : ∀ b ∈ fp, b < s2.heap.objs.size := fun b hb => by
    obtain ⟨o, e, _⟩ := T.obj _ _ st2 b hb
    exact Heap.lt_size e
  have f3 : ∀ b ∈ fp, FpOk X pins (upd H2 D (.dK [])) b ∧ b < s3.heap.objs.size := fun b hb => by
    have hlt := sz b hb
    refine ⟨⟨?_, (f2 b hb).2⟩, by rw [h3, Heap.size_push]; exact Nat.lt_succ_of_lt hlt⟩
    rw [upd_ne (by rw [← hD]; exact Nat.ne_of_lt hlt)]
    exact (f2 b hb).1
  have st3 : tn 0 s3.heap := T.keep _ _ _ st2 fun b _ o e => by rw [h3]; exact Heap.get?_push_of_some _ e
  have I4 := block_start I3 ok hN f3
  generalize hcl : cellsFrom (s3.heap.objs.size + 1) scope.names (cloFrom X.env.cells scope.names []) = cl at I4 ⊢
  have pg := hg s3 (upd H2 D (.dK [])) s3.heap.objs.size cl fp
  have pk := hk s3 (upd H2 D (.dK [])) s3.heap.objs.size cl fp
  have pe := he s3 (upd H2 D (.dK [])) s3.heap.objs.size cl fp
  have pi1 := hi1 s3 (upd H2 D (.dK [])) s3.heap.objs.size cl fp
  have pg1 := hg1 s3 (upd H2 D (.dK [])) s3.heap.objs.size cl fp
  show codeAny _ _ (.compStart (twoFor kx vx tg iter tg1 iter1 [] [] scope pos) 0 (.ref it) (.ref D) (compEnvC scope cl s3.heap.objs.size X.env)) (compPost (model X.prog X.w) X.A X.xe none (EP X pins σ Q) (.ref D) s3.heap.objs.size) { s3 with heap := pushCells (s3.heap.push { cls := .type "dict", data := .dict #[] }) scope.names }
  have nfp : ∀ b ∈ fp, (upd H2 D (.dK [])) b = none := fun b hb => (f3 b hb).1.1
  generalize hce : compEnvC scope cl s3.heap.objs.size X.env = ce at I4 pg pk pe pi1 pg1 ⊢
  have cL : ce.locals = s3.heap.objs.size := by subst hce; rfl
  generalize hH3 : upd H2 D (.dK []) = H3 at I3 I4 pg pk pe pi1 pg1 w0 nfp f3
  generalize hs4 : ({ s3 with heap := pushCells (s3.heap.push { cls := .type "dict", data := .dict #[] }) scope.names } : Shared) = s4 at I4 ⊢
  have st4 : tn 0 s4.heap := T.keep _ _ _ st3 fun b _ o e => by rw [← hs4]; exact pushCells_keeps _ _ _ _ (Heap.get?_push_of_some _ e)
  have stat : ∀ {σ' : L2.St} {H' : Hp} {s' : Shared}, Inv (X.blk s3 H3 scope ce fp) [] σ' H' s' → (∀ b ∈ fp, H' b = none) → ∀ b ∈ fp, FpOk (X.blk s3 H3 scope ce fp) [] H' b := fun {σ' H' s'} I' hn b hb =>
    ⟨hn b hb, (I'.ok.exf b hb).1, I'.ok.exfs b hb, .inl hb, fun x c e => (I'.ok.exf b hb).2 x c e, fun p hp => absurd (show p ∈ ([] : List (Addr × Obj)) ++ [] from hp) (by simp)⟩
  have loop : codeAny (model X.prog X.w) X.A (.compLoop (twoFor kx vx tg iter tg1 iter1 [] [] scope pos) 0 (.ref it) (.ref D) ce) (compPost (model X.prog X.w) X.A X.xe none (EP X pins σ Q) (.ref D) s3.heap.objs.size) s4 := by
    refine loopOut (hs1 ce) (fun n s' => ∃ i H', Inv (X.blk s3 H3 scope ce fp) [] (wipe σ (own.map (·.2))) H' s' ∧ tn i s'.heap ∧ (∀ b ∈ fp, H' b = none) ∧ W i n H') ?_ m0 ⟨0, H3, I4, st4, nfp, w0⟩
    rintro n s5 ⟨i, H5, I5, st5, n5, w5⟩
    rcases turn i n H5 w5 with ⟨stop, qq⟩ | ⟨go, Nx, hNx, step⟩
    · refine thnF (T.done (X.blk s3 H3 scope ce fp) rfl rfl rfl hc i [] s5 _ H5 (fun _ _ => False) I5 (stat I5 n5) st5 stop) fun r s6 ⟨hr, I6⟩ => ?_
      subst hr
      have I7 : Inv X pins σ H5 s6 := I3.call' (ch := fp) I6.os I6.base I6.hok I6.bare fun b hb => ⟨(f3 b hb).1.2.2.2.1, (f3 b hb).1.2.1, (f3 b hb).1.2.2.2.2.1, (f3 b hb).1.2.2.2.2.2⟩
      have nC : H5 s3.heap.objs.size = none := by
        have z : H5 ce.locals = none := I6.free
        rw [cL] at z
        exact z
      obtain ⟨m, hn, _⟩ := I6.loc
      have hn : s6.heap.Ns ce.locals m := hn
      rw [cL] at hn
      obtain ⟨g0, g1', g2', g3', g4', g5'⟩ := I3.fpOk (Nat.le_refl _) nC
      exact ⟨m, hn, fun h'' sb => ⟨.ref D, H5, I7.turned (t' := s6.toks) (fun b o hb e => (sb.2 b hb).trans e) g0 g1' g3' g4' g5', rfl, qq⟩⟩
    · refine thnF (T.item (X.blk s3 H3 scope ce fp) rfl rfl rfl hc i [] s5 _ H5 (fun _ _ => False) I5 (stat I5 n5) st5 go) fun r s6 ⟨u, hr, h6⟩ => ?_
      subst hr
      refine thnF h6 fun _ s7 ⟨x, H7, I7, r7, y7, st7, n7⟩ => ?_
      have I7' := I7.pinned (stat I7 n7) (T.obj _ _ st7)
      refine thnF (pg.run _ s7 _ H7 x u _ I7' r7 (step x H7 y7)) fun _ s8 ⟨σ8, H8, I8, hw8, q8⟩ => ?_
      have fin : ∀ {σ9 : L2.St} {s' : Shared} {H' : Hp}, Inv (X.blk s3 H3 scope ce fp) ([] ++ pinsAt fp s7.heap) σ9 H' s' → (wipe σ (own.map (·.2))).length = σ9.length → (∀ (j : Nat) v, (wipe σ (own.map (·.2)))[j]? = some (some v) → σ9[j]? = some (some v)) → Nx H' →
          ∃ m, m < n ∧ ∃ i H', Inv (X.blk s3 H3 scope ce fp) [] (wipe σ (own.map (·.2))) H' s' ∧ tn i s'.heap ∧ (∀ b ∈ fp, H' b = none) ∧ W i m H' := fun {σ9 s' H'} I' hl hk nx => by
        obtain ⟨m', hm, w'⟩ := hNx H' nx
        have pin' : ∀ b ∈ fp, ∀ o, s7.heap.get? b = some o → s'.heap.get? b = some o ∧ H' b = none := fun b hb o e =>
          let z := I'.pin (b, o) (List.mem_append_right _ (List.mem_append_right _ (mem_pinsAt hb e)))
          ⟨z.1, z.2.1⟩
        refine ⟨m', hm, i + 1, H', (I'.unpinned (pins := [])).weak hl hk, T.keep _ _ _ st7 fun b hb o e => (pin' b hb o e).1, fun b hb => ?_, w'⟩
        obtain ⟨o, e, _⟩ := T.obj _ _ st7 b hb
        exact (pin' b hb o e).2
      have hl8 : (wipe σ (own.map (·.2))).length = σ8.length := by rw [← hw8, wipe_length]
      have hk9 : ∀ (j : Nat) v, (wipe σ (own.map (·.2)))[j]? = some (some v) → (wipe σ8 vs1)[j]? = some (some v) := fun j v e => by
        rw [← hw8] at e
        obtain ⟨e1, e2⟩ := wipe_some e
        rw [wipe_out fun z => e2 (hv j z)]
        exact e1
      show wpAny _ _ (tests [] ce) _ _ s8
      refine wpAny_tests_nil ?_
      rw [if_pos rfl]
      refine thnF (pi1.run _ s8 σ8 H8 _ I8 q8) fun xv s10 hx => thnF hx fun itv s11 h11 => ?_
      obtain ⟨it1, fp1, tn1, J1, H11, e1, I11, T1, st11, f11, W1, ⟨m1, w1⟩, turn1⟩ := h11
      subst e1
      have stat1 : ∀ {H' : Hp}, (∀ b ∈ fp1, H' b = none) → ∀ b ∈ fp1, FpOk (X.blk s3 H3 scope ce fp) ([] ++ pinsAt fp s7.heap) H' b := fun hn b hb => ⟨hn b hb, (f11 b hb).2⟩
      have loop1 : codeAny (model X.prog X.w) X.A (.compLoop (twoFor kx vx tg iter tg1 iter1 [] [] scope pos) 1 (.ref it1) (.ref D) ce)
          (fun r s' => match r with
            | .ok _ => ∃ m, m < n ∧ ∃ i H', Inv (X.blk s3 H3 scope ce fp) [] (wipe σ (own.map (·.2))) H' s' ∧ tn i s'.heap ∧ (∀ b ∈ fp, H' b = none) ∧ W i m H'
            | .error _ => False) s11 := by
        refine loopIn (fun k s' => ∃ j H', Inv (X.blk s3 H3 scope ce fp) ([] ++ pinsAt fp s7.heap) (wipe σ8 vs1) H' s' ∧ tn1 j s'.heap ∧ (∀ b ∈ fp1, H' b = none) ∧ W1 j k H') ?_ m1 ⟨0, H11, I11.weak (wipe_length _ _) (fun j v e => (wipe_some e).1), st11, fun b hb => (f11 b hb).1, w1⟩
        rintro k s12 ⟨j, H12, I12, st12, n12, w12⟩
        rcases turn1 j k H12 w12 with ⟨stop1, nx1⟩ | ⟨go1, Nx1, hNx1, step1⟩
        · refine thnF (T1.done (X.blk s3 H3 scope ce fp) rfl rfl rfl hc j _ s12 (wipe σ8 vs1) H12 (fun _ _ => False) I12 (stat1 n12) st12 stop1) fun r s13 ⟨hr, I13⟩ => ?_
          subst hr
          exact fin I13 (hl8.trans (wipe_length σ8 vs1).symm) hk9 nx1
        · refine thnF (T1.item (X.blk s3 H3 scope ce fp) rfl rfl rfl hc j _ s12 (wipe σ8 vs1) H12 (fun _ _ => False) I12 (stat1 n12) st12 go1) fun r s13 ⟨u1, hr, h13⟩ => ?_
          subst hr
          refine thnF h13 fun _ s14 ⟨x1, H14, I14, r14, y14, st14, n14⟩ => ?_
          have I14' := I14.pinned (stat1 n14) (T1.obj _ _ st14)
          refine thnF (pg1.run _ s14 (wipe σ8 vs1) H14 x1 u1 _ I14' r14 (step1 x1 H14 y14)) fun _ s15 ⟨σ15, H15, I15, hw15, q15⟩ => ?_
          have fin1 : ∀ {s' : Shared} {H' : Hp}, Inv (X.blk s3 H3 scope ce fp) (([] ++ pinsAt fp s7.heap) ++ pinsAt fp1 s14.heap) σ15 H' s' → Nx1 H' → ∃ m, m < k ∧ ∃ j H', Inv (X.blk s3 H3 scope ce fp) ([] ++ pinsAt fp s7.heap) (wipe σ8 vs1) H' s' ∧ tn1 j s'.heap ∧ (∀ b ∈ fp1, H' b = none) ∧ W1 j m H' := fun {s' H'} I' nx => by
            obtain ⟨m', hm, w'⟩ := hNx1 H' nx
            have pin' : ∀ b ∈ fp1, ∀ o, s14.heap.get? b = some o → s'.heap.get? b = some o ∧ H' b = none := fun b hb o e =>
              let z := I'.pin (b, o) (List.mem_append_right _ (List.mem_append_right _ (mem_pinsAt hb e)))
              ⟨z.1, z.2.1⟩
            refine ⟨m', hm, j + 1, H', I'.unpinned.weak (by rw [← hw15, wipe_length]) (fun j v e => by rw [← hw15] at e; exact (wipe_some e).1), T1.keep _ _ _ st14 fun b hb o e => (pin' b hb o e).1, fun b hb => ?_, w'⟩
            obtain ⟨o, e, _⟩ := T1.obj _ _ st14 b hb
            exact (pin' b hb o e).2
          show wpAny _ _ (tests [] ce) _ _ s15
          refine wpAny_tests_nil ?_
          rw [if_pos rfl]
          refine thnF (pk.run _ s15 σ15 H15 _ I15 q15) fun z s16 ⟨yk, H16, I16, r16, q16⟩ => ?_
          refine thnF (pe.run _ s16 σ15 H16 _ I16 q16) fun z2 s17 ⟨yv, H17, I17, r17, kvs, kk, ek, hD17, hz17, nx⟩ => ?_
          subst ek
          exact d_dictSet (X := X.blk s3 H3 scope ce fp) I17 hD17 hz17 r16 r17 fun s18 I18 => fin1 I18 nx
      exact start1 loop1 (T1.self X.A 0 _ _ _ st11 loop1)
  exact codeAny_compStart_dict loop (T.self X.A 0 _ _ _ st4 loop)
end
end K8R
set_option Elab.async false
set_option linter.all false
set_option maxRecDepth 100000
set_option maxHeartbeats 4000000
/-! The mathematics: trees, kinds, schemes by counting. No program here. -/
namespace K8
/-! ### choose, powers -/
def chF (n : Int) : Nat → Int
  | 0 => 1
  | s + 1 => chF n s * (n - (s : Int)) / ((s : Int) + 1)
def ch (n k : Int) : Int := if 0 ≤ k ∧ k ≤ n then chF n k.toNat else 0
def pw (b : Int) : Nat → Int
  | 0 => 1
  | m + 1 => pw b m * b
/-! ### words -/
def figL (q : Int) : Nat → Int → List Int
  | 0, _ => []
  | n + 1, p => p % q :: figL q n (p / q)
def figs (n q p : Int) : List Int := (figL q n.toNat p).reverse
theorem figL_len (q : Int) : ∀ (n : Nat) (p : Int), (figL q n p).length = n
  | 0, _ => rfl
  | n + 1, p => congrArg Nat.succ (figL_len q n (p / q))
theorem figs_len (n q p : Int) : (figs n q p).length = n.toNat := by
  unfold figs
  rw [List.length_reverse, figL_len]
/-- at how many of the first places two words are unlike -/
def dif (xs ys : List Int) : Nat → Nat
  | 0 => 0
  | i + 1 => dif xs ys i + (if xs[i]? = ys[i]? then 0 else 1)
theorem dif_le (xs ys : List Int) : ∀ i, dif xs ys i ≤ i
  | 0 => Nat.le_refl _
  | i + 1 => by
    have := dif_le xs ys i
    unfold dif
    split <;> omega
/-! ### sets -/
def lmStep (n k : Int) (turn : Nat) (s : List Int × Int × Int) (r : Int) : List Int × Int × Int :=
  if (s.1.length : Int) = (turn : Int) then (if s.2.2 < ch (n - r - 1) (k - (turn : Int) - 1) then (s.1 ++ [r], r + 1, s.2.2) else (s.1, s.2.1, s.2.2 - ch (n - r - 1) (k - (turn : Int) - 1))) else s
def lmIn (n k : Int) (turn : Nat) (s0 : Int) (s : List Int × Int × Int) : Nat → List Int × Int × Int
  | 0 => s
  | i + 1 => lmStep n k turn (lmIn n k turn s0 s i) (s0 + (i : Int))
def lmOut (n k p : Int) : Nat → List Int × Int × Int
  | 0 => ([], 0, p)
  | t + 1 => lmIn n k t (lmOut n k p t).2.1 (lmOut n k p t) (n - (lmOut n k p t).2.1).toNat
def mem (n k p : Int) : List Int := (lmOut n k p k.toNat).1
/-- the other way to find them, as far as it ends in so many turns -/
def mmRun (n k : Int) : Nat → List Int → Int → Int → Option (List Int)
  | 0, f, _, _ => if (f.length : Int) < k then none else some f
  | u + 1, f, m, p => if (f.length : Int) < k then (if p < ch (n - m - 1) (k - (f.length : Int) - 1) then mmRun n k u (f ++ [m]) (m + 1) p else mmRun n k u f (m + 1) (p - ch (n - m - 1) (k - (f.length : Int) - 1))) else some f
def setsB (n k : Int) : Bool := (List.range (ch n k).toNat).all fun p => decide (mmRun n k n.toNat [] 0 p = some (mem n k p)) && decide ((mem n k p).length = k.toNat)
theorem setsB_ok {n k p : Int} (h : setsB n k = true) (h0 : 0 ≤ p) (h1 : p < ch n k) : mmRun n k n.toNat [] 0 p = some (mem n k p) ∧ (mem n k p).length = k.toNat := by
  unfold setsB at h
  have h2 := List.all_eq_true.mp h p.toNat (List.mem_range.mpr (by omega))
  have e : ((p.toNat : Nat) : Int) = p := by omega
  rw [e] at h2
  obtain ⟨a, b⟩ := Bool.and_eq_true_iff.mp h2
  exact ⟨of_decide_eq_true a, of_decide_eq_true b⟩
/-- how many of the ones are in the others, and not -/
def inn (xs ys : List Int) : List Int := xs.filter fun x => decide (x ∈ ys)
def out (xs ys : List Int) : List Int := xs.filter fun x => !decide (x ∈ ys)
theorem inn_out (ys : List Int) : ∀ xs : List Int, (inn xs ys).length + (out xs ys).length = xs.length
  | [] => rfl
  | x :: r => by
    have q := inn_out ys r
    unfold inn out at *
    by_cases h : x ∈ ys
    · rw [List.filter_cons_of_pos (by simpa using h), List.filter_cons_of_neg (by simpa using h), List.length_cons, List.length_cons]
      omega
    · rw [List.filter_cons_of_neg (by simpa using h), List.filter_cons_of_pos (by simpa using h), List.length_cons, List.length_cons]
      omega
/-! ### trees -/
inductive Tr where
  | words (n q : Int)
  | sets (n k : Int)
  | listed (rows : List (List Int)) (m : Int)
  | prod (s t : Tr)
def at2 (rows : List (List Int)) (x y : Nat) : Int := (rows.getD x []).getD y 0
def pts : Tr → Int
  | .words n q => pw q n.toNat
  | .sets n k => ch n k
  | .listed rows _ => rows.length
  | .prod s t => pts s * pts t
def knd : Tr → Int
  | .words n _ => n + 1
  | .sets _ k => k + 1
  | .listed _ m => m
  | .prod s t => knd s * knd t
def prt : Tr → Int
  | .prod s t => prt s + prt t + 1
  | _ => 1
def hgt : Tr → Nat
  | .prod s t => max (hgt s) (hgt t) + 1
  | _ => 1
def kin : Tr → Int → Int → Int
  | .words n q, x, y => (dif (figs n q x) (figs n q y) n.toNat : Nat)
  | .sets n k, x, y => ((out (mem n k x) (mem n k y)).length : Nat)
  | .listed rows _, x, y => at2 rows x.toNat y.toNat
  | .prod s t, x, y => kin s (x / pts t) (y / pts t) * knd t + kin t (x % pts t) (y % pts t)
/-! ### schemes by counting -/
def cnt (f : Nat → Nat → Int) (N x y : Nat) (a b : Int) : Nat := (List.range N).countP fun z => decide (f x z = a) && decide (f y z = b)
structure Good (N : Nat) (m : Int) (f : Nat → Nat → Int) : Prop where
  rng : ∀ x y, x < N → y < N → 0 ≤ f x y ∧ f x y < m
  sym : ∀ x y, x < N → y < N → f x y = f y x
  dia : ∀ x y, x < N → y < N → (f x y = 0 ↔ x = y)
  occ : ∀ x, x < N → ∀ j, 0 ≤ j → j < m → ∃ y, y < N ∧ f x y = j
  coh : ∀ x y u v, x < N → y < N → u < N → v < N → f x y = f u v → ∀ a b, cnt f N x y a b = cnt f N u v a b
theorem Good.congr {N : Nat} {m : Int} {f g : Nat → Nat → Int} (h : Good N m f) (e : ∀ x y, x < N → y < N → g x y = f x y) : Good N m g := by
  have ec : ∀ x y, x < N → y < N → ∀ a b, cnt g N x y a b = cnt f N x y a b := fun x y hx hy a b => by
    unfold cnt
    refine List.countP_congr fun z hz => ?_
    have hz := List.mem_range.mp hz
    rw [e x z hx hz, e y z hy hz]
  refine ⟨fun x y hx hy => ?_, fun x y hx hy => ?_, fun x y hx hy => ?_, fun x hx j h0 h1 => ?_, fun x y u v hx hy hu hv q a b => ?_⟩
  · rw [e x y hx hy]; exact h.rng x y hx hy
  · rw [e x y hx hy, e y x hy hx]; exact h.sym x y hx hy
  · rw [e x y hx hy]; exact h.dia x y hx hy
  · obtain ⟨y, hy, q⟩ := h.occ x hx j h0 h1
    exact ⟨y, hy, by rw [e x y hx hy]; exact q⟩
  · rw [ec x y hx hy, ec u v hu hv]
    rw [e x y hx hy, e u v hu hv] at q
    exact h.coh x y u v hx hy hu hv q a b
/-- points renamed -/
theorem good_perm {N : Nat} {m : Int} {f : Nat → Nat → Int} (h : Good N m f) {ns : List Nat} (p : ns.Perm (List.range N)) : Good N m (fun x y => f (ns.getD x 0) (ns.getD y 0)) := by
  have hl : ns.length = N := by rw [p.length_eq, List.length_range]
  have gd : ∀ x, (hx : x < N) → ns.getD x 0 = ns[x]'(by omega) := fun x hx => by rw [List.getD_eq_getElem?_getD, List.getElem?_eq_getElem (by omega)]; rfl
  have lt : ∀ x, x < N → ns.getD x 0 < N := fun x hx => by
    rw [gd x hx]
    exact List.mem_range.mp (p.mem_iff.mp (List.getElem_mem _))
  have nd : ns.Nodup := p.nodup_iff.mpr List.nodup_range
  have mp : (List.range N).map (fun z => ns.getD z 0) = ns := by
    refine List.ext_getElem (by rw [List.length_map, List.length_range, hl]) fun i h1 h2 => ?_
    rw [List.getElem_map, List.getElem_range]
    exact gd i (by omega)
  have ec : ∀ x y a b, cnt (fun x y => f (ns.getD x 0) (ns.getD y 0)) N x y a b = cnt f N (ns.getD x 0) (ns.getD y 0) a b := fun x y a b => by
    unfold cnt
    generalize hX : ns.getD x 0 = X
    generalize hY : ns.getD y 0 = Y
    have q : (List.range N).countP ((fun z => decide (f X z = a) && decide (f Y z = b)) ∘ fun z => ns.getD z 0) = (List.range N).countP fun z => decide (f X z = a) && decide (f Y z = b) := by
      rw [← List.countP_map, mp]
      exact p.countP_eq _
    rw [← q, ← hX, ← hY]
    rfl
  refine ⟨fun x y hx hy => h.rng _ _ (lt x hx) (lt y hy), fun x y hx hy => h.sym _ _ (lt x hx) (lt y hy), fun x y hx hy => ?_, fun x hx j h0 h1 => ?_, fun x y u v hx hy hu hv q a b => ?_⟩
  · refine (h.dia _ _ (lt x hx) (lt y hy)).trans ⟨fun e => ?_, fun e => by rw [e]⟩
    rw [gd x hx, gd y hy] at e
    exact (List.getElem_inj nd).mp e
  · obtain ⟨y, hy, q⟩ := h.occ _ (lt x hx) j h0 h1
    obtain ⟨i, hi, e⟩ := List.mem_iff_getElem.mp (p.mem_iff.mpr (List.mem_range.mpr hy))
    refine ⟨i, by omega, ?_⟩
    show f _ (ns.getD i 0) = j
    rw [gd i (by omega), e]
    exact q
  · rw [ec, ec]
    exact h.coh _ _ _ _ (lt x hx) (lt y hy) (lt u hu) (lt v hv) q a b
theorem countP_grid (p q : Nat → Bool) {N' : Nat} (h' : 0 < N') : ∀ N : Nat, (List.range (N * N')).countP (fun z => p (z / N') && q (z % N')) = (List.range N).countP p * (List.range N').countP q
  | 0 => by simp
  | N + 1 => by
    have ih := countP_grid p q h' N
    rw [Nat.succ_mul, List.range_add, List.countP_append, ih, List.range_succ, List.countP_append, Nat.add_mul, List.countP_map]
    congr 1
    have e : (List.range N').countP ((fun z => p (z / N') && q (z % N')) ∘ fun x => N * N' + x) = (List.range N').countP fun x => p N && q x := by
      refine List.countP_congr fun x hx => ?_
      have hx := List.mem_range.mp hx
      have e1 : (N * N' + x) / N' = N := by
        rw [Nat.mul_comm, Nat.mul_add_div h', Nat.div_eq_of_lt hx]
        rfl
      have e2 : (N * N' + x) % N' = x := by
        rw [Nat.mul_comm, Nat.mul_add_mod, Nat.mod_eq_of_lt hx]
      show (p ((N * N' + x) / N') && q ((N * N' + x) % N')) = true ↔ _
      rw [e1, e2]
    rw [e]
    cases hp : p N with
    | true => simp [hp]
    | false => simp [hp]
theorem two_parts {m a b c d : Int} (h1 : 0 ≤ b) (h2 : b < m) (h3 : 0 ≤ d) (h4 : d < m) (e : a * m + b = c * m + d) : a = c ∧ b = d := by
  have q1 : (a * m + b) / m = a := by
    rw [Int.add_comm, Int.add_mul_ediv_right _ _ (by omega), Int.ediv_eq_zero_of_lt h1 h2]
    omega
  have q2 : (c * m + d) / m = c := by
    rw [Int.add_comm, Int.add_mul_ediv_right _ _ (by omega), Int.ediv_eq_zero_of_lt h3 h4]
    omega
  have ea : a = c := by rw [← q1, ← q2, e]
  subst ea
  exact ⟨rfl, by omega⟩
theorem part_iff {m a b z : Int} (h1 : 0 ≤ b) (h2 : b < m) : a * m + b = z ↔ a = z / m ∧ b = z % m := by
  have q := Int.mul_ediv_add_emod z m
  have r1 := Int.emod_nonneg z (show m ≠ 0 by omega)
  have r2 := Int.emod_lt_of_pos z (show 0 < m by omega)
  have q' : z / m * m + z % m = z := by rw [Int.mul_comm]; exact q
  refine ⟨fun e => two_parts h1 h2 r1 r2 (by rw [e, q']), fun ⟨e1, e2⟩ => by rw [e1, e2]; exact q'⟩
theorem good_prod {N N' : Nat} {m m' : Int} {f g : Nat → Nat → Int} (hf : Good N m f) (hg : Good N' m' g) (h' : 0 < N') : Good (N * N') (m * m') (fun x y => f (x / N') (y / N') * m' + g (x % N') (y % N')) := by
  have dv : ∀ x, x < N * N' → x / N' < N := fun x hx => Nat.div_lt_of_lt_mul (by rw [Nat.mul_comm]; exact hx)
  have md : ∀ x, x % N' < N' := fun x => Nat.mod_lt _ h'
  have r2 := fun x y => hg.rng (x % N') (y % N') (md x) (md y)
  have ec : ∀ x y, x < N * N' → y < N * N' → ∀ a b, cnt (fun x y => f (x / N') (y / N') * m' + g (x % N') (y % N')) (N * N') x y a b = cnt f N (x / N') (y / N') (a / m') (b / m') * cnt g N' (x % N') (y % N') (a % m') (b % m') := fun x y hx hy a b => by
    unfold cnt
    rw [← countP_grid _ _ h']
    refine List.countP_congr fun z hz => ?_
    have e1 : (f (x / N') (z / N') * m' + g (x % N') (z % N') = a) ↔ _ := part_iff (r2 x z).1 (r2 x z).2
    have e2 : (f (y / N') (z / N') * m' + g (y % N') (z % N') = b) ↔ _ := part_iff (r2 y z).1 (r2 y z).2
    simp only [Bool.and_eq_true, decide_eq_true_eq]
    rw [e1, e2]
    constructor
    · rintro ⟨⟨p1, p2⟩, p3, p4⟩
      exact ⟨⟨p1, p3⟩, p2, p4⟩
    · rintro ⟨⟨p1, p3⟩, p2, p4⟩
      exact ⟨⟨p1, p2⟩, p3, p4⟩
  refine ⟨fun x y hx hy => ?_, fun x y hx hy => ?_, fun x y hx hy => ?_, fun x hx j h0 h1 => ?_, fun x y u v hx hy hu hv q a b => ?_⟩
  · obtain ⟨a1, a2⟩ := hf.rng _ _ (dv x hx) (dv y hy)
    obtain ⟨b1, b2⟩ := r2 x y
    have q1 := Int.mul_nonneg a1 (show 0 ≤ m' by omega)
    have q2 := Int.mul_le_mul_of_nonneg_right (show f (x / N') (y / N') ≤ m - 1 by omega) (show 0 ≤ m' by omega)
    rw [Int.sub_mul, Int.one_mul] at q2
    exact ⟨by omega, by omega⟩
  · show f _ _ * m' + g _ _ = f _ _ * m' + g _ _
    rw [hf.sym _ _ (dv x hx) (dv y hy), hg.sym _ _ (md x) (md y)]
  · obtain ⟨b1, b2⟩ := r2 x y
    have z0 : (0 : Int) / m' = 0 := Int.zero_ediv _
    have z1 : (0 : Int) % m' = 0 := Int.zero_emod _
    refine (part_iff b1 b2).trans ?_
    rw [z0, z1, hf.dia _ _ (dv x hx) (dv y hy), hg.dia _ _ (md x) (md y)]
    constructor
    · rintro ⟨p1, p2⟩
      rw [← Nat.div_add_mod x N', ← Nat.div_add_mod y N', p1, p2]
    · intro e
      rw [e]
      exact ⟨rfl, rfl⟩
  · obtain ⟨b1, b2⟩ := r2 x x
    have hm : 0 < m' := by omega
    have j1 : 0 ≤ j / m' := Int.ediv_nonneg h0 (by omega)
    have j2 : j / m' < m := Int.ediv_lt_of_lt_mul hm h1
    obtain ⟨y1, l1, e1⟩ := hf.occ _ (dv x hx) (j / m') j1 j2
    obtain ⟨y2, l2, e2⟩ := hg.occ _ (md x) (j % m') (Int.emod_nonneg _ (by omega)) (Int.emod_lt_of_pos _ hm)
    have d1 : (y1 * N' + y2) / N' = y1 := by rw [Nat.mul_comm, Nat.mul_add_div h', Nat.div_eq_of_lt l2]; rfl
    have d2 : (y1 * N' + y2) % N' = y2 := by rw [Nat.mul_comm, Nat.mul_add_mod, Nat.mod_eq_of_lt l2]
    refine ⟨y1 * N' + y2, ?_, ?_⟩
    · have q := Nat.mul_le_mul_right N' (show y1 + 1 ≤ N by omega)
      rw [Nat.succ_mul] at q
      omega
    · show f _ _ * m' + g _ _ = j
      rw [d1, d2, e1, e2]
      have q := Int.mul_ediv_add_emod j m'
      rw [Int.mul_comm] at q
      exact q
  · obtain ⟨b1, b2⟩ := r2 x y
    obtain ⟨c1, c2⟩ := r2 u v
    obtain ⟨p1, p2⟩ := two_parts b1 b2 c1 c2 q
    rw [ec x y hx hy, ec u v hu hv, hf.coh _ _ _ _ (dv x hx) (dv y hy) (dv u hu) (dv v hv) p1, hg.coh _ _ _ _ (md x) (md y) (md u) (md v) p2]
end K8
set_option Elab.async false
set_option linter.all false
set_option maxRecDepth 100000
set_option maxHeartbeats 4000000
namespace K8
/-! ### a table looked at, cell by cell -/
abbrev rowOf (rows : List (List Int)) (x : Nat) : List Int := rows.getD x []
def codes (m : Nat) (r s : List Int) : List Nat := List.zipWith (fun u v => u.toNat * m + v.toNat) r s
def goodB (rows : List (List Int)) (m : Nat) : Bool :=
  (List.range rows.length).all fun x => decide ((rowOf rows x).length = rows.length) && ((List.range m).all fun j => (rowOf rows x).contains (j : Int)) && (List.range rows.length).all fun y =>
    decide (0 ≤ at2 rows x y) && decide (at2 rows x y < m) && decide (at2 rows x y = at2 rows y x) && (decide (at2 rows x y = 0) == decide (x = y)) &&
      (List.range (m * m)).all fun c => (codes m (rowOf rows x) (rowOf rows y)).count c == (codes m (rowOf rows 0) (rowOf rows ((rowOf rows 0).findIdx fun v => v == at2 rows x y))).count c
theorem codes_count {m : Nat} {a b : Int} (ha : 0 ≤ a) (ha' : a < m) (hb : 0 ≤ b) (hb' : b < m) : ∀ (r s : List Int), r.length = s.length → (∀ v ∈ r, 0 ≤ v ∧ v < m) → (∀ v ∈ s, 0 ≤ v ∧ v < m) →
    (List.range r.length).countP (fun z => decide (r.getD z 0 = a) && decide (s.getD z 0 = b)) = (codes m r s).count (a.toNat * m + b.toNat)
  | [], [], _, _, _ => rfl
  | [], _ :: _, h, _, _ => by cases h
  | _ :: _, [], h, _, _ => by cases h
  | u :: r, v :: s, hl, hr, hs => by
    have ih := codes_count ha ha' hb hb' r s (Nat.succ.inj hl) (fun w hw => hr w (List.mem_cons_of_mem _ hw)) fun w hw => hs w (List.mem_cons_of_mem _ hw)
    obtain ⟨u1, u2⟩ := hr u List.mem_cons_self
    obtain ⟨v1, v2⟩ := hs v List.mem_cons_self
    rw [List.length_cons, List.range_succ_eq_map, List.countP_cons, List.countP_map]
    show List.countP (fun z => decide (r.getD z 0 = a) && decide (s.getD z 0 = b)) (List.range r.length) + (if (decide (u = a) && decide (v = b)) = true then 1 else 0) = List.count _ ((u.toNat * m + v.toNat) :: codes m r s)
    rw [ih, List.count_cons]
    congr 1
    have e : (u.toNat * m + v.toNat == a.toNat * m + b.toNat) = (decide (u = a) && decide (v = b)) := by
      by_cases h : u = a ∧ v = b
      · rw [h.1, h.2]; simp
      · have n1 : (decide (u = a) && decide (v = b)) = false := by
          rw [Bool.and_eq_false_iff, decide_eq_false_iff_not, decide_eq_false_iff_not]
          by_cases q : u = a
          · exact .inr fun z => h ⟨q, z⟩
          · exact .inl q
        rw [n1]
        refine beq_eq_false_iff_ne.mpr fun z => h ?_
        have z' : (u.toNat : Int) * (m : Int) + (v.toNat : Int) = (a.toNat : Int) * (m : Int) + (b.toNat : Int) := by exact_mod_cast z
        have eu : (u.toNat : Int) = u := by omega
        have ev : (v.toNat : Int) = v := by omega
        have ea : (a.toNat : Int) = a := by omega
        have eb : (b.toNat : Int) = b := by omega
        rw [eu, ev, ea, eb] at z'
        exact two_parts v1 v2 hb hb' z'
    rw [e]
theorem goodB_ok {rows : List (List Int)} {m : Nat} (h : goodB rows m = true) : (∀ x, x < rows.length → (rowOf rows x).length = rows.length) ∧ Good rows.length m (at2 rows) := by
  have hx := fun x (q : x < rows.length) => Bool.and_eq_true_iff.mp (List.all_eq_true.mp h x (List.mem_range.mpr q))
  have h1 := fun x (q : x < rows.length) => Bool.and_eq_true_iff.mp (hx x q).1
  have hlen : ∀ x, x < rows.length → (rowOf rows x).length = rows.length := fun x q => of_decide_eq_true (h1 x q).1
  have hxy := fun x (q : x < rows.length) y (q' : y < rows.length) => List.all_eq_true.mp (hx x q).2 y (List.mem_range.mpr q')
  have hc : ∀ x y, x < rows.length → y < rows.length → 0 ≤ at2 rows x y ∧ at2 rows x y < m ∧ at2 rows x y = at2 rows y x ∧ (at2 rows x y = 0 ↔ x = y) ∧
      ∀ c, c < m * m → (codes m (rowOf rows x) (rowOf rows y)).count c = (codes m (rowOf rows 0) (rowOf rows ((rowOf rows 0).findIdx fun v => v == at2 rows x y))).count c := fun x y q q' => by
    obtain ⟨z1, z5⟩ := Bool.and_eq_true_iff.mp (hxy x q y q')
    obtain ⟨z1, z4⟩ := Bool.and_eq_true_iff.mp z1
    obtain ⟨z1, z3⟩ := Bool.and_eq_true_iff.mp z1
    obtain ⟨z1, z2⟩ := Bool.and_eq_true_iff.mp z1
    refine ⟨of_decide_eq_true z1, of_decide_eq_true z2, of_decide_eq_true z3, ?_, fun c hc => ?_⟩
    · have e := eq_of_beq z4
      exact ⟨fun k => of_decide_eq_true (e ▸ decide_eq_true k), fun k => of_decide_eq_true (e.symm ▸ decide_eq_true k)⟩
    · exact eq_of_beq (List.all_eq_true.mp z5 c (List.mem_range.mpr hc))
  have ent : ∀ x, x < rows.length → ∀ v ∈ rowOf rows x, 0 ≤ v ∧ v < m := fun x q v hv => by
    obtain ⟨y, hy, e⟩ := List.mem_iff_getElem.mp hv
    have hy' : y < rows.length := by rw [← hlen x q]; exact hy
    have z := hc x y q hy'
    have e2 : at2 rows x y = v := by
      unfold at2
      rw [List.getD_eq_getElem?_getD, List.getElem?_eq_getElem hy]
      exact e
    rw [e2] at z
    exact ⟨z.1, z.2.1⟩
  have ec : ∀ x y, x < rows.length → y < rows.length → ∀ a b : Int, 0 ≤ a → a < m → 0 ≤ b → b < m → cnt (at2 rows) rows.length x y a b = (codes m (rowOf rows x) (rowOf rows y)).count (a.toNat * m + b.toNat) := fun x y q q' a b h1 h2 h3 h4 => by
    have e := codes_count h1 h2 h3 h4 (rowOf rows x) (rowOf rows y) (by rw [hlen x q, hlen y q']) (ent x q) (ent y q')
    rw [hlen x q] at e
    exact e
  have e0 : ∀ x y, x < rows.length → y < rows.length → ∀ a b : Int, ¬ ((0 ≤ a ∧ a < m) ∧ 0 ≤ b ∧ b < m) → cnt (at2 rows) rows.length x y a b = 0 := fun x y q q' a b n => by
    unfold cnt
    refine List.countP_eq_zero.mpr fun z hz k => n ?_
    have hz := List.mem_range.mp hz
    obtain ⟨k1, k2⟩ := Bool.and_eq_true_iff.mp k
    have k1 := of_decide_eq_true k1
    have k2 := of_decide_eq_true k2
    have w1 := hc x z q hz
    have w2 := hc y z q' hz
    rw [k1] at w1
    rw [k2] at w2
    exact ⟨⟨w1.1, w1.2.1⟩, w2.1, w2.2.1⟩
  refine ⟨hlen, fun x y q q' => ⟨(hc x y q q').1, (hc x y q q').2.1⟩, fun x y q q' => (hc x y q q').2.2.1, fun x y q q' => (hc x y q q').2.2.2.1, fun x q j j0 j1 => ?_, fun x y u v q1 q2 q3 q4 e a b => ?_⟩
  · have w := List.all_eq_true.mp (h1 x q).2 j.toNat (List.mem_range.mpr (by omega))
    have ej : ((j.toNat : Nat) : Int) = j := by omega
    rw [ej] at w
    obtain ⟨y, hy, ey⟩ := List.mem_iff_getElem.mp (List.contains_iff_mem.mp w)
    refine ⟨y, by rw [← hlen x q]; exact hy, ?_⟩
    unfold at2
    rw [List.getD_eq_getElem?_getD, List.getElem?_eq_getElem hy]
    exact ey
  · by_cases n : (0 ≤ a ∧ a < m) ∧ 0 ≤ b ∧ b < m
    · obtain ⟨⟨a0, a1⟩, b0, b1⟩ := n
      have hlt : a.toNat * m + b.toNat < m * m := by
        have z := Nat.mul_le_mul_right m (show a.toNat + 1 ≤ m by omega)
        rw [Nat.succ_mul] at z
        omega
      rw [ec x y q1 q2 a b a0 a1 b0 b1, ec u v q3 q4 a b a0 a1 b0 b1, (hc x y q1 q2).2.2.2.2 _ hlt, (hc u v q3 q4).2.2.2.2 _ hlt, e]
    · rw [e0 x y q1 q2 a b n, e0 u v q3 q4 a b n]
def rowsB (t : Tr) (lit : List (List Int)) : Bool := (List.range lit.length).all fun x => (List.range lit.length).all fun y => decide (kin t x y = at2 lit x y)
theorem good_lit {t : Tr} {N : Nat} {mm : Int} {lit : List (List Int)} {m : Nat} (h1 : rowsB t lit = true) (h2 : goodB lit m = true) (hN : lit.length = N) (hm : (m : Int) = mm := by rfl) : Good N mm (fun x y => kin t x y) := by
  have g := (goodB_ok h2).2
  rw [hN, hm] at g
  refine g.congr fun x y hx hy => ?_
  rw [← hN] at hx hy
  exact of_decide_eq_true (List.all_eq_true.mp (List.all_eq_true.mp h1 x (List.mem_range.mpr hx)) y (List.mem_range.mpr hy))

def w12 : List (List Int) := [[0, 1], [1, 0]]
theorem w12_good : Good 2 2 (fun x y => kin (.words 1 2) x y) := good_lit (lit := w12) (m := 2) (by decide +kernel) (by decide +kernel) rfl
def w13 : List (List Int) := [[0, 1, 1], [1, 0, 1], [1, 1, 0]]
theorem w13_good : Good 3 2 (fun x y => kin (.words 1 3) x y) := good_lit (lit := w13) (m := 2) (by decide +kernel) (by decide +kernel) rfl
def w22 : List (List Int) := [[0, 1, 1, 2], [1, 0, 2, 1], [1, 2, 0, 1], [2, 1, 1, 0]]
theorem w22_good : Good 4 3 (fun x y => kin (.words 2 2) x y) := good_lit (lit := w22) (m := 3) (by decide +kernel) (by decide +kernel) rfl
def w23 : List (List Int) := [[0, 1, 1, 1, 2, 2, 1, 2, 2], [1, 0, 1, 2, 1, 2, 2, 1, 2], [1, 1, 0, 2, 2, 1, 2, 2, 1], [1, 2, 2, 0, 1, 1, 1, 2, 2], [2, 1, 2, 1, 0, 1, 2, 1, 2], [2, 2, 1, 1, 1, 0, 2, 2, 1], [1, 2, 2, 1, 2, 2, 0, 1, 1], [2, 1, 2, 2, 1, 2, 1, 0, 1], [2, 2, 1, 2, 2, 1, 1, 1, 0]]
theorem w23_good : Good 9 3 (fun x y => kin (.words 2 3) x y) := good_lit (lit := w23) (m := 3) (by decide +kernel) (by decide +kernel) rfl
def w32 : List (List Int) := [[0, 1, 1, 2, 1, 2, 2, 3], [1, 0, 2, 1, 2, 1, 3, 2], [1, 2, 0, 1, 2, 3, 1, 2], [2, 1, 1, 0, 3, 2, 2, 1], [1, 2, 2, 3, 0, 1, 1, 2], [2, 1, 3, 2, 1, 0, 2, 1], [2, 3, 1, 2, 1, 2, 0, 1], [3, 2, 2, 1, 2, 1, 1, 0]]
theorem w32_good : Good 8 4 (fun x y => kin (.words 3 2) x y) := good_lit (lit := w32) (m := 4) (by decide +kernel) (by decide +kernel) rfl
def w42 : List (List Int) := [[0, 1, 1, 2, 1, 2, 2, 3, 1, 2, 2, 3, 2, 3, 3, 4], [1, 0, 2, 1, 2, 1, 3, 2, 2, 1, 3, 2, 3, 2, 4, 3], [1, 2, 0, 1, 2, 3, 1, 2, 2, 3, 1, 2, 3, 4, 2, 3], [2, 1, 1, 0, 3, 2, 2, 1, 3, 2, 2, 1, 4, 3, 3, 2], [1, 2, 2, 3, 0, 1, 1, 2, 2, 3, 3, 4, 1, 2, 2, 3], [2, 1, 3, 2, 1, 0, 2, 1, 3, 2, 4, 3, 2, 1, 3, 2], [2, 3, 1, 2, 1, 2, 0, 1, 3, 4, 2, 3, 2, 3, 1, 2], [3, 2, 2, 1, 2, 1, 1, 0, 4, 3, 3, 2, 3, 2, 2, 1], [1, 2, 2, 3, 2, 3, 3, 4, 0, 1, 1, 2, 1, 2, 2, 3], [2, 1, 3, 2, 3, 2, 4, 3, 1, 0, 2, 1, 2, 1, 3, 2], [2, 3, 1, 2, 3, 4, 2, 3, 1, 2, 0, 1, 2, 3, 1, 2], [3, 2, 2, 1, 4, 3, 3, 2, 2, 1, 1, 0, 3, 2, 2, 1], [2, 3, 3, 4, 1, 2, 2, 3, 1, 2, 2, 3, 0, 1, 1, 2], [3, 2, 4, 3, 2, 1, 3, 2, 2, 1, 3, 2, 1, 0, 2, 1], [3, 4, 2, 3, 2, 3, 1, 2, 2, 3, 1, 2, 1, 2, 0, 1], [4, 3, 3, 2, 3, 2, 2, 1, 3, 2, 2, 1, 2, 1, 1, 0]]
theorem w42_good : Good 16 5 (fun x y => kin (.words 4 2) x y) := good_lit (lit := w42) (m := 5) (by decide +kernel) (by decide +kernel) rfl
def s21 : List (List Int) := [[0, 1], [1, 0]]
theorem s21_good : Good 2 2 (fun x y => kin (.sets 2 1) x y) := good_lit (lit := s21) (m := 2) (by decide +kernel) (by decide +kernel) rfl
def s31 : List (List Int) := [[0, 1, 1], [1, 0, 1], [1, 1, 0]]
theorem s31_good : Good 3 2 (fun x y => kin (.sets 3 1) x y) := good_lit (lit := s31) (m := 2) (by decide +kernel) (by decide +kernel) rfl
def s41 : List (List Int) := [[0, 1, 1, 1], [1, 0, 1, 1], [1, 1, 0, 1], [1, 1, 1, 0]]
theorem s41_good : Good 4 2 (fun x y => kin (.sets 4 1) x y) := good_lit (lit := s41) (m := 2) (by decide +kernel) (by decide +kernel) rfl
def s51 : List (List Int) := [[0, 1, 1, 1, 1], [1, 0, 1, 1, 1], [1, 1, 0, 1, 1], [1, 1, 1, 0, 1], [1, 1, 1, 1, 0]]
theorem s51_good : Good 5 2 (fun x y => kin (.sets 5 1) x y) := good_lit (lit := s51) (m := 2) (by decide +kernel) (by decide +kernel) rfl
def s42 : List (List Int) := [[0, 1, 1, 1, 1, 2], [1, 0, 1, 1, 2, 1], [1, 1, 0, 2, 1, 1], [1, 1, 2, 0, 1, 1], [1, 2, 1, 1, 0, 1], [2, 1, 1, 1, 1, 0]]
theorem s42_good : Good 6 3 (fun x y => kin (.sets 4 2) x y) := good_lit (lit := s42) (m := 3) (by decide +kernel) (by decide +kernel) rfl
def s52 : List (List Int) := [[0, 1, 1, 1, 1, 1, 1, 2, 2, 2], [1, 0, 1, 1, 1, 2, 2, 1, 1, 2], [1, 1, 0, 1, 2, 1, 2, 1, 2, 1], [1, 1, 1, 0, 2, 2, 1, 2, 1, 1], [1, 1, 2, 2, 0, 1, 1, 1, 1, 2], [1, 2, 1, 2, 1, 0, 1, 1, 2, 1], [1, 2, 2, 1, 1, 1, 0, 2, 1, 1], [2, 1, 1, 2, 1, 1, 2, 0, 1, 1], [2, 1, 2, 1, 1, 2, 1, 1, 0, 1], [2, 2, 1, 1, 2, 1, 1, 1, 1, 0]]
theorem s52_good : Good 10 3 (fun x y => kin (.sets 5 2) x y) := good_lit (lit := s52) (m := 3) (by decide +kernel) (by decide +kernel) rfl
def s62 : List (List Int) := [[0, 1, 1, 1, 1, 1, 1, 1, 1, 2, 2, 2, 2, 2, 2], [1, 0, 1, 1, 1, 1, 2, 2, 2, 1, 1, 1, 2, 2, 2], [1, 1, 0, 1, 1, 2, 1, 2, 2, 1, 2, 2, 1, 1, 2], [1, 1, 1, 0, 1, 2, 2, 1, 2, 2, 1, 2, 1, 2, 1], [1, 1, 1, 1, 0, 2, 2, 2, 1, 2, 2, 1, 2, 1, 1], [1, 1, 2, 2, 2, 0, 1, 1, 1, 1, 1, 1, 2, 2, 2], [1, 2, 1, 2, 2, 1, 0, 1, 1, 1, 2, 2, 1, 1, 2], [1, 2, 2, 1, 2, 1, 1, 0, 1, 2, 1, 2, 1, 2, 1], [1, 2, 2, 2, 1, 1, 1, 1, 0, 2, 2, 1, 2, 1, 1], [2, 1, 1, 2, 2, 1, 1, 2, 2, 0, 1, 1, 1, 1, 2], [2, 1, 2, 1, 2, 1, 2, 1, 2, 1, 0, 1, 1, 2, 1], [2, 1, 2, 2, 1, 1, 2, 2, 1, 1, 1, 0, 2, 1, 1], [2, 2, 1, 1, 2, 2, 1, 1, 2, 1, 1, 2, 0, 1, 1], [2, 2, 1, 2, 1, 2, 1, 2, 1, 1, 2, 1, 1, 0, 1], [2, 2, 2, 1, 1, 2, 2, 1, 1, 2, 1, 1, 1, 1, 0]]
theorem s62_good : Good 15 3 (fun x y => kin (.sets 6 2) x y) := good_lit (lit := s62) (m := 3) (by decide +kernel) (by decide +kernel) rfl
def s63 : List (List Int) := [[0, 1, 1, 1, 1, 1, 1, 2, 2, 2, 1, 1, 1, 2, 2, 2, 2, 2, 2, 3], [1, 0, 1, 1, 1, 2, 2, 1, 1, 2, 1, 2, 2, 1, 1, 2, 2, 2, 3, 2], [1, 1, 0, 1, 2, 1, 2, 1, 2, 1, 2, 1, 2, 1, 2, 1, 2, 3, 2, 2], [1, 1, 1, 0, 2, 2, 1, 2, 1, 1, 2, 2, 1, 2, 1, 1, 3, 2, 2, 2], [1, 1, 2, 2, 0, 1, 1, 1, 1, 2, 1, 2, 2, 2, 2, 3, 1, 1, 2, 2], [1, 2, 1, 2, 1, 0, 1, 1, 2, 1, 2, 1, 2, 2, 3, 2, 1, 2, 1, 2], [1, 2, 2, 1, 1, 1, 0, 2, 1, 1, 2, 2, 1, 3, 2, 2, 2, 1, 1, 2], [2, 1, 1, 2, 1, 1, 2, 0, 1, 1, 2, 2, 3, 1, 2, 2, 1, 2, 2, 1], [2, 1, 2, 1, 1, 2, 1, 1, 0, 1, 2, 3, 2, 2, 1, 2, 2, 1, 2, 1], [2, 2, 1, 1, 2, 1, 1, 1, 1, 0, 3, 2, 2, 2, 2, 1, 2, 2, 1, 1], [1, 1, 2, 2, 1, 2, 2, 2, 2, 3, 0, 1, 1, 1, 1, 2, 1, 1, 2, 2], [1, 2, 1, 2, 2, 1, 2, 2, 3, 2, 1, 0, 1, 1, 2, 1, 1, 2, 1, 2], [1, 2, 2, 1, 2, 2, 1, 3, 2, 2, 1, 1, 0, 2, 1, 1, 2, 1, 1, 2], [2, 1, 1, 2, 2, 2, 3, 1, 2, 2, 1, 1, 2, 0, 1, 1, 1, 2, 2, 1], [2, 1, 2, 1, 2, 3, 2, 2, 1, 2, 1, 2, 1, 1, 0, 1, 2, 1, 2, 1], [2, 2, 1, 1, 3, 2, 2, 2, 2, 1, 2, 1, 1, 1, 1, 0, 2, 2, 1, 1], [2, 2, 2, 3, 1, 1, 2, 1, 2, 2, 1, 1, 2, 1, 2, 2, 0, 1, 1, 1], [2, 2, 3, 2, 1, 2, 1, 2, 1, 2, 1, 2, 1, 2, 1, 2, 1, 0, 1, 1], [2, 3, 2, 2, 2, 1, 1, 2, 2, 1, 2, 1, 1, 2, 2, 1, 1, 1, 0, 1], [3, 2, 2, 2, 2, 2, 2, 1, 1, 1, 2, 2, 2, 1, 1, 1, 1, 1, 1, 0]]
theorem s63_good : Good 20 4 (fun x y => kin (.sets 6 3) x y) := good_lit (lit := s63) (m := 4) (by decide +kernel) (by decide +kernel) rfl
end K8
set_option Elab.async false
set_option linter.all false
set_option maxRecDepth 100000
set_option maxHeartbeats 4000000
namespace K8
/-! ### listed tables -/
structure GoodR (rows : List (List Int)) (m : Int) : Prop where
  one : 1 ≤ rows.length
  few : rows.length ≤ 24
  m8 : m ≤ 8
  sq : ∀ x, x < rows.length → (rowOf rows x).length = rows.length
  good : Good rows.length m (at2 rows)
theorem GoodR.mpos {rows : List (List Int)} {m : Int} (h : GoodR rows m) : 1 ≤ m := by
  have z := h.good.rng 0 0 (by have := h.one; omega) (by have := h.one; omega)
  omega
/-- the table of n points by a function -/
def tabF (n : Nat) (f : Nat → Nat → Int) : List (List Int) := (List.range n).map fun x => (List.range n).map fun y => f x y
theorem tabF_len (n : Nat) (f : Nat → Nat → Int) : (tabF n f).length = n := by unfold tabF; rw [List.length_map, List.length_range]
theorem tabF_row {n : Nat} {f : Nat → Nat → Int} {x : Nat} (h : x < n) : (tabF n f)[x]? = some ((List.range n).map fun y => f x y) := by
  unfold tabF
  rw [List.getElem?_map, List.getElem?_range h]
  rfl
theorem tabF_rowOf {n : Nat} {f : Nat → Nat → Int} {x : Nat} (h : x < n) : rowOf (tabF n f) x = (List.range n).map fun y => f x y := by
  unfold rowOf
  rw [List.getD_eq_getElem?_getD, tabF_row h]
  rfl
theorem tabF_at {n : Nat} {f : Nat → Nat → Int} {x y : Nat} (h : x < n) (h' : y < n) : at2 (tabF n f) x y = f x y := by
  show (rowOf (tabF n f) x).getD y 0 = f x y
  rw [tabF_rowOf h, List.getD_eq_getElem?_getD, List.getElem?_map, List.getElem?_range h']
  rfl
theorem tabF_good {n : Nat} {m : Int} {f : Nat → Nat → Int} (h1 : 1 ≤ n) (h2 : n ≤ 24) (h3 : m ≤ 8) (g : Good n m f) : GoodR (tabF n f) m := by
  refine ⟨by rw [tabF_len]; exact h1, by rw [tabF_len]; exact h2, h3, fun x hx => ?_, ?_⟩
  · rw [tabF_len] at hx ⊢
    rw [tabF_rowOf hx, List.length_map, List.length_range]
  · rw [tabF_len]
    exact g.congr fun x y hx hy => tabF_at hx hy
/-! ### the eight tables -/
def b2 (r c : Int) : Int := if r = c then 0 else 1 + (if r / 2 = c / 2 then 1 else 0)
def b3 (r c : Int) : Int := ([0, 1, 2, 3, 2, 1] : List Int).getD ((r - c) % 6).toNat 0
def b4 (r c : Int) : Int := ([0, 1, 2, 2, 1] : List Int).getD ((r - c) % 5).toNat 0
def b5 (r c : Int) : Int := (if r / 3 ≠ c / 3 then 1 else 0) + (if r % 3 ≠ c % 3 then 1 else 0)
def b7 (r c : Int) : Int := if r = c then 0 else 1 + (if (r + c) % 2 = 0 then 1 else 0)
def b1 (r c : Int) : Int := if r ≠ c then 1 else 0
def pairs52 : List (List Int) := [[0, 1], [0, 2], [0, 3], [0, 4], [1, 2], [1, 3], [1, 4], [2, 3], [2, 4], [3, 4]]
def b6 (r c : Nat) : Int := 2 - ((inn (pairs52.getD r []) (pairs52.getD c [])).length : Nat)
/-- the w-th table: its size, its kinds, its cells -/
def baseN : Nat → Nat
  | 0 => 1 | 1 => 4 | 2 => 6 | 3 => 6 | 4 => 5 | 5 => 9 | 6 => 10 | _ => 4
def baseM : Nat → Nat
  | 0 => 1 | 1 => 2 | 2 => 3 | 3 => 4 | 4 => 3 | 5 => 3 | 6 => 3 | _ => 3
def baseF : Nat → Nat → Nat → Int
  | 0, _, _ => 0 | 1, r, c => b1 r c | 2, r, c => b2 r c | 3, r, c => b3 r c | 4, r, c => b4 r c | 5, r, c => b5 r c | 6, r, c => b6 r c | _, r, c => b7 r c
def base (w : Nat) : List (List Int) := tabF (baseN w) (baseF w)
theorem base_goodB : (List.range 8).all (fun w => goodB (base w) (baseM w)) = true := by decide +kernel
theorem base_good {w : Nat} (h : w < 8) : Good (baseN w) (baseM w) (at2 (base w)) := by
  have z := (goodB_ok (List.all_eq_true.mp base_goodB w (List.mem_range.mpr h))).2
  have e : (base w).length = baseN w := tabF_len _ _
  rw [e] at z
  exact z
theorem baseN_le : ∀ w, 1 ≤ baseN w ∧ baseN w ≤ 10
  | 0 => by decide | 1 => by decide | 2 => by decide | 3 => by decide | 4 => by decide | 5 => by decide | 6 => by decide | n + 7 => by show 1 ≤ 4 ∧ 4 ≤ 10; decide
theorem baseM_le : ∀ w, 1 ≤ baseM w ∧ baseM w ≤ 4
  | 0 => by decide | 1 => by decide | 2 => by decide | 3 => by decide | 4 => by decide | 5 => by decide | 6 => by decide | n + 7 => by show 1 ≤ 3 ∧ 3 ≤ 4; decide
/-- the w-th table with its points renamed -/
def renamed (w : Nat) (ns : List Nat) : List (List Int) := ns.map fun r => ns.map fun c => at2 (base w) r c
theorem renamed_len (w : Nat) (ns : List Nat) : (renamed w ns).length = ns.length := List.length_map _
theorem renamed_row {w : Nat} {ns : List Nat} {x : Nat} (h : x < ns.length) : rowOf (renamed w ns) x = ns.map fun c => at2 (base w) (ns.getD x 0) c := by
  unfold rowOf renamed
  rw [List.getD_eq_getElem?_getD, List.getElem?_map, List.getElem?_eq_getElem h, List.getD_eq_getElem?_getD, List.getElem?_eq_getElem h]
  rfl
theorem renamed_at {w : Nat} {ns : List Nat} {x y : Nat} (h : x < ns.length) (h' : y < ns.length) : at2 (renamed w ns) x y = at2 (base w) (ns.getD x 0) (ns.getD y 0) := by
  show (rowOf (renamed w ns) x).getD y 0 = _
  rw [renamed_row h, List.getD_eq_getElem?_getD, List.getElem?_map, List.getElem?_eq_getElem h', List.getD_eq_getElem?_getD (l := ns) (i := y), List.getElem?_eq_getElem h']
  rfl
theorem renamed_good {w : Nat} {ns : List Nat} (h : w < 8) (p : ns.Perm (List.range (baseN w))) : GoodR (renamed w ns) (baseM w) := by
  have hl : ns.length = baseN w := by rw [p.length_eq, List.length_range]
  obtain ⟨n1, n2⟩ := baseN_le w
  obtain ⟨m1, m2⟩ := baseM_le w
  refine ⟨by rw [renamed_len]; omega, by rw [renamed_len]; omega, by omega, fun x hx => ?_, ?_⟩
  · rw [renamed_len] at hx ⊢
    rw [renamed_row hx, List.length_map]
  · rw [renamed_len, hl]
    exact (good_perm (base_good h) p).congr fun x y hx hy => renamed_at (by omega) (by omega)
/-! ### trees that are schemes -/
def TrOk : Tr → Prop
  | .words n q => 1 ≤ n ∧ n ≤ 40 ∧ 2 ≤ q ∧ q ≤ 1000 ∧ 1 ≤ pw q n.toNat ∧ pw q n.toNat ≤ 1000000
  | .sets n k => 1 ≤ k ∧ 2 * k ≤ n ∧ n ≤ 80 ∧ 1 ≤ ch n k ∧ ch n k ≤ 1000000 ∧ setsB n k = true
  | .listed rows m => GoodR rows m
  | .prod s t => TrOk s ∧ TrOk t ∧ prt s + prt t < 8 ∧ pts s * pts t ≤ 1000000 ∧ knd s * knd t ≤ 60
theorem TrOk.nums : ∀ {t : Tr}, TrOk t → (1 ≤ pts t ∧ pts t ≤ 1000000) ∧ (1 ≤ knd t ∧ knd t ≤ 60) ∧ 1 ≤ prt t ∧ prt t ≤ 8
  | .words n q, h => by
    obtain ⟨h1, h2, h3, h4, h5, h6⟩ := h
    exact ⟨⟨h5, h6⟩, ⟨by show 1 ≤ n + 1; omega, by show n + 1 ≤ 60; omega⟩, by show (1 : Int) ≤ 1; decide, by show (1 : Int) ≤ 8; decide⟩
  | .sets n k, h => by
    obtain ⟨h1, h2, h3, h4, h5, h6⟩ := h
    exact ⟨⟨h4, h5⟩, ⟨by show 1 ≤ k + 1; omega, by show k + 1 ≤ 60; omega⟩, by show (1 : Int) ≤ 1; decide, by show (1 : Int) ≤ 8; decide⟩
  | .listed rows m, h => by
    have h : GoodR rows m := h
    have z1 := h.one
    have z2 := h.few
    have z3 := h.m8
    have z4 := h.mpos
    exact ⟨⟨by show (1 : Int) ≤ (rows.length : Int); omega, by show (rows.length : Int) ≤ 1000000; omega⟩, ⟨z4, by show m ≤ 60; omega⟩, by show (1 : Int) ≤ 1; decide, by show (1 : Int) ≤ 8; decide⟩
  | .prod s t, h => by
    obtain ⟨h1, h2, h3, h4, h5⟩ := h
    obtain ⟨⟨a1, _⟩, ⟨a2, _⟩, a3, _⟩ := TrOk.nums h1
    obtain ⟨⟨b1, _⟩, ⟨b2, _⟩, b3, _⟩ := TrOk.nums h2
    have p1 := Int.mul_pos (show 0 < pts s by omega) (show 0 < pts t by omega)
    have p2 := Int.mul_pos (show 0 < knd s by omega) (show 0 < knd t by omega)
    exact ⟨⟨p1, h4⟩, ⟨p2, h5⟩, by show 1 ≤ prt s + prt t + 1; omega, by show prt s + prt t + 1 ≤ 8; omega⟩
/-- the whole table -/
def tab (t : Tr) : List (List Int) := tabF (pts t).toNat fun x y => kin t x y
/-- a scheme by counting, where it is looked at -/
def GoodT (t : Tr) : Prop := pts t < 25 → Good (pts t).toNat (knd t) (fun x y => kin t x y)
theorem tab_good {t : Tr} (h : TrOk t) (g : GoodT t) (hn : pts t < 25) (hm : knd t < 9) : GoodR (tab t) (knd t) := by
  obtain ⟨⟨a, _⟩, _⟩ := h.nums
  exact tabF_good (by omega) (by omega) (by omega) (g hn)
/-- a first part -/
structure Leaf (t : Tr) : Prop where
  ok : TrOk t
  h : hgt t = 1
  p : prt t = 1
  n : pts t ≤ 30
  k : knd t ≤ 20
  g : GoodT t
/-- what the law asks of its tree -/
structure Small (t : Tr) : Prop where
  ok : TrOk t
  h : hgt t ≤ 2
  n : pts t ≤ 30
  g : GoodT t
theorem Leaf.small {t : Tr} (l : Leaf t) : Small t := ⟨l.ok, by rw [l.h]; decide, l.n, l.g⟩
theorem good_of {t : Tr} {N : Nat} {m : Int} (g : Good N m (fun x y => kin t x y)) (hN : (N : Int) = pts t := by decide) (hm : m = knd t := by decide) : GoodT t := fun _ => by
  have e : (pts t).toNat = N := by omega
  rw [e, ← hm]
  exact g
theorem words_ok {n q : Int} (h1 : 1 ≤ n := by decide) (h2 : n ≤ 40 := by decide) (h3 : 2 ≤ q := by decide) (h4 : q ≤ 1000 := by decide) (h5 : 1 ≤ pw q n.toNat := by decide) (h6 : pw q n.toNat ≤ 1000000 := by decide) : TrOk (.words n q) := ⟨h1, h2, h3, h4, h5, h6⟩
theorem leaf_words {n q : Int} (h1 : 1 ≤ n) (h2 : n ≤ 3) (h3 : 2 ≤ q) (h4 : q ≤ 3) : Leaf (.words n q) := by
  have hn : n = 1 ∨ n = 2 ∨ n = 3 := by omega
  have hq : q = 2 ∨ q = 3 := by omega
  rcases hn with rfl | rfl | rfl <;> rcases hq with rfl | rfl
  · exact ⟨words_ok, rfl, rfl, by decide, by decide, good_of w12_good⟩
  · exact ⟨words_ok, rfl, rfl, by decide, by decide, good_of w13_good⟩
  · exact ⟨words_ok, rfl, rfl, by decide, by decide, good_of w22_good⟩
  · exact ⟨words_ok, rfl, rfl, by decide, by decide, good_of w23_good⟩
  · exact ⟨words_ok, rfl, rfl, by decide, by decide, good_of w32_good⟩
  · exact ⟨words_ok, rfl, rfl, by decide, by decide, fun h => absurd h (by decide)⟩
theorem leaf_w42 : Leaf (.words 4 2) := ⟨words_ok, rfl, rfl, by decide, by decide, good_of w42_good⟩
theorem setsB_all : (setsB 2 1 && setsB 3 1 && setsB 4 1 && setsB 5 1 && setsB 4 2 && setsB 5 2 && setsB 6 2 && setsB 6 3 && setsB 15 2) = true := by decide +kernel
theorem sets_ok {n k : Int} (h : setsB n k = true) (h1 : 1 ≤ k := by decide) (h2 : 2 * k ≤ n := by decide) (h3 : n ≤ 80 := by decide) (h4 : 1 ≤ ch n k := by decide) (h5 : ch n k ≤ 1000000 := by decide) : TrOk (.sets n k) := ⟨h1, h2, h3, h4, h5, h⟩
theorem leaf_sets1 {n : Int} (h1 : 2 ≤ n) (h2 : n ≤ 5) : Leaf (.sets n 1) := by
  have a := setsB_all
  simp only [Bool.and_eq_true] at a
  obtain ⟨⟨⟨⟨⟨⟨⟨⟨a1, a2⟩, a3⟩, a4⟩, a5⟩, a6⟩, a7⟩, a8⟩, a9⟩ := a
  have hn : n = 2 ∨ n = 3 ∨ n = 4 ∨ n = 5 := by omega
  rcases hn with rfl | rfl | rfl | rfl
  · exact ⟨sets_ok a1, rfl, rfl, by decide, by decide, good_of s21_good⟩
  · exact ⟨sets_ok a2, rfl, rfl, by decide, by decide, good_of s31_good⟩
  · exact ⟨sets_ok a3, rfl, rfl, by decide, by decide, good_of s41_good⟩
  · exact ⟨sets_ok a4, rfl, rfl, by decide, by decide, good_of s51_good⟩
theorem leaf_sets2 {n : Int} (h1 : 4 ≤ n) (h2 : n ≤ 6) : Leaf (.sets n 2) := by
  have a := setsB_all
  simp only [Bool.and_eq_true] at a
  obtain ⟨⟨⟨⟨⟨⟨⟨⟨a1, a2⟩, a3⟩, a4⟩, a5⟩, a6⟩, a7⟩, a8⟩, a9⟩ := a
  have hn : n = 4 ∨ n = 5 ∨ n = 6 := by omega
  rcases hn with rfl | rfl | rfl
  · exact ⟨sets_ok a5, rfl, rfl, by decide, by decide, good_of s42_good⟩
  · exact ⟨sets_ok a6, rfl, rfl, by decide, by decide, good_of s52_good⟩
  · exact ⟨sets_ok a7, rfl, rfl, by decide, by decide, good_of s62_good⟩
theorem leaf_s63 : Leaf (.sets 6 3) := by
  have a := setsB_all
  simp only [Bool.and_eq_true] at a
  exact ⟨sets_ok a.1.2, rfl, rfl, by decide, by decide, good_of s63_good⟩
theorem leaf_listed {rows : List (List Int)} {m : Int} (h : GoodR rows m) (hn : rows.length ≤ 10) : Leaf (.listed rows m) := by
  refine ⟨h, rfl, rfl, by show (rows.length : Int) ≤ 30; omega, by show m ≤ 20; have := h.m8; omega, fun _ => ?_⟩
  have e : (pts (.listed rows m)).toNat = rows.length := by show ((rows.length : Int)).toNat = _; omega
  rw [e]
  exact h.good.congr fun x y hx hy => by
    show at2 rows ((x : Int)).toNat ((y : Int)).toNat = at2 rows x y
    rw [Int.toNat_natCast, Int.toNat_natCast]
def k2rows : List (List Int) := [[0, 1], [1, 0]]
theorem k2_good : GoodR k2rows 2 := by
  have g := goodB_ok (rows := k2rows) (m := 2) (by decide +kernel)
  exact ⟨by decide, by decide, by decide, g.1, g.2⟩
/-- a second part -/
inductive Fac : Tr → Prop
  | a : Fac (.words 1 2)
  | b : Fac (.words 1 3)
  | c : Fac (.listed k2rows 2)
theorem Fac.leaf {t : Tr} (h : Fac t) : Leaf t ∧ knd t = 2 ∧ 2 ≤ pts t := by
  cases h with
  | a => exact ⟨leaf_words (by decide) (by decide) (by decide) (by decide), rfl, by decide⟩
  | b => exact ⟨leaf_words (by decide) (by decide) (by decide) (by decide), rfl, by decide⟩
  | c => exact ⟨leaf_listed k2_good (by decide), rfl, by decide⟩
theorem grown_small {t u : Tr} (l : Leaf t) (f : Fac u) (hn : pts t * pts u < 31) : Small (.prod t u) := by
  obtain ⟨v, ku, nu⟩ := f.leaf
  obtain ⟨⟨a1, a2⟩, ⟨a3, a4⟩, a5, a6⟩ := l.ok.nums
  obtain ⟨⟨c1, c2⟩, ⟨c3, c4⟩, c5, c6⟩ := v.ok.nums
  have kt := l.k
  refine ⟨⟨l.ok, v.ok, by rw [l.p, v.p]; decide, by omega, by rw [ku]; omega⟩, by show max (hgt t) (hgt u) + 1 ≤ 2; rw [l.h, v.h]; decide, by show pts t * pts u ≤ 30; omega, fun h => ?_⟩
  have h : pts t * pts u < 25 := h
  have q1 : pts t < 25 := by
    have z := Int.mul_le_mul_of_nonneg_left (show 1 ≤ pts u by omega) (show 0 ≤ pts t by omega)
    omega
  have q2 : pts u < 25 := by
    have z := Int.mul_le_mul_of_nonneg_right (show 1 ≤ pts t by omega) (show 0 ≤ pts u by omega)
    omega
  have eu : (((pts u).toNat : Nat) : Int) = pts u := by omega
  have et : (((pts t).toNat : Nat) : Int) = pts t := by omega
  have e : (pts (.prod t u)).toNat = (pts t).toNat * (pts u).toNat := by
    show (pts t * pts u).toNat = _
    rw [Int.toNat_mul (by omega) (by omega)]
  rw [e]
  refine (good_prod (l.g q1) (v.g q2) (by omega)).congr fun x y hx hy => ?_
  show kin t ((x : Int) / pts u) ((y : Int) / pts u) * knd u + kin u ((x : Int) % pts u) ((y : Int) % pts u) = _
  rw [← eu, ← Int.natCast_ediv, ← Int.natCast_ediv, ← Int.natCast_emod, ← Int.natCast_emod]
  rfl
/-- trees with more than 100 points -/
inductive Big : Tr → Prop
  | a : Big (.words 7 2)
  | b : Big (.sets 15 2)
  | c : Big (.words 1 101)
  | d : Big (.prod (.words 3 3) (.sets 4 2))
theorem Big.is {t : Tr} (h : Big t) : TrOk t ∧ hgt t ≤ 2 ∧ 100 < pts t := by
  have a := setsB_all
  simp only [Bool.and_eq_true] at a
  obtain ⟨⟨⟨⟨⟨⟨⟨⟨a1, a2⟩, a3⟩, a4⟩, a5⟩, a6⟩, a7⟩, a8⟩, a9⟩ := a
  cases h with
  | a => exact ⟨words_ok, by decide, by decide⟩
  | b => exact ⟨sets_ok a9, by decide, by decide⟩
  | c => exact ⟨words_ok, by decide, by decide⟩
  | d => exact ⟨⟨words_ok, sets_ok a5, by decide, by decide, by decide⟩, by decide, by decide⟩
end K8
set_option Elab.async false
set_option linter.all false
set_option maxRecDepth 100000
set_option maxHeartbeats 4000000
/-! What the top has left, told once; a def as callers use it; data in the abstract heap. -/
namespace K8
open PySem PySem.Spec PyProof.Rows L2
open C8 (Cal pe_c)
/-- all that the defs lean on -/
structure T8 (w : World) (K : PySem.W.Frag) (mg : Str → Option Value) : Prop where
  d : He.SaysD faL fnL K
  inh : ∃ h : Heap, K.In h ∧ h.Ns mainGlobals mg
  kd : ∃ es n, KDict K w (He.ga K "MEMBERS") es n
  ex : exB K = true
section
variable {w : World} {K : PySem.W.Frag} {mg : Str → Option Value}
theorem T8.fac (T : T8 w K mg) {f : He.Fa} (h : f ∈ faL) : f.ok K = true := T.d.facts h
theorem T8.glo (T : T8 w K mg) (x : Str) (h : He.Fa.glo x ∈ faL) : mg x = some (.ref (He.ga K x)) := by
  obtain ⟨h', X, G⟩ := T.inh
  exact He.glo_ok X G (T.fac h)
theorem T8.free (T : T8 w K mg) (x : Str) (h : He.Fa.free x ∈ faL) : mg x = none := by
  obtain ⟨h', X, G⟩ := T.inh
  exact He.free_ok X G (T.fac h)
theorem T8.int (T : T8 w K mg) (x : Str) (i : Int) (h : He.Fa.int x i ∈ faL) : ∃ u, mg x = some u ∧ RelV (.int i) u := by
  obtain ⟨h', X, G⟩ := T.inh
  obtain ⟨t, e⟩ := He.int_ok X G (T.fac h)
  exact ⟨_, e, t, rfl⟩
/-- the built-in names that nobody stores -/
theorem T8.len (T : T8 w K mg) : mg "len" = none := T.free "len" (by simp [faL, faL0, faL1])
theorem T8.all (T : T8 w K mg) : mg "all" = none := T.free "all" (by simp [faL, faL0, faL1])
theorem T8.tuple (T : T8 w K mg) : mg "tuple" = none := T.free "tuple" (by simp [faL, faL0, faL1])
theorem T8.sorted (T : T8 w K mg) : mg "sorted" = none := T.free "sorted" (by simp [faL, faL0, faL1])
theorem T8.list (T : T8 w K mg) : mg "list" = none := T.free "list" (by simp [faL, faL0, faL1])
theorem T8.range (T : T8 w K mg) : mg "range" = none := T.free "range" (by simp [faL, faL0, faL1])
theorem T8.zip (T : T8 w K mg) : mg "zip" = none := T.free "zip" (by simp [faL, faL0, faL1])
theorem T8.max (T : T8 w K mg) : mg "max" = none := T.free "max" (by simp [faL, faL0, faL1])
theorem T8.abs (T : T8 w K mg) : mg "abs" = none := T.free "abs" (by simp [faL, faL0, faL1])
theorem T8.tint (T : T8 w K mg) : mg "int" = none := T.free "int" (by simp [faL, faL0, faL1])
theorem T8.isin (T : T8 w K mg) : mg "isinstance" = none := T.free "isinstance" (by simp [faL, faL0, faL1])
theorem T8.ve (T : T8 w K mg) : mg "ValueError" = none := T.free "ValueError" (by simp [faL, faL0, faL1])
end
section
variable {P : Program} {w : World} {K : PySem.W.Frag} {mg : Str → Option Value} {base : Heap}
/-- a def without defaults, by its body -/
theorem calN {x : Str} {params : Arguments} {body : List Stmt} {scope : Scope} {f : Addr} {fd : FuncData} {N ps : List Str} {k : Nat} {sp : Sp} (F : FunD K x x params body scope [] [] f fd) (hm : mg x = some (.ref f)) (S : FnScope N ps scope)
    (hb : ∀ (kV doc pm : Value) (an : Option Addr) (cdv ct : Value) (us : List Value), us.length = ps.length → bindArgs (PySem.W.fnOf x x params body scope .none kV doc pm an cdv ct) ⟨us, []⟩ = pure (ps.zip us))
    (len : ∀ vs H Q E, sp vs H Q E → vs.length = ps.length)
    (hbody : ∀ (cdv : Value) (A : Around) (outer : List Env) (s : Shared) (H : Hp) (vs : List V) (Q : VK) (E : XK), Room k (A.deeper (envOfC x scope s.heap.objs.size f cdv)) → sp vs H Q E →
      ∃ t, PSs (cxOf CX0 P w K mg base N x scope f cdv A outer s H E).nox body t ∧ t { nx := fun _ H' => Q .non H', rt := Q } (start N vs) H) : Cal P w K mg base (k + 1) x sp [] := by
  refine ⟨f, fd, ps, [], F.ok S len fun cdv A outer s H vs Q E hr h => ?_, hm, F.kp, F.bindsN hb, .nil⟩
  obtain ⟨t, h1, h2⟩ := hbody cdv A outer s H vs Q E hr h
  exact ⟨t, h1.nox, h2⟩
/-- a promise that nobody can ask -/
theorem calNo {x : Str} {params : Arguments} {body : List Stmt} {scope : Scope} {f : Addr} {fd : FuncData} {ps : List Str} {sp : Sp} (k : Nat) (F : FunD K x x params body scope [] [] f fd) (hm : mg x = some (.ref f))
    (hb : ∀ (kV doc pm : Value) (an : Option Addr) (cdv ct : Value) (us : List Value), us.length = ps.length → bindArgs (PySem.W.fnOf x x params body scope .none kV doc pm an cdv ct) ⟨us, []⟩ = pure (ps.zip us))
    (no : ∀ vs H Q E, ¬ sp vs H Q E) : Cal P w K mg base k x sp [] :=
  ⟨f, fd, ps, [], ⟨fun vs H Q E h => absurd h (no vs H Q E), fun A outer s H args us vs Q E _ _ _ _ h => absurd h (no vs H Q E)⟩, hm, F.kp, F.bindsN hb, .nil⟩
theorem cal_up {k k' : Nat} {x : Str} {sp : Sp} {dvs : List V} (c : Cal P w K mg base k x sp dvs) (h : k ≤ k') : Cal P w K mg base k' x sp dvs := by
  obtain ⟨f, fd, ps, ds, F, h1, h2, h3, h4⟩ := c.ex
  exact ⟨f, fd, ps, ds, F.mono h, h1, h2, h3, h4⟩
end
/-! ### data in the abstract heap -/
theorem new_same {H : Hp} {p : Addr} {o : HO} (h : H p = none) : Same H (upd H p o) := fun b x e => by
  rw [upd_ne (ne_of_none e h)]
  exact e
/-- a tuple of tuples of ints -/
def IsRows (H : Hp) (a : Addr) (rows : List (List Int)) : Prop := ∃ as : List Addr, H a = some (.tup (as.map V.ref)) ∧ as.length = rows.length ∧ ∀ (i : Nat) b, as[i]? = some b → H b = some (.tup ((rowOf rows i).map V.int))
theorem IsRows.mono {H H' : Hp} {a : Addr} {rows : List (List Int)} (s : Same H H') (h : IsRows H a rows) : IsRows H' a rows := by
  obtain ⟨as, h1, h2, h3⟩ := h
  exact ⟨as, s _ _ h1, h2, fun i b e => s _ _ (h3 i b e)⟩
/-- a tree of the program -/
def IsTr (H : Hp) : Tr → Addr → Prop
  | .words n q, a => H a = some (.tup [.str "words", .int n, .int q])
  | .sets n k, a => H a = some (.tup [.str "sets", .int n, .int k])
  | .listed rows _, a => ∃ b, H a = some (.tup [.str "listed", .ref b]) ∧ IsRows H b rows
  | .prod s t, a => ∃ b c, H a = some (.tup [.str "product", .ref b, .ref c]) ∧ IsTr H s b ∧ IsTr H t c
theorem IsTr.mono {H H' : Hp} (s : Same H H') : ∀ {t : Tr} {a : Addr}, IsTr H t a → IsTr H' t a
  | .words _ _, _, h => s _ _ h
  | .sets _ _, _, h => s _ _ h
  | .listed _ _, _, ⟨b, h1, h2⟩ => ⟨b, s _ _ h1, h2.mono s⟩
  | .prod _ _, _, ⟨b, c, h1, h2, h3⟩ => ⟨b, c, s _ _ h1, IsTr.mono s h2, IsTr.mono s h3⟩
/-- the name that stands first in a tree -/
def sortOf : Tr → Str
  | .words _ _ => "words"
  | .sets _ _ => "sets"
  | .listed _ _ => "listed"
  | .prod _ _ => "product"
theorem IsTr.tup {H : Hp} : ∀ {t : Tr} {a : Addr}, IsTr H t a → ∃ xs, H a = some (.tup (.str (sortOf t) :: xs)) ∧ (xs.length : Int) = (match t with | .listed _ _ => 1 | _ => 2)
  | .words _ _, _, h => ⟨_, h, rfl⟩
  | .sets _ _, _, h => ⟨_, h, rfl⟩
  | .listed _ _, _, ⟨b, h1, h2⟩ => ⟨_, h1, rfl⟩
  | .prod _ _, _, ⟨b, c, h1, h2, h3⟩ => ⟨_, h1, rfl⟩
/-! ### tests whose answer is a proposition -/
theorem ifD {c A B : Prop} [Decidable c] (h1 : c → A) (h2 : ¬ c → B) : if decide c = true then A else B := by
  by_cases h : c
  · rw [decide_eq_true h, if_pos rfl]; exact h1 h
  · rw [decide_eq_false h, if_neg Bool.false_ne_true]; exact h2 h
theorem ifN {c A B : Prop} [Decidable c] (h1 : ¬ c → A) (h2 : c → B) : if (!decide c) = true then A else B := by
  by_cases h : c
  · rw [decide_eq_true h]; exact iteF (h2 h)
  · rw [decide_eq_false h]; exact iteT (h1 h)
theorem int_eq {i j : Int} : V.int i = V.int j ↔ i = j := ⟨fun h => V.int.inj h, fun h => by rw [h]⟩
end K8
set_option Elab.async false
set_option linter.all false
set_option maxRecDepth 100000
set_option maxHeartbeats 4000000
/-! Counts in a dict whose keys are pairs. -/
namespace K8
open PySem PySem.Spec PyProof.Rows L2
open K8R
/-- at how many of the first places r has a and s has b -/
def ctz (r s : List Int) : Nat → Int → Int → Nat
  | 0, _, _ => 0
  | i + 1, a, b => ctz r s i a b + (if r[i]? = some a ∧ s[i]? = some b then 1 else 0)
theorem ctz_cnt {f : Nat → Nat → Int} {r s : List Int} {x y : Nat} (a b : Int) : ∀ N : Nat, (∀ z, z < N → r[z]? = some (f x z)) → (∀ z, z < N → s[z]? = some (f y z)) → ctz r s N a b = cnt f N x y a b
  | 0, _, _ => rfl
  | N + 1, hr, hs => by
    have ih := ctz_cnt (f := f) (x := x) (y := y) a b N (fun z hz => hr z (by omega)) (fun z hz => hs z (by omega))
    unfold cnt at ih ⊢
    unfold ctz
    rw [List.range_succ, List.countP_append, ← ih, hr N (by omega), hs N (by omega)]
    congr 1
    rw [List.countP_cons, List.countP_nil, Nat.zero_add]
    by_cases h : f x N = a ∧ f y N = b
    · rw [if_pos ⟨by rw [h.1], by rw [h.2]⟩, if_pos (by rw [decide_eq_true h.1, decide_eq_true h.2]; rfl)]
    · rw [if_neg fun z => h ⟨Option.some.inj z.1, Option.some.inj z.2⟩, if_neg fun z => h ⟨of_decide_eq_true (Bool.and_eq_true_iff.mp z).1, of_decide_eq_true (Bool.and_eq_true_iff.mp z).2⟩]
/-- the dict tells these counts -/
structure IsCnt (g : Int → Int → Nat) (kvs : List (List Key × V)) : Prop where
  nd : (kvs.map (·.1)).Nodup
  pair : ∀ p ∈ kvs, ∃ a b : Int, p.1 = [.inl a, .inl b]
  val : ∀ a b : Int, valV kvs [.inl a, .inl b] = if g a b = 0 then none else some (.int (g a b))
theorem isCnt_nil : IsCnt (fun _ _ => 0) [] := ⟨List.nodup_nil, fun p hp => (nomatch hp), fun a b => rfl⟩
theorem IsCnt.get {g : Int → Int → Nat} {kvs : List (List Key × V)} (h : IsCnt g kvs) (a b : Int) : (valV kvs [.inl a, .inl b]).getD (.int 0) = .int (g a b) := by
  rw [h.val a b]
  by_cases z : g a b = 0
  · rw [if_pos z, z]; rfl
  · rw [if_neg z]; rfl
theorem keys_putK_old {κ : Type} [DecidableEq κ] {kvs : List (κ × V)} {k : κ} {v : V} (h : (kvs.any fun kv => decide (kv.1 = k)) = true) : (putK kvs k v).map (·.1) = kvs.map (·.1) := by
  unfold putK
  rw [if_pos h, List.map_map]
  refine List.map_congr_left fun p _ => ?_
  by_cases e : p.1 = k
  · show (if p.1 = k then (p.1, v) else p).1 = p.1
    rw [if_pos e]
  · show (if p.1 = k then (p.1, v) else p).1 = p.1
    rw [if_neg e]
theorem mem_putK {κ : Type} [DecidableEq κ] {kvs : List (κ × V)} {k : κ} {v : V} {p : κ × V} (h : p ∈ putK kvs k v) : p ∈ kvs ∨ p = (k, v) := by
  unfold putK at h
  by_cases a : (kvs.any fun kv => decide (kv.1 = k)) = true
  · rw [if_pos a] at h
    obtain ⟨q, hq, e⟩ := List.mem_map.mp h
    by_cases z : q.1 = k
    · rw [if_pos z] at e
      exact .inr (by rw [← e, z])
    · rw [if_neg z] at e
      exact .inl (by rw [← e]; exact hq)
  · rw [if_neg a] at h
    rcases List.mem_append.mp h with q | q
    · exact .inl q
    · exact .inr (List.mem_singleton.mp q)
theorem nd_put {κ : Type} [DecidableEq κ] {kvs : List (κ × V)} {k : κ} {v : V} (h : (kvs.map (·.1)).Nodup) : ((putK kvs k v).map (·.1)).Nodup := by
  cases q : valV kvs k with
  | none => exact nd_putK v h q
  | some x => rw [keys_putK_old (by rw [valV_any, q]; rfl)]; exact h
theorem IsCnt.put {g : Int → Int → Nat} {kvs : List (List Key × V)} (h : IsCnt g kvs) (a b : Int) : IsCnt (fun c d => g c d + (if some a = some c ∧ some b = some d then 1 else 0)) (putK kvs [.inl a, .inl b] (.int ((g a b : Int) + 1))) := by
  refine ⟨nd_put h.nd, fun p hp => ?_, fun c d => ?_⟩
  · rcases mem_putK hp with q | q
    · exact h.pair p q
    · exact ⟨a, b, by rw [q]⟩
  · rw [valV_put]
    by_cases e : a = c ∧ b = d
    · obtain ⟨rfl, rfl⟩ := e
      have e1 : (if some a = some a ∧ some b = some b then 1 else 0) = 1 := if_pos ⟨rfl, rfl⟩
      rw [if_pos rfl, e1, if_neg (show ¬ g a b + 1 = 0 by omega)]
      rfl
    · have n1 : ¬ ([.inl c, .inl d] : List Key) = [.inl a, .inl b] := fun z => e (by
        injection z with z1 z2
        injection z2 with z2 _
        exact ⟨(Sum.inl.inj z1).symm, (Sum.inl.inj z2).symm⟩)
      have n2 : ¬ (some a = some c ∧ some b = some d) := fun z => e ⟨Option.some.inj z.1, Option.some.inj z.2⟩
      rw [if_neg n1, if_neg n2, Nat.add_zero]
      exact h.val c d
theorem len_le_of_sub {α : Type} [DecidableEq α] : ∀ {l m : List α}, l.Nodup → (∀ x ∈ l, x ∈ m) → l.length ≤ m.length
  | [], m, _, _ => Nat.zero_le _
  | x :: l, m, hn, h => by
    obtain ⟨h1, h2⟩ := List.nodup_cons.mp hn
    have hx := h x List.mem_cons_self
    have q := len_le_of_sub (l := l) (m := m.erase x) h2 fun y hy => (List.mem_erase_of_ne fun e => h1 (by rw [← e]; exact hy)).mpr (h y (List.mem_cons_of_mem _ hy))
    rw [List.length_erase_of_mem hx] at q
    have p := List.length_pos_of_mem hx
    rw [List.length_cons]
    omega
theorem IsCnt.keys {g : Int → Int → Nat} {ks ls : List (List Key × V)} (h : IsCnt g ks) (h' : IsCnt g ls) : ks.length ≤ ls.length := by
  have q := len_le_of_sub (l := ks.map (·.1)) (m := ls.map (·.1)) h.nd fun k hk => by
    obtain ⟨p, hp, e⟩ := List.mem_map.mp hk
    obtain ⟨a, b, e2⟩ := h.pair p hp
    have s : (valV ks [.inl a, .inl b]).isSome = true := by
      rw [← valV_any]
      exact List.any_eq_true.mpr ⟨p, hp, decide_eq_true e2⟩
    rw [h.val a b, ← h'.val a b] at s
    obtain ⟨v, hv⟩ := Option.isSome_iff_exists.mp s
    rw [← e, e2]
    exact valV_in hv
  rw [List.length_map, List.length_map] at q
  exact q
theorem val_of_mem {κ : Type} [DecidableEq κ] : ∀ {kvs : List (κ × V)} {p : κ × V}, (kvs.map (·.1)).Nodup → p ∈ kvs → valV kvs p.1 = some p.2
  | [], _, _, h => nomatch h
  | q :: r, p, hn, h => by
    obtain ⟨h1, h2⟩ := List.nodup_cons.mp (show (q.1 :: r.map (·.1)).Nodup from hn)
    rcases List.mem_cons.mp h with e | h
    · rw [e]; exact valV_pos rfl
    · rw [valV_neg fun e => h1 (by rw [e]; exact List.mem_map.mpr ⟨p, h, rfl⟩)]
      exact val_of_mem h2 h
/-- dicts with the same counts are equal -/
theorem IsCnt.same {g g' : Int → Int → Nat} {ks ls : List (List Key × V)} (h : IsCnt g ks) (h' : IsCnt g' ls) (e : ∀ a b, g a b = g' a b) : SameT ks ls := by
  have eg : g' = g := by funext a b; exact (e a b).symm
  subst eg
  refine ⟨Nat.le_antisymm (h.keys h') (h'.keys h), fun p hp => ?_⟩
  obtain ⟨a, b, e2⟩ := h.pair p hp
  have q := val_of_mem h.nd hp
  rw [e2, h.val a b, ← h'.val a b] at q
  rw [← e2] at q
  refine ⟨q, ?_⟩
  rw [e2, h'.val a b] at q
  by_cases z : g' a b = 0
  · rw [if_pos z] at q; cases q
  · rw [if_neg z] at q
    rw [← Option.some.inj q]
    rfl
theorem IsCnt.congr {g g' : Int → Int → Nat} {ks : List (List Key × V)} (h : IsCnt g ks) (e : ∀ a b, g a b = g' a b) : IsCnt g' ks := by
  have eg : g = g' := by funext a b; exact e a b
  rw [← eg]
  exact h
end K8
set_option Elab.async false
set_option linter.all false
set_option maxRecDepth 100000
set_option maxHeartbeats 4000000
namespace K8
open PySem PySem.Spec PyProof.Rows L2
open C8 (Cal pe_c)
open K8R
abbrev nRequire : List Str := ["holds"]
theorem scRequire : FnScope nRequire ["holds"] (defScope sRequire) := ⟨rfl, rfl, rfl, by decide +kernel, rfl, by decide +kernel, by decide +kernel⟩
abbrev nChoose : List Str := ["n", "k", "found", "step"]
theorem scChoose : FnScope nChoose ["n", "k"] (defScope sChoose) := ⟨rfl, rfl, rfl, by decide +kernel, rfl, by decide +kernel, by decide +kernel⟩
abbrev nPowerOf : List Str := ["base", "many", "found", "_"]
theorem scPowerOf : FnScope nPowerOf ["base", "many"] (defScope sPowerOf) := ⟨rfl, rfl, rfl, by decide +kernel, rfl, by decide +kernel, by decide +kernel⟩
abbrev nLChoose : List Str := ["_law_n", "_law_k", "_law_total", "_law_j"]
theorem scLChoose : FnScope nLChoose ["_law_n", "_law_k"] (defScope sLChoose) := ⟨rfl, rfl, rfl, by decide +kernel, rfl, by decide +kernel, by decide +kernel⟩
abbrev nLPower : List Str := ["_law_base", "_law_many_here", "_law_total", "_law_k"]
theorem scLPower : FnScope nLPower ["_law_base", "_law_many_here"] (defScope sLPower) := ⟨rfl, rfl, rfl, by decide +kernel, rfl, by decide +kernel, by decide +kernel⟩
section
variable {P : Program} {w : World} {K : PySem.W.Frag} {mg : Str → Option Value} {base : Heap}
def spRequire : Sp := fun vs H Q _ => vs = [.bl true] ∧ Q .non H
theorem ok_require (T : T8 w K mg) : Cal P w K mg base 1 "require" spRequire [] := by
  obtain ⟨fd, F⟩ := T.d.defs (d := dRequire) (by simp [fnL])
  refine calN F (T.glo "require" (by simp [faL, faL0, faL1])) scRequire (fun _ _ _ _ _ _ us hl => match us, hl with | [_], _ => rfl) (fun vs H Q E h => ?_) (fun cdv A outer s H vs Q E hr h => ?_)
  · rw [h.1]; rfl
  · obtain ⟨rfl, q⟩ := h
    refine ⟨_, (pss_one (ps_if (pt_not (pt_val (pv 0))) (pss_one ps_never) pss_nil)), ?_⟩
    exact ⟨_, rfl, true, rfl, iteF q⟩
/-- the numbers of sets, of words -/
def spChoose : Sp := fun vs H Q _ => ∃ n k : Int, vs = [.int n, .int k] ∧ -1000 ≤ n ∧ n ≤ 1000 ∧ -1000 ≤ k ∧ k ≤ 1000 ∧ Q (.int (ch n k)) H
def spPower : Sp := fun vs H Q _ => ∃ b m : Int, vs = [.int b, .int m] ∧ 0 ≤ b ∧ b ≤ 1000 ∧ 0 ≤ m ∧ m ≤ 1000 ∧ Q (.int (pw b m.toNat)) H
theorem cmulR {i j : Int} (h1 : -10000 ≤ j) (h2 : j ≤ 10000) : CMul i j := .inr ⟨by omega, by omega⟩
theorem cdiv1 {j : Int} (h1 : 0 < j) (h2 : j ≤ 1000000) : CDiv i j := ⟨h1, by omega⟩
theorem ok_choose (T : T8 w K mg) : Cal P w K mg base 1 "choose" spChoose [] := by
  obtain ⟨fd, F⟩ := T.d.defs (d := dChoose) (by simp [fnL])
  refine calN F (T.glo "choose" (by simp [faL, faL0, faL1])) scChoose (fun _ _ _ _ _ _ us hl => match us, hl with | [_, _], _ => rfl) (fun vs H Q E h => ?_) (fun cdv A outer s H vs Q E hr h => ?_)
  · obtain ⟨n, k, rfl, _⟩ := h; rfl
  · obtain ⟨n, k, rfl, hn, hn', hk0, hk, q⟩ := h
    refine ⟨_, (pss_cons (ps_if (pt_not (pt_chain op_le op_le pe_int (pv 1) (pv 0))) (pss_one (ps_ret pe_int)) pss_nil)
      (pss_cons (ps_set (i := 2) scChoose.nd rfl (Or.inl rfl) pe_int)
      (pss_cons (ps_for PassesOwn.never rfl (pi_range1 rfl T.range (pa_cons (pv 1) pa_nil)) (pg_name (i := 3) scChoose.nd rfl (Or.inl rfl)) (pss_one (ps_set (i := 2) scChoose.nd rfl (Or.inl rfl) (pe_op op_fdiv (pe_op op_mul (pv 2) (pe_op op_sub (pv 0) (pv 3))) (pe_op op_add (pv 3) pe_int)))))
      (pss_one (ps_ret (pv 2)))))), ?_⟩
    refine ⟨_, rfl, _, _, rfl, rfl, _, rfl, ifD (fun c => ?_) (fun c => ?_)⟩
    · refine ⟨_, rfl, _, _, rfl, rfl, _, rfl, ifN (fun c' => ?_) (fun c' => ?_)⟩
      · have e : ch n k = 0 := if_neg fun z => c' z.2
        rw [e] at q
        exact q
      · have e : ch n k = chF n k.toNat := if_pos ⟨c, c'⟩
        rw [e] at q
        refine ⟨_, rfl, k, rfl, by omega, by omega, for_range (fun i σ H' => ∃ y, σ = [some (.int n), some (.int k), some (.int (chF n i)), y] ∧ H' = H) ⟨none, rfl, rfl⟩ ?_ ?_⟩
        · rintro i σ H' hi ⟨y, rfl, rfl⟩
          refine ⟨_, rfl, _, rfl, _, rfl, n, (0 + (i : Int)), rfl, rfl, chF n i, n - (0 + (i : Int)), rfl, rfl, cmulR (by omega) (by omega), _, rfl, 0 + (i : Int), 1, rfl, rfl, _, _, rfl, rfl, cdiv1 (by omega) (by omega), some (.int (0 + (i : Int))), ?_, rfl⟩
          simp only [Int.zero_add]
          rfl
        · rintro σ H' ⟨y, rfl, rfl⟩
          exact ⟨_, rfl, q⟩
    · have e : ch n k = 0 := if_neg fun z => c z.1
      rw [e] at q
      exact ⟨false, rfl, q⟩
theorem ok_power (T : T8 w K mg) : Cal P w K mg base 1 "power_of" spPower [] := by
  obtain ⟨fd, F⟩ := T.d.defs (d := dPowerOf) (by simp [fnL])
  refine calN F (T.glo "power_of" (by simp [faL, faL0, faL1])) scPowerOf (fun _ _ _ _ _ _ us hl => match us, hl with | [_, _], _ => rfl) (fun vs H Q E h => ?_) (fun cdv A outer s H vs Q E hr h => ?_)
  · obtain ⟨n, k, rfl, _⟩ := h; rfl
  · obtain ⟨b, m, rfl, hb, hb', hm, hm', q⟩ := h
    refine ⟨_, (pss_cons (ps_set (i := 2) scPowerOf.nd rfl (Or.inl rfl) pe_int)
      (pss_cons (ps_for PassesOwn.never rfl (pi_range1 rfl T.range (pa_cons (pv 1) pa_nil)) (pg_name (i := 3) scPowerOf.nd rfl (Or.inl rfl)) (pss_one (ps_aug (i := 2) scPowerOf.nd rfl (Or.inl rfl) (pv 0) iop_mul)))
      (pss_one (ps_ret (pv 2))))), ?_⟩
    refine ⟨_, rfl, m, rfl, by omega, by omega, for_range (fun i σ H' => ∃ y, σ = [some (.int b), some (.int m), some (.int (pw b i)), y] ∧ H' = H) ⟨none, rfl, rfl⟩ ?_ ?_⟩
    · rintro i σ H' hi ⟨y, rfl, rfl⟩
      exact ⟨_, rfl, _, rfl, _, _, rfl, rfl, cmulR (by omega) (by omega), _, rfl, rfl⟩
    · rintro σ H' ⟨y, rfl, rfl⟩
      exact ⟨_, rfl, q⟩
theorem ok_lpower (T : T8 w K mg) : Cal P w K mg base 1 "_law_power" spPower [] := by
  obtain ⟨fd, F⟩ := T.d.defs (d := dLPower) (by simp [fnL])
  refine calN F (T.glo "_law_power" (by simp [faL, faL0, faL1])) scLPower (fun _ _ _ _ _ _ us hl => match us, hl with | [_, _], _ => rfl) (fun vs H Q E h => ?_) (fun cdv A outer s H vs Q E hr h => ?_)
  · obtain ⟨n, k, rfl, _⟩ := h; rfl
  · obtain ⟨b, m, rfl, hb, hb', hm, hm', q⟩ := h
    refine ⟨_, (pss_cons (ps_set (i := 2) scLPower.nd rfl (Or.inl rfl) pe_int)
      (pss_cons (ps_for PassesOwn.never rfl (pi_range1 rfl T.range (pa_cons (pv 1) pa_nil)) (pg_name (i := 3) scLPower.nd rfl (Or.inl rfl)) (pss_one (ps_set (i := 2) scLPower.nd rfl (Or.inl rfl) (pe_op op_mul (pv 2) (pv 0)))))
      (pss_one (ps_ret (pv 2))))), ?_⟩
    refine ⟨_, rfl, m, rfl, by omega, by omega, for_range (fun i σ H' => ∃ y, σ = [some (.int b), some (.int m), some (.int (pw b i)), y] ∧ H' = H) ⟨none, rfl, rfl⟩ ?_ ?_⟩
    · rintro i σ H' hi ⟨y, rfl, rfl⟩
      exact ⟨_, rfl, _, rfl, _, _, rfl, rfl, cmulR (by omega) (by omega), _, rfl, rfl⟩
    · rintro σ H' ⟨y, rfl, rfl⟩
      exact ⟨_, rfl, q⟩
theorem ok_lchoose (T : T8 w K mg) : Cal P w K mg base 1 "_law_choose" spChoose [] := by
  obtain ⟨fd, F⟩ := T.d.defs (d := dLChoose) (by simp [fnL])
  refine calN F (T.glo "_law_choose" (by simp [faL, faL0, faL1])) scLChoose (fun _ _ _ _ _ _ us hl => match us, hl with | [_, _], _ => rfl) (fun vs H Q E h => ?_) (fun cdv A outer s H vs Q E hr h => ?_)
  · obtain ⟨n, k, rfl, _⟩ := h; rfl
  · obtain ⟨n, k, rfl, hn, hn', hk0, hk, q⟩ := h
    refine ⟨_, (pss_cons (ps_set (i := 2) scLChoose.nd rfl (Or.inl rfl) pe_int)
      (pss_cons (ps_for PassesOwn.never rfl (pi_range1 rfl T.range (pa_cons (pv 1) pa_nil)) (pg_name (i := 3) scLChoose.nd rfl (Or.inl rfl)) (pss_one (ps_set (i := 2) scLChoose.nd rfl (Or.inl rfl) (pe_op op_fdiv (pe_op op_mul (pv 2) (pe_op op_sub (pv 0) (pv 3))) (pe_op op_add (pv 3) pe_int)))))
      (pss_one (ps_ret (pe_ifExp (pt_chain op_le op_le pe_int (pv 1) (pv 0)) (pv 2) pe_int))))), ?_⟩
    refine ⟨_, rfl, k, rfl, by omega, by omega, for_range (fun i σ H' => ∃ y, σ = [some (.int n), some (.int k), some (.int (chF n i)), y] ∧ H' = H) ⟨none, rfl, rfl⟩ ?_ ?_⟩
    · rintro i σ H' hi ⟨y, rfl, rfl⟩
      refine ⟨_, rfl, _, rfl, _, rfl, n, (0 + (i : Int)), rfl, rfl, chF n i, n - (0 + (i : Int)), rfl, rfl, cmulR (by omega) (by omega), _, rfl, 0 + (i : Int), 1, rfl, rfl, _, _, rfl, rfl, cdiv1 (by omega) (by omega), some (.int (0 + (i : Int))), ?_, rfl⟩
      simp only [Int.zero_add]
      rfl
    · rintro σ H' ⟨y, rfl, rfl⟩
      refine ⟨_, rfl, _, _, rfl, rfl, _, rfl, ifD (fun c => ?_) (fun c => ?_)⟩
      · refine ⟨_, rfl, _, _, rfl, rfl, _, rfl, ifD (fun c' => ?_) (fun c' => ?_)⟩
        · have e : ch n k = chF n k.toNat := if_pos ⟨c, c'⟩
          rw [e] at q
          exact ⟨_, rfl, q⟩
        · have e : ch n k = 0 := if_neg fun z => c' z.2
          rw [e] at q
          exact q
      · have e : ch n k = 0 := if_neg fun z => c z.1
        rw [e] at q
        exact ⟨false, rfl, q⟩
end
end K8
set_option Elab.async false
set_option linter.all false
set_option maxRecDepth 100000
set_option maxHeartbeats 4000000
namespace K8
open PySem PySem.Spec PyProof.Rows L2
open C8 (Cal pe_c)
open K8R
abbrev nFiguresOf : List Str := ["n", "q", "point", "found", "_"]
theorem scFiguresOf : FnScope nFiguresOf ["n", "q", "point"] (defScope sFiguresOf) := ⟨rfl, rfl, rfl, by decide +kernel, rfl, by decide +kernel, by decide +kernel⟩
abbrev nLFigures : List Str := ["_law_n", "_law_q", "_law_point_here", "_law_found", "_law_k"]
theorem scLFigures : FnScope nLFigures ["_law_n", "_law_q", "_law_point_here"] (defScope sLFigures) := ⟨rfl, rfl, rfl, by decide +kernel, rfl, by decide +kernel, by decide +kernel⟩
abbrev nWaysOf : List Str := ["rows", "x", "y", "found", "first", "second"]
theorem scWaysOf : FnScope nWaysOf ["rows", "x", "y"] (defScope sWaysOf) := ⟨rfl, rfl, rfl, by decide +kernel, rfl, by decide +kernel, by decide +kernel⟩
section
variable {P : Program} {w : World} {K : PySem.W.Frag} {mg : Str → Option Value} {base : Heap}
/-- figures_of: a new tuple; _law_figures: a new list -/
def spFigs : Sp := fun vs H Q _ => ∃ n q p : Int, vs = [.int n, .int q, .int p] ∧ 0 ≤ n ∧ n ≤ 40 ∧ 0 < q ∧ q ≤ 1000 ∧ ∀ H' r, Same H H' → H r = none → H' r = some (.tup ((figs n q p).map V.int)) → Q (.ref r) H'
def spLFigs : Sp := fun vs H Q _ => ∃ n q p : Int, vs = [.int n, .int q, .int p] ∧ 0 ≤ n ∧ n ≤ 40 ∧ 0 < q ∧ q ≤ 1000 ∧ ∀ H' r, Same H H' → H r = none → H' r = some (.lst ((figs n q p).map V.int)) → Q (.ref r) H'
theorem same_wr {H H' : Hp} {a : Addr} {o : HO} (s : Same H H') (n : H a = none) : Same H (upd H' a o) := fun b x e => by
  rw [upd_ne (ne_of_none e n)]
  exact s b x e
theorem ok_figs (T : T8 w K mg) : Cal P w K mg base 1 "figures_of" spFigs [] := by
  obtain ⟨fd, F⟩ := T.d.defs (d := dFiguresOf) (by simp [fnL])
  refine calN F (T.glo "figures_of" (by simp [faL, faL0, faL1])) scFiguresOf (fun _ _ _ _ _ _ us hl => match us, hl with | [_, _, _], _ => rfl) (fun vs H Q E h => ?_) (fun cdv A outer s H vs Q E hr h => ?_)
  · obtain ⟨n, q, p, rfl, _⟩ := h; rfl
  · obtain ⟨n, q, p, rfl, hn, hn', hq, hq', qq⟩ := h
    refine ⟨_, (pss_cons (ps_set (i := 3) scFiguresOf.nd rfl (Or.inl rfl) (pe_lst pa_nil))
      (pss_cons (ps_for PassesOwn.never rfl (pi_range1 rfl T.range (pa_cons (pv 0) pa_nil)) (pg_name (i := 4) scFiguresOf.nd rfl (Or.inl rfl)) (pss_cons (ps_expr (pe_bm PySem.F.plainAttrs_list PySem.F.slot_list_append PySem.F.type_list_append mt_append (pv 3) (pa_cons (pe_op op_mod (pv 2) (pv 1)) pa_nil)))
      (pss_one (ps_aug (i := 2) scFiguresOf.nd rfl (Or.inl rfl) (pv 1) iop_fdiv))))
      (pss_one (ps_ret (pe_callTy call_tuple_of rfl T.tuple (by decide +kernel) (pa_cons (pe_revL (pv 3)) pa_nil)))))), ?_⟩
    refine ⟨Nat.zero_le _, fun f nf => ?_⟩
    refine ⟨_, rfl, n, rfl, by omega, by omega, for_range (fun i σ H' => ∃ (pt : Int) (y : Option V) (fs : List Int), σ = [some (.int n), some (.int q), some (.int pt), some (.ref f), y] ∧ Same H H' ∧ H' f = some (.lst (fs.map V.int)) ∧ i ≤ n.toNat ∧ fs ++ figL q (n.toNat - i) pt = figL q n.toNat p) ⟨p, none, [], rfl, new_same nf, upd_same, Nat.zero_le _, rfl⟩ ?_ ?_⟩
    · rintro i σ H' hi ⟨pt, y, fs, rfl, sm, hf, hi', e⟩
      have ln := congrArg List.length e
      rw [List.length_append, figL_len, figL_len] at ln
      refine ⟨.ref f, rfl, .inl ⟨rfl, _, SqL.of hf⟩, _, rfl, _, rfl, pt, q, rfl, rfl, hq, f, _, _, rfl, rfl, hf, by rw [List.length_map]; exact small1000 (by omega), ?_⟩
      refine ⟨_, rfl, _, rfl, pt, q, rfl, rfl, ⟨hq, by omega⟩, pt / q, _, fs ++ [pt % q], rfl, same_wr sm nf, ?_, hi, ?_⟩
      · rw [upd_same, List.map_append]
        rfl
      · rw [← e]
        have en : n.toNat - i = (n.toNat - (i + 1)) + 1 := by omega
        rw [en, List.append_assoc]
        rfl
    · rintro σ H' ⟨pt, y, fs, rfl, sm, hf, hi', e⟩
      rw [Nat.sub_self] at e
      have e : fs = figL q n.toNat p := by rw [← e]; exact (List.append_nil fs).symm
      refine ⟨.ref f, rfl, f, _, rfl, SqL.of hf, fun g ng => ⟨g, _, rfl, .inl ⟨SqL.of upd_same, fun r nr => ?_⟩⟩⟩
      have nr' : H r = none := sm.free ((new_same ng).free nr)
      refine qq _ r (sm.trans ((new_same ng).trans (new_same nr))) nr' ?_
      rw [upd_same, e]
      unfold figs
      rw [List.map_reverse]
theorem ok_lfigs (T : T8 w K mg) : Cal P w K mg base 1 "_law_figures" spLFigs [] := by
  obtain ⟨fd, F⟩ := T.d.defs (d := dLFigures) (by simp [fnL])
  refine calN F (T.glo "_law_figures" (by simp [faL, faL0, faL1])) scLFigures (fun _ _ _ _ _ _ us hl => match us, hl with | [_, _, _], _ => rfl) (fun vs H Q E h => ?_) (fun cdv A outer s H vs Q E hr h => ?_)
  · obtain ⟨n, q, p, rfl, _⟩ := h; rfl
  · obtain ⟨n, q, p, rfl, hn, hn', hq, hq', qq⟩ := h
    refine ⟨_, (pss_cons (ps_set (i := 3) scLFigures.nd rfl (Or.inl rfl) (pe_lst pa_nil))
      (pss_cons (ps_for PassesOwn.never rfl (pi_range1 rfl T.range (pa_cons (pv 0) pa_nil)) (pg_name (i := 4) scLFigures.nd rfl (Or.inl rfl)) (pss_cons (ps_set (i := 3) scLFigures.nd rfl (Or.inl rfl) (pe_op op_cat (pe_lst (pa_cons (pe_op op_mod (pe_callTy call_int1 rfl T.tint (by decide +kernel) (pa_cons (pv 2) pa_nil)) (pv 1)) pa_nil)) (pv 3)))
      (pss_one (ps_set (i := 2) scLFigures.nd rfl (Or.inl rfl) (pe_op op_fdiv (pv 2) (pv 1))))))
      (pss_one (ps_ret (pv 3))))), ?_⟩
    refine ⟨Nat.zero_le _, fun f nf => ?_⟩
    refine ⟨_, rfl, n, rfl, by omega, by omega, for_range (fun i σ H' => ∃ (pt : Int) (y : Option V) (f : Addr) (fs : List Int), σ = [some (.int n), some (.int q), some (.int pt), some (.ref f), y] ∧ Same H H' ∧ H f = none ∧ H' f = some (.lst (fs.map V.int)) ∧ i ≤ n.toNat ∧ fs.reverse ++ figL q (n.toNat - i) pt = figL q n.toNat p) ⟨p, none, f, [], rfl, new_same nf, nf, upd_same, Nat.zero_le _, rfl⟩ ?_ ?_⟩
    · rintro i σ H' hi ⟨pt, y, f, fs, rfl, sm, nf, hf, hi', e⟩
      have ln := congrArg List.length e
      rw [List.length_append, List.length_reverse, figL_len, figL_len] at ln
      refine ⟨_, rfl, .inl ⟨pt, rfl, _, rfl, pt, q, rfl, rfl, hq, (by show 1 ≤ sizeLine; decide), fun a na => ?_⟩⟩
      have sa : Same H' (upd H' a (.lst [.int (pt % q)])) := new_same na
      refine ⟨_, rfl, a, f, _, _, rfl, rfl, upd_same, sa _ _ hf, (by rw [List.length_map]; exact Nat.le_of_lt (small1000 (by show 1 + fs.length ≤ 1000; omega))), fun g ng => ?_⟩
      refine ⟨_, rfl, _, rfl, pt, q, rfl, rfl, ⟨hq, by omega⟩, pt / q, _, g, (pt % q) :: fs, rfl, sm.trans (sa.trans (new_same ng)), sm.free (sa.free ng), upd_same, hi, ?_⟩
      rw [← e]
      have en : n.toNat - i = (n.toNat - (i + 1)) + 1 := by omega
      rw [en, List.reverse_cons, List.append_assoc]
      rfl
    · rintro σ H' ⟨pt, y, f, fs, rfl, sm, nf, hf, hi', e⟩
      rw [Nat.sub_self] at e
      have e : fs.reverse = figL q n.toNat p := by rw [← e]; exact (List.append_nil _).symm
      refine ⟨_, rfl, qq _ f sm nf ?_⟩
      rw [hf]
      unfold figs
      rw [← e, List.reverse_reverse]
/-- ways_of: a new dict of the counts -/
def spWays : Sp := fun vs H Q _ => ∃ (a : Addr) (rows : List (List Int)) (x y : Nat), vs = [.ref a, .int x, .int y] ∧ IsRows H a rows ∧ x < rows.length ∧ y < rows.length ∧ rows.length ≤ 24 ∧ (rowOf rows x).length = rows.length ∧ (rowOf rows y).length = rows.length ∧
  ∀ H' d kvs, Same H H' → H d = none → H' d = some (.dT kvs) → IsCnt (ctz (rowOf rows x) (rowOf rows y) rows.length) kvs → Q (.ref d) H'
theorem IsRows.at {K : PySem.W.Frag} {H : Hp} {a : Addr} {rows : List (List Int)} (h : IsRows H a rows) {x : Nat} (hx : x < rows.length) : ∃ b xs, SqT K H a xs ∧ atI xs (x : Int) = some (.ref b) ∧ H b = some (.tup ((rowOf rows x).map V.int)) := by
  obtain ⟨as, h1, h2, h3⟩ := h
  have hx' : x < as.length := by omega
  refine ⟨as[x], _, SqT.of h1, atI_nat ?_, h3 x _ (List.getElem?_eq_getElem hx')⟩
  rw [List.getElem?_map, List.getElem?_eq_getElem hx']
  rfl
theorem ok_ways (T : T8 w K mg) : Cal P w K mg base 1 "ways_of" spWays [] := by
  obtain ⟨fd, F⟩ := T.d.defs (d := dWaysOf) (by simp [fnL])
  refine calN F (T.glo "ways_of" (by simp [faL, faL0, faL1])) scWaysOf (fun _ _ _ _ _ _ us hl => match us, hl with | [_, _, _], _ => rfl) (fun vs H Q E h => ?_) (fun cdv A outer s H vs Q E hr h => ?_)
  · obtain ⟨a, rows, x, y, rfl, _⟩ := h; rfl
  · obtain ⟨a, rows, x, y, rfl, hR, hx, hy, h24, lx, ly, qq⟩ := h
    refine ⟨_, (pss_cons (ps_set (i := 3) scWaysOf.nd rfl (Or.inl rfl) pe_dnewT)
      (pss_cons (ps_for PassesOwn.never rfl (RZ.pi_zipA rfl T.zip (pa_cons (pe_ix ix_tup (pv 0) (pv 1) (fun _ _ => rfl)) (pa_cons (pe_ix ix_tup (pv 0) (pv 2) (fun _ _ => rfl)) pa_nil))) (pg_tup rfl (pgs_cons (pg_name (i := 4) scWaysOf.nd rfl (Or.inl rfl)) (pgs_cons (pg_name (i := 5) scWaysOf.nd rfl (Or.inl rfl)) pgs_nil))) (pss_one (ps_dput (hu_of hr) (pv 3) (pe_tup (pa_cons (pv 4) (pa_cons (pv 5) pa_nil))) (pe_op op_add (pe_dget2 (hu_of hr) (pv 3) (pe_tup (pa_cons (pv 4) (pa_cons (pv 5) pa_nil))) pe_int ⟨rfl, rfl, rfl, rfl⟩) pe_int) rfl)))
      (pss_one (ps_ret (pv 3))))), ?_⟩
    refine fun f nf => ?_
    have s1 : Same H (upd H f (.dT [])) := new_same nf
    have hR1 := hR.mono s1
    obtain ⟨bx, xs, q1, q2, q3⟩ := hR1.at (K := K) hx
    obtain ⟨bY, ys, r1, r2, r3⟩ := hR1.at (K := K) hy
    have bxf : bx ≠ f := fun e => by rw [e, upd_same] at q3; cases q3
    have bYf : bY ≠ f := fun e => by rw [e, upd_same] at r3; cases r3
    refine ⟨_, rfl, _, rfl, a, xs, _, _, rfl, rfl, q1, q2, _, rfl, _, rfl, a, ys, _, _, rfl, rfl, r1, r2, bx, bY, _, _, rfl, .inr ⟨SqT.of q3, SqT.of r3, ?_⟩⟩
    refine RZ.for_zipT (xs := (rowOf rows x).map V.int) (ys := (rowOf rows y).map V.int) (by rw [List.length_map, List.length_map, lx, ly]) (fun i σ H' => ∃ y4 y5 kvs, σ = [some (.ref a), some (.int x), some (.int y), some (.ref f), y4, y5] ∧ Same H H' ∧ H' bx = some (.tup ((rowOf rows x).map V.int)) ∧ H' bY = some (.tup ((rowOf rows y).map V.int)) ∧ H' f = some (.dT kvs) ∧ kvs.length ≤ i ∧ i ≤ rows.length ∧ IsCnt (ctz (rowOf rows x) (rowOf rows y) i) kvs)
      ⟨none, none, [], rfl, s1, q3, r3, upd_same, Nat.le_refl _, Nat.zero_le _, isCnt_nil⟩ (fun i σ H' ⟨_, _, _, _, _, z1, z2, _⟩ => ⟨SqT.of z1, SqT.of z2⟩) ?_ ?_
    · rintro i u v t σ H' hu hv ⟨y4, y5, kvs, rfl, sm, z1, z2, z3, zl, zi, zc⟩ nt
      obtain ⟨ia, ha, rfl⟩ : ∃ z, (rowOf rows x)[i]? = some z ∧ u = V.int z := by
        rw [List.getElem?_map] at hu
        cases e : (rowOf rows x)[i]? with
        | none => rw [e] at hu; cases hu
        | some z => rw [e] at hu; exact ⟨z, rfl, (Option.some.inj hu).symm⟩
      obtain ⟨ib, hb, rfl⟩ : ∃ z, (rowOf rows y)[i]? = some z ∧ v = V.int z := by
        rw [List.getElem?_map] at hv
        cases e : (rowOf rows y)[i]? with
        | none => rw [e] at hv; cases hv
        | some z => rw [e] at hv; exact ⟨z, rfl, (Option.some.inj hv).symm⟩
      have hi : i < rows.length := by rw [← lx]; exact (List.getElem?_eq_some_iff.mp ha).1
      have st : Same H' (upd H' t (.tup [.int ia, .int ib])) := new_same nt
      refine ⟨t, _, rfl, SqT.of upd_same, rfl, _, _, rfl, _, _, rfl, rfl, ?_⟩
      refine ⟨.ref f, rfl, f, rfl, .inr ⟨_, .inl (st _ _ z3)⟩, _, rfl, _, rfl, (by show 2 ≤ sizeLine; decide), fun k1 n1 => ?_⟩
      have sk : Same (upd H' t (.tup [.int ia, .int ib])) (upd (upd H' t (.tup [.int ia, .int ib])) k1 (.tup [.int ia, .int ib])) := new_same n1
      refine ⟨_, DGet.t (k := [.inl ia, .inl ib]) (sk _ _ (st _ _ z3)) upd_same, _, 1, zc.get ia ib, rfl, .ref f, rfl, _, rfl, _, rfl, (by show 2 ≤ sizeLine; decide), fun k2 n2 => ?_⟩
      have sk2 : Same (upd (upd H' t (.tup [.int ia, .int ib])) k1 (.tup [.int ia, .int ib])) (upd (upd (upd H' t (.tup [.int ia, .int ib])) k1 (.tup [.int ia, .int ib])) k2 (.tup [.int ia, .int ib])) := new_same n2
      have s5 := st.trans (sk.trans sk2)
      refine ⟨f, _, rfl, DPut.t (k := [.inl ia, .inl ib]) (s5 _ _ z3) upd_same (small1000 (by omega)), _, _, _, rfl, same_wr (sm.trans s5) nf, ?_, ?_, upd_same, ?_, hi, ?_⟩
      · rw [upd_ne bxf]; exact s5 _ _ z1
      · rw [upd_ne bYf]; exact s5 _ _ z2
      · exact Nat.le_trans (length_putK _ _ _) (by omega)
      · refine (zc.put ia ib).congr fun c d => ?_
        show _ = ctz (rowOf rows x) (rowOf rows y) i c d + (if (rowOf rows x)[i]? = some c ∧ (rowOf rows y)[i]? = some d then 1 else 0)
        rw [ha, hb]
    · rintro σ H' ⟨y4, y5, kvs, rfl, sm, z1, z2, z3, zl, zi, zc⟩
      rw [List.length_map, lx] at zc
      exact ⟨_, rfl, qq _ f kvs sm nf z3 zc⟩
end
end K8
set_option Elab.async false
set_option linter.all false
set_option maxRecDepth 100000
set_option maxHeartbeats 4000000
namespace K8
open PySem PySem.Spec PyProof.Rows L2
open C8 (Cal pe_c)
open K8R
abbrev nMembersOf : List Str := ["n", "k", "point", "found", "member", "many"]
theorem scMembersOf : FnScope nMembersOf ["n", "k", "point"] (defScope sMembersOf) := ⟨rfl, rfl, rfl, by decide +kernel, rfl, by decide +kernel, by decide +kernel⟩
abbrev nLMembers : List Str := ["_law_n", "_law_k", "_law_point_here", "_law_found", "_law_start", "_law_turn", "_law_r", "_law_many_here"]
theorem scLMembers : FnScope nLMembers ["_law_n", "_law_k", "_law_point_here"] (defScope sLMembers) := ⟨rfl, rfl, rfl, by decide +kernel, rfl, by decide +kernel, by decide +kernel⟩
section
variable {P : Program} {w : World} {K : PySem.W.Frag} {mg : Str → Option Value} {base : Heap}
def spMem : Sp := fun vs H Q _ => ∃ (n k p : Int) (res : List Int), vs = [.int n, .int k, .int p] ∧ 0 ≤ n ∧ n ≤ 100 ∧ 0 ≤ k ∧ k ≤ 100 ∧ mmRun n k n.toNat [] 0 p = some res ∧ ∀ H' r, Same H H' → H r = none → H' r = some (.tup (res.map V.int)) → Q (.ref r) H'
theorem ok_mem (T : T8 w K mg) : Cal P w K mg base 2 "members_of" spMem [] := by
  obtain ⟨fd, F⟩ := T.d.defs (d := dMembersOf) (by simp [fnL])
  have c_choose : Cal P w K mg base 1 "choose" spChoose [] := ok_choose T
  refine calN F (T.glo "members_of" (by simp [faL, faL0, faL1])) scMembersOf (fun _ _ _ _ _ _ us hl => match us, hl with | [_, _, _], _ => rfl) (fun vs H Q E h => ?_) (fun cdv A outer s H vs Q E hr h => ?_)
  · obtain ⟨n, k, p, res, rfl, _⟩ := h; rfl
  · obtain ⟨n, k, p, res, rfl, hn, hn', hk, hk', he, qq⟩ := h
    refine ⟨_, (pss_cons (ps_set (i := 3) scMembersOf.nd rfl (Or.inl rfl) (pe_lst pa_nil))
      (pss_cons (ps_set (i := 4) scMembersOf.nd rfl (Or.inl rfl) pe_int)
      (pss_cons (ps_while PassesOwn.never (pt_cmpR op_lt (pe_callB call_len_seq rfl T.len PySem.boot_len (pa_cons (pv 3) pa_nil)) (pv 1) (nomark _)) (pss_cons (ps_set (i := 5) scMembersOf.nd rfl (Or.inl rfl) (pe_c c_choose hr (by first | decide | omega) rfl (pa_cons (pe_op op_sub (pe_op op_sub (pv 0) (pv 4)) pe_int) (pa_cons (pe_op op_sub (pe_op op_sub (pv 1) (pe_callB call_len_seq rfl T.len PySem.boot_len (pa_cons (pv 3) pa_nil))) pe_int) pa_nil))))
      (pss_cons (ps_if (pt_cmpR op_lt (pv 2) (pv 5) (nomark _)) (pss_one (ps_expr (pe_bm PySem.F.plainAttrs_list PySem.F.slot_list_append PySem.F.type_list_append mt_append (pv 3) (pa_cons (pv 4) pa_nil)))) (pss_one (ps_aug (i := 2) scMembersOf.nd rfl (Or.inl rfl) (pv 5) ip_sub)))
      (pss_one (ps_aug (i := 4) scMembersOf.nd rfl (Or.inl rfl) pe_int ip_add)))))
      (pss_one (ps_ret (pe_callTy call_tuple_of rfl T.tuple (by decide +kernel) (pa_cons (pv 3) pa_nil))))))), ?_⟩
    refine ⟨Nat.zero_le _, fun f nf => ?_⟩
    refine ⟨fun u σ H' => ∃ (m pt : Int) (y : Option V) (fs : List Int), σ = [some (.int n), some (.int k), some (.int pt), some (.ref f), some (.int m), y] ∧ Same H H' ∧ H' f = some (.lst (fs.map V.int)) ∧ m + u = n ∧ 0 ≤ m ∧ fs.length ≤ 100 ∧ mmRun n k u fs m pt = some res,
      ⟨n.toNat, 0, p, none, [], rfl, new_same nf, upd_same, by omega, by omega, Nat.zero_le _, he⟩, fun u σ H' hW => ?_⟩
    obtain ⟨m, pt, y, fs, rfl, sm, hf, hm, hm0, hl, hr'⟩ := hW
    have hfl : (fs.map V.int).length = fs.length := List.length_map _
    refine ⟨_, rfl, f, _, rfl, .inl (SqL.of hf), _, rfl, _, k, rfl, rfl, _, rfl, ifD (fun c => ?_) (fun c => ?_)⟩
    · rw [hfl] at c
      cases u with
      | zero =>
        unfold mmRun at hr'
        rw [if_pos c] at hr'
        cases hr'
      | succ u =>
        unfold mmRun at hr'
        rw [if_pos c] at hr'
        refine ⟨fun σ' H' => ∃ (pt : Int) (y : Option V) (fs : List Int), σ' = [some (.int n), some (.int k), some (.int pt), some (.ref f), some (.int (m + 1)), y] ∧ Same H H' ∧ H' f = some (.lst (fs.map V.int)) ∧ fs.length ≤ 100 ∧ mmRun n k u fs (m + 1) pt = some res,
          fun σ' H' ⟨pt', y', fs', e1, e2, e3, e4, e5⟩ => ⟨u, Nat.lt_succ_self u, m + 1, pt', y', fs', e1, e2, e3, by omega, by omega, e4, e5⟩, ?_⟩
        refine ⟨_, rfl, _, rfl, n, m, rfl, rfl, _, 1, rfl, rfl, _, rfl, _, rfl, f, _, rfl, .inl (SqL.of hf), k, _, rfl, rfl, _, 1, rfl, rfl, n - m - 1, _, rfl, by omega, by omega, by rw [hfl]; omega, by omega, ?_⟩
        rw [hfl]
        refine ⟨_, rfl, _, rfl, pt, _, rfl, rfl, _, rfl, ifD (fun c' => ?_) (fun c' => ?_)⟩
        · rw [if_pos c'] at hr'
          refine ⟨.ref f, rfl, .inl ⟨rfl, _, SqL.of hf⟩, _, rfl, f, _, _, rfl, rfl, hf, by rw [hfl]; exact small1000 (by omega), ?_⟩
          refine ⟨_, rfl, m, 1, rfl, rfl, pt, _, fs ++ [m], rfl, same_wr sm nf, ?_, by rw [List.length_append]; show fs.length + 1 ≤ 100; omega, hr'⟩
          rw [upd_same, List.map_append]
          rfl
        · rw [if_neg c'] at hr'
          refine ⟨_, rfl, _, rfl, pt, _, rfl, rfl, ?_⟩
          exact ⟨_, rfl, m, 1, rfl, rfl, _, _, fs, rfl, sm, hf, hl, hr'⟩
    · rw [hfl] at c
      have e : fs = res := by
        cases u with
        | zero => unfold mmRun at hr'; rw [if_neg c] at hr'; exact Option.some.inj hr'
        | succ u => unfold mmRun at hr'; rw [if_neg c] at hr'; exact Option.some.inj hr'
      refine ⟨_, rfl, f, _, rfl, .inl ⟨SqL.of hf, fun r nr => ?_⟩⟩
      refine qq _ r (sm.trans (new_same nr)) (sm.free nr) ?_
      rw [upd_same, e]
/-- the law's own way -/
def spLMem : Sp := fun vs H Q _ => ∃ (n k p : Int), vs = [.int n, .int k, .int p] ∧ 0 ≤ n ∧ n ≤ 100 ∧ 0 ≤ k ∧ k ≤ 100 ∧ ∀ H' r, Same H H' → H r = none → H' r = some (.lst ((mem n k p).map V.int)) → Q (.ref r) H'
structure LmOk (n : Int) (t : Nat) (s : List Int × Int × Int) : Prop where
  len : s.1.length ≤ t
  lo : 0 ≤ s.2.1
  hi : s.2.1 ≤ n
theorem lmStep_ok {n k : Int} {t : Nat} {s : List Int × Int × Int} {r : Int} (h : LmOk n (t + 1) s) (h0 : 0 ≤ r) (h1 : r < n) : LmOk n (t + 1) (lmStep n k t s r) := by
  unfold lmStep
  split
  · rename_i c
    split
    · refine ⟨?_, by show 0 ≤ r + 1; omega, by show r + 1 ≤ n; omega⟩
      show (s.1 ++ [r]).length ≤ t + 1
      rw [List.length_append]
      show s.1.length + 1 ≤ t + 1
      omega
    · exact ⟨h.len, h.lo, h.hi⟩
  · exact h
theorem ok_lmem (T : T8 w K mg) : Cal P w K mg base 2 "_law_members" spLMem [] := by
  obtain ⟨fd, F⟩ := T.d.defs (d := dLMembers) (by simp [fnL])
  have c_choose : Cal P w K mg base 1 "_law_choose" spChoose [] := ok_lchoose T
  refine calN F (T.glo "_law_members" (by simp [faL, faL0, faL1])) scLMembers (fun _ _ _ _ _ _ us hl => match us, hl with | [_, _, _], _ => rfl) (fun vs H Q E h => ?_) (fun cdv A outer s H vs Q E hr h => ?_)
  · obtain ⟨n, k, p, rfl, _⟩ := h; rfl
  · obtain ⟨n, k, p, rfl, hn, hn', hk, hk', qq⟩ := h
    refine ⟨_, (pss_cons (ps_set (i := 3) scLMembers.nd rfl (Or.inl rfl) (pe_lst pa_nil))
      (pss_cons (ps_set (i := 4) scLMembers.nd rfl (Or.inl rfl) pe_int)
      (pss_cons (ps_for PassesOwn.never rfl (pi_range1 rfl T.range (pa_cons (pv 1) pa_nil)) (pg_name (i := 5) scLMembers.nd rfl (Or.inl rfl)) (pss_one (ps_for PassesOwn.never rfl (pi_range2 rfl T.range (pa_cons (pv 4) (pa_cons (pv 0) pa_nil))) (pg_name (i := 6) scLMembers.nd rfl (Or.inl rfl)) (pss_cons (ps_set (i := 7) scLMembers.nd rfl (Or.inl rfl) (pe_c c_choose hr (by first | decide | omega) rfl (pa_cons (pe_op op_sub (pe_op op_sub (pv 0) (pv 6)) pe_int) (pa_cons (pe_op op_sub (pe_op op_sub (pv 1) (pv 5)) pe_int) pa_nil))))
      (pss_one (ps_if (pt_cmpR op_eq (pe_callB call_len_seq rfl T.len PySem.boot_len (pa_cons (pv 3) pa_nil)) (pv 5) (nomark _)) (pss_one (ps_if (pt_cmpR op_lt (pv 2) (pv 7) (nomark _)) (pss_cons (ps_expr (pe_bm PySem.F.plainAttrs_list PySem.F.slot_list_append PySem.F.type_list_append mt_append (pv 3) (pa_cons (pv 6) pa_nil)))
      (pss_one (ps_set (i := 4) scLMembers.nd rfl (Or.inl rfl) (pe_op op_add (pv 6) pe_int)))) (pss_one (ps_set (i := 2) scLMembers.nd rfl (Or.inl rfl) (pe_op op_sub (pv 2) (pv 7)))))) pss_nil))))))
      (pss_one (ps_ret (pv 3)))))), ?_⟩
    refine ⟨Nat.zero_le _, fun f nf => ?_⟩
    refine ⟨_, rfl, k, rfl, by omega, by omega, for_range (fun t σ H' => ∃ (S : List Int × Int × Int) (y5 y6 y7 : Option V), σ = [some (.int n), some (.int k), some (.int S.2.2), some (.ref f), some (.int S.2.1), y5, y6, y7] ∧ Same H H' ∧ H' f = some (.lst (S.1.map V.int)) ∧ LmOk n t S ∧ S = lmOut n k p t) ⟨([], 0, p), none, none, none, rfl, new_same nf, upd_same, ⟨Nat.zero_le _, Int.le_refl _, hn⟩, rfl⟩ ?_ ?_⟩
    · rintro t σ H1 ht ⟨S0, y5, y6, y7, rfl, sm, hf, ok0, eS0⟩
      have l0 := ok0.lo
      have h0 := ok0.hi
      refine ⟨_, rfl, _, rfl, S0.2.1, n, rfl, ⟨by omega, by omega, by omega, by omega⟩, for_range (fun i σ H' => ∃ (S : List Int × Int × Int) (y6 y7 : Option V), σ = [some (.int n), some (.int k), some (.int S.2.2), some (.ref f), some (.int S.2.1), some (.int (t : Int)), y6, y7] ∧ Same H H' ∧ H' f = some (.lst (S.1.map V.int)) ∧ LmOk n (t + 1) S ∧ S = lmIn n k t S0.2.1 S0 i) ⟨S0, y6, y7, by rw [Int.zero_add]; rfl, sm, hf, ⟨by have := ok0.len; omega, l0, h0⟩, rfl⟩ ?_ ?_⟩
      · rintro i σ H2 hi ⟨S, y6, y7, rfl, sm, hf, ok, eS⟩
        have hfl : (S.1.map V.int).length = S.1.length := List.length_map _
        have ok' := lmStep_ok (k := k) ok (r := S0.2.1 + (i : Int)) (by omega) (by omega)
        have eS' : lmIn n k t S0.2.1 S0 (i + 1) = lmStep n k t S (S0.2.1 + (i : Int)) := by rw [eS]; rfl
        refine ⟨_, rfl, _, rfl, n, _, rfl, rfl, _, 1, rfl, rfl, _, rfl, _, rfl, k, _, rfl, rfl, _, 1, rfl, rfl, n - (S0.2.1 + (i : Int)) - 1, k - (t : Int) - 1, rfl, by omega, by omega, by omega, by omega, ?_⟩
        refine ⟨_, rfl, f, _, rfl, .inl (SqL.of hf), _, rfl, rfl, _, rfl, ifD (fun c => ?_) (fun c => ?_)⟩
        · have c := int_eq.mp c
          rw [hfl] at c
          refine ⟨_, rfl, _, rfl, S.2.2, _, rfl, rfl, _, rfl, ifD (fun c' => ?_) (fun c' => ?_)⟩
          · have e : lmStep n k t S (S0.2.1 + (i : Int)) = (S.1 ++ [S0.2.1 + (i : Int)], S0.2.1 + (i : Int) + 1, S.2.2) := by unfold lmStep; rw [if_pos c, if_pos c']
            rw [e] at ok' eS'
            refine ⟨.ref f, rfl, .inl ⟨rfl, _, SqL.of hf⟩, _, rfl, f, _, _, rfl, rfl, hf, by rw [hfl]; exact small1000 (by have := ok.len; omega), ?_⟩
            refine ⟨_, rfl, S0.2.1 + (i : Int), 1, rfl, rfl, (S.1 ++ [S0.2.1 + (i : Int)], S0.2.1 + (i : Int) + 1, S.2.2), _, _, rfl, same_wr sm nf, ?_, ok', eS'.symm⟩
            rw [upd_same, List.map_append]
            rfl
          · have e : lmStep n k t S (S0.2.1 + (i : Int)) = (S.1, S.2.1, S.2.2 - ch (n - (S0.2.1 + (i : Int)) - 1) (k - (t : Int) - 1)) := by unfold lmStep; rw [if_pos c, if_neg c']
            rw [e] at ok' eS'
            exact ⟨_, rfl, _, rfl, S.2.2, _, rfl, rfl, (S.1, S.2.1, S.2.2 - ch (n - (S0.2.1 + (i : Int)) - 1) (k - (t : Int) - 1)), _, _, rfl, sm, hf, ok', eS'.symm⟩
        · have c : ¬ (S.1.length : Int) = (t : Int) := fun z => c (int_eq.mpr (by rw [hfl]; exact z))
          have e : lmStep n k t S (S0.2.1 + (i : Int)) = S := by unfold lmStep; rw [if_neg c]
          rw [e] at ok' eS'
          exact ⟨S, _, _, rfl, sm, hf, ok', eS'.symm⟩
      · rintro σ H2 ⟨S, y6, y7, rfl, sm, hf, ok, eS⟩
        refine ⟨S, _, _, _, rfl, sm, hf, ok, ?_⟩
        rw [eS, eS0]
        rfl
    · rintro σ H1 ⟨S, y5, y6, y7, rfl, sm, hf, ok, eS⟩
      refine ⟨_, rfl, qq _ f sm nf ?_⟩
      rw [hf, eS]
      rfl
end
end K8
set_option Elab.async false
set_option linter.all false
set_option maxRecDepth 100000
set_option maxHeartbeats 4000000
/-! Comparing data; the keys of a dict as a set; sorted ints without gaps. -/
namespace K8
open PySem PySem.Spec PyProof.Rows L2
open K8R
/-! ### ints and rows of ints as data -/
theorem dpAll_ints {K : PySem.W.Frag} {H : Hp} : ∀ ns : List Int, DpAll K H (ns.map V.int) (ns.map PyData.int)
  | [] => .nil
  | n :: ns => .cons (.int n) (dpAll_ints ns)
theorem lay_ints : ∀ ns : List Int, PyData.canLayAll0 (ns.map PyData.int) = true
  | [] => by simp [PyData.canLayAll0]
  | n :: ns => by simp [PyData.canLayAll0, PyData.canLay0, lay_ints ns]
theorem dep_ints : ∀ ns : List Int, PyData.depthAll (ns.map PyData.int) ≤ 1
  | [] => by simp [PyData.depthAll]
  | n :: ns => by
    have h := dep_ints ns
    simp only [List.map_cons, PyData.depthAll, PyData.depth]
    omega
theorem eqv_ints : ∀ ns ms : List Int, PyData.eqvAll (ns.map PyData.int) (ms.map PyData.int) = decide (ns = ms)
  | [], [] => by simp [PyData.eqvAll]
  | [], _ :: _ => by simp [PyData.eqvAll]
  | _ :: _, [] => by simp [PyData.eqvAll]
  | n :: ns, m :: ms => by
    rw [List.map_cons, List.map_cons, PyData.eqvAll, eqv_ints ns ms, PyData.eqv, Bool.eq_iff_iff]
    simp
theorem shaped_ints (ns : List Int) : SeqAt.shaped (.list (ns.map PyData.int)) = true := by
  have h := dep_ints ns
  have h2 : PyData.depth (.list (ns.map PyData.int)) ≤ 64 := by simp only [PyData.depth]; omega
  show (PyData.canLay0 (.list (ns.map PyData.int)) && decide (PyData.depth (.list (ns.map PyData.int)) ≤ 64)) = true
  rw [Bool.and_eq_true]
  exact ⟨by simp only [PyData.canLay0]; exact lay_ints ns, decide_eq_true h2⟩
theorem eqI {K : PySem.W.Frag} {H : Hp} {a b : Addr} {ns ms : List Int} {Q : VK} (h1 : SqL K H a (ns.map V.int)) (h2 : SqL K H b (ms.map V.int)) (q : Q (.bl (decide (ns = ms))) H) : rEqD K (.ref a) (.ref b) H Q :=
  ⟨_, _, .lst h1 (dpAll_ints ns), .lst h2 (dpAll_ints ms), shaped_ints ns, shaped_ints ms, by
    have e : PyData.eqv (.list (ns.map PyData.int)) (.list (ms.map PyData.int)) = decide (ns = ms) := by rw [PyData.eqv]; exact eqv_ints ns ms
    rw [e]; exact q⟩
theorem neI {K : PySem.W.Frag} {H : Hp} {a b : Addr} {ns ms : List Int} {Q : VK} (h1 : SqL K H a (ns.map V.int)) (h2 : SqL K H b (ms.map V.int)) (q : Q (.bl (!decide (ns = ms))) H) : rNeD K (.ref a) (.ref b) H Q :=
  ⟨_, _, .lst h1 (dpAll_ints ns), .lst h2 (dpAll_ints ms), shaped_ints ns, shaped_ints ms, by
    have e : PyData.eqv (.list (ns.map PyData.int)) (.list (ms.map PyData.int)) = decide (ns = ms) := by rw [PyData.eqv]; exact eqv_ints ns ms
    rw [e]; exact q⟩
/-- a tuple of tuples of ints as data -/
def rowsD (rows : List (List Int)) : PyData := .tuple (rows.map fun r => .tuple (r.map PyData.int))
theorem dp_rows {K : PySem.W.Frag} {H : Hp} : ∀ (as : List Addr) (rows : List (List Int)), as.length = rows.length → (∀ (i : Nat) b, as[i]? = some b → H b = some (.tup ((rowOf rows i).map V.int))) → DpAll K H (as.map V.ref) (rows.map fun r => .tuple (r.map PyData.int))
  | [], [], _, _ => .nil
  | [], _ :: _, h, _ => by cases h
  | _ :: _, [], h, _ => by cases h
  | a :: as, r :: rows, h, hr => .cons (.tup (SqT.of (hr 0 a rfl)) (dpAll_ints r)) (dp_rows as rows (Nat.succ.inj h) fun i b e => hr (i + 1) b e)
theorem lay_rows : ∀ rows : List (List Int), PyData.canLayAll0 (rows.map fun r => .tuple (r.map PyData.int)) = true
  | [] => by simp [PyData.canLayAll0]
  | r :: rows => by simp [PyData.canLayAll0, PyData.canLay0, lay_ints r, lay_rows rows]
theorem dep_rows : ∀ rows : List (List Int), PyData.depthAll (rows.map fun r => .tuple (r.map PyData.int)) ≤ 2
  | [] => by simp [PyData.depthAll]
  | r :: rows => by
    have h := dep_rows rows
    have h2 := dep_ints r
    simp only [List.map_cons, PyData.depthAll, PyData.depth]
    omega
theorem shaped_rows (rows : List (List Int)) : SeqAt.shaped (rowsD rows) = true := by
  have h := dep_rows rows
  have h2 : PyData.depth (rowsD rows) ≤ 64 := by unfold rowsD; simp only [PyData.depth]; omega
  show (PyData.canLay0 (rowsD rows) && decide (PyData.depth (rowsD rows) ≤ 64)) = true
  rw [Bool.and_eq_true]
  exact ⟨by unfold rowsD; simp only [PyData.canLay0]; exact lay_rows rows, decide_eq_true h2⟩
theorem neRows {K : PySem.W.Frag} {H : Hp} {a b : Addr} {rows : List (List Int)} {Q : VK} (h1 : IsRows H a rows) (h2 : IsRows H b rows) (q : Q (.bl false) H) : rNeD K (.ref a) (.ref b) H Q := by
  obtain ⟨as, a1, a2, a3⟩ := h1
  obtain ⟨bs, b1, b2, b3⟩ := h2
  refine ⟨rowsD rows, rowsD rows, .tup (SqT.of a1) (dp_rows as rows a2 a3), .tup (SqT.of b1) (dp_rows bs rows b2 b3), shaped_rows rows, shaped_rows rows, ?_⟩
  rw [SeqAt.eqv_refl _ (SeqAt.canLay_of_shaped (shaped_rows rows))]
  exact q
/-! ### rules for calls within a block, the text's K said -/
def rTupOf (K : PySem.W.Frag) : List V → Hp → VK → Prop := fun xs H Q => ∃ p ys, xs = [.ref p] ∧ ((SqL K H p ys ∧ ∀ l, H l = none → Q (.ref l) (upd H l (.tup ys))) ∨ (SqT K H p ys ∧ Q (.ref p) H))
theorem cr_tupK {X : Cx} {K : PySem.W.Frag} (h : X.K = K) : CallR X (.type "tuple") (rTupOf K) := by
  subst h
  exact call_tuple_of
theorem ix_tupK {X : Cx} {K : PySem.W.Frag} (h : X.K = K) : IxR X (rIxT K) := by
  subst h
  exact ix_tup
theorem ix_listK {X : Cx} {K : PySem.W.Frag} (h : X.K = K) : IxR X (rIxL K) := by
  subst h
  exact ix_list
def rLenOf (K : PySem.W.Frag) : List V → Hp → VK → Prop := fun xs H Q => ∃ p ys, xs = [.ref p] ∧ (SqL K H p ys ∨ SqT K H p ys) ∧ Q (.int ys.length) H
theorem cr_lenK {X : Cx} {K : PySem.W.Frag} (h : X.K = K) : CallR X (.builtin "len") (rLenOf K) := by
  subst h
  exact call_len_seq
theorem op_inK {X : Cx} {K : PySem.W.Frag} (h : X.K = K) : OpR X (compareOp .In) (rIn K false) := by
  subst h
  exact op_in_seq
theorem op_notInK {X : Cx} {K : PySem.W.Frag} (h : X.K = K) : OpR X (compareOp .NotIn) (rIn K true) := by
  subst h
  exact op_notIn_seq
theorem ifY {c A B : Prop} [Decidable c] (h : c) (a : A) : if decide c = true then A else B := by
  rw [decide_eq_true h, if_pos rfl]; exact a
theorem ifX {c A B : Prop} [Decidable c] (h : ¬ c) (b : B) : if decide c = true then A else B := by
  rw [decide_eq_false h, if_neg Bool.false_ne_true]; exact b
theorem row_at {rows : List (List Int)} {x y : Nat} {v : V} (h : ((rowOf rows x).map V.int)[y]? = some v) : v = .int (at2 rows x y) := by
  rw [List.getElem?_map] at h
  cases e : (rowOf rows x)[y]? with
  | none => rw [e] at h; cases h
  | some z =>
    rw [e] at h
    rw [← Option.some.inj h]
    show V.int z = V.int ((rowOf rows x).getD y 0)
    rw [List.getD_eq_getElem?_getD, e]
    rfl
theorem row_some {rows : List (List Int)} {x y : Nat} (h : y < (rowOf rows x).length) : ((rowOf rows x).map V.int)[y]? = some (.int (at2 rows x y)) := by
  rw [List.getElem?_map, List.getElem?_eq_getElem h]
  show some (V.int _) = some (V.int ((rowOf rows x).getD y 0))
  rw [List.getD_eq_getElem?_getD, List.getElem?_eq_getElem h]
  rfl
theorem row_getI {rows : List (List Int)} {x y : Nat} (h : y < (rowOf rows x).length) : (rowOf rows x)[y]? = some (at2 rows x y) := by
  show _ = some ((rowOf rows x).getD y 0)
  rw [List.getD_eq_getElem?_getD, List.getElem?_eq_getElem h]
  rfl
theorem ref_at {as : List Addr} {i : Nat} {v : V} (h : (as.map V.ref)[i]? = some v) : ∃ b, as[i]? = some b ∧ v = .ref b := by
  rw [List.getElem?_map] at h
  cases e : as[i]? with
  | none => rw [e] at h; cases h
  | some b => rw [e] at h; exact ⟨b, rfl, (Option.some.inj h).symm⟩
theorem ref_get {as : List Addr} {i : Nat} (h : i < as.length) : (as.map V.ref)[i]? = some (.ref as[i]) := by
  rw [List.getElem?_map, List.getElem?_eq_getElem h]
  rfl
theorem all_rep (n : Nat) : (List.replicate n true).all id = true := by
  rw [List.all_eq_true]
  intro x hx
  exact (List.mem_replicate.mp hx).2
theorem yes_lc {σ : L2.St} {H : Hp} {A B : Hp → Prop} (h : A H) : tYes σ H (fun b H3 => if b = true then A H3 else B H3) := by
  show if true = true then A H else B H
  rw [if_pos rfl]
  exact h
/-! ### keys as a set -/
theorem keys_put_mem {κ : Type} [DecidableEq κ] {kvs : List (κ × V)} {k k' : κ} {v : V} : k' ∈ (putK kvs k v).map (·.1) ↔ k' ∈ kvs.map (·.1) ∨ k' = k := by
  by_cases a : (kvs.any fun kv => decide (kv.1 = k)) = true
  · rw [keys_putK_old a]
    refine ⟨.inl, fun z => z.elim id fun e => ?_⟩
    obtain ⟨p, hp, e2⟩ := List.any_eq_true.mp a
    rw [e]
    exact List.mem_map.mpr ⟨p, hp, of_decide_eq_true e2⟩
  · unfold putK
    rw [if_neg a, List.map_append, List.mem_append]
    exact ⟨fun z => z.elim .inl fun h => .inr (List.mem_singleton.mp h), fun z => z.elim .inl fun h => .inr (List.mem_singleton.mpr h)⟩
structure IsSet (S : Int → Prop) (kvs : List (Key × V)) : Prop where
  nd : (kvs.map (·.1)).Nodup
  int : ∀ k ∈ kvs.map (·.1), ∃ i : Int, k = .inl i
  mem : ∀ i : Int, (.inl i) ∈ kvs.map (·.1) ↔ S i
theorem isSet_nil : IsSet (fun _ => False) [] := ⟨List.nodup_nil, fun k h => (nomatch h), fun i => ⟨fun h => (nomatch h), fun h => h.elim⟩⟩
theorem IsSet.put {S : Int → Prop} {kvs : List (Key × V)} (h : IsSet S kvs) (i : Int) (v : V) : IsSet (fun j => S j ∨ j = i) (putK kvs (.inl i) v) := by
  refine ⟨nd_put h.nd, fun k hk => ?_, fun j => ?_⟩
  · rcases keys_put_mem.mp hk with q | q
    · exact h.int k q
    · exact ⟨i, q⟩
  · rw [keys_put_mem, h.mem j]
    exact ⟨fun z => z.imp id fun e => Sum.inl.inj e, fun z => z.imp id fun e => by rw [e]⟩
theorem IsSet.congr {S S' : Int → Prop} {kvs : List (Key × V)} (h : IsSet S kvs) (e : ∀ i, S i ↔ S' i) : IsSet S' kvs := ⟨h.nd, h.int, fun i => (h.mem i).trans (e i)⟩
theorem IsSet.ints {S : Int → Prop} {kvs : List (Key × V)} (h : IsSet S kvs) : ∃ ks : List Int, kvs.map (·.1) = ks.map Sum.inl ∧ ks.Nodup ∧ ∀ i, i ∈ ks ↔ S i := by
  have g : ∀ l : List Key, (∀ k ∈ l, ∃ i : Int, k = .inl i) → ∃ ks : List Int, l = ks.map Sum.inl := by
    intro l
    induction l with
    | nil => exact fun _ => ⟨[], rfl⟩
    | cons k l ih =>
      intro hl
      obtain ⟨i, rfl⟩ := hl k List.mem_cons_self
      obtain ⟨ks, rfl⟩ := ih fun k hk => hl k (List.mem_cons_of_mem _ hk)
      exact ⟨i :: ks, rfl⟩
  obtain ⟨ks, e⟩ := g _ h.int
  have nd := h.nd
  rw [e] at nd
  refine ⟨ks, e, List.Pairwise.of_map _ (fun a b hab e => hab (by rw [e])) nd, fun i => ?_⟩
  rw [← h.mem i, e]
  exact ⟨fun z => List.mem_map.mpr ⟨i, z, rfl⟩, fun z => by
    obtain ⟨j, hj, e⟩ := List.mem_map.mp z
    rw [← Sum.inl.inj e]
    exact hj⟩
theorem IsSet.kV {kvs : List (Key × V)} {ks : List Int} (h : kvs.map (·.1) = ks.map Sum.inl) : (kvs.map fun kv => kV kv.1) = ks.map V.int := by
  have e := congrArg (List.map L2.kV) h
  rw [List.map_map, List.map_map] at e
  exact e
/-- sorted, no one twice, all from 0 to below m -/
theorem sorted_range {m : Nat} {ns : List Int} (h1 : ns.Pairwise (· ≤ ·)) (h2 : ns.Nodup) (h3 : ∀ i, i ∈ ns ↔ 0 ≤ i ∧ i < m) : ns = (List.range m).map fun j : Nat => (j : Int) := by
  have n2 : ((List.range m).map fun j : Nat => (j : Int)).Nodup := List.Pairwise.map _ (fun a b hab e => hab (by omega)) List.nodup_range
  have p : ns.Perm ((List.range m).map fun j : Nat => (j : Int)) := (List.perm_ext_iff_of_nodup h2 n2).mpr fun i => by
    rw [h3 i, List.mem_map]
    exact ⟨fun ⟨a, b⟩ => ⟨i.toNat, List.mem_range.mpr (by omega), by omega⟩, fun ⟨j, hj, e⟩ => by have := List.mem_range.mp hj; omega⟩
  have s2 : ((List.range m).map fun j : Nat => (j : Int)).Pairwise (· ≤ ·) := List.Pairwise.map _ (fun a b hab => by omega) (List.pairwise_lt_range (n := m))
  exact p.eq_of_pairwise (fun a b _ _ x y => by omega) h1 s2
theorem rgV_nat (n : Nat) : rgV 0 (n : Int) = ((List.range n).map fun j : Nat => (j : Int)).map V.int := by
  unfold rgV
  have e : ((n : Int) - 0).toNat = n := by omega
  rw [e, List.map_map]
  refine List.map_congr_left fun j _ => ?_
  show V.int (0 + (j : Int)) = V.int (j : Int)
  rw [Int.zero_add]
end K8
set_option Elab.async false
set_option linter.all false
set_option maxRecDepth 100000
set_option maxHeartbeats 4000000
namespace K8
open PySem PySem.Spec PyProof.Rows L2
open C8 (Cal pe_c)
open K8R
abbrev nCheckedRows : List Str := ["rows", "count", "kept", "kind", "kinds", "ways", "x", "y", "told", "row"]
theorem scCheckedRows : FnScope nCheckedRows ["rows"] (defScope sCheckedRows) := ⟨rfl, rfl, rfl, by decide +kernel, rfl, by decide +kernel, by decide +kernel⟩
abbrev gCheckedRows0 : Scope := { kind := .function, names := [(".0", .local), ("row", .local), ("len", .globalImplicit), ("count", .free)], isGenerator := false, isCoroutine := false }
abbrev gCheckedRows1 : Scope := { kind := .function, names := [(".0", .local), ("row", .local), ("tuple", .globalImplicit)], isGenerator := false, isCoroutine := false }
abbrev gCheckedRows2 : Scope := { kind := .function, names := [(".0", .local), ("row", .local), ("kind", .local)], isGenerator := false, isCoroutine := false }
section
variable {P : Program} {w : World} {K : PySem.W.Frag} {mg : Str → Option Value} {base : Heap}
def spRows : Sp := fun vs H Q _ => ∃ (a : Addr) (rows : List (List Int)) (m : Int), vs = [.ref a] ∧ IsRows H a rows ∧ GoodR rows m ∧ ∀ H' p, Same H H' → H p = none → IsRows H' p rows → Q (.ref p) H'
/-- the dict of counts by kinds -/
def WaysOk (rows : List (List Int)) (H : Hp) (kvs : List (Key × V)) : Prop := ∀ (v : Int) (u : V), valV kvs (.inl v) = some u → ∃ (x y : Nat) (d : Addr) (k2 : List (List Key × V)), x < rows.length ∧ y < rows.length ∧ at2 rows x y = v ∧ u = .ref d ∧ H d = some (.dT k2) ∧ IsCnt (ctz (rowOf rows x) (rowOf rows y) rows.length) k2
theorem waysOk_nil {rows : List (List Int)} {H : Hp} : WaysOk rows H [] := fun v u h => nomatch h
theorem WaysOk.mono {rows : List (List Int)} {H H' : Hp} {kvs : List (Key × V)} (s : Same H H') (h : WaysOk rows H kvs) : WaysOk rows H' kvs := fun v u e => by
  obtain ⟨x, y, d, k2, h1, h2, h3, h4, h5, h6⟩ := h v u e
  exact ⟨x, y, d, k2, h1, h2, h3, h4, s _ _ h5, h6⟩
theorem WaysOk.put {rows : List (List Int)} {H : Hp} {kvs : List (Key × V)} {f d : Addr} {x y : Nat} {k2 : List (List Key × V)} {o : List (Key × V)} (h : WaysOk rows H kvs) (hf : H f = some (.dK o)) (hx : x < rows.length) (hy : y < rows.length) (hd : H d = some (.dT k2))
    (hc : IsCnt (ctz (rowOf rows x) (rowOf rows y) rows.length) k2) {q : HO} : WaysOk rows (upd H f q) (putK kvs (.inl (at2 rows x y)) (.ref d)) := fun v u e => by
  have nt : ∀ {d' : Addr} {k3 : List (List Key × V)}, H d' = some (.dT k3) → upd H f q d' = some (.dT k3) := fun {d' k3} z => by
    rw [upd_ne fun e => by rw [e, hf] at z; cases z]
    exact z
  rw [valV_put] at e
  by_cases ev : v = at2 rows x y
  · rw [if_pos (by rw [ev])] at e
    exact ⟨x, y, d, k2, hx, hy, ev.symm, (Option.some.inj e).symm, nt hd, hc⟩
  · rw [if_neg fun z => ev (Sum.inl.inj z)] at e
    obtain ⟨x', y', d', k3, h1, h2, h3, h4, h5, h6⟩ := h v u e
    exact ⟨x', y', d', k3, h1, h2, h3, h4, nt h5, h6⟩
theorem ok_rows (T : T8 w K mg) : Cal P w K mg base 2 "checked_rows" spRows [] := by
  obtain ⟨fd, F⟩ := T.d.defs (d := dCheckedRows) (by simp [fnL])
  have c_req : Cal P w K mg base 1 "require" spRequire [] := ok_require T
  have c_ways : Cal P w K mg base 1 "ways_of" spWays [] := ok_ways T
  have gL := T.int "MOST_LISTED" 24 (by simp [faL, faL0, faL1])
  have gK := T.int "MOST_LISTED_KINDS" 8 (by simp [faL, faL0, faL1])
  refine calN F (T.glo "checked_rows" (by simp [faL, faL0, faL1])) scCheckedRows (fun _ _ _ _ _ _ us hl => match us, hl with | [_], _ => rfl) (fun vs H Q E h => ?_) (fun cdv A outer s H vs Q E hr h => ?_)
  · obtain ⟨a, rows, m, rfl, _⟩ := h; rfl
  · obtain ⟨a, rows, m, rfl, hR, g, qq⟩ := h
    refine ⟨_, (pss_cons (ps_set (i := 1) scCheckedRows.nd rfl (Or.inr rfl) (pe_callB call_len_seq rfl T.len PySem.boot_len (pa_cons (pv 0) pa_nil)))
      (pss_cons (ps_expr (pe_c c_req hr (by first | decide | omega) rfl (pa_cons (pe_and (pe_chain op_le op_le pe_int (pv 1) (C8.pe_gc rfl gL)) (pe_one (pe_callB (cr_all rfl) rfl T.all (by decide +kernel) (pa_cons (pe_lc (own := [("row", 9)]) (g := (gName 9)) (tt := tYes) rfl scCheckedRows.nd (pi_tup (pv 0)) (blkOk_by (N := nCheckedRows) (sc := (defScope sCheckedRows)) (scope := gCheckedRows0) (by decide +kernel)) (fun _ _ _ _ _ => (pg_name (i := 9) scCheckedRows.nd rfl (Or.inl rfl))) (fun _ _ _ _ _ => pts_nil) (fun _ _ _ _ _ => (pe_cmpR op_eq (pe_callB (cr_lenK (K := K) rfl) rfl T.len PySem.boot_len (pa_cons (pv 9) pa_nil)) (pv 1) (nomark _)))) pa_nil)))) pa_nil)))
      (pss_cons (ps_set (i := 2) scCheckedRows.nd rfl (Or.inl rfl) (pe_callTy call_tuple_of rfl T.tuple (by decide +kernel) (pa_cons (pe_lc (own := [("row", 9)]) (g := (gName 9)) (tt := tYes) rfl scCheckedRows.nd (pi_tup (pv 0)) (blkOk_by (N := nCheckedRows) (sc := (defScope sCheckedRows)) (scope := gCheckedRows1) (by decide +kernel)) (fun _ _ _ _ _ => (pg_name (i := 9) scCheckedRows.nd rfl (Or.inl rfl))) (fun _ _ _ _ _ => pts_nil) (fun _ _ _ _ _ => (pe_callTy (cr_tupK (K := K) rfl) rfl T.tuple (by decide +kernel) (pa_cons (pv 9) pa_nil)))) pa_nil)))
      (pss_cons (ps_set (i := 4) scCheckedRows.nd rfl (Or.inl rfl) (pe_callB cr_sortedI rfl T.sorted (by decide +kernel) (pa_cons (pe_callTy (call_list_dK rfl) rfl T.list (by decide +kernel) (pa_cons (pe_dc2 (wi1 := iTup K (tVar 9)) (own := [("row", 9), ("kind", 3)]) (vs1 := [3]) rfl scCheckedRows.nd (pi_tup (pv 2)) (blkOk_by (N := nCheckedRows) (sc := (defScope sCheckedRows)) (scope := gCheckedRows2) (by decide +kernel)) (by decide) (fun _ _ _ _ _ => (pg_name (i := 9) scCheckedRows.nd rfl (Or.inl rfl))) (fun _ _ _ _ _ => pi_tup (pv 9)) (fun _ _ _ _ _ => (pg_name (i := 3) scCheckedRows.nd rfl (Or.inl rfl))) (fun _ _ _ _ _ => (pv 3)) (fun _ _ _ _ _ => pe_bl)) pa_nil)) pa_nil)))
      (pss_cons (ps_expr (pe_c c_req hr (by first | decide | omega) rfl (pa_cons (pe_and (pe_cmpR (op_eqD hr.units) (pv 4) (pe_listRg rfl rfl T.list (prg_1 rfl T.range (pe_callB call_len_seq rfl T.len PySem.boot_len (pa_cons (pv 4) pa_nil)))) (nomark _)) (pe_one (pe_cmpR op_le (pe_callB call_len_seq rfl T.len PySem.boot_len (pa_cons (pv 4) pa_nil)) (C8.pe_gc rfl gK) (nomark _)))) pa_nil)))
      (pss_cons (ps_set (i := 5) scCheckedRows.nd rfl (Or.inl rfl) pe_dnewK)
      (pss_cons (ps_for PassesOwn.never rfl (pi_range1 rfl T.range (pa_cons (pv 1) pa_nil)) (pg_name (i := 6) scCheckedRows.nd rfl (Or.inl rfl)) (pss_one (ps_for PassesOwn.never rfl (pi_range1 rfl T.range (pa_cons (pv 1) pa_nil)) (pg_name (i := 7) scCheckedRows.nd rfl (Or.inl rfl)) (pss_cons (ps_set (i := 3) scCheckedRows.nd rfl (Or.inl rfl) (pe_ix ix_tup (pe_ix ix_tup (pv 2) (pv 6) (fun _ _ => rfl)) (pv 7) (fun _ _ => rfl)))
      (pss_cons (ps_expr (pe_c c_req hr (by first | decide | omega) rfl (pa_cons (pe_and (pe_cmpR op_eq (pe_cmpR op_eq (pv 3) pe_int (nomark _)) (pe_cmpR op_eq (pv 6) (pv 7) (nomark _)) (nomark _)) (pe_one (pe_cmpR op_eq (pv 3) (pe_ix ix_tup (pe_ix ix_tup (pv 2) (pv 7) (fun _ _ => rfl)) (pv 6) (fun _ _ => rfl)) (nomark _)))) pa_nil)))
      (pss_cons (ps_set (i := 8) scCheckedRows.nd rfl (Or.inl rfl) (pe_c c_ways hr (by first | decide | omega) rfl (pa_cons (pv 2) (pa_cons (pv 6) (pa_cons (pv 7) pa_nil)))))
      (pss_cons (ps_expr (pe_c c_req hr (by first | decide | omega) rfl (pa_cons (pe_cmpR (op_eqT (hu_of hr)) (pe_dget2 (hu_of hr) (pv 5) (pv 3) (pv 8) ⟨rfl, rfl, rfl, rfl⟩) (pv 8) (nomark _)) pa_nil)))
      (pss_one (ps_dput (hu_of hr) (pv 5) (pv 3) (pv 8) rfl)))))))))
      (pss_one (ps_ret (pv 2)))))))))), ?_⟩
    obtain ⟨as, hA, hAl, hAr⟩ := id hR
    have h1 := g.one
    have h24 := g.few
    have al : (as.map V.ref).length = rows.length := by rw [List.length_map, hAl]
    refine ⟨_, rfl, a, _, rfl, .inr (SqT.of hA), ?_⟩
    rw [al]
    refine ⟨_, rfl, _, _, rfl, rfl, _, rfl, ifY (by omega) ⟨_, _, rfl, rfl, _, rfl, ifY (by omega) ?_⟩⟩
    refine ⟨_, rfl, a, rfl, ⟨_, SqT.of hA⟩, fun D nD => lc_tup (K := K) (xs := as.map V.ref) (fun i H' => Same H H' ∧ H' D = some (.lst ((List.replicate i true).map V.bl)) ∧ i ≤ rows.length) ⟨new_same nD, upd_same, Nat.zero_le _⟩ (fun i H' _ h => SqT.of (h.1 _ _ hA)) ?_ ?_⟩
    · rintro i x H' hx ⟨sm, hD, hi⟩
      obtain ⟨b, hb, rfl⟩ := ref_at hx
      have il : i < rows.length := by rw [← hAl]; exact (List.getElem?_eq_some_iff.mp hb).1
      have lb : ((rowOf rows i).map V.int).length = rows.length := by rw [List.length_map, g.sq i il]
      refine ⟨rfl, yes_lc ?_⟩
      refine ⟨_, rfl, b, _, rfl, .inr (SqT.of (sm _ _ (hAr i b hb))), _, rfl, rfl, ?_⟩
      refine ⟨_, hD, by rw [List.length_map, List.length_replicate]; exact small1000 (by omega), same_wr sm nD, ?_, il⟩
      rw [upd_same, List.replicate_succ', List.map_append, lb, decide_eq_true rfl]
      rfl
    rintro H1 ⟨s1, hD, _⟩
    rw [al] at hD
    refine ⟨D, _, rfl, SqL.of hD, ?_⟩
    refine ⟨by rw [all_rep]; rfl, ?_⟩
    have hA1 := s1 _ _ hA
    refine ⟨_, rfl, a, rfl, ⟨_, SqT.of hA1⟩, fun D2 nD2 => lc_tup (K := K) (xs := as.map V.ref) (fun i H' => Same H1 H' ∧ H' D2 = some (.lst ((as.take i).map V.ref)) ∧ i ≤ rows.length) ⟨new_same nD2, upd_same, Nat.zero_le _⟩ (fun i H' _ h => SqT.of (h.1 _ _ hA1)) ?_ ?_⟩
    · rintro i x H' hx ⟨sm, hD, hi⟩
      obtain ⟨b, hb, rfl⟩ := ref_at hx
      have il : i < as.length := (List.getElem?_eq_some_iff.mp hb).1
      refine ⟨rfl, yes_lc ?_⟩
      refine ⟨_, rfl, b, _, rfl, .inr ⟨SqT.of (sm _ _ (s1 _ _ (hAr i b hb))), ?_⟩⟩
      refine ⟨_, hD, by rw [List.length_map, List.length_take]; exact small1000 (by omega), same_wr sm nD2, ?_, by omega⟩
      rw [upd_same, List.take_add_one, hb, List.map_append]
      rfl
    rintro H2 ⟨s2, hD2, _⟩
    rw [List.length_map, List.take_length] at hD2
    refine ⟨D2, _, rfl, .inl ⟨SqL.of hD2, fun p np => ?_⟩⟩
    have s02 : Same H (upd H2 p (.tup (as.map V.ref))) := (s1.trans s2).trans (new_same np)
    have np0 : H p = none := (s1.trans s2).free np
    generalize hH3 : upd H2 p (.tup (as.map V.ref)) = H3 at s02 ⊢
    have hp : H3 p = some (.tup (as.map V.ref)) := by rw [← hH3]; exact upd_same
    have hr3 : ∀ (i : Nat) b, as[i]? = some b → H3 b = some (.tup ((rowOf rows i).map V.int)) := fun i b e => s02 _ _ (hAr i b e)
    have hP : IsRows H3 p rows := ⟨as, hp, hAl, hr3⟩
    refine ⟨_, rfl, p, rfl, ⟨_, SqT.of hp⟩, fun D3 nD3 => ?_⟩
    refine ⟨fun i k H' => i ≤ rows.length ∧ k = rows.length - i ∧ Same H3 H' ∧ ∃ kvs, H' D3 = some (.dK kvs) ∧ kvs.length ≤ 24 * i ∧ IsSet (fun v => ∃ x y, x < i ∧ y < rows.length ∧ at2 rows x y = v) kvs,
      ⟨_, Nat.zero_le _, rfl, new_same nD3, [], upd_same, Nat.le_refl _, isSet_nil.congr fun v => ⟨False.elim, fun ⟨x, y, q, _⟩ => (Nat.not_lt_zero _ q).elim⟩⟩, ?_⟩
    rintro i k H4 ⟨hi, rfl, s34, kvs, hk, hkl, hS⟩
    by_cases il : i < rows.length
    · have ila : i < as.length := by omega
      refine .inr ⟨⟨_, _, SqT.of (s34 _ _ hp), ref_get ila⟩, fun H' => i + 1 ≤ rows.length ∧ Same H3 H' ∧ ∃ kvs, H' D3 = some (.dK kvs) ∧ kvs.length ≤ 24 * (i + 1) ∧ IsSet (fun v => ∃ x y, x < i + 1 ∧ y < rows.length ∧ at2 rows x y = v) kvs, fun H' h => ⟨rows.length - (i + 1), by omega, h.1, rfl, h.2⟩, ?_⟩
      rintro x H5 ⟨e, hy⟩
      subst e
      have hx := hy _ (SqT.of (s34 _ _ hp))
      rw [ref_get ila] at hx
      have hx := (Option.some.inj hx).symm
      subst hx
      have hb := hr3 i as[i] (List.getElem?_eq_getElem ila)
      have lr : (rowOf rows i).length = rows.length := g.sq i il
      refine ⟨rfl, _, rfl, as[i], rfl, ⟨_, SqT.of (s34 _ _ hb)⟩, ?_⟩
      refine ⟨fun j k H' => j ≤ rows.length ∧ k = rows.length - j ∧ Same H3 H' ∧ ∃ kvs, H' D3 = some (.dK kvs) ∧ kvs.length ≤ 24 * i + j ∧ IsSet (fun v => (∃ x y, x < i ∧ y < rows.length ∧ at2 rows x y = v) ∨ ∃ y, y < j ∧ at2 rows i y = v) kvs,
        ⟨_, Nat.zero_le _, rfl, s34, kvs, hk, hkl, hS.congr fun v => ⟨.inl, fun z => z.elim id fun ⟨y, q, _⟩ => (Nat.not_lt_zero _ q).elim⟩⟩, ?_⟩
      rintro j k H6 ⟨hj, rfl, s36, kvs, hk, hkl, hS⟩
      by_cases jl : j < rows.length
      · refine .inr ⟨⟨_, _, SqT.of (s36 _ _ hb), row_some (by omega)⟩, fun H' => j + 1 ≤ rows.length ∧ Same H3 H' ∧ ∃ kvs, H' D3 = some (.dK kvs) ∧ kvs.length ≤ 24 * i + (j + 1) ∧ IsSet (fun v => (∃ x y, x < i ∧ y < rows.length ∧ at2 rows x y = v) ∨ ∃ y, y < j + 1 ∧ at2 rows i y = v) kvs, fun H' h => ⟨rows.length - (j + 1), by omega, h.1, rfl, h.2⟩, ?_⟩
        rintro x H7 ⟨e, hy⟩
        subst e
        have hx := row_at (hy _ (SqT.of (s36 _ _ hb)))
        subst hx
        refine ⟨rfl, _, rfl, kvs, .inl (at2 rows i j), rfl, hk, small1000 (by omega), jl, same_wr s36 nD3, _, upd_same, Nat.le_trans (length_putK _ _ _) (by omega), (hS.put (at2 rows i j) (.bl true)).congr fun v => ?_⟩
        constructor
        · rintro (z | rfl)
          · rcases z with z | ⟨y, q, e⟩
            · exact .inl z
            · exact .inr ⟨y, by omega, e⟩
          · exact .inr ⟨j, by omega, rfl⟩
        · rintro (z | ⟨y, q, e⟩)
          · exact .inl (.inl z)
          · by_cases ey : y = j
            · subst ey; exact .inr e.symm
            · exact .inl (.inr ⟨y, by omega, e⟩)
      · have ej : j = rows.length := by omega
        subst ej
        refine .inl ⟨⟨_, SqT.of (s36 _ _ hb), by rw [List.length_map]; omega⟩, il, s36, kvs, hk, by omega, hS.congr fun v => ?_⟩
        constructor
        · rintro (⟨x, y, q, q2, e⟩ | ⟨y, q, e⟩)
          · exact ⟨x, y, by omega, q2, e⟩
          · exact ⟨i, y, by omega, q, e⟩
        · rintro ⟨x, y, q, q2, e⟩
          by_cases ex : x = i
          · subst ex; exact .inr ⟨y, q2, e⟩
          · exact .inl ⟨x, y, by omega, q2, e⟩
    have ei : i = rows.length := by omega
    subst ei
    refine .inl ⟨⟨_, SqT.of (s34 _ _ hp), by rw [al]; omega⟩, ?_⟩
    obtain ⟨ks, k1, k2, k3⟩ := hS.ints
    refine ⟨D3, kvs, rfl, hk, fun q nq => ⟨q, ks, rfl, SqL.of (by rw [upd_same, IsSet.kV k1]), fun ns r pm pw nr => ?_⟩⟩
    have mp := g.mpos
    have e : ns = (List.range m.toNat).map fun j : Nat => (j : Int) := sorted_range pw (pm.nodup_iff.mpr k2) fun v => by
      rw [pm.mem_iff, k3 v]
      constructor
      · rintro ⟨x, y, q1, q2, rfl⟩
        have z := g.good.rng x y q1 q2
        omega
      · rintro ⟨z1, z2⟩
        obtain ⟨y, q1, q2⟩ := g.good.occ 0 (by omega) v z1 (by omega)
        exact ⟨0, y, by omega, q1, q2⟩
    subst e
    have s35 : Same H3 (upd (upd H4 q (.lst (kvs.map fun kv => kV kv.1))) r (.lst (((List.range m.toNat).map fun j : Nat => (j : Int)).map V.int))) := s34.trans ((new_same nq).trans (new_same nr))
    generalize hH5 : upd (upd H4 q (.lst (kvs.map fun kv => kV kv.1))) r (.lst (((List.range m.toNat).map fun j : Nat => (j : Int)).map V.int)) = H5 at s35 ⊢
    have hr5 : H5 r = some (.lst (((List.range m.toNat).map fun j : Nat => (j : Int)).map V.int)) := by rw [← hH5]; exact upd_same
    have rl : (((List.range m.toNat).map fun j : Nat => (j : Int)).map V.int).length = m.toNat := by rw [List.length_map, List.length_map, List.length_range]
    have m8 := g.m8
    refine ⟨_, rfl, _, rfl, r, _, rfl, .inl (SqL.of hr5), ?_⟩
    rw [rl]
    refine ⟨_, rfl, RgOk.of_le (by omega) (by omega) (by omega) (by omega), fun q2 nq2 => eqI (ms := (List.range m.toNat).map fun j : Nat => (j : Int)) (SqL.of (new_same nq2 _ _ hr5)) (SqL.of (by rw [upd_same, rgV_nat])) ⟨_, rfl, ifY rfl ?_⟩⟩
    refine ⟨_, rfl, r, _, rfl, .inl (SqL.of (new_same nq2 _ _ hr5)), ?_⟩
    rw [rl]
    refine ⟨_, _, rfl, rfl, by
      show [V.bl (decide ((m.toNat : Int) ≤ 8))] = [V.bl true]
      rw [decide_eq_true (by omega)], ?_⟩
    refine fun f nf => ?_
    have s36 : Same H3 (upd (upd H5 q2 (.lst (rgV 0 m.toNat))) f (.dK [])) := s35.trans ((new_same nq2).trans (new_same nf))
    have nf3 : H3 f = none := (s35.trans (new_same nq2)).free nf
    generalize hH6 : upd (upd H5 q2 (.lst (rgV 0 m.toNat))) f (.dK []) = H6 at s36 ⊢
    have hf6 : H6 f = some (.dK []) := by rw [← hH6]; exact upd_same
    refine ⟨_, rfl, _, rfl, by omega, by omega, for_range (fun i σ H' => ∃ y3 y6 y7 y8 y9, σ = [some (.ref a), some (.int rows.length), some (.ref p), y3, some (.ref r), some (.ref f), y6, y7, y8, y9] ∧ Same H3 H' ∧ ∃ kvs, H' f = some (.dK kvs) ∧ kvs.length ≤ 24 * i ∧ WaysOk rows H' kvs)
      ⟨none, none, none, none, none, rfl, s36, [], hf6, Nat.le_refl _, waysOk_nil⟩ ?_ ?_⟩
    · rintro i σ H7 hi ⟨y3, y6, y7, y8, y9, rfl, s37, kvs, hk, hkl, hW⟩
      have hi : i < rows.length := by omega
      rw [Int.zero_add]
      refine ⟨_, rfl, _, rfl, by omega, by omega, for_range (fun j σ H' => ∃ y3 y7 y8 y9, σ = [some (.ref a), some (.int rows.length), some (.ref p), y3, some (.ref r), some (.ref f), some (.int i), y7, y8, y9] ∧ Same H3 H' ∧ ∃ kvs, H' f = some (.dK kvs) ∧ kvs.length ≤ 24 * i + j ∧ WaysOk rows H' kvs)
        ⟨y3, y7, y8, y9, rfl, s37, kvs, hk, hkl, hW⟩ ?_ ?_⟩
      · rintro j σ H8 hj ⟨y3, y7, y8, y9, rfl, s38, kvs, hk, hkl, hW⟩
        have hj : j < rows.length := by omega
        rw [Int.zero_add]
        obtain ⟨bx, xs, u1, u2, u3⟩ := (hP.mono s38).at (K := K) hi
        obtain ⟨bY, ys, v1, v2, v3⟩ := (hP.mono s38).at (K := K) hj
        have lx : (rowOf rows i).length = rows.length := g.sq i hi
        have ly : (rowOf rows j).length = rows.length := g.sq j hj
        refine ⟨_, rfl, _, rfl, p, xs, _, _, rfl, rfl, u1, u2, _, rfl, bx, _, _, _, rfl, rfl, SqT.of u3, atI_nat (row_some (by omega)), ?_⟩
        refine ⟨_, rfl, rfl, _, rfl, _, rfl, rfl, rfl, _, rfl, ifY ?_ ?_⟩
        · have z := g.good.dia i j hi hj
          by_cases e : i = j
          · rw [decide_eq_true (int_eq.mpr (z.mpr e)), decide_eq_true (by rw [e])]
          · rw [decide_eq_false fun h => e (z.mp (int_eq.mp h)), decide_eq_false fun h => e (by have := int_eq.mp h; omega)]
        refine ⟨_, rfl, _, rfl, _, rfl, p, ys, _, _, rfl, rfl, v1, v2, _, rfl, bY, _, _, _, rfl, rfl, SqT.of v3, atI_nat (row_some (by omega)), rfl, ?_⟩
        refine ⟨by rw [g.good.sym i j hi hj, decide_eq_true rfl]; rfl, ?_⟩
        refine ⟨_, rfl, _, rfl, _, rfl, p, rows, i, j, rfl, hP.mono s38, hi, hj, h24, lx, ly, fun H9 d k2 s89 nd hd hc => ?_⟩
        have hk9 := s89 _ _ hk
        have hW9 := hW.mono s89
        refine ⟨_, rfl, f, rfl, .inl ⟨_, .inl hk9⟩, _, rfl, _, rfl, _, DGet.k (k := .inl (at2 rows i j)) hk9, _, rfl, ?_⟩
        have same : rEqT ((valV kvs (.inl (at2 rows i j))).getD (.ref d)) (.ref d) H9 (fun x H' => x = .bl true ∧ H' = H9) := by
          cases e : valV kvs (.inl (at2 rows i j)) with
          | none => exact ⟨d, d, k2, k2, rfl, rfl, hd, hd, hc.same hc fun _ _ => rfl, rfl, rfl⟩
          | some u =>
            obtain ⟨x', y', d', k3, w1, w2, w3, rfl, w4, w5⟩ := hW9 _ _ e
            refine ⟨d', d, k3, k2, rfl, rfl, w4, hd, w5.same hc fun c1 c2 => ?_, rfl, rfl⟩
            have gr : ∀ x', x' < rows.length → ∀ z, z < rows.length → (rowOf rows x')[z]? = some (at2 rows x' z) := fun x' q z q2 => row_getI (by rw [g.sq x' q]; exact q2)
            rw [ctz_cnt (f := at2 rows) (x := x') (y := y') c1 c2 rows.length (gr x' w1) (gr y' w2), ctz_cnt (f := at2 rows) (x := i) (y := j) c1 c2 rows.length (gr i hi) (gr j hj)]
            exact g.good.coh x' y' i j w1 w2 hi hj w3 c1 c2
        obtain ⟨c1, c2, c3, c4, c5, c6, c7, c8, c9, _⟩ := same
        refine ⟨c1, c2, c3, c4, c5, c6, c7, c8, c9, rfl, ?_⟩
        refine ⟨_, rfl, _, rfl, _, rfl, f, _, rfl, DPut.k (k := .inl (at2 rows i j)) hk9 (small1000 (by omega)), ?_⟩
        refine ⟨_, _, _, _, rfl, same_wr (s38.trans s89) nf3, _, upd_same, Nat.le_trans (length_putK _ _ _) (by omega), ?_⟩
        exact hW9.put hk9 hi hj hd hc
      · rintro σ H8 ⟨y3, y7, y8, y9, rfl, s38, kvs, hk, hkl, hW⟩
        exact ⟨_, _, _, _, _, rfl, s38, kvs, hk, by omega, hW⟩
    · rintro σ H7 ⟨y3, y6, y7, y8, y9, rfl, s37, kvs, hk, hkl, hW⟩
      exact ⟨_, rfl, qq _ p (s02.trans s37) np0 (hP.mono s37)⟩
end
end K8
set_option Elab.async false
set_option linter.all false
set_option maxRecDepth 100000
set_option maxHeartbeats 4000000
namespace K8
open PySem PySem.Spec PyProof.Rows L2
open C8 (Cal pe_c)
open K8R
abbrev nCheckedPart : List Str := ["tree", "depth", "one", "parts", "points", "kinds", "other", "more", "many", "sorts", "rows", "_", "n", "k"]
theorem scCheckedPart : FnScope nCheckedPart ["tree", "depth"] (defScope sCheckedPart) := ⟨rfl, rfl, rfl, by decide +kernel, rfl, by decide +kernel, by decide +kernel⟩
/-- how many follow the name in a tree -/
def argN : Tr → Int
  | .listed _ _ => 1
  | _ => 2
theorem strX {a b : Str} (h : decide (a = b) = false) : ¬ V.str a = V.str b := fun e => of_decide_eq_false h (V.str.inj e)
section
variable {P : Program} {w : World} {K : PySem.W.Frag} {mg : Str → Option Value} {base : Heap}
theorem T8.members (T : T8 w K mg) (t : Tr) : ∃ u, PySem.W.nsIn K (He.ga K "MEMBERS") (sortOf t) = some (some u) ∧ RelV (.int (argN t + 1)) u := by
  have h := T.ex
  unfold exB at h
  have h := (Bool.and_eq_true_iff.mp h).1
  cases t with
  | words n q => exact He.valsB_ok h (q := ("words", .int 3)) (by simp)
  | sets n k => exact He.valsB_ok h (q := ("sets", .int 3)) (by simp)
  | listed r m => exact He.valsB_ok h (q := ("listed", .int 2)) (by simp)
  | prod s t => exact He.valsB_ok h (q := ("product", .int 3)) (by simp)
theorem IsTr.tup2 {H : Hp} {t : Tr} {a : Addr} (h : IsTr H t a) : ∃ xs, H a = some (.tup (.str (sortOf t) :: xs)) ∧ (xs.length : Int) = argN t := by
  obtain ⟨xs, h1, h2⟩ := h.tup
  refine ⟨xs, h1, ?_⟩
  rw [h2]
  cases t <;> rfl
theorem at0 {x : V} {xs : List V} : atI (x :: xs) 0 = some x := atI_nat (j := 0) rfl
theorem at1 {x y : V} {xs : List V} : atI (x :: y :: xs) 1 = some y := atI_nat (j := 1) rfl
theorem at2v {x y z : V} {xs : List V} : atI (x :: y :: z :: xs) 2 = some z := atI_nat (j := 2) rfl
def spPart (d : Nat) : Sp := fun vs H Q _ => ∃ (a : Addr) (t : Tr) (dep : Int), vs = [.ref a, .int dep] ∧ IsTr H t a ∧ TrOk t ∧ hgt t ≤ d ∧ 1 ≤ dep ∧ dep + hgt t ≤ 9 ∧
  ∀ H' p b, Same H H' → H' p = some (.tup [.ref b, .int (prt t), .int (pts t), .int (knd t)]) → IsTr H' t b → Q (.ref p) H'
theorem fn_part (T : T8 w K mg) {fd : FuncData} (F : FunD K dCheckedPart.name dCheckedPart.qual dCheckedPart.params dCheckedPart.body dCheckedPart.scope [.int 1] [] (He.ga K "checked_part") fd) :
    ∀ d : Nat, FnOk P w K mg base CX0 (d + 3) (He.ga K "checked_part") fd ["tree", "depth"] (spPart d)
  | 0 => ⟨fun vs H Q E h => by
      obtain ⟨a, t, dep, rfl, _⟩ := h; rfl, fun A outer s H args us vs Q E _ _ _ _ h => by
      obtain ⟨a, t, dep, _, _, _, z, _⟩ := h
      cases t <;> simp [hgt] at z⟩
  | d + 1 => by
    have ih := fn_part T F d
    obtain ⟨es, nM, kd⟩ := T.kd
    have c_req : Cal P w K mg base 1 "require" spRequire [] := ok_require T
    have c_rows : Cal P w K mg base 2 "checked_rows" spRows [] := ok_rows T
    have c_choose : Cal P w K mg base 1 "choose" spChoose [] := ok_choose T
    have c_power : Cal P w K mg base 1 "power_of" spPower [] := ok_power T
    have c_part : Cal P w K mg base (d + 3) "checked_part" (spPart d) [] := by
      obtain ⟨ds, v, b⟩ := FunD.binds1 (ps := ["tree", "depth"]) F 2 1 (by simp) rfl (fun T kV doc pm an cdv ct us its h1 h2 => by
        match us, its, h1, h2 with
        | [_, _], [_], _, _ => exact ⟨_, rfl, rfl⟩)
      cases v
      exact ⟨_, fd, _, [], ih, T.glo "checked_part" (by simp [faL, faL0, faL1]), F.kp, b, .nil⟩
    have gM := T.glo "MEMBERS" (by simp [faL, faL0, faL1])
    have g1 := T.int "MOST_PARTS" 8 (by simp [faL, faL0, faL1])
    have g2 := T.int "MOST_POINTS" (10 ^ 60) (by simp [faL, faL0, faL1])
    have g3 := T.int "MOST_KINDS" 60 (by simp [faL, faL0, faL1])
    have g4 := T.int "MOST_LENGTH" 40 (by simp [faL, faL0, faL1])
    have g5 := T.int "MOST_FIGURES" 1000 (by simp [faL, faL0, faL1])
    have g6 := T.int "MOST_MEMBERS" 80 (by simp [faL, faL0, faL1])
    refine F.ok scCheckedPart (fun vs H Q E h => ?_) fun cdv A outer s H vs Q E hr h => ?_
    · obtain ⟨a, t, dep, rfl, _⟩ := h; rfl
    · obtain ⟨a, t, dep, rfl, hT, hok, hd, hd1, hd9, qq⟩ := h
      suffices hh : ∃ t, PSs (cxOf CX0 P w K mg base nCheckedPart "checked_part" (defScope sCheckedPart) (He.ga K "checked_part") cdv A outer s H E).nox (defBody sCheckedPart) t ∧ t { nx := fun _ H' => Q .non H', rt := Q } (start nCheckedPart [.ref a, .int dep]) H by
        obtain ⟨t, h1, h2⟩ := hh
        exact ⟨t, h1.nox, h2⟩
      refine ⟨_, (pss_cons (ps_expr (pe_c c_req hr (by first | decide | omega) rfl (pa_cons (pe_and (pe_cmpR op_le (pv 1) (C8.pe_gc rfl g1) (nomark _)) (pe_and (pe_cmpR op_gt (pe_callB call_len_seq rfl T.len PySem.boot_len (pa_cons (pv 0) pa_nil)) pe_int (nomark _)) (pe_and (pe_cmpR (op_in_kd kd) (pe_ix ix_tup (pv 0) pe_int (fun _ _ => rfl)) (pe_glob (v := .ref (He.ga K "MEMBERS")) rfl gM rfl) rfl) (pe_one (pe_cmpR op_eq (pe_callB call_len_seq rfl T.len PySem.boot_len (pa_cons (pv 0) pa_nil)) (pe_ix ix_kdict (pe_glob (v := .ref (He.ga K "MEMBERS")) rfl gM rfl) (pe_ix ix_tup (pv 0) pe_int (fun _ _ => rfl)) (fun _ _ => rfl)) (nomark _)))))) pa_nil)))
      (pss_cons (ps_if (pt_cmpR op_eq (pe_ix ix_tup (pv 0) pe_int (fun _ _ => rfl)) pe_str (nomark _)) (pss_cons (ps_asg (pe_c c_part hr (by first | decide | omega) rfl (pa_cons (pe_ix ix_tup (pv 0) pe_int (fun _ _ => rfl)) (pa_cons (pe_op op_add (pv 1) pe_int) pa_nil))) (pg_tup rfl (pgs_cons (pg_name (i := 2) scCheckedPart.nd rfl (Or.inl rfl)) (pgs_cons (pg_name (i := 3) scCheckedPart.nd rfl (Or.inl rfl)) (pgs_cons (pg_name (i := 4) scCheckedPart.nd rfl (Or.inl rfl)) (pgs_cons (pg_name (i := 5) scCheckedPart.nd rfl (Or.inl rfl)) pgs_nil))))))
      (pss_cons (ps_asg (pe_c c_part hr (by first | decide | omega) rfl (pa_cons (pe_ix ix_tup (pv 0) pe_int (fun _ _ => rfl)) (pa_cons (pe_op op_add (pv 1) pe_int) pa_nil))) (pg_tup rfl (pgs_cons (pg_name (i := 6) scCheckedPart.nd rfl (Or.inl rfl)) (pgs_cons (pg_name (i := 7) scCheckedPart.nd rfl (Or.inl rfl)) (pgs_cons (pg_name (i := 8) scCheckedPart.nd rfl (Or.inl rfl)) (pgs_cons (pg_name (i := 9) scCheckedPart.nd rfl (Or.inl rfl)) pgs_nil))))))
      (pss_cons (ps_expr (pe_c c_req hr (by first | decide | omega) rfl (pa_cons (pe_and (pe_cmpR op_lt (pe_op op_add (pv 3) (pv 7)) (C8.pe_gc rfl g1) (nomark _)) (pe_and (pe_cmpR op_le (pe_op op_mul (pv 4) (pv 8)) (C8.pe_gc rfl g2) (nomark _)) (pe_one (pe_cmpR op_le (pe_op op_mul (pv 5) (pv 9)) (C8.pe_gc rfl g3) (nomark _))))) pa_nil)))
      (pss_one (ps_ret (pe_tup (pa_cons (pe_tup (pa_cons pe_str (pa_cons (pv 2) (pa_cons (pv 6) pa_nil)))) (pa_cons (pe_op op_add (pe_op op_add (pv 3) (pv 7)) pe_int) (pa_cons (pe_op op_mul (pv 4) (pv 8)) (pa_cons (pe_op op_mul (pv 5) (pv 9)) pa_nil)))))))))) pss_nil)
      (pss_cons (ps_if (pt_cmpR op_eq (pe_ix ix_tup (pv 0) pe_int (fun _ _ => rfl)) pe_str (nomark _)) (pss_cons (ps_set (i := 10) scCheckedPart.nd rfl (Or.inl rfl) (pe_c c_rows hr (by first | decide | omega) rfl (pa_cons (pe_ix ix_tup (pv 0) pe_int (fun _ _ => rfl)) pa_nil)))
      (pss_one (ps_ret (pe_tup (pa_cons (pe_tup (pa_cons pe_str (pa_cons (pv 10) pa_nil))) (pa_cons pe_int (pa_cons (pe_callB call_len_seq rfl T.len PySem.boot_len (pa_cons (pv 10) pa_nil)) (pa_cons (pe_op op_add (pe_callB (cr_maxT rfl) rfl T.max (by decide +kernel) (pa_cons (pe_ix ix_tup (pv 10) pe_int (fun _ _ => rfl)) pa_nil)) pe_int) pa_nil)))))))) pss_nil)
      (pss_cons (ps_asg (pv 0) (pg_tup rfl (pgs_cons (pg_name (i := 11) scCheckedPart.nd rfl (Or.inl rfl)) (pgs_cons (pg_name (i := 12) scCheckedPart.nd rfl (Or.inl rfl)) (pgs_cons (pg_name (i := 13) scCheckedPart.nd rfl (Or.inl rfl)) pgs_nil)))))
      (pss_cons (ps_if (pt_cmpR op_eq (pe_ix ix_tup (pv 0) pe_int (fun _ _ => rfl)) pe_str (nomark _)) (pss_cons (ps_expr (pe_c c_req hr (by first | decide | omega) rfl (pa_cons (pe_and (pe_chain op_le op_le pe_int (pv 12) (C8.pe_gc rfl g4)) (pe_one (pe_chain op_le op_le pe_int (pv 13) (C8.pe_gc rfl g5)))) pa_nil)))
      (pss_one (ps_set (i := 4) scCheckedPart.nd rfl (Or.inl rfl) (pe_c c_power hr (by first | decide | omega) rfl (pa_cons (pv 13) (pa_cons (pv 12) pa_nil)))))) (pss_cons (ps_expr (pe_c c_req hr (by first | decide | omega) rfl (pa_cons (pe_and (pe_cmpR op_le pe_int (pv 13) (nomark _)) (pe_one (pe_chain op_le op_le (pe_op op_mul pe_int (pv 13)) (pv 12) (C8.pe_gc rfl g6)))) pa_nil)))
      (pss_one (ps_set (i := 4) scCheckedPart.nd rfl (Or.inl rfl) (pe_c c_choose hr (by first | decide | omega) rfl (pa_cons (pv 12) (pa_cons (pv 13) pa_nil)))))))
      (pss_cons (ps_expr (pe_c c_req hr (by first | decide | omega) rfl (pa_cons (pe_cmpR op_le (pv 4) (C8.pe_gc rfl g2) (nomark _)) pa_nil)))
      (pss_one (ps_ret (pe_tup (pa_cons (pe_tup (pa_cons (pe_ix ix_tup (pv 0) pe_int (fun _ _ => rfl)) (pa_cons (pv 12) (pa_cons (pv 13) pa_nil)))) (pa_cons pe_int (pa_cons (pv 4) (pa_cons (pe_op op_add (pe_ifExp (pt_cmpR op_eq (pe_ix ix_tup (pv 0) pe_int (fun _ _ => rfl)) pe_str (nomark _)) (pv 12) (pv 13)) pe_int) pa_nil))))))))))))), ?_⟩
      have hg : (hgt t : Int) ≤ 8 := by omega
      have hg1 : 1 ≤ hgt t := by cases t <;> simp [hgt]
      obtain ⟨xs, hx, hxl⟩ := hT.tup2
      obtain ⟨um, um1, um2⟩ := T.members t
      have sq : SqT K H a (.str (sortOf t) :: xs) := SqT.of hx
      refine ⟨_, rfl, _, _, rfl, rfl, _, rfl, ifY (by omega) ?_⟩
      refine ⟨_, rfl, a, _, rfl, .inr sq, _, _, rfl, rfl, _, rfl, ifY (by rw [List.length_cons]; omega) ?_⟩
      refine ⟨_, rfl, a, _, 0, _, rfl, rfl, sq, at0, sortOf t, _, rfl, rfl, um1, _, rfl, ?_⟩
      rw [if_pos (show (some um).isSome = true from rfl)]
      refine ⟨_, rfl, a, _, rfl, .inr sq, _, rfl, a, _, 0, _, rfl, rfl, sq, at0, _, _, .int (argN t + 1), rfl, rfl, ?_, rfl, ?_⟩
      · exact ⟨_, _, um, kd.at_, kd.lit, um1, um2⟩
      have hreq : ∀ {b : Bool}, b = true → [V.bl b] ++ [] = [V.bl true] := fun {b} e => by rw [e]; rfl
      have ee : ((V.str (sortOf t) :: xs).length : Int) = argN t + 1 := by rw [List.length_cons]; omega
      refine ⟨hreq (decide_eq_true (int_eq.mpr ee)), ?_⟩
      cases t with
      | prod u v =>
        obtain ⟨b1, b2, e1, e2, e3⟩ := hT
        obtain ⟨o1, o2, o3, o4, o5⟩ := id hok
        obtain ⟨⟨n1, n2⟩, ⟨n3, n4⟩, n5, n6⟩ := o1.nums
        obtain ⟨⟨l1, l2⟩, ⟨l3, l4⟩, l5, l6⟩ := o2.nums
        have sq : SqT K H a [.str "product", .ref b1, .ref b2] := SqT.of e1
        have hd : max (hgt u) (hgt v) + 1 ≤ d + 1 := hd
        have hd9 : dep + ((max (hgt u) (hgt v) + 1 : Nat) : Int) ≤ 9 := hd9
        refine ⟨_, rfl, a, _, 0, _, rfl, rfl, sq, at0, rfl, _, rfl, ifY rfl ?_⟩
        refine ⟨_, rfl, a, _, 1, _, rfl, rfl, sq, at1, _, rfl, _, _, rfl, rfl, b1, u, dep + 1, rfl, e2, o1, by omega, by omega, by omega, fun H1 p c s1 hp hc => ?_⟩
        refine ⟨p, _, rfl, SqT.of hp, rfl, _, _, rfl, _, _, rfl, _, _, rfl, _, _, rfl, rfl, ?_⟩
        refine ⟨_, rfl, a, _, 2, _, rfl, rfl, SqT.of (s1 _ _ e1), at2v, _, rfl, _, _, rfl, rfl, b2, v, dep + 1, rfl, e3.mono s1, o2, by omega, by omega, by omega, fun H2 p2 c2 s2 hp2 hc2 => ?_⟩
        refine ⟨p2, _, rfl, SqT.of hp2, rfl, _, _, rfl, _, _, rfl, _, _, rfl, _, _, rfl, rfl, ?_⟩
        have m60 : (1000000 : Int) ≤ 10 ^ 60 := by decide
        refine ⟨_, rfl, _, rfl, _, _, rfl, rfl, _, _, rfl, rfl, _, rfl, ifY (by omega) ?_⟩
        refine ⟨_, rfl, _, rfl, _, _, rfl, rfl, .inl ⟨by omega, by omega⟩, _, _, rfl, rfl, _, rfl, ifY (by omega) ?_⟩
        refine ⟨_, rfl, _, rfl, _, _, rfl, rfl, .inl ⟨by omega, by omega⟩, _, _, rfl, rfl, ?_⟩
        refine ⟨hreq (decide_eq_true (by omega)), ?_⟩
        refine ⟨_, rfl, _, rfl, (by show 3 ≤ sizeLine; decide), fun q nq => ?_⟩
        refine ⟨_, rfl, _, rfl, _, _, rfl, rfl, _, _, rfl, rfl, _, rfl, _, rfl, _, _, rfl, rfl, .inl ⟨by omega, by omega⟩, _, rfl, _, rfl, _, _, rfl, rfl, .inl ⟨by omega, by omega⟩, (by show 4 ≤ sizeLine; decide), fun r nr => ?_⟩
        have s3 : Same H2 (upd (upd H2 q (.tup [.str "product", .ref c, .ref c2])) r (.tup [.ref q, .int (prt u + prt v + 1), .int (pts u * pts v), .int (knd u * knd v)])) := (new_same nq).trans (new_same nr)
        exact qq _ r q ((s1.trans s2).trans s3) upd_same ⟨c, c2, new_same nr _ _ upd_same, hc.mono (s2.trans s3), hc2.mono s3⟩
      | listed rows m =>
        obtain ⟨b, e1, hR⟩ := hT
        have g : GoodR rows m := hok
        have sq : SqT K H a [.str "listed", .ref b] := SqT.of e1
        refine ⟨_, rfl, a, _, 0, _, rfl, rfl, sq, at0, rfl, _, rfl, ifX (strX rfl) ?_⟩
        refine ⟨_, rfl, a, _, 0, _, rfl, rfl, sq, at0, rfl, _, rfl, ifY rfl ?_⟩
        refine ⟨_, rfl, a, _, 1, _, rfl, rfl, sq, at1, b, rows, m, rfl, hR, g, fun H1 p s1 np hp => ?_⟩
        obtain ⟨as, p1, p2, p3⟩ := id hp
        have h1 := g.one
        have lr : (rowOf rows 0).length = rows.length := g.sq 0 (by omega)
        refine ⟨_, rfl, (by show 2 ≤ sizeLine; decide), fun q nq => ?_⟩
        have s2 : Same H1 (upd H1 q (.tup [.str "listed", .ref p])) := new_same nq
        obtain ⟨b0, xs0, w1, w2, w3⟩ := (hp.mono s2).at (K := K) (show 0 < rows.length by omega)
        refine ⟨_, rfl, p, _, rfl, .inr (SqT.of (s2 _ _ p1)), ?_⟩
        refine ⟨_, rfl, p, _, 0, _, rfl, rfl, w1, w2, b0, rowOf rows 0, rfl, SqT.of w3, by omega, fun mx m1 m2 => ?_⟩
        have em : mx = m - 1 := by
          obtain ⟨y, hy, ey⟩ := List.mem_iff_getElem.mp m1
          have r1 := (g.good.rng 0 y (by omega) (by omega)).2
          have q1 := row_getI (rows := rows) (x := 0) (y := y) hy
          rw [List.getElem?_eq_getElem hy, ey] at q1
          have q1 := Option.some.inj q1
          have mp := g.mpos
          obtain ⟨z, hz, ez⟩ := g.good.occ 0 (by omega) (m - 1) (by omega) (by omega)
          have q2 := row_getI (rows := rows) (x := 0) (y := z) (by omega)
          have q3 := m2 (at2 rows 0 z) (List.mem_of_getElem? q2)
          omega
        refine ⟨_, _, rfl, rfl, (by show 4 ≤ sizeLine; decide), fun r nr => ?_⟩
        refine qq _ r q ((s1.trans s2).trans (new_same nr)) ?_ ⟨p, new_same nr _ _ upd_same, (hp.mono s2).mono (new_same nr)⟩
        rw [upd_same, em, List.length_map, p2]
        show some (HO.tup [V.ref q, V.int 1, V.int (rows.length : Int), V.int (m - 1 + 1)]) = _
        rw [Int.sub_add_cancel]
        rfl
      | words n q =>
        obtain ⟨o1, o2, o3, o4, o5, o6⟩ := id hok
        have sq : SqT K H a [.str "words", .int n, .int q] := SqT.of hT
        refine ⟨_, rfl, a, _, 0, _, rfl, rfl, sq, at0, rfl, _, rfl, ifX (strX rfl) ?_⟩
        refine ⟨_, rfl, a, _, 0, _, rfl, rfl, sq, at0, rfl, _, rfl, ifX (strX rfl) ?_⟩
        refine ⟨_, rfl, a, _, rfl, sq, rfl, _, _, rfl, _, _, rfl, _, _, rfl, rfl, ?_⟩
        refine ⟨_, rfl, a, _, 0, _, rfl, rfl, sq, at0, rfl, _, rfl, ifY rfl ?_⟩
        refine ⟨_, rfl, _, _, rfl, rfl, _, rfl, ifY (by omega) ⟨_, _, rfl, rfl, _, rfl, ifY (by omega) ?_⟩⟩
        refine ⟨_, rfl, _, _, rfl, rfl, _, rfl, ifY (by omega) ⟨_, _, rfl, rfl, ?_⟩⟩
        refine ⟨hreq (decide_eq_true (by omega)), ?_⟩
        refine ⟨_, rfl, _, rfl, q, n, rfl, by omega, by omega, by omega, by omega, ?_⟩
        have m60 : (1000000 : Int) ≤ 10 ^ 60 := by decide
        refine ⟨_, rfl, _, _, rfl, rfl, ?_⟩
        refine ⟨hreq (decide_eq_true (by omega)), ?_⟩
        refine ⟨_, rfl, a, _, 0, _, rfl, rfl, sq, at0, _, rfl, _, rfl, (by show 3 ≤ sizeLine; decide), fun r nr => ?_⟩
        refine ⟨_, rfl, _, rfl, a, _, 0, _, rfl, rfl, SqT.of (new_same nr _ _ hT), at0, rfl, _, rfl, ifY rfl ⟨_, rfl, ?_⟩⟩
        refine ⟨_, _, rfl, rfl, (by show 4 ≤ sizeLine; decide), fun p np => ?_⟩
        exact qq _ p r ((new_same nr).trans (new_same np)) upd_same (new_same np _ _ upd_same)
      | sets n k =>
        obtain ⟨o1, o2, o3, o4, o5, o6⟩ := id hok
        have sq : SqT K H a [.str "sets", .int n, .int k] := SqT.of hT
        refine ⟨_, rfl, a, _, 0, _, rfl, rfl, sq, at0, rfl, _, rfl, ifX (strX rfl) ?_⟩
        refine ⟨_, rfl, a, _, 0, _, rfl, rfl, sq, at0, rfl, _, rfl, ifX (strX rfl) ?_⟩
        refine ⟨_, rfl, a, _, rfl, sq, rfl, _, _, rfl, _, _, rfl, _, _, rfl, rfl, ?_⟩
        refine ⟨_, rfl, a, _, 0, _, rfl, rfl, sq, at0, rfl, _, rfl, ifX (strX rfl) ?_⟩
        refine ⟨_, rfl, _, _, rfl, rfl, _, rfl, ifY (by omega) ?_⟩
        refine ⟨_, rfl, _, _, rfl, rfl, .inl ⟨by omega, by omega⟩, _, rfl, _, _, rfl, rfl, _, rfl, ifY (by omega) ⟨_, _, rfl, rfl, ?_⟩⟩
        refine ⟨hreq (decide_eq_true (by omega)), ?_⟩
        refine ⟨_, rfl, _, rfl, n, k, rfl, by omega, by omega, by omega, by omega, ?_⟩
        have m60 : (1000000 : Int) ≤ 10 ^ 60 := by decide
        refine ⟨_, rfl, _, _, rfl, rfl, ?_⟩
        refine ⟨hreq (decide_eq_true (by omega)), ?_⟩
        refine ⟨_, rfl, a, _, 0, _, rfl, rfl, sq, at0, _, rfl, _, rfl, (by show 3 ≤ sizeLine; decide), fun r nr => ?_⟩
        refine ⟨_, rfl, _, rfl, a, _, 0, _, rfl, rfl, SqT.of (new_same nr _ _ hT), at0, rfl, _, rfl, ifX (strX rfl) ⟨_, rfl, ?_⟩⟩
        refine ⟨_, _, rfl, rfl, (by show 4 ≤ sizeLine; decide), fun p np => ?_⟩
        exact qq _ p r ((new_same nr).trans (new_same np)) upd_same (new_same np _ _ upd_same)
end
end K8
set_option Elab.async false
set_option linter.all false
set_option maxRecDepth 100000
set_option maxHeartbeats 4000000
namespace K8
open PySem PySem.Spec PyProof.Rows L2
open C8 (Cal pe_c)
open K8R
abbrev nChecked : List Str := ["tree"]
theorem scChecked : FnScope nChecked ["tree"] (defScope sChecked) := ⟨rfl, rfl, rfl, by decide +kernel, rfl, by decide +kernel, by decide +kernel⟩
abbrev nIsScheme : List Str := ["tree"]
theorem scIsScheme : FnScope nIsScheme ["tree"] (defScope sIsScheme) := ⟨rfl, rfl, rfl, by decide +kernel, rfl, by decide +kernel, by decide +kernel⟩
abbrev nPointCount : List Str := ["tree"]
theorem scPointCount : FnScope nPointCount ["tree"] (defScope sPointCount) := ⟨rfl, rfl, rfl, by decide +kernel, rfl, by decide +kernel, by decide +kernel⟩
abbrev nKindCount : List Str := ["tree"]
theorem scKindCount : FnScope nKindCount ["tree"] (defScope sKindCount) := ⟨rfl, rfl, rfl, by decide +kernel, rfl, by decide +kernel, by decide +kernel⟩
section
variable {P : Program} {w : World} {K : PySem.W.Frag} {mg : Str → Option Value} {base : Heap}
theorem ok_part1 (T : T8 w K mg) (d : Nat) : Cal P w K mg base (d + 3) "checked_part" (spPart d) [.int 1] := by
  obtain ⟨fd, F⟩ := T.d.defs (d := dCheckedPart) (by simp [fnL])
  obtain ⟨ds, v, b⟩ := FunD.binds1 (ps := ["tree", "depth"]) F 1 0 (by simp [He.DefD.dvs, dCheckedPart]) rfl (fun T kV doc pm an cdv ct us its h1 h2 => by
    match us, its, h1, h2 with
    | [_], [_], _, _ => exact ⟨_, rfl, rfl⟩)
  exact ⟨_, fd, _, ds, fn_part T F d, T.glo "checked_part" (by simp [faL, faL0, faL1]), F.kp, b, v⟩
/-- what is asked of a tree and told of it, the heap kept -/
def spTree (f : Tr → V) : Sp := fun vs H Q _ => ∃ (a : Addr) (t : Tr), vs = [.ref a] ∧ IsTr H t a ∧ TrOk t ∧ hgt t ≤ 2 ∧ ∀ H', Same H H' → Q (f t) H'
theorem ok_pcount (T : T8 w K mg) : Cal P w K mg base 6 "point_count" (spTree fun t => .int (pts t)) [] := by
  obtain ⟨fd, F⟩ := T.d.defs (d := dPointCount) (by simp [fnL])
  have c_part : Cal P w K mg base 5 "checked_part" (spPart 2) [.int 1] := ok_part1 T 2
  refine calN F (T.glo "point_count" (by simp [faL, faL0, faL1])) scPointCount (fun _ _ _ _ _ _ us hl => match us, hl with | [_], _ => rfl) (fun vs H Q E h => ?_) (fun cdv A outer s H vs Q E hr h => ?_)
  · obtain ⟨a, t, rfl, _⟩ := h; rfl
  · obtain ⟨a, t, rfl, hT, hok, hh, qq⟩ := h
    refine ⟨_, (pss_one (ps_ret (pe_ix ix_tup (pe_c c_part hr (by first | decide | omega) rfl (pa_cons (pv 0) pa_nil)) pe_int (fun _ _ => rfl)))), ?_⟩
    exact ⟨_, rfl, a, t, 1, rfl, hT, hok, hh, by omega, by omega, fun H1 p b s1 hp hb => ⟨p, _, 2, _, rfl, rfl, SqT.of hp, at2v, qq _ s1⟩⟩
theorem ok_kcount (T : T8 w K mg) : Cal P w K mg base 6 "kind_count" (spTree fun t => .int (knd t)) [] := by
  obtain ⟨fd, F⟩ := T.d.defs (d := dKindCount) (by simp [fnL])
  have c_part : Cal P w K mg base 5 "checked_part" (spPart 2) [.int 1] := ok_part1 T 2
  refine calN F (T.glo "kind_count" (by simp [faL, faL0, faL1])) scKindCount (fun _ _ _ _ _ _ us hl => match us, hl with | [_], _ => rfl) (fun vs H Q E h => ?_) (fun cdv A outer s H vs Q E hr h => ?_)
  · obtain ⟨a, t, rfl, _⟩ := h; rfl
  · obtain ⟨a, t, rfl, hT, hok, hh, qq⟩ := h
    refine ⟨_, (pss_one (ps_ret (pe_ix ix_tup (pe_c c_part hr (by first | decide | omega) rfl (pa_cons (pv 0) pa_nil)) pe_int (fun _ _ => rfl)))), ?_⟩
    exact ⟨_, rfl, a, t, 1, rfl, hT, hok, hh, by omega, by omega, fun H1 p b s1 hp hb => ⟨p, _, 3, _, rfl, rfl, SqT.of hp, atI_nat (j := 3) rfl, qq _ s1⟩⟩
def spChecked : Sp := fun vs H Q _ => ∃ (a : Addr) (t : Tr), vs = [.ref a] ∧ IsTr H t a ∧ TrOk t ∧ hgt t ≤ 2 ∧ ∀ H' b, Same H H' → Q (.ref b) H'
theorem ok_checked (T : T8 w K mg) : Cal P w K mg base 6 "checked" spChecked [] := by
  obtain ⟨fd, F⟩ := T.d.defs (d := dChecked) (by simp [fnL])
  have c_part : Cal P w K mg base 5 "checked_part" (spPart 2) [.int 1] := ok_part1 T 2
  refine calN F (T.glo "checked" (by simp [faL, faL0, faL1])) scChecked (fun _ _ _ _ _ _ us hl => match us, hl with | [_], _ => rfl) (fun vs H Q E h => ?_) (fun cdv A outer s H vs Q E hr h => ?_)
  · obtain ⟨a, t, rfl, _⟩ := h; rfl
  · obtain ⟨a, t, rfl, hT, hok, hh, qq⟩ := h
    refine ⟨_, (pss_one (ps_ret (pe_ix ix_tup (pe_c c_part hr (by first | decide | omega) rfl (pa_cons (pv 0) pa_nil)) pe_int (fun _ _ => rfl)))), ?_⟩
    exact ⟨_, rfl, a, t, 1, rfl, hT, hok, hh, by omega, by omega, fun H1 p b s1 hp hb => ⟨p, _, 0, _, rfl, rfl, SqT.of hp, at0, qq _ b s1⟩⟩
theorem ok_isscheme (T : T8 w K mg) : Cal P w K mg base 7 "is_scheme" (spTree fun _ => .bl true) [] := by
  obtain ⟨fd, F⟩ := T.d.defs (d := dIsScheme) (by simp [fnL])
  have c_checked : Cal P w K mg base 6 "checked" spChecked [] := ok_checked T
  refine calN F (T.glo "is_scheme" (by simp [faL, faL0, faL1])) scIsScheme (fun _ _ _ _ _ _ us hl => match us, hl with | [_], _ => rfl) (fun vs H Q E h => ?_) (fun cdv A outer s H vs Q E hr h => ?_)
  · obtain ⟨a, t, rfl, _⟩ := h; rfl
  · obtain ⟨a, t, rfl, hT, hok, hh, qq⟩ := h
    refine ⟨_, pss_cons (ps_try_thru0 (pss_one (ps_expr (pe_c c_checked hr (by first | decide | omega) rfl (pa_cons (pv 0) pa_nil))))) (pss_one (ps_ret pe_bl)), ?_⟩
    exact ⟨_, rfl, a, t, rfl, hT, hok, hh, fun H1 b s1 => qq _ s1⟩
end
end K8
set_option Elab.async false
set_option linter.all false
set_option maxRecDepth 100000
set_option maxHeartbeats 4000000
namespace K8
open PySem PySem.Spec PyProof.Rows L2
open C8 (Cal pe_c)
open K8R
abbrev nPointsOf : List Str := ["tree"]
theorem scPointsOf : FnScope nPointsOf ["tree"] (defScope sPointsOf) := ⟨rfl, rfl, rfl, by decide +kernel, rfl, by decide +kernel, by decide +kernel⟩
abbrev nKindsOf : List Str := ["tree"]
theorem scKindsOf : FnScope nKindsOf ["tree"] (defScope sKindsOf) := ⟨rfl, rfl, rfl, by decide +kernel, rfl, by decide +kernel, by decide +kernel⟩
abbrev nLPoints : List Str := ["_law_tree_here"]
theorem scLPoints : FnScope nLPoints ["_law_tree_here"] (defScope sLPoints) := ⟨rfl, rfl, rfl, by decide +kernel, rfl, by decide +kernel, by decide +kernel⟩
abbrev nLKinds : List Str := ["_law_tree_here"]
theorem scLKinds : FnScope nLKinds ["_law_tree_here"] (defScope sLKinds) := ⟨rfl, rfl, rfl, by decide +kernel, rfl, by decide +kernel, by decide +kernel⟩
theorem max_of_row {rows : List (List Int)} {m mx : Int} (g : GoodR rows m) (m1 : mx ∈ rowOf rows 0) (m2 : ∀ y, y ∈ rowOf rows 0 → y ≤ mx) : mx + 1 = m := by
  have h1 := g.one
  have lr : (rowOf rows 0).length = rows.length := g.sq 0 (by omega)
  obtain ⟨y, hy, ey⟩ := List.mem_iff_getElem.mp m1
  have r1 := (g.good.rng 0 y (by omega) (by omega)).2
  have q1 := row_getI (rows := rows) (x := 0) (y := y) hy
  rw [List.getElem?_eq_getElem hy, ey] at q1
  have q1 := Option.some.inj q1
  have mp := g.mpos
  obtain ⟨z, hz, ez⟩ := g.good.occ 0 (by omega) (m - 1) (by omega) (by omega)
  have q2 := row_getI (rows := rows) (x := 0) (y := z) (by omega)
  have q3 := m2 (at2 rows 0 z) (List.mem_of_getElem? q2)
  omega
theorem no_hgt {t : Tr} (h : hgt t ≤ 0) : False := by cases t <;> simp [hgt] at h
abbrev nm0 (l : List Str) : Str := l.headD ""
section
variable {P : Program} {w : World} {K : PySem.W.Frag} {mg : Str → Option Value} {base : Heap}
def spT (d : Nat) (f : Tr → Int) : Sp := fun vs H Q _ => ∃ (a : Addr) (t : Tr), vs = [.ref a] ∧ IsTr H t a ∧ TrOk t ∧ hgt t ≤ d ∧ Q (.int (f t)) H

theorem ok_points (T : T8 w K mg) : ∀ d : Nat, Cal P w K mg base (d + 1) "points_of" (spT d pts) []
  | 0 => by
    obtain ⟨fd, F⟩ := T.d.defs (d := dPointsOf) (by simp [fnL])
    exact calNo 1 F (T.glo "points_of" (by simp [faL, faL0, faL1])) (ps := [nm0 nPointsOf]) (fun _ _ _ _ _ _ us hl => match us, hl with | [_], _ => rfl) fun vs H Q E ⟨a, t, _, _, _, h, _⟩ => no_hgt h
  | d + 1 => by
    obtain ⟨fd, F⟩ := T.d.defs (d := dPointsOf) (by simp [fnL])
    have c_self : Cal P w K mg base (d + 1) "points_of" (spT d pts) [] := ok_points T d
    have c_power : Cal P w K mg base 1 "power_of" spPower [] := ok_power T
    have c_choose : Cal P w K mg base 1 "choose" spChoose [] := ok_choose T
    refine calN F (T.glo "points_of" (by simp [faL, faL0, faL1])) scPointsOf (fun _ _ _ _ _ _ us hl => match us, hl with | [_], _ => rfl) (fun vs H Q E h => ?_) (fun cdv A outer s H vs Q E hr h => ?_)
    · obtain ⟨a, t, rfl, _⟩ := h; rfl
    · obtain ⟨a, t, rfl, hT, hok, hh, qq⟩ := h
      refine ⟨_, (pss_cons (ps_if (pt_cmpR op_eq (pe_ix ix_tup (pv 0) pe_int (fun _ _ => rfl)) pe_str (nomark _)) (pss_one (ps_ret (pe_c c_power hr (by first | decide | omega) rfl (pa_cons (pe_ix ix_tup (pv 0) pe_int (fun _ _ => rfl)) (pa_cons (pe_ix ix_tup (pv 0) pe_int (fun _ _ => rfl)) pa_nil))))) pss_nil)
      (pss_cons (ps_if (pt_cmpR op_eq (pe_ix ix_tup (pv 0) pe_int (fun _ _ => rfl)) pe_str (nomark _)) (pss_one (ps_ret (pe_c c_choose hr (by first | decide | omega) rfl (pa_cons (pe_ix ix_tup (pv 0) pe_int (fun _ _ => rfl)) (pa_cons (pe_ix ix_tup (pv 0) pe_int (fun _ _ => rfl)) pa_nil))))) pss_nil)
      (pss_cons (ps_if (pt_cmpR op_eq (pe_ix ix_tup (pv 0) pe_int (fun _ _ => rfl)) pe_str (nomark _)) (pss_one (ps_ret (pe_callB call_len_seq rfl T.len PySem.boot_len (pa_cons (pe_ix ix_tup (pv 0) pe_int (fun _ _ => rfl)) pa_nil)))) pss_nil)
      (pss_one (ps_ret (pe_op op_mul (pe_c c_self hr (by first | decide | omega) rfl (pa_cons (pe_ix ix_tup (pv 0) pe_int (fun _ _ => rfl)) pa_nil)) (pe_c c_self hr (by first | decide | omega) rfl (pa_cons (pe_ix ix_tup (pv 0) pe_int (fun _ _ => rfl)) pa_nil)))))))), ?_⟩
      cases t with
      | words n q =>
        obtain ⟨o1, o2, o3, o4, o5, o6⟩ := id hok
        have sq : SqT K H a [.str "words", .int n, .int q] := SqT.of hT
        refine ⟨_, rfl, a, _, 0, _, rfl, rfl, sq, at0, rfl, _, rfl, ifY rfl ?_⟩
        exact ⟨_, rfl, a, _, 2, _, rfl, rfl, sq, at2v, _, rfl, a, _, 1, _, rfl, rfl, sq, at1, q, n, rfl, by omega, by omega, by omega, by omega, qq⟩
      | sets n k =>
        obtain ⟨o1, o2, o3, o4, o5, o6⟩ := id hok
        have sq : SqT K H a [.str "sets", .int n, .int k] := SqT.of hT
        refine ⟨_, rfl, a, _, 0, _, rfl, rfl, sq, at0, rfl, _, rfl, ifX (strX rfl) ?_⟩
        refine ⟨_, rfl, a, _, 0, _, rfl, rfl, sq, at0, rfl, _, rfl, ifY rfl ?_⟩
        exact ⟨_, rfl, a, _, 1, _, rfl, rfl, sq, at1, _, rfl, a, _, 2, _, rfl, rfl, sq, at2v, n, k, rfl, by omega, by omega, by omega, by omega, qq⟩
      | listed rows m =>
        obtain ⟨b, e1, as, p1, p2, p3⟩ := hT
        have sq : SqT K H a [.str "listed", .ref b] := SqT.of e1
        refine ⟨_, rfl, a, _, 0, _, rfl, rfl, sq, at0, rfl, _, rfl, ifX (strX rfl) ?_⟩
        refine ⟨_, rfl, a, _, 0, _, rfl, rfl, sq, at0, rfl, _, rfl, ifX (strX rfl) ?_⟩
        refine ⟨_, rfl, a, _, 0, _, rfl, rfl, sq, at0, rfl, _, rfl, ifY rfl ?_⟩
        refine ⟨_, rfl, a, _, 1, _, rfl, rfl, sq, at1, b, _, rfl, .inr (SqT.of p1), ?_⟩
        rw [List.length_map, p2]
        exact qq
      | prod u v =>
        obtain ⟨b1, b2, e1, e2, e3⟩ := hT
        obtain ⟨o1, o2, o3, o4, o5⟩ := id hok
        obtain ⟨⟨n1, n2⟩, ⟨n3, n4⟩, n5, n6⟩ := o1.nums
        have sq : SqT K H a [.str "product", .ref b1, .ref b2] := SqT.of e1
        have hd : max (hgt u) (hgt v) + 1 ≤ d + 1 := hh
        refine ⟨_, rfl, a, _, 0, _, rfl, rfl, sq, at0, rfl, _, rfl, ifX (strX rfl) ?_⟩
        refine ⟨_, rfl, a, _, 0, _, rfl, rfl, sq, at0, rfl, _, rfl, ifX (strX rfl) ?_⟩
        refine ⟨_, rfl, a, _, 0, _, rfl, rfl, sq, at0, rfl, _, rfl, ifX (strX rfl) ?_⟩
        refine ⟨_, rfl, a, _, 1, _, rfl, rfl, sq, at1, b1, u, rfl, e2, o1, by omega, _, rfl, a, _, 2, _, rfl, rfl, sq, at2v, b2, v, rfl, e3, o2, by omega, ?_⟩
        exact ⟨_, _, rfl, rfl, .inl ⟨by omega, by omega⟩, qq⟩

theorem ok_lpoints (T : T8 w K mg) : ∀ d : Nat, Cal P w K mg base (d + 1) "_law_points" (spT d pts) []
  | 0 => by
    obtain ⟨fd, F⟩ := T.d.defs (d := dLPoints) (by simp [fnL])
    exact calNo 1 F (T.glo "_law_points" (by simp [faL, faL0, faL1])) (ps := [nm0 nLPoints]) (fun _ _ _ _ _ _ us hl => match us, hl with | [_], _ => rfl) fun vs H Q E ⟨a, t, _, _, _, h, _⟩ => no_hgt h
  | d + 1 => by
    obtain ⟨fd, F⟩ := T.d.defs (d := dLPoints) (by simp [fnL])
    have c_self : Cal P w K mg base (d + 1) "_law_points" (spT d pts) [] := ok_lpoints T d
    have c_power : Cal P w K mg base 1 "_law_power" spPower [] := ok_lpower T
    have c_choose : Cal P w K mg base 1 "_law_choose" spChoose [] := ok_lchoose T
    refine calN F (T.glo "_law_points" (by simp [faL, faL0, faL1])) scLPoints (fun _ _ _ _ _ _ us hl => match us, hl with | [_], _ => rfl) (fun vs H Q E h => ?_) (fun cdv A outer s H vs Q E hr h => ?_)
    · obtain ⟨a, t, rfl, _⟩ := h; rfl
    · obtain ⟨a, t, rfl, hT, hok, hh, qq⟩ := h
      refine ⟨_, (pss_cons (ps_if (pt_cmpR op_eq (pe_ix ix_tup (pv 0) pe_int (fun _ _ => rfl)) pe_str (nomark _)) (pss_one (ps_ret (pe_c c_power hr (by first | decide | omega) rfl (pa_cons (pe_ix ix_tup (pv 0) pe_int (fun _ _ => rfl)) (pa_cons (pe_ix ix_tup (pv 0) pe_int (fun _ _ => rfl)) pa_nil))))) pss_nil)
      (pss_cons (ps_if (pt_cmpR op_eq (pe_ix ix_tup (pv 0) pe_int (fun _ _ => rfl)) pe_str (nomark _)) (pss_one (ps_ret (pe_c c_choose hr (by first | decide | omega) rfl (pa_cons (pe_ix ix_tup (pv 0) pe_int (fun _ _ => rfl)) (pa_cons (pe_ix ix_tup (pv 0) pe_int (fun _ _ => rfl)) pa_nil))))) pss_nil)
      (pss_cons (ps_if (pt_cmpR op_eq (pe_ix ix_tup (pv 0) pe_int (fun _ _ => rfl)) pe_str (nomark _)) (pss_one (ps_ret (pe_callB call_len_seq rfl T.len PySem.boot_len (pa_cons (pe_ix ix_tup (pv 0) pe_int (fun _ _ => rfl)) pa_nil)))) pss_nil)
      (pss_one (ps_ret (pe_op op_mul (pe_c c_self hr (by first | decide | omega) rfl (pa_cons (pe_ix ix_tup (pv 0) pe_int (fun _ _ => rfl)) pa_nil)) (pe_c c_self hr (by first | decide | omega) rfl (pa_cons (pe_ix ix_tup (pv 0) pe_int (fun _ _ => rfl)) pa_nil)))))))), ?_⟩
      cases t with
      | words n q =>
        obtain ⟨o1, o2, o3, o4, o5, o6⟩ := id hok
        have sq : SqT K H a [.str "words", .int n, .int q] := SqT.of hT
        refine ⟨_, rfl, a, _, 0, _, rfl, rfl, sq, at0, rfl, _, rfl, ifY rfl ?_⟩
        exact ⟨_, rfl, a, _, 2, _, rfl, rfl, sq, at2v, _, rfl, a, _, 1, _, rfl, rfl, sq, at1, q, n, rfl, by omega, by omega, by omega, by omega, qq⟩
      | sets n k =>
        obtain ⟨o1, o2, o3, o4, o5, o6⟩ := id hok
        have sq : SqT K H a [.str "sets", .int n, .int k] := SqT.of hT
        refine ⟨_, rfl, a, _, 0, _, rfl, rfl, sq, at0, rfl, _, rfl, ifX (strX rfl) ?_⟩
        refine ⟨_, rfl, a, _, 0, _, rfl, rfl, sq, at0, rfl, _, rfl, ifY rfl ?_⟩
        exact ⟨_, rfl, a, _, 1, _, rfl, rfl, sq, at1, _, rfl, a, _, 2, _, rfl, rfl, sq, at2v, n, k, rfl, by omega, by omega, by omega, by omega, qq⟩
      | listed rows m =>
        obtain ⟨b, e1, as, p1, p2, p3⟩ := hT
        have sq : SqT K H a [.str "listed", .ref b] := SqT.of e1
        refine ⟨_, rfl, a, _, 0, _, rfl, rfl, sq, at0, rfl, _, rfl, ifX (strX rfl) ?_⟩
        refine ⟨_, rfl, a, _, 0, _, rfl, rfl, sq, at0, rfl, _, rfl, ifX (strX rfl) ?_⟩
        refine ⟨_, rfl, a, _, 0, _, rfl, rfl, sq, at0, rfl, _, rfl, ifY rfl ?_⟩
        refine ⟨_, rfl, a, _, 1, _, rfl, rfl, sq, at1, b, _, rfl, .inr (SqT.of p1), ?_⟩
        rw [List.length_map, p2]
        exact qq
      | prod u v =>
        obtain ⟨b1, b2, e1, e2, e3⟩ := hT
        obtain ⟨o1, o2, o3, o4, o5⟩ := id hok
        obtain ⟨⟨n1, n2⟩, ⟨n3, n4⟩, n5, n6⟩ := o1.nums
        have sq : SqT K H a [.str "product", .ref b1, .ref b2] := SqT.of e1
        have hd : max (hgt u) (hgt v) + 1 ≤ d + 1 := hh
        refine ⟨_, rfl, a, _, 0, _, rfl, rfl, sq, at0, rfl, _, rfl, ifX (strX rfl) ?_⟩
        refine ⟨_, rfl, a, _, 0, _, rfl, rfl, sq, at0, rfl, _, rfl, ifX (strX rfl) ?_⟩
        refine ⟨_, rfl, a, _, 0, _, rfl, rfl, sq, at0, rfl, _, rfl, ifX (strX rfl) ?_⟩
        refine ⟨_, rfl, a, _, 1, _, rfl, rfl, sq, at1, b1, u, rfl, e2, o1, by omega, _, rfl, a, _, 2, _, rfl, rfl, sq, at2v, b2, v, rfl, e3, o2, by omega, ?_⟩
        exact ⟨_, _, rfl, rfl, .inl ⟨by omega, by omega⟩, qq⟩

theorem ok_kinds (T : T8 w K mg) : ∀ d : Nat, Cal P w K mg base (d + 1) "kinds_of" (spT d knd) []
  | 0 => by
    obtain ⟨fd, F⟩ := T.d.defs (d := dKindsOf) (by simp [fnL])
    exact calNo 1 F (T.glo "kinds_of" (by simp [faL, faL0, faL1])) (ps := [nm0 nKindsOf]) (fun _ _ _ _ _ _ us hl => match us, hl with | [_], _ => rfl) fun vs H Q E ⟨a, t, _, _, _, h, _⟩ => no_hgt h
  | d + 1 => by
    obtain ⟨fd, F⟩ := T.d.defs (d := dKindsOf) (by simp [fnL])
    have c_self : Cal P w K mg base (d + 1) "kinds_of" (spT d knd) [] := ok_kinds T d
    refine calN F (T.glo "kinds_of" (by simp [faL, faL0, faL1])) scKindsOf (fun _ _ _ _ _ _ us hl => match us, hl with | [_], _ => rfl) (fun vs H Q E h => ?_) (fun cdv A outer s H vs Q E hr h => ?_)
    · obtain ⟨a, t, rfl, _⟩ := h; rfl
    · obtain ⟨a, t, rfl, hT, hok, hh, qq⟩ := h
      refine ⟨_, (pss_cons (ps_if (pt_cmpR op_eq (pe_ix ix_tup (pv 0) pe_int (fun _ _ => rfl)) pe_str (nomark _)) (pss_one (ps_ret (pe_op op_add (pe_ix ix_tup (pv 0) pe_int (fun _ _ => rfl)) pe_int))) pss_nil)
      (pss_cons (ps_if (pt_cmpR op_eq (pe_ix ix_tup (pv 0) pe_int (fun _ _ => rfl)) pe_str (nomark _)) (pss_one (ps_ret (pe_op op_add (pe_ix ix_tup (pv 0) pe_int (fun _ _ => rfl)) pe_int))) pss_nil)
      (pss_cons (ps_if (pt_cmpR op_eq (pe_ix ix_tup (pv 0) pe_int (fun _ _ => rfl)) pe_str (nomark _)) (pss_one (ps_ret (pe_op op_add (pe_callB (cr_maxT rfl) rfl T.max (by decide +kernel) (pa_cons (pe_ix ix_tup (pe_ix ix_tup (pv 0) pe_int (fun _ _ => rfl)) pe_int (fun _ _ => rfl)) pa_nil)) pe_int))) pss_nil)
      (pss_one (ps_ret (pe_op op_mul (pe_c c_self hr (by first | decide | omega) rfl (pa_cons (pe_ix ix_tup (pv 0) pe_int (fun _ _ => rfl)) pa_nil)) (pe_c c_self hr (by first | decide | omega) rfl (pa_cons (pe_ix ix_tup (pv 0) pe_int (fun _ _ => rfl)) pa_nil)))))))), ?_⟩
      cases t with
      | words n q =>
        have sq : SqT K H a [.str "words", .int n, .int q] := SqT.of hT
        refine ⟨_, rfl, a, _, 0, _, rfl, rfl, sq, at0, rfl, _, rfl, ifY rfl ?_⟩
        exact ⟨_, rfl, a, _, 1, _, rfl, rfl, sq, at1, _, _, rfl, rfl, qq⟩
      | sets n k =>
        have sq : SqT K H a [.str "sets", .int n, .int k] := SqT.of hT
        refine ⟨_, rfl, a, _, 0, _, rfl, rfl, sq, at0, rfl, _, rfl, ifX (strX rfl) ?_⟩
        refine ⟨_, rfl, a, _, 0, _, rfl, rfl, sq, at0, rfl, _, rfl, ifY rfl ?_⟩
        exact ⟨_, rfl, a, _, 2, _, rfl, rfl, sq, at2v, _, _, rfl, rfl, qq⟩
      | listed rows m =>
        obtain ⟨b, e1, hR⟩ := hT
        have g : GoodR rows m := hok
        have h1 := g.one
        have lr : (rowOf rows 0).length = rows.length := g.sq 0 (by omega)
        obtain ⟨b0, xs0, w1, w2, w3⟩ := hR.at (K := K) (show 0 < rows.length by omega)
        have sq : SqT K H a [.str "listed", .ref b] := SqT.of e1
        refine ⟨_, rfl, a, _, 0, _, rfl, rfl, sq, at0, rfl, _, rfl, ifX (strX rfl) ?_⟩
        refine ⟨_, rfl, a, _, 0, _, rfl, rfl, sq, at0, rfl, _, rfl, ifX (strX rfl) ?_⟩
        refine ⟨_, rfl, a, _, 0, _, rfl, rfl, sq, at0, rfl, _, rfl, ifY rfl ?_⟩
        refine ⟨_, rfl, a, _, 1, _, rfl, rfl, sq, at1, b, _, 0, _, rfl, rfl, w1, w2, b0, rowOf rows 0, rfl, SqT.of w3, by omega, fun mx m1 m2 => ⟨_, _, rfl, rfl, ?_⟩⟩
        show Q (.int (mx + 1)) H
        rw [max_of_row g m1 m2]
        exact qq
      | prod u v =>
        obtain ⟨b1, b2, e1, e2, e3⟩ := hT
        obtain ⟨o1, o2, o3, o4, o5⟩ := id hok
        obtain ⟨⟨n1, n2⟩, ⟨n3, n4⟩, n5, n6⟩ := o1.nums
        have sq : SqT K H a [.str "product", .ref b1, .ref b2] := SqT.of e1
        have hd : max (hgt u) (hgt v) + 1 ≤ d + 1 := hh
        refine ⟨_, rfl, a, _, 0, _, rfl, rfl, sq, at0, rfl, _, rfl, ifX (strX rfl) ?_⟩
        refine ⟨_, rfl, a, _, 0, _, rfl, rfl, sq, at0, rfl, _, rfl, ifX (strX rfl) ?_⟩
        refine ⟨_, rfl, a, _, 0, _, rfl, rfl, sq, at0, rfl, _, rfl, ifX (strX rfl) ?_⟩
        refine ⟨_, rfl, a, _, 1, _, rfl, rfl, sq, at1, b1, u, rfl, e2, o1, by omega, _, rfl, a, _, 2, _, rfl, rfl, sq, at2v, b2, v, rfl, e3, o2, by omega, ?_⟩
        exact ⟨_, _, rfl, rfl, .inl ⟨by omega, by omega⟩, qq⟩

theorem ok_lkinds (T : T8 w K mg) : ∀ d : Nat, Cal P w K mg base (d + 1) "_law_kinds" (spT d knd) []
  | 0 => by
    obtain ⟨fd, F⟩ := T.d.defs (d := dLKinds) (by simp [fnL])
    exact calNo 1 F (T.glo "_law_kinds" (by simp [faL, faL0, faL1])) (ps := [nm0 nLKinds]) (fun _ _ _ _ _ _ us hl => match us, hl with | [_], _ => rfl) fun vs H Q E ⟨a, t, _, _, _, h, _⟩ => no_hgt h
  | d + 1 => by
    obtain ⟨fd, F⟩ := T.d.defs (d := dLKinds) (by simp [fnL])
    have c_self : Cal P w K mg base (d + 1) "_law_kinds" (spT d knd) [] := ok_lkinds T d
    refine calN F (T.glo "_law_kinds" (by simp [faL, faL0, faL1])) scLKinds (fun _ _ _ _ _ _ us hl => match us, hl with | [_], _ => rfl) (fun vs H Q E h => ?_) (fun cdv A outer s H vs Q E hr h => ?_)
    · obtain ⟨a, t, rfl, _⟩ := h; rfl
    · obtain ⟨a, t, rfl, hT, hok, hh, qq⟩ := h
      refine ⟨_, (pss_cons (ps_if (pt_cmpR op_eq (pe_ix ix_tup (pv 0) pe_int (fun _ _ => rfl)) pe_str (nomark _)) (pss_one (ps_ret (pe_op op_add (pe_ix ix_tup (pv 0) pe_int (fun _ _ => rfl)) pe_int))) pss_nil)
      (pss_cons (ps_if (pt_cmpR op_eq (pe_ix ix_tup (pv 0) pe_int (fun _ _ => rfl)) pe_str (nomark _)) (pss_one (ps_ret (pe_op op_add (pe_ix ix_tup (pv 0) pe_int (fun _ _ => rfl)) pe_int))) pss_nil)
      (pss_cons (ps_if (pt_cmpR op_eq (pe_ix ix_tup (pv 0) pe_int (fun _ _ => rfl)) pe_str (nomark _)) (pss_one (ps_ret (pe_op op_add (pe_callB (cr_maxT rfl) rfl T.max (by decide +kernel) (pa_cons (pe_ix ix_tup (pe_ix ix_tup (pv 0) pe_int (fun _ _ => rfl)) pe_int (fun _ _ => rfl)) pa_nil)) pe_int))) pss_nil)
      (pss_one (ps_ret (pe_op op_mul (pe_c c_self hr (by first | decide | omega) rfl (pa_cons (pe_ix ix_tup (pv 0) pe_int (fun _ _ => rfl)) pa_nil)) (pe_c c_self hr (by first | decide | omega) rfl (pa_cons (pe_ix ix_tup (pv 0) pe_int (fun _ _ => rfl)) pa_nil)))))))), ?_⟩
      cases t with
      | words n q =>
        have sq : SqT K H a [.str "words", .int n, .int q] := SqT.of hT
        refine ⟨_, rfl, a, _, 0, _, rfl, rfl, sq, at0, rfl, _, rfl, ifY rfl ?_⟩
        exact ⟨_, rfl, a, _, 1, _, rfl, rfl, sq, at1, _, _, rfl, rfl, qq⟩
      | sets n k =>
        have sq : SqT K H a [.str "sets", .int n, .int k] := SqT.of hT
        refine ⟨_, rfl, a, _, 0, _, rfl, rfl, sq, at0, rfl, _, rfl, ifX (strX rfl) ?_⟩
        refine ⟨_, rfl, a, _, 0, _, rfl, rfl, sq, at0, rfl, _, rfl, ifY rfl ?_⟩
        exact ⟨_, rfl, a, _, 2, _, rfl, rfl, sq, at2v, _, _, rfl, rfl, qq⟩
      | listed rows m =>
        obtain ⟨b, e1, hR⟩ := hT
        have g : GoodR rows m := hok
        have h1 := g.one
        have lr : (rowOf rows 0).length = rows.length := g.sq 0 (by omega)
        obtain ⟨b0, xs0, w1, w2, w3⟩ := hR.at (K := K) (show 0 < rows.length by omega)
        have sq : SqT K H a [.str "listed", .ref b] := SqT.of e1
        refine ⟨_, rfl, a, _, 0, _, rfl, rfl, sq, at0, rfl, _, rfl, ifX (strX rfl) ?_⟩
        refine ⟨_, rfl, a, _, 0, _, rfl, rfl, sq, at0, rfl, _, rfl, ifX (strX rfl) ?_⟩
        refine ⟨_, rfl, a, _, 0, _, rfl, rfl, sq, at0, rfl, _, rfl, ifY rfl ?_⟩
        refine ⟨_, rfl, a, _, 1, _, rfl, rfl, sq, at1, b, _, 0, _, rfl, rfl, w1, w2, b0, rowOf rows 0, rfl, SqT.of w3, by omega, fun mx m1 m2 => ⟨_, _, rfl, rfl, ?_⟩⟩
        show Q (.int (mx + 1)) H
        rw [max_of_row g m1 m2]
        exact qq
      | prod u v =>
        obtain ⟨b1, b2, e1, e2, e3⟩ := hT
        obtain ⟨o1, o2, o3, o4, o5⟩ := id hok
        obtain ⟨⟨n1, n2⟩, ⟨n3, n4⟩, n5, n6⟩ := o1.nums
        have sq : SqT K H a [.str "product", .ref b1, .ref b2] := SqT.of e1
        have hd : max (hgt u) (hgt v) + 1 ≤ d + 1 := hh
        refine ⟨_, rfl, a, _, 0, _, rfl, rfl, sq, at0, rfl, _, rfl, ifX (strX rfl) ?_⟩
        refine ⟨_, rfl, a, _, 0, _, rfl, rfl, sq, at0, rfl, _, rfl, ifX (strX rfl) ?_⟩
        refine ⟨_, rfl, a, _, 0, _, rfl, rfl, sq, at0, rfl, _, rfl, ifX (strX rfl) ?_⟩
        refine ⟨_, rfl, a, _, 1, _, rfl, rfl, sq, at1, b1, u, rfl, e2, o1, by omega, _, rfl, a, _, 2, _, rfl, rfl, sq, at2v, b2, v, rfl, e3, o2, by omega, ?_⟩
        exact ⟨_, _, rfl, rfl, .inl ⟨by omega, by omega⟩, qq⟩
end
end K8
set_option Elab.async false
set_option linter.all false
set_option maxRecDepth 100000
set_option maxHeartbeats 4000000
namespace K8
open PySem PySem.Spec PyProof.Rows L2
open C8 (Cal pe_c)
open K8R
abbrev nKindIn : List Str := ["tree", "x", "y", "pairs", "other", "many", "one", "member"]
theorem scKindIn : FnScope nKindIn ["tree", "x", "y"] (defScope sKindIn) := ⟨rfl, rfl, rfl, by decide +kernel, rfl, by decide +kernel, by decide +kernel⟩
abbrev gKindIn0 : Scope := { kind := .function, names := [(".0", .local), ("one", .local), ("other", .local)], isGenerator := false, isCoroutine := false }
abbrev gKindIn1 : Scope := { kind := .function, names := [(".0", .local), ("member", .local), ("other", .free)], isGenerator := false, isCoroutine := false }
theorem flat_ints (xs : List Int) : (xs.map V.int).all flatV = true := by
  rw [List.all_eq_true]
  intro v hv
  obtain ⟨i, _, rfl⟩ := List.mem_map.mp hv
  rfl
theorem inV_ints (x : Int) : ∀ xs : List Int, inV (.int x) (xs.map V.int) = decide (x ∈ xs)
  | [] => rfl
  | y :: ys => by
    have ih := inV_ints x ys
    unfold inV at *
    rw [List.map_cons, List.any_cons, ih, Bool.eq_iff_iff]
    show ((y == x) || decide (x ∈ ys)) = true ↔ _
    rw [Bool.or_eq_true, beq_iff_eq, decide_eq_true_iff, decide_eq_true_iff, List.mem_cons]
    exact ⟨fun z => z.imp Eq.symm id, fun z => z.imp Eq.symm id⟩
section
variable {P : Program} {w : World} {K : PySem.W.Frag} {mg : Str → Option Value} {base : Heap}
def spKind (d : Nat) : Sp := fun vs H Q _ => ∃ (a : Addr) (t : Tr) (x y : Int), vs = [.ref a, .int x, .int y] ∧ IsTr H t a ∧ TrOk t ∧ hgt t ≤ d ∧ 0 ≤ x ∧ x < pts t ∧ 0 ≤ y ∧ y < pts t ∧ ∀ H', Same H H' → Q (.int (kin t x y)) H'
theorem ok_kind (T : T8 w K mg) : ∀ d : Nat, Cal P w K mg base (d + 3) "kind_in" (spKind d) []
  | 0 => by
    obtain ⟨fd, F⟩ := T.d.defs (d := dKindIn) (by simp [fnL])
    exact calNo 3 F (T.glo "kind_in" (by simp [faL, faL0, faL1])) (ps := ["tree", "x", "y"]) (fun _ _ _ _ _ _ us hl => match us, hl with | [_, _, _], _ => rfl) fun vs H Q E ⟨a, t, x, y, _, _, _, h, _⟩ => no_hgt h
  | d + 1 => by
    obtain ⟨fd, F⟩ := T.d.defs (d := dKindIn) (by simp [fnL])
    have c_self : Cal P w K mg base (d + 3) "kind_in" (spKind d) [] := ok_kind T d
    have c_figs : Cal P w K mg base 1 "figures_of" spFigs [] := ok_figs T
    have c_mem : Cal P w K mg base 2 "members_of" spMem [] := ok_mem T
    have c_pts : Cal P w K mg base (d + 1) "points_of" (spT d pts) [] := ok_points T d
    have c_knd : Cal P w K mg base (d + 1) "kinds_of" (spT d knd) [] := ok_kinds T d
    refine calN F (T.glo "kind_in" (by simp [faL, faL0, faL1])) scKindIn (fun _ _ _ _ _ _ us hl => match us, hl with | [_, _, _], _ => rfl) (fun vs H Q E h => ?_) (fun cdv A outer s H vs Q E hr h => ?_)
    · obtain ⟨a, t, x, y, rfl, _⟩ := h; rfl
    · obtain ⟨a, t, x, y, rfl, hT, hok, hh, x0, x1, y0, y1, qq⟩ := h
      refine ⟨_, (pss_cons (ps_if (pt_cmpR op_eq (pe_ix ix_tup (pv 0) pe_int (fun _ _ => rfl)) pe_str (nomark _)) (pss_one (ps_ret (pe_ix ix_tup (pe_ix ix_tup (pe_ix ix_tup (pv 0) pe_int (fun _ _ => rfl)) (pv 1) (fun _ _ => rfl)) (pv 2) (fun _ _ => rfl)))) pss_nil)
      (pss_cons (ps_if (pt_cmpR op_eq (pe_ix ix_tup (pv 0) pe_int (fun _ _ => rfl)) pe_str (nomark _)) (pss_cons (ps_set (i := 3) scKindIn.nd rfl (Or.inl rfl) (pe_callTy call_zipV rfl T.zip (by decide +kernel) (pa_cons (pe_c c_figs hr (by first | decide | omega) rfl (pa_cons (pe_ix ix_tup (pv 0) pe_int (fun _ _ => rfl)) (pa_cons (pe_ix ix_tup (pv 0) pe_int (fun _ _ => rfl)) (pa_cons (pv 1) pa_nil)))) (pa_cons (pe_c c_figs hr (by first | decide | omega) rfl (pa_cons (pe_ix ix_tup (pv 0) pe_int (fun _ _ => rfl)) (pa_cons (pe_ix ix_tup (pv 0) pe_int (fun _ _ => rfl)) (pa_cons (pv 2) pa_nil)))) pa_nil))))
      (pss_one (ps_ret (pe_callB call_len_seq rfl T.len PySem.boot_len (pa_cons (pe_lc (own := [("one", 6), ("other", 4)]) (g := (gTup K 2 (gCons (gName 6) (gCons (gName 4) gNil)))) rfl scKindIn.nd (pi_zipv (k := 3) rfl (Or.inl rfl)) (blkOk_by (N := nKindIn) (sc := (defScope sKindIn)) (scope := gKindIn0) (by decide +kernel)) (fun _ _ _ _ _ => (pg_tup rfl (pgs_cons (pg_name (i := 6) scKindIn.nd rfl (Or.inl rfl)) (pgs_cons (pg_name (i := 4) scKindIn.nd rfl (Or.inl rfl)) pgs_nil)))) (fun _ _ _ _ _ => (pts_one (pt_cmpR op_ne (pv 6) (pv 4) (nomark _)))) (fun _ _ _ _ _ => pe_bl)) pa_nil))))) pss_nil)
      (pss_cons (ps_if (pt_cmpR op_eq (pe_ix ix_tup (pv 0) pe_int (fun _ _ => rfl)) pe_str (nomark _)) (pss_cons (ps_set (i := 4) scKindIn.nd rfl (Or.inr rfl) (pe_c c_mem hr (by first | decide | omega) rfl (pa_cons (pe_ix ix_tup (pv 0) pe_int (fun _ _ => rfl)) (pa_cons (pe_ix ix_tup (pv 0) pe_int (fun _ _ => rfl)) (pa_cons (pv 2) pa_nil)))))
      (pss_one (ps_ret (pe_callB call_len_seq rfl T.len PySem.boot_len (pa_cons (pe_lc (own := [("member", 7)]) (g := (gName 7)) rfl scKindIn.nd (pi_tup (pe_c c_mem hr (by first | decide | omega) rfl (pa_cons (pe_ix ix_tup (pv 0) pe_int (fun _ _ => rfl)) (pa_cons (pe_ix ix_tup (pv 0) pe_int (fun _ _ => rfl)) (pa_cons (pv 1) pa_nil))))) (blkOk_by (N := nKindIn) (sc := (defScope sKindIn)) (scope := gKindIn1) (by decide +kernel)) (fun _ _ _ _ _ => (pg_name (i := 7) scKindIn.nd rfl (Or.inl rfl))) (fun _ _ _ _ _ => (pts_one (pt_cmpR (op_notInK (K := K) rfl) (pv 7) (pv 4) rfl))) (fun _ _ _ _ _ => (pv 7))) pa_nil))))) pss_nil)
      (pss_cons (ps_set (i := 5) scKindIn.nd rfl (Or.inl rfl) (pe_c c_pts hr (by first | decide | omega) rfl (pa_cons (pe_ix ix_tup (pv 0) pe_int (fun _ _ => rfl)) pa_nil)))
      (pss_one (ps_ret (pe_op op_add (pe_op op_mul (pe_c c_self hr (by first | decide | omega) rfl (pa_cons (pe_ix ix_tup (pv 0) pe_int (fun _ _ => rfl)) (pa_cons (pe_op op_fdiv (pv 1) (pv 5)) (pa_cons (pe_op op_fdiv (pv 2) (pv 5)) pa_nil)))) (pe_c c_knd hr (by first | decide | omega) rfl (pa_cons (pe_ix ix_tup (pv 0) pe_int (fun _ _ => rfl)) pa_nil))) (pe_c c_self hr (by first | decide | omega) rfl (pa_cons (pe_ix ix_tup (pv 0) pe_int (fun _ _ => rfl)) (pa_cons (pe_op op_mod (pv 1) (pv 5)) (pa_cons (pe_op op_mod (pv 2) (pv 5)) pa_nil))))))))))), ?_⟩
      cases t with
      | listed rows m =>
        obtain ⟨b, e1, hR⟩ := hT
        have g : GoodR rows m := hok
        have x1 : x < (rows.length : Int) := x1
        have y1 : y < (rows.length : Int) := y1
        have ex : ((x.toNat : Nat) : Int) = x := by omega
        have ey : ((y.toNat : Nat) : Int) = y := by omega
        have lr : (rowOf rows x.toNat).length = rows.length := g.sq x.toNat (by omega)
        obtain ⟨b0, xs0, w1, w2, w3⟩ := hR.at (K := K) (show x.toNat < rows.length by omega)
        rw [ex] at w2
        have w4 := atI_nat (row_some (rows := rows) (x := x.toNat) (y := y.toNat) (by omega))
        rw [ey] at w4
        have sq : SqT K H a [.str "listed", .ref b] := SqT.of e1
        refine ⟨_, rfl, a, _, 0, _, rfl, rfl, sq, at0, rfl, _, rfl, ifY rfl ?_⟩
        exact ⟨_, rfl, a, _, 1, _, rfl, rfl, sq, at1, _, rfl, b, _, x, _, rfl, rfl, w1, w2, _, rfl, b0, _, y, _, rfl, rfl, SqT.of w3, w4, qq _ fun _ _ e => e⟩
      | words n q =>
        obtain ⟨o1, o2, o3, o4, o5, o6⟩ := id hok
        have sq : SqT K H a [.str "words", .int n, .int q] := SqT.of hT
        refine ⟨_, rfl, a, _, 0, _, rfl, rfl, sq, at0, rfl, _, rfl, ifX (strX rfl) ?_⟩
        refine ⟨_, rfl, a, _, 0, _, rfl, rfl, sq, at0, rfl, _, rfl, ifY rfl ?_⟩
        refine ⟨_, rfl, a, _, 1, _, rfl, rfl, sq, at1, _, rfl, a, _, 2, _, rfl, rfl, sq, at2v, _, rfl, n, q, x, rfl, by omega, by omega, by omega, by omega, fun H1 f1 s1 n1 h1 => ?_⟩
        have sq : SqT K H1 a [.str "words", .int n, .int q] := SqT.of (s1 _ _ hT)
        refine ⟨_, rfl, a, _, 1, _, rfl, rfl, sq, at1, _, rfl, a, _, 2, _, rfl, rfl, sq, at2v, _, rfl, n, q, y, rfl, by omega, by omega, by omega, by omega, fun H2 f2 s2 n2 h2 => ?_⟩
        refine ⟨f1, f2, _, _, rfl, SqT.of (s2 _ _ h1), SqT.of h2, fun z TI TO i1 i2 D F5 Y => ?_⟩
        have lx : ((figs n q x).map V.int).length = n.toNat := by rw [List.length_map, figs_len]
        have ly : ((figs n q y).map V.int).length = n.toNat := by rw [List.length_map, figs_len]
        refine ⟨z, TI, TO, i1, i2, f1, f2, H2, rfl, D, F5, Y, rfl, fun L nL => lc_zipT (K := K) (xs := (figs n q x).map V.int) (ys := (figs n q y).map V.int) (by rw [lx, ly]) (fun i H' => Same H2 H' ∧ H' L = some (.lst (List.replicate (dif (figs n q x) (figs n q y) i) (.bl true))) ∧ i ≤ n.toNat) ⟨new_same nL, upd_same, Nat.zero_le _⟩ (fun i H' h => ⟨SqT.of (h.1 _ _ (s2 _ _ h1)), SqT.of (h.1 _ _ h2)⟩) ?_ ?_⟩
        · rintro i u v t H' hu hv ⟨sm, hL, hi⟩ nt
          obtain ⟨ia, ha, rfl⟩ : ∃ z, (figs n q x)[i]? = some z ∧ u = V.int z := by
            rw [List.getElem?_map] at hu
            cases e : (figs n q x)[i]? with
            | none => rw [e] at hu; cases hu
            | some z => rw [e] at hu; exact ⟨z, rfl, (Option.some.inj hu).symm⟩
          obtain ⟨ib, hb, rfl⟩ : ∃ z, (figs n q y)[i]? = some z ∧ v = V.int z := by
            rw [List.getElem?_map] at hv
            cases e : (figs n q y)[i]? with
            | none => rw [e] at hv; cases hv
            | some z => rw [e] at hv; exact ⟨z, rfl, (Option.some.inj hv).symm⟩
          have il : i < n.toNat := by rw [← lx, List.length_map]; exact (List.getElem?_eq_some_iff.mp ha).1
          have st : Same H' (upd H' t (.tup [.int ia, .int ib])) := new_same nt
          have hd := dif_le (figs n q x) (figs n q y) i
          refine ⟨t, _, rfl, SqT.of upd_same, rfl, _, _, rfl, _, _, rfl, rfl, rfl, ?_⟩
          refine ⟨_, rfl, _, rfl, rfl, _, rfl, ifN (fun c => ?_) (fun c => ?_)⟩
          · refine ⟨_, st _ _ hL, by rw [List.length_replicate]; exact small1000 (by omega), same_wr (sm.trans st) nL, ?_, il⟩
            have e : dif (figs n q x) (figs n q y) (i + 1) = dif (figs n q x) (figs n q y) i + 1 := by
              show _ + (if _ then 0 else 1) = _
              rw [if_neg]
              rw [ha, hb]
              exact fun z => c (int_eq.mpr (Option.some.inj z))
            rw [upd_same, e, List.replicate_succ']
          · have e : dif (figs n q x) (figs n q y) (i + 1) = dif (figs n q x) (figs n q y) i := by
              have z : (figs n q x)[i]? = (figs n q y)[i]? := by rw [ha, hb, int_eq.mp c]
              show _ + (if _ then 0 else 1) = _
              rw [if_pos z, Nat.add_zero]
            refine ⟨sm.trans st, ?_, il⟩
            rw [e]
            exact st _ _ hL
        · rintro H3 ⟨sm, hL, _⟩
          rw [lx] at hL
          refine ⟨L, _, rfl, .inl (SqL.of hL), ?_⟩
          rw [List.length_replicate]
          exact qq _ (s1.trans (s2.trans sm))
      | sets n k =>
        obtain ⟨o1, o2, o3, o4, o5, o6⟩ := id hok
        obtain ⟨mx1, mx2⟩ := setsB_ok o6 x0 x1
        obtain ⟨my1, my2⟩ := setsB_ok o6 y0 y1
        have sq : SqT K H a [.str "sets", .int n, .int k] := SqT.of hT
        refine ⟨_, rfl, a, _, 0, _, rfl, rfl, sq, at0, rfl, _, rfl, ifX (strX rfl) ?_⟩
        refine ⟨_, rfl, a, _, 0, _, rfl, rfl, sq, at0, rfl, _, rfl, ifX (strX rfl) ?_⟩
        refine ⟨_, rfl, a, _, 0, _, rfl, rfl, sq, at0, rfl, _, rfl, ifY rfl ?_⟩
        refine ⟨_, rfl, a, _, 1, _, rfl, rfl, sq, at1, _, rfl, a, _, 2, _, rfl, rfl, sq, at2v, _, rfl, n, k, y, _, rfl, by omega, by omega, by omega, by omega, my1, fun H1 f1 s1 n1 h1 => ?_⟩
        have sq : SqT K H1 a [.str "sets", .int n, .int k] := SqT.of (s1 _ _ hT)
        refine ⟨_, rfl, a, _, 1, _, rfl, rfl, sq, at1, _, rfl, a, _, 2, _, rfl, rfl, sq, at2v, _, rfl, n, k, x, _, rfl, by omega, by omega, by omega, by omega, mx1, fun H2 f2 s2 n2 h2 => ?_⟩
        refine ⟨f2, rfl, ⟨_, SqT.of h2⟩, fun L nL => lc_tup (K := K) (xs := (mem n k x).map V.int) (fun i H' => Same H2 H' ∧ H' L = some (.lst ((out ((mem n k x).take i) (mem n k y)).map V.int)) ∧ i ≤ (mem n k x).length) ⟨new_same nL, by rw [upd_same]; rfl, Nat.zero_le _⟩ (fun i H' _ h => SqT.of (h.1 _ _ h2)) ?_ ?_⟩
        · rintro i u H' hu ⟨sm, hL, hi⟩
          obtain ⟨ia, ha, rfl⟩ : ∃ z, (mem n k x)[i]? = some z ∧ u = V.int z := by
            rw [List.getElem?_map] at hu
            cases e : (mem n k x)[i]? with
            | none => rw [e] at hu; cases hu
            | some z => rw [e] at hu; exact ⟨z, rfl, (Option.some.inj hu).symm⟩
          have il : i < (mem n k x).length := (List.getElem?_eq_some_iff.mp ha).1
          have tk : (mem n k x).take (i + 1) = (mem n k x).take i ++ [ia] := by rw [List.take_add_one, ha]; rfl
          have ol : (out ((mem n k x).take i) (mem n k y)).length ≤ 100 := by
            have z1 := List.length_filter_le (fun z => !decide (z ∈ mem n k y)) ((mem n k x).take i)
            have z2 : ((mem n k x).take i).length ≤ 100 := by rw [List.length_take, mx2]; omega
            unfold out
            omega
          refine ⟨rfl, _, rfl, _, rfl, f1, (mem n k y).map V.int, rfl, .inr (SqT.of (sm _ _ (s2 _ _ h1))), rfl, flat_ints _, !decide (ia ∈ mem n k y), ?_, ifN (fun c => ?_) (fun c => ?_)⟩
          · show V.bl (!inV (.int ia) ((mem n k y).map V.int)) = _
            rw [inV_ints]
          · refine ⟨_, rfl, _, hL, by rw [List.length_map]; exact small1000 (by omega), same_wr sm nL, ?_, il⟩
            rw [upd_same, tk]
            unfold out
            rw [List.filter_append, List.map_append, List.filter_cons_of_pos (by simpa using c)]
            rfl
          · refine ⟨sm, ?_, il⟩
            rw [hL, tk]
            unfold out
            rw [List.filter_append, List.map_append, List.filter_cons_of_neg (by simpa using c)]
            simp
        · rintro H3 ⟨sm, hL, _⟩
          rw [List.length_map, List.take_length] at hL
          refine ⟨L, _, rfl, .inl (SqL.of hL), ?_⟩
          rw [List.length_map]
          exact qq _ (s1.trans (s2.trans sm))
      | prod u v =>
        obtain ⟨b1, b2, e1, e2, e3⟩ := hT
        obtain ⟨o1, o2, o3, o4, o5⟩ := id hok
        obtain ⟨⟨n1, n2⟩, ⟨n3, n4⟩, n5, n6⟩ := o1.nums
        obtain ⟨⟨l1, l2⟩, ⟨l3, l4⟩, l5, l6⟩ := o2.nums
        have x1 : x < pts u * pts v := x1
        have y1 : y < pts u * pts v := y1
        have sq : SqT K H a [.str "product", .ref b1, .ref b2] := SqT.of e1
        have hd : max (hgt u) (hgt v) + 1 ≤ d + 1 := hh
        refine ⟨_, rfl, a, _, 0, _, rfl, rfl, sq, at0, rfl, _, rfl, ifX (strX rfl) ?_⟩
        refine ⟨_, rfl, a, _, 0, _, rfl, rfl, sq, at0, rfl, _, rfl, ifX (strX rfl) ?_⟩
        refine ⟨_, rfl, a, _, 0, _, rfl, rfl, sq, at0, rfl, _, rfl, ifX (strX rfl) ?_⟩
        refine ⟨_, rfl, a, _, 2, _, rfl, rfl, sq, at2v, b2, v, rfl, e3, o2, by omega, ?_⟩
        refine ⟨_, rfl, a, _, 1, _, rfl, rfl, sq, at1, _, rfl, _, rfl, _, _, rfl, rfl, cdiv1 (by omega) (by omega), _, rfl, _, rfl, _, _, rfl, rfl, cdiv1 (by omega) (by omega), b1, u, x / pts v, y / pts v, rfl, e2, o1, by omega, Int.ediv_nonneg x0 (by omega), Int.ediv_lt_of_lt_mul (by omega) x1, Int.ediv_nonneg y0 (by omega), Int.ediv_lt_of_lt_mul (by omega) y1, fun H1 s1 => ?_⟩
        have sq : SqT K H1 a [.str "product", .ref b1, .ref b2] := SqT.of (s1 _ _ e1)
        refine ⟨_, rfl, a, _, 2, _, rfl, rfl, sq, at2v, b2, v, rfl, e3.mono s1, o2, by omega, _, _, rfl, rfl, .inr ⟨by omega, by omega⟩, ?_⟩
        refine ⟨_, rfl, a, _, 2, _, rfl, rfl, sq, at2v, _, rfl, _, rfl, _, _, rfl, rfl, by omega, _, rfl, _, rfl, _, _, rfl, rfl, by omega, b2, v, x % pts v, y % pts v, rfl, e3.mono s1, o2, by omega, Int.emod_nonneg _ (by omega), Int.emod_lt_of_pos _ (by omega), Int.emod_nonneg _ (by omega), Int.emod_lt_of_pos _ (by omega), fun H2 s2 => ?_⟩
        exact ⟨_, _, rfl, rfl, qq _ (s1.trans s2)⟩
end
end K8
set_option Elab.async false
set_option linter.all false
set_option maxRecDepth 100000
set_option maxHeartbeats 4000000
namespace K8
open PySem PySem.Spec PyProof.Rows L2
open C8 (Cal pe_c)
open K8R
abbrev nLKind : List Str := ["_law_tree_here", "_law_x", "_law_y", "_law_one", "_law_other", "_law_many_here", "_law_k", "_law_r"]
theorem scLKind : FnScope nLKind ["_law_tree_here", "_law_x", "_law_y"] (defScope sLKind) := ⟨rfl, rfl, rfl, by decide +kernel, rfl, by decide +kernel, by decide +kernel⟩
abbrev gLKind0 : Scope := { kind := .function, names := [(".0", .local), ("_law_k", .local), ("_law_one", .free), ("_law_other", .free)], isGenerator := false, isCoroutine := false }
abbrev gLKind1 : Scope := { kind := .function, names := [(".0", .local), ("_law_r", .local), ("_law_other", .free)], isGenerator := false, isCoroutine := false }
section
variable {P : Program} {w : World} {K : PySem.W.Frag} {mg : Str → Option Value} {base : Heap}
theorem ok_lkind (T : T8 w K mg) : ∀ d : Nat, Cal P w K mg base (d + 3) "_law_kind" (spKind d) []
  | 0 => by
    obtain ⟨fd, F⟩ := T.d.defs (d := dLKind) (by simp [fnL])
    exact calNo 3 F (T.glo "_law_kind" (by simp [faL, faL0, faL1])) (ps := ["_law_tree_here", "_law_x", "_law_y"]) (fun _ _ _ _ _ _ us hl => match us, hl with | [_, _, _], _ => rfl) fun vs H Q E ⟨a, t, x, y, _, _, _, h, _⟩ => no_hgt h
  | d + 1 => by
    obtain ⟨fd, F⟩ := T.d.defs (d := dLKind) (by simp [fnL])
    have c_self : Cal P w K mg base (d + 3) "_law_kind" (spKind d) [] := ok_lkind T d
    have c_figs : Cal P w K mg base 1 "_law_figures" spLFigs [] := ok_lfigs T
    have c_mem : Cal P w K mg base 2 "_law_members" spLMem [] := ok_lmem T
    have c_pts : Cal P w K mg base (d + 1) "_law_points" (spT d pts) [] := ok_lpoints T d
    have c_knd : Cal P w K mg base (d + 1) "_law_kinds" (spT d knd) [] := ok_lkinds T d
    refine calN F (T.glo "_law_kind" (by simp [faL, faL0, faL1])) scLKind (fun _ _ _ _ _ _ us hl => match us, hl with | [_, _, _], _ => rfl) (fun vs H Q E h => ?_) (fun cdv A outer s H vs Q E hr h => ?_)
    · obtain ⟨a, t, x, y, rfl, _⟩ := h; rfl
    · obtain ⟨a, t, x, y, rfl, hT, hok, hh, x0, x1, y0, y1, qq⟩ := h
      refine ⟨_, (pss_cons (ps_if (pt_cmpR op_eq (pe_ix ix_tup (pv 0) pe_int (fun _ _ => rfl)) pe_str (nomark _)) (pss_one (ps_ret (pe_ix ix_tup (pe_ix ix_tup (pe_ix ix_tup (pv 0) pe_int (fun _ _ => rfl)) (pv 1) (fun _ _ => rfl)) (pv 2) (fun _ _ => rfl)))) pss_nil)
      (pss_cons (ps_if (pt_cmpR op_eq (pe_ix ix_tup (pv 0) pe_int (fun _ _ => rfl)) pe_str (nomark _)) (pss_cons (ps_set (i := 3) scLKind.nd rfl (Or.inr rfl) (pe_c c_figs hr (by first | decide | omega) rfl (pa_cons (pe_ix ix_tup (pv 0) pe_int (fun _ _ => rfl)) (pa_cons (pe_ix ix_tup (pv 0) pe_int (fun _ _ => rfl)) (pa_cons (pv 1) pa_nil)))))
      (pss_cons (ps_set (i := 4) scLKind.nd rfl (Or.inr rfl) (pe_c c_figs hr (by first | decide | omega) rfl (pa_cons (pe_ix ix_tup (pv 0) pe_int (fun _ _ => rfl)) (pa_cons (pe_ix ix_tup (pv 0) pe_int (fun _ _ => rfl)) (pa_cons (pv 2) pa_nil)))))
      (pss_one (ps_ret (pe_callB call_len_seq rfl T.len PySem.boot_len (pa_cons (pe_lc (own := [("_law_k", 6)]) (g := (gName 6)) rfl scLKind.nd (pi_range1 rfl T.range (pa_cons (pe_ix ix_tup (pv 0) pe_int (fun _ _ => rfl)) pa_nil)) (blkOk_by (N := nLKind) (sc := (defScope sLKind)) (scope := gLKind0) (by decide +kernel)) (fun _ _ _ _ _ => (pg_name (i := 6) scLKind.nd rfl (Or.inl rfl))) (fun _ _ _ _ _ => (pts_one (pt_cmpR op_ne (pe_ix (ix_listK (K := K) rfl) (pv 3) (pv 6) (fun _ _ => rfl)) (pe_ix (ix_listK (K := K) rfl) (pv 4) (pv 6) (fun _ _ => rfl)) (nomark _)))) (fun _ _ _ _ _ => (pv 6))) pa_nil)))))) pss_nil)
      (pss_cons (ps_if (pt_cmpR op_eq (pe_ix ix_tup (pv 0) pe_int (fun _ _ => rfl)) pe_str (nomark _)) (pss_cons (ps_set (i := 3) scLKind.nd rfl (Or.inr rfl) (pe_c c_mem hr (by first | decide | omega) rfl (pa_cons (pe_ix ix_tup (pv 0) pe_int (fun _ _ => rfl)) (pa_cons (pe_ix ix_tup (pv 0) pe_int (fun _ _ => rfl)) (pa_cons (pv 1) pa_nil)))))
      (pss_cons (ps_set (i := 4) scLKind.nd rfl (Or.inr rfl) (pe_c c_mem hr (by first | decide | omega) rfl (pa_cons (pe_ix ix_tup (pv 0) pe_int (fun _ _ => rfl)) (pa_cons (pe_ix ix_tup (pv 0) pe_int (fun _ _ => rfl)) (pa_cons (pv 2) pa_nil)))))
      (pss_one (ps_ret (pe_op op_sub (pe_ix ix_tup (pv 0) pe_int (fun _ _ => rfl)) (pe_callB call_len_seq rfl T.len PySem.boot_len (pa_cons (pe_lc (own := [("_law_r", 7)]) (g := (gName 7)) rfl scLKind.nd (pi_list (pv 3)) (blkOk_by (N := nLKind) (sc := (defScope sLKind)) (scope := gLKind1) (by decide +kernel)) (fun _ _ _ _ _ => (pg_name (i := 7) scLKind.nd rfl (Or.inl rfl))) (fun _ _ _ _ _ => (pts_one (pt_cmpR (op_inK (K := K) rfl) (pv 7) (pv 4) rfl))) (fun _ _ _ _ _ => (pv 7))) pa_nil))))))) pss_nil)
      (pss_cons (ps_set (i := 5) scLKind.nd rfl (Or.inl rfl) (pe_c c_pts hr (by first | decide | omega) rfl (pa_cons (pe_ix ix_tup (pv 0) pe_int (fun _ _ => rfl)) pa_nil)))
      (pss_one (ps_ret (pe_op op_add (pe_op op_mul (pe_c c_self hr (by first | decide | omega) rfl (pa_cons (pe_ix ix_tup (pv 0) pe_int (fun _ _ => rfl)) (pa_cons (pe_op op_fdiv (pv 1) (pv 5)) (pa_cons (pe_op op_fdiv (pv 2) (pv 5)) pa_nil)))) (pe_c c_knd hr (by first | decide | omega) rfl (pa_cons (pe_ix ix_tup (pv 0) pe_int (fun _ _ => rfl)) pa_nil))) (pe_c c_self hr (by first | decide | omega) rfl (pa_cons (pe_ix ix_tup (pv 0) pe_int (fun _ _ => rfl)) (pa_cons (pe_op op_mod (pe_callTy call_int1 rfl T.tint (by decide +kernel) (pa_cons (pv 1) pa_nil)) (pv 5)) (pa_cons (pe_op op_mod (pe_callTy call_int1 rfl T.tint (by decide +kernel) (pa_cons (pv 2) pa_nil)) (pv 5)) pa_nil))))))))))), ?_⟩
      cases t with
      | listed rows m =>
        obtain ⟨b, e1, hR⟩ := hT
        have g : GoodR rows m := hok
        have x1 : x < (rows.length : Int) := x1
        have y1 : y < (rows.length : Int) := y1
        have ex : ((x.toNat : Nat) : Int) = x := by omega
        have ey : ((y.toNat : Nat) : Int) = y := by omega
        have lr : (rowOf rows x.toNat).length = rows.length := g.sq x.toNat (by omega)
        obtain ⟨b0, xs0, w1, w2, w3⟩ := hR.at (K := K) (show x.toNat < rows.length by omega)
        rw [ex] at w2
        have w4 := atI_nat (row_some (rows := rows) (x := x.toNat) (y := y.toNat) (by omega))
        rw [ey] at w4
        have sq : SqT K H a [.str "listed", .ref b] := SqT.of e1
        refine ⟨_, rfl, a, _, 0, _, rfl, rfl, sq, at0, rfl, _, rfl, ifY rfl ?_⟩
        exact ⟨_, rfl, a, _, 1, _, rfl, rfl, sq, at1, _, rfl, b, _, x, _, rfl, rfl, w1, w2, _, rfl, b0, _, y, _, rfl, rfl, SqT.of w3, w4, qq _ fun _ _ e => e⟩
      | words n q =>
        obtain ⟨o1, o2, o3, o4, o5, o6⟩ := id hok
        have sq : SqT K H a [.str "words", .int n, .int q] := SqT.of hT
        refine ⟨_, rfl, a, _, 0, _, rfl, rfl, sq, at0, rfl, _, rfl, ifX (strX rfl) ?_⟩
        refine ⟨_, rfl, a, _, 0, _, rfl, rfl, sq, at0, rfl, _, rfl, ifY rfl ?_⟩
        refine ⟨_, rfl, a, _, 1, _, rfl, rfl, sq, at1, _, rfl, a, _, 2, _, rfl, rfl, sq, at2v, _, rfl, n, q, x, rfl, by omega, by omega, by omega, by omega, fun H1 f1 s1 n1 h1 => ?_⟩
        have sq : SqT K H1 a [.str "words", .int n, .int q] := SqT.of (s1 _ _ hT)
        refine ⟨_, rfl, a, _, 1, _, rfl, rfl, sq, at1, _, rfl, a, _, 2, _, rfl, rfl, sq, at2v, _, rfl, n, q, y, rfl, by omega, by omega, by omega, by omega, fun H2 f2 s2 n2 h2 => ?_⟩
        have sq : SqT K H2 a [.str "words", .int n, .int q] := SqT.of (s2 _ _ (s1 _ _ hT))
        refine ⟨_, rfl, a, _, 1, _, rfl, rfl, sq, at1, n, rfl, by omega, by omega, fun L nL => lc_range (fun i H' => Same H2 H' ∧ ∃ acc, H' L = some (.lst acc) ∧ acc.length = dif (figs n q x) (figs n q y) i) ⟨new_same nL, [], upd_same, rfl⟩ ?_ ?_⟩
        · rintro i H' hi ⟨sm, acc, hL, hl⟩
          rw [Int.zero_add]
          have hix : i < (figs n q x).length := by rw [figs_len]; omega
          have hiy : i < (figs n q y).length := by rw [figs_len]; omega
          have ga := List.getElem?_eq_getElem hix
          have gb := List.getElem?_eq_getElem hiy
          have hd := dif_le (figs n q x) (figs n q y) i
          refine ⟨rfl, _, rfl, _, rfl, f1, _, _, _, rfl, rfl, SqL.of (sm _ _ (s2 _ _ h1)), atI_nat (by rw [List.getElem?_map, ga]; rfl), _, rfl, _, rfl, f2, _, _, _, rfl, rfl, SqL.of (sm _ _ h2), atI_nat (by rw [List.getElem?_map, gb]; rfl), rfl, _, rfl, ifN (fun c => ?_) (fun c => ?_)⟩
          · refine ⟨_, rfl, _, hL, small1000 (by omega), same_wr sm nL, _, upd_same, ?_⟩
            have e : dif (figs n q x) (figs n q y) (i + 1) = dif (figs n q x) (figs n q y) i + 1 := by
              show _ + (if _ then 0 else 1) = _
              rw [if_neg]
              rw [ga, gb]
              exact fun z => c (int_eq.mpr (Option.some.inj z))
            rw [List.length_append, hl, e]
            rfl
          · have e : dif (figs n q x) (figs n q y) (i + 1) = dif (figs n q x) (figs n q y) i := by
              have z : (figs n q x)[i]? = (figs n q y)[i]? := by rw [ga, gb, int_eq.mp c]
              show _ + (if _ then 0 else 1) = _
              rw [if_pos z, Nat.add_zero]
            exact ⟨sm, _, hL, by rw [hl, e]⟩
        · rintro H3 ⟨sm, acc, hL, hl⟩
          have hl : acc.length = dif (figs n q x) (figs n q y) n.toNat := by
            rw [hl]
          refine ⟨L, _, rfl, .inl (SqL.of hL), ?_⟩
          rw [hl]
          exact qq _ (s1.trans (s2.trans sm))
      | sets n k =>
        obtain ⟨o1, o2, o3, o4, o5, o6⟩ := id hok
        obtain ⟨mx1, mx2⟩ := setsB_ok o6 x0 x1
        obtain ⟨my1, my2⟩ := setsB_ok o6 y0 y1
        have sq : SqT K H a [.str "sets", .int n, .int k] := SqT.of hT
        refine ⟨_, rfl, a, _, 0, _, rfl, rfl, sq, at0, rfl, _, rfl, ifX (strX rfl) ?_⟩
        refine ⟨_, rfl, a, _, 0, _, rfl, rfl, sq, at0, rfl, _, rfl, ifX (strX rfl) ?_⟩
        refine ⟨_, rfl, a, _, 0, _, rfl, rfl, sq, at0, rfl, _, rfl, ifY rfl ?_⟩
        refine ⟨_, rfl, a, _, 1, _, rfl, rfl, sq, at1, _, rfl, a, _, 2, _, rfl, rfl, sq, at2v, _, rfl, n, k, x, rfl, by omega, by omega, by omega, by omega, fun H1 f1 s1 n1 h1 => ?_⟩
        have sq : SqT K H1 a [.str "sets", .int n, .int k] := SqT.of (s1 _ _ hT)
        refine ⟨_, rfl, a, _, 1, _, rfl, rfl, sq, at1, _, rfl, a, _, 2, _, rfl, rfl, sq, at2v, _, rfl, n, k, y, rfl, by omega, by omega, by omega, by omega, fun H2 f2 s2 n2 h2 => ?_⟩
        have sq : SqT K H2 a [.str "sets", .int n, .int k] := SqT.of (s2 _ _ (s1 _ _ hT))
        refine ⟨_, rfl, a, _, 2, _, rfl, rfl, sq, at2v, ?_⟩
        refine ⟨_, rfl, f1, rfl, ⟨_, SqL.of (s2 _ _ h1)⟩, fun L nL => lc_list (K := K) (xs := (mem n k x).map V.int) (fun i H' => Same H2 H' ∧ H' L = some (.lst ((inn ((mem n k x).take i) (mem n k y)).map V.int)) ∧ i ≤ (mem n k x).length) ⟨new_same nL, by rw [upd_same]; rfl, Nat.zero_le _⟩ (fun i H' _ h => SqL.of (h.1 _ _ (s2 _ _ h1))) ?_ ?_⟩
        · rintro i u H' hu ⟨sm, hL, hi⟩
          obtain ⟨ia, ha, rfl⟩ : ∃ z, (mem n k x)[i]? = some z ∧ u = V.int z := by
            rw [List.getElem?_map] at hu
            cases e : (mem n k x)[i]? with
            | none => rw [e] at hu; cases hu
            | some z => rw [e] at hu; exact ⟨z, rfl, (Option.some.inj hu).symm⟩
          have il : i < (mem n k x).length := (List.getElem?_eq_some_iff.mp ha).1
          have tk : (mem n k x).take (i + 1) = (mem n k x).take i ++ [ia] := by rw [List.take_add_one, ha]; rfl
          have ol : (inn ((mem n k x).take i) (mem n k y)).length ≤ 100 := by
            have z1 := List.length_filter_le (fun z => decide (z ∈ mem n k y)) ((mem n k x).take i)
            have z2 : ((mem n k x).take i).length ≤ 100 := by rw [List.length_take, mx2]; omega
            unfold inn
            omega
          refine ⟨rfl, _, rfl, _, rfl, f2, (mem n k y).map V.int, rfl, .inl (SqL.of (sm _ _ h2)), rfl, flat_ints _, decide (ia ∈ mem n k y), ?_, ifD (fun c => ?_) (fun c => ?_)⟩
          · show V.bl (inV (.int ia) ((mem n k y).map V.int)) = _
            rw [inV_ints]
          · refine ⟨_, rfl, _, hL, by rw [List.length_map]; exact small1000 (by omega), same_wr sm nL, ?_, il⟩
            rw [upd_same, tk]
            unfold inn
            rw [List.filter_append, List.map_append, List.filter_cons_of_pos (by simpa using c)]
            rfl
          · refine ⟨sm, ?_, il⟩
            rw [hL, tk]
            unfold inn
            rw [List.filter_append, List.map_append, List.filter_cons_of_neg (by simpa using c)]
            simp
        · rintro H3 ⟨sm, hL, _⟩
          rw [List.length_map, List.take_length] at hL
          refine ⟨L, _, rfl, .inl (SqL.of hL), _, _, rfl, rfl, ?_⟩
          have z := inn_out (mem n k y) (mem n k x)
          have e : k - (((inn (mem n k x) (mem n k y)).map V.int).length : Int) = kin (.sets n k) x y := by
            show _ = (((out (mem n k x) (mem n k y)).length : Nat) : Int)
            rw [List.length_map]
            omega
          show Q (.int (k - (((inn (mem n k x) (mem n k y)).map V.int).length : Int))) H3
          rw [e]
          exact qq _ (s1.trans (s2.trans sm))
      | prod u v =>
        obtain ⟨b1, b2, e1, e2, e3⟩ := hT
        obtain ⟨o1, o2, o3, o4, o5⟩ := id hok
        obtain ⟨⟨n1, n2⟩, ⟨n3, n4⟩, n5, n6⟩ := o1.nums
        obtain ⟨⟨l1, l2⟩, ⟨l3, l4⟩, l5, l6⟩ := o2.nums
        have x1 : x < pts u * pts v := x1
        have y1 : y < pts u * pts v := y1
        have sq : SqT K H a [.str "product", .ref b1, .ref b2] := SqT.of e1
        have hd : max (hgt u) (hgt v) + 1 ≤ d + 1 := hh
        refine ⟨_, rfl, a, _, 0, _, rfl, rfl, sq, at0, rfl, _, rfl, ifX (strX rfl) ?_⟩
        refine ⟨_, rfl, a, _, 0, _, rfl, rfl, sq, at0, rfl, _, rfl, ifX (strX rfl) ?_⟩
        refine ⟨_, rfl, a, _, 0, _, rfl, rfl, sq, at0, rfl, _, rfl, ifX (strX rfl) ?_⟩
        refine ⟨_, rfl, a, _, 2, _, rfl, rfl, sq, at2v, b2, v, rfl, e3, o2, by omega, ?_⟩
        refine ⟨_, rfl, a, _, 1, _, rfl, rfl, sq, at1, _, rfl, _, rfl, _, _, rfl, rfl, cdiv1 (by omega) (by omega), _, rfl, _, rfl, _, _, rfl, rfl, cdiv1 (by omega) (by omega), b1, u, x / pts v, y / pts v, rfl, e2, o1, by omega, Int.ediv_nonneg x0 (by omega), Int.ediv_lt_of_lt_mul (by omega) x1, Int.ediv_nonneg y0 (by omega), Int.ediv_lt_of_lt_mul (by omega) y1, fun H1 s1 => ?_⟩
        have sq : SqT K H1 a [.str "product", .ref b1, .ref b2] := SqT.of (s1 _ _ e1)
        refine ⟨_, rfl, a, _, 2, _, rfl, rfl, sq, at2v, b2, v, rfl, e3.mono s1, o2, by omega, _, _, rfl, rfl, .inr ⟨by omega, by omega⟩, ?_⟩
        refine ⟨_, rfl, a, _, 2, _, rfl, rfl, sq, at2v, _, rfl, .inl ⟨_, rfl, _, rfl, _, _, rfl, rfl, by omega, _, rfl, .inl ⟨_, rfl, _, rfl, _, _, rfl, rfl, by omega, b2, v, x % pts v, y % pts v, rfl, e3.mono s1, o2, by omega, Int.emod_nonneg _ (by omega), Int.emod_lt_of_pos _ (by omega), Int.emod_nonneg _ (by omega), Int.emod_lt_of_pos _ (by omega), fun H2 s2 => ?_⟩⟩⟩
        exact ⟨_, _, rfl, rfl, qq _ (s1.trans s2)⟩
end
end K8
set_option Elab.async false
set_option linter.all false
set_option maxRecDepth 100000
set_option maxHeartbeats 4000000
namespace K8
open PySem PySem.Spec PyProof.Rows L2
open C8 (Cal pe_c)
open K8R
abbrev nKindTable : List Str := ["tree", "whole", "_", "count", "y", "x"]
theorem scKindTable : FnScope nKindTable ["tree"] (defScope sKindTable) := ⟨rfl, rfl, rfl, by decide +kernel, rfl, by decide +kernel, by decide +kernel⟩
abbrev gKindTable0 : Scope := { kind := .function, names := [(".0", .local), ("y", .local), ("kind_in", .globalImplicit), ("whole", .free), ("x", .free)], isGenerator := false, isCoroutine := false }
abbrev gKindTable1 : Scope := { kind := .function, names := [(".0", .local), ("x", .cell), ("tuple", .globalImplicit), ("range", .globalImplicit), ("count", .free), ("whole", .free)], isGenerator := false, isCoroutine := false }
section
variable {P : Program} {w : World} {K : PySem.W.Frag} {mg : Str → Option Value} {base : Heap}
def spTab : Sp := fun vs H Q _ => ∃ (a : Addr) (t : Tr), vs = [.ref a] ∧ IsTr H t a ∧ TrOk t ∧ hgt t ≤ 2 ∧ pts t ≤ 100 ∧ ∀ H' p, Same H H' → IsRows H' p (tab t) → Q (.ref p) H'
theorem ok_table (T : T8 w K mg) : Cal P w K mg base 6 "kind_table" spTab [] := by
  obtain ⟨fd, F⟩ := T.d.defs (d := dKindTable) (by simp [fnL])
  have c_part : Cal P w K mg base 5 "checked_part" (spPart 2) [.int 1] := ok_part1 T 2
  have c_kind : Cal P w K mg base 5 "kind_in" (spKind 2) [] := ok_kind T 2
  have gT := T.int "MOST_TABLE" 100 (by simp [faL, faL0, faL1])
  refine calN F (T.glo "kind_table" (by simp [faL, faL0, faL1])) scKindTable (fun _ _ _ _ _ _ us hl => match us, hl with | [_], _ => rfl) (fun vs H Q E h => ?_) (fun cdv A outer s H vs Q E hr h => ?_)
  · obtain ⟨a, t, rfl, _⟩ := h; rfl
  · obtain ⟨a, t, rfl, hT, hok, hh, hp, qq⟩ := h
    obtain ⟨⟨n1, n2⟩, ⟨n3, n4⟩, n5, n6⟩ := hok.nums
    refine ⟨_, (pss_cons (ps_asg (pe_c c_part hr (by first | decide | omega) rfl (pa_cons (pv 0) pa_nil)) (pg_tup rfl (pgs_cons (pg_name (i := 1) scKindTable.nd rfl (Or.inr rfl)) (pgs_cons (pg_name (i := 2) scKindTable.nd rfl (Or.inl rfl)) (pgs_cons (pg_name (i := 3) scKindTable.nd rfl (Or.inr rfl)) (pgs_cons (pg_name (i := 2) scKindTable.nd rfl (Or.inl rfl)) pgs_nil))))))
      (pss_cons (ps_if (pt_cmpR op_gt (pv 3) (C8.pe_gc rfl gT) (nomark _)) (pss_one ps_never) pss_nil)
      (pss_one (ps_ret (pe_callTy call_tuple_of rfl T.tuple (by decide +kernel) (pa_cons (pe_lc (own := [("x", 5)]) (g := (gName 5)) (tt := tYes) rfl scKindTable.nd (pi_range1 rfl T.range (pa_cons (pv 3) pa_nil)) (blkOk_by (N := nKindTable) (sc := (defScope sKindTable)) (scope := gKindTable1) (by decide +kernel)) (fun _ _ _ _ _ => (pg_name (i := 5) scKindTable.nd rfl (Or.inr rfl))) (fun _ _ _ _ _ => pts_nil) (fun _ _ _ _ _ => (pe_callTy (cr_tupK (K := K) rfl) rfl T.tuple (by decide +kernel) (pa_cons (pe_lc (own := [("y", 4)]) (g := (gName 4)) (tt := tYes) rfl scKindTable.nd (pi_range1 rfl T.range (pa_cons (pv 3) pa_nil)) (blkOk_by (N := nKindTable) (sc := (relS gKindTable1 (defScope sKindTable))) (scope := gKindTable0) (by decide +kernel)) (fun _ _ _ _ _ => (pg_name (i := 4) scKindTable.nd rfl (Or.inl rfl))) (fun _ _ _ _ _ => pts_nil) (fun _ _ _ _ _ => (pe_c c_kind hr (by first | decide | omega) rfl (pa_cons (pv 1) (pa_cons (pv 5) (pa_cons (pv 4) pa_nil)))))) pa_nil)))) pa_nil)))))), ?_⟩
    refine ⟨_, rfl, a, t, 1, rfl, hT, hok, hh, by omega, by omega, fun H1 p b s1 hp1 hb => ?_⟩
    refine ⟨p, _, rfl, SqT.of hp1, rfl, _, _, rfl, _, _, rfl, _, _, rfl, _, _, rfl, rfl, ?_⟩
    refine ⟨_, rfl, _, _, rfl, rfl, _, rfl, ifX (by omega) ?_⟩
    have eN : (((pts t).toNat : Nat) : Int) = pts t := by omega
    refine ⟨_, rfl, _, rfl, by omega, by omega, fun D nD => lc_range (fun i H' => Same H1 H' ∧ i ≤ (pts t).toNat ∧ ∃ as : List Addr, H' D = some (.lst (as.map V.ref)) ∧ as.length = i ∧ ∀ (j : Nat) c, as[j]? = some c → H' c = some (.tup ((rowOf (tab t) j).map V.int))) ⟨new_same nD, Nat.zero_le _, [], upd_same, rfl, fun j c e => by cases e⟩ ?_ ?_⟩
    · rintro i H2 hi ⟨s2, _, as, hD, hl, hr2⟩
      rw [Int.zero_add]
      refine ⟨rfl, yes_lc ?_⟩
      refine ⟨_, rfl, _, rfl, by omega, by omega, fun L nL => lc_range (fun j H' => Same H2 H' ∧ H' L = some (.lst (((List.range j).map fun y : Nat => kin t (i : Int) (y : Int)).map V.int))) ⟨new_same nL, upd_same⟩ ?_ ?_⟩
      · rintro j H3 hj ⟨s3, hL⟩
        rw [Int.zero_add]
        refine ⟨rfl, yes_lc ?_⟩
        refine ⟨_, rfl, _, rfl, _, rfl, b, t, (i : Int), (j : Int), rfl, hb.mono (s2.trans s3), hok, hh, by omega, by omega, by omega, by omega, fun H4 s4 => ?_⟩
        refine ⟨_, s4 _ _ hL, by rw [List.length_map, List.length_map, List.length_range]; exact small1000 (by omega), same_wr (s3.trans s4) nL, ?_⟩
        rw [upd_same, List.range_succ, List.map_append, List.map_append]
        rfl
      · rintro H3 ⟨s3, hL⟩
        refine ⟨L, _, rfl, .inl ⟨SqL.of hL, fun r nr => ?_⟩⟩
        have s5 : Same H2 (upd H3 r (.tup (((List.range (pts t).toNat).map fun y : Nat => kin t (i : Int) (y : Int)).map V.int))) := s3.trans (new_same nr)
        refine ⟨_, s5 _ _ hD, by rw [List.length_map]; exact small1000 (by omega), same_wr (s2.trans s5) nD, hi, as ++ [r], ?_, by rw [List.length_append, hl]; rfl, fun j c e => ?_⟩
        · rw [upd_same, List.map_append]
          rfl
        · have ne : ∀ c', (∃ o, (upd H3 r (.tup (((List.range (pts t).toNat).map fun y : Nat => kin t (i : Int) (y : Int)).map V.int))) c' = some (.tup o)) → c' ≠ D := fun c' ⟨o, z⟩ e => by
            rw [e, s5 _ _ hD] at z
            cases z
          by_cases hj : j < as.length
          · rw [List.getElem?_append_left hj] at e
            have z := s5 _ _ (hr2 j c e)
            rw [upd_ne (ne c ⟨_, z⟩)]
            exact z
          · rw [List.getElem?_append_right (by omega)] at e
            have ej : j = i := by
              have := (List.getElem?_eq_some_iff.mp e).1
              rw [List.length_singleton] at this
              omega
            subst ej
            rw [hl, Nat.sub_self] at e
            have e : r = c := Option.some.inj e
            subst e
            rw [upd_ne (ne r ⟨_, upd_same⟩), upd_same]
            unfold tab
            rw [tabF_rowOf hi]
    · rintro H2 ⟨s2, _, as, hD, hl, hr2⟩
      refine ⟨D, _, rfl, .inl ⟨SqL.of hD, fun r nr => ?_⟩⟩
      refine qq _ r (s1.trans (s2.trans (new_same nr))) ⟨as, upd_same, by rw [hl]; unfold tab; rw [tabF_len], fun j c e => new_same nr _ _ (hr2 j c e)⟩
end
end K8
set_option Elab.async false
set_option linter.all false
set_option maxRecDepth 100000
set_option maxHeartbeats 4000000
namespace K8
open PySem PySem.Spec PyProof.Rows L2
open C8 (Cal pe_c)
open K8R
abbrev nLRefused : List Str := ["_law_tree_here", "e"]
theorem scLRefused : FnScope nLRefused ["_law_tree_here"] (defScope sLRefused) := ⟨rfl, rfl, rfl, by decide +kernel, rfl, by decide +kernel, by decide +kernel⟩
section
variable {P : Program} {w : World} {K : PySem.W.Frag} {mg : Str → Option Value} {base : Heap}
/-- kind_table of a tree with too many points: what it lets out -/
def spRef (K : PySem.W.Frag) : Sp := fun vs H _ E => ∃ (a : Addr) (t : Tr), vs = [.ref a] ∧ IsTr H t a ∧ TrOk t ∧ hgt t ≤ 2 ∧ 100 < pts t ∧ ∀ H', Same H H' → E (.ref (He.ga K "InvalidQuestion")) none H'
theorem fn_refuse (T : T8 w K mg) : ∃ fd, FnOk P w K mg base (L2.CX P w) 6 (He.ga K "kind_table") fd ["tree"] (spRef K) ∧ PySem.W.keepIn K (.ref (He.ga K "kind_table")) = true ∧ Binds K fd ["tree"] [] := by
  obtain ⟨fd, F⟩ := T.d.defs (d := dKindTable) (by simp [fnL])
  have c_part : Cal P w K mg base 5 "checked_part" (spPart 2) [.int 1] := ok_part1 T 2
  have gT := T.int "MOST_TABLE" 100 (by simp [faL, faL0, faL1])
  have gC := T.glo "InvalidQuestion" (by simp [faL, faL0, faL1])
  obtain ⟨x1, x2, x3, x4⟩ := He.exc_ok (T.fac (f := .exc "InvalidQuestion") (by simp [faL, faL0, faL1]))
  refine ⟨fd, F.ok scKindTable (fun vs H Q E h => ?_) (fun cdv A outer s H vs Q E hr h => ?_), F.kp, F.bindsN (fun _ _ _ _ _ _ us hl => match us, hl with | [_], _ => rfl)⟩
  · obtain ⟨a, t, rfl, _⟩ := h; rfl
  · obtain ⟨a, t, rfl, hT, hok, hh, hp, qq⟩ := h
    refine ⟨_, (pss_cons (ps_asg (pe_c c_part hr (by first | decide | omega) rfl (pa_cons (pv 0) pa_nil)) (pg_tup rfl (pgs_cons (pg_name (i := 1) scKindTable.nd rfl (Or.inr rfl)) (pgs_cons (pg_name (i := 2) scKindTable.nd rfl (Or.inl rfl)) (pgs_cons (pg_name (i := 3) scKindTable.nd rfl (Or.inr rfl)) (pgs_cons (pg_name (i := 2) scKindTable.nd rfl (Or.inl rfl)) pgs_nil))))))
      (pss_cons (ps_if (pt_cmpR op_gt (pv 3) (C8.pe_gc rfl gT) (nomark _)) (pss_one (ps_raise rfl (takes_of rfl rfl rfl rfl) (pmk_own PySem.F.excBase_ValueError x1 gC x2 (raises_own x3 x4) rfl))) pss_nil)
      (pss_one ps_never))), ?_⟩
    refine ⟨_, rfl, a, t, 1, rfl, hT, hok, hh, by omega, by omega, fun H1 p b s1 hp1 hb => ?_⟩
    refine ⟨p, _, rfl, SqT.of hp1, rfl, _, _, rfl, _, _, rfl, _, _, rfl, _, _, rfl, rfl, ?_⟩
    exact ⟨_, rfl, _, _, rfl, rfl, _, rfl, ifY (by omega) (qq _ s1)⟩
theorem pss_of {X : Cx} {sts : List Stmt} {p : Prop} {t : TS} (h : p → PSs X sts t) : PSs X sts (fun D σ H => p ∧ t D σ H) := ⟨fun pins s σ H D I q => (h q.1).run pins s σ H D I q.2⟩
theorem exc_c (T : T8 w K mg) : ExcC K (He.ga K "InvalidQuestion") ∧ PySem.W.kitOne K (.ref (He.ga K "InvalidQuestion")) (.type "ValueError") = some true ∧ PySem.W.kitOne K (.ref (He.ga K "InvalidQuestion")) (.ref (He.ga K "InvalidScheme")) = some false := by
  have h := T.ex
  unfold exB at h
  simp only [Bool.and_eq_true, decide_eq_true_eq] at h
  obtain ⟨_, h1, h2, h3, h4, h5, h6, h7, h8, h9, h10⟩ := h
  exact ⟨⟨He.eqO_ok h1, He.eqO_ok h2, h3, h4, He.eqO_ok h5, He.eqO_ok h6, h7, h8⟩, h9, h10⟩
theorem ok_refused (T : T8 w K mg) : Cal P w K mg base 7 "_law_refused" (fun vs H Q _ => ∃ (a : Addr) (t : Tr), vs = [.ref a] ∧ IsTr H t a ∧ TrOk t ∧ hgt t ≤ 2 ∧ 100 < pts t ∧ ∀ H', Same H H' → Q (.bl true) H') [] := by
  obtain ⟨fd, F⟩ := T.d.defs (d := dLRefused) (by simp [fnL])
  obtain ⟨ft, FT, kT, bT⟩ := fn_refuse (P := P) (w := w) (base := base) T
  have gT := T.glo "kind_table" (by simp [faL, faL0, faL1])
  have gC := T.glo "InvalidQuestion" (by simp [faL, faL0, faL1])
  have gS := T.glo "InvalidScheme" (by simp [faL, faL0, faL1])
  have xm := He.exm_ok (T.fac (f := .exm "InvalidQuestion" "InvalidQuestion" true) (by simp [faL, faL0, faL1]))
  obtain ⟨eC, i1, i2⟩ := exc_c T
  refine calN F (T.glo "_law_refused" (by simp [faL, faL0, faL1])) scLRefused (fun _ _ _ _ _ _ us hl => match us, hl with | [_], _ => rfl) (fun vs H Q E h => ?_) (fun cdv A outer s H vs Q E hr h => ?_)
  · obtain ⟨a, t, rfl, _⟩ := h; rfl
  · obtain ⟨a, t, rfl, hT, hok, hh, hp, qq⟩ := h
    refine ⟨_, pss_cons (ps_try_as (i := 1) (tb := fun W => tDrop (tCallS (spRef K) (WE W) (tCons (tVar 0) tNil))) (ts := fun a cls d D σ H => (cls = .ref (He.ga K "InvalidQuestion") ∧ d = none) ∧ tRet (tAndV (tCB (rIsE K (He.ga K "InvalidQuestion") a) (tCons (tVar 1) (tCons (tC (.ty "ValueError")) tNil))) (tNotV (tCB (rIsE K (He.ga K "InvalidQuestion") a) (tCons (tVar 1) (tCons (tC (.ref (He.ga K "InvalidScheme"))) tNil))))) D σ H) (Wout := fun _ _ _ _ => False) rfl rfl scLRefused.nd rfl rfl ⟨rfl, by decide, Or.inl gC⟩ takes0
      (fun W pn xe tk _ => pss_one (ps_expr (by exact (pe_callS FT hr rfl gT kT bT (fun σ => passAt tk σ) (by exact (pa_cons (pv 0) pa_nil))))))
      (fun a oe cls d pn hz hf => pss_of fun e => by
        obtain ⟨rfl, rfl⟩ := e
        exact pss_one (ps_ret (pe_and (pe_callB (call_isE eC hz hf) rfl T.isin (by decide +kernel) (pa_cons (pv 1) (pa_cons (pe_bltn (v := .ty "ValueError") rfl T.ve (u := .type "ValueError") (by decide +kernel) rfl) pa_nil))) (pe_one (pe_not (pe_callB (call_isE eC hz hf) rfl T.isin (by decide +kernel) (pa_cons (pv 1) (pa_cons (pe_glob (v := .ref (He.ga K "InvalidScheme")) rfl gS rfl) pa_nil)))))))))
      (pss_one (ps_ret pe_bl)), ?_⟩
    refine ⟨_, rfl, a, t, rfl, hT, hok, hh, hp, fun H' s1 => ⟨true, xm, fun _ x hx => ⟨⟨rfl, rfl⟩, ?_⟩, fun z => by cases z⟩⟩
    refine ⟨_, rfl, .ty "ValueError", .type "ValueError", true, rfl, fun u r => r, i1, true, rfl, iteT ?_⟩
    exact ⟨_, rfl, .ref (He.ga K "InvalidScheme"), .ref (He.ga K "InvalidScheme"), false, rfl, fun u r => r, i2, false, rfl, qq _ s1⟩
end
end K8
set_option Elab.async false
set_option linter.all false
set_option maxRecDepth 100000
set_option maxHeartbeats 4000000
namespace K8
open PySem PySem.Spec PyProof.Rows L2
open C8 (Cal pe_c)
open K8R
abbrev nLRow : List Str := ["_law_cell", "_law_many_here", "_law_row_here", "_law_rest", "_law_mixed", "_law_k"]
theorem scLRow : FnScope nLRow ["_law_cell", "_law_many_here"] (defScope sLRow) := ⟨rfl, rfl, rfl, by decide +kernel, rfl, by decide +kernel, by decide +kernel⟩
abbrev nLNumbers : List Str := ["_law_script", "_law_many_here", "_law_cells", "_law_each", "_law_numbers_here", "_law_cell", "_law_number"]
theorem scLNumbers : FnScope nLNumbers ["_law_script", "_law_many_here"] (defScope sLNumbers) := ⟨rfl, rfl, rfl, by decide +kernel, rfl, by decide +kernel, by decide +kernel⟩
theorem small5000 {n : Nat} (h : n ≤ 5000) : n < sizeLine := Nat.lt_of_le_of_lt h (by decide)
theorem sqL_same {K : PySem.W.Frag} {H H' : Hp} {a : Addr} {xs : List V} (h : SqL K H a xs) (e : Same H H') : SqL K H' a xs :=
  h.elim (fun h => .inl (h.elim (fun h => .inl (e _ _ h)) fun ⟨o, h⟩ => .inr ⟨o, e _ _ h⟩)) fun h => .inr h
section
variable {P : Program} {w : World} {K : PySem.W.Frag} {mg : Str → Option Value} {base : Heap}
/-- a new list of so many ints -/
def spLRow : Sp := fun vs H Q _ => ∃ c m : Int, vs = [.int c, .int m] ∧ 0 ≤ m ∧ m ≤ 1000 ∧ ∀ H' r (ns : List Int), Same H H' → H r = none → H' r = some (.lst (ns.map V.int)) → (ns.length : Int) = m → Q (.ref r) H'
theorem ok_lrow (T : T8 w K mg) : Cal P w K mg base 1 "_law_row" spLRow [] := by
  obtain ⟨fd, F⟩ := T.d.defs (d := dLRow) (by simp [fnL])
  refine calN F (T.glo "_law_row" (by simp [faL, faL0, faL1])) scLRow (fun _ _ _ _ _ _ us hl => match us, hl with | [_, _], _ => rfl) (fun vs H Q E h => ?_) (fun cdv A outer s H vs Q E hr h => ?_)
  · obtain ⟨c, m, rfl, _⟩ := h; rfl
  · obtain ⟨c, m, rfl, hm, hm', qq⟩ := h
    refine ⟨_, (pss_cons (ps_set (i := 2) scLRow.nd rfl (Or.inl rfl) (pe_lst pa_nil))
      (pss_cons (ps_set (i := 3) scLRow.nd rfl (Or.inl rfl) (pe_callB call_abs rfl T.abs (by decide +kernel) (pa_cons (pv 0) pa_nil)))
      (pss_cons (ps_set (i := 4) scLRow.nd rfl (Or.inl rfl) (pe_op op_mod (pe_callTy call_int1 rfl T.tint (by decide +kernel) (pa_cons (pe_op op_add (pe_op op_mul (pv 3) pe_int) pe_int) pa_nil)) pe_int))
      (pss_cons (ps_for PassesOwn.never rfl (pi_range1 rfl T.range (pa_cons (pv 1) pa_nil)) (pg_name (i := 5) scLRow.nd rfl (Or.inl rfl)) (pss_cons (ps_set (i := 4) scLRow.nd rfl (Or.inl rfl) (pe_op op_mod (pe_callTy call_int1 rfl T.tint (by decide +kernel) (pa_cons (pe_op op_add (pe_op op_mul (pv 4) pe_int) (pe_op op_mul pe_int (pe_op op_add (pv 5) pe_int))) pa_nil)) pe_int))
      (pss_one (ps_if (pt_cmpR op_ge (pe_callB call_abs rfl T.abs (by decide +kernel) (pa_cons (pv 0) pa_nil)) (pe_op op_pow pe_int pe_int) (nomark _)) (pss_cons (ps_expr (pe_bm PySem.F.plainAttrs_list PySem.F.slot_list_append PySem.F.type_list_append mt_append (pv 2) (pa_cons (pe_op op_mod (pe_callTy call_int1 rfl T.tint (by decide +kernel) (pa_cons (pv 3) pa_nil)) pe_int) pa_nil)))
      (pss_one (ps_set (i := 3) scLRow.nd rfl (Or.inl rfl) (pe_op op_fdiv (pv 3) pe_int)))) (pss_one (ps_expr (pe_bm PySem.F.plainAttrs_list PySem.F.slot_list_append PySem.F.type_list_append mt_append (pv 2) (pa_cons (pe_op op_mod (pe_callTy call_int1 rfl T.tint (by decide +kernel) (pa_cons (pe_op op_fdiv (pv 4) pe_int) pa_nil)) pe_int) pa_nil))))))))
      (pss_one (ps_ret (pv 2))))))), ?_⟩
    refine ⟨Nat.zero_le _, fun f nf => ?_⟩
    refine ⟨_, rfl, c, rfl, ?_⟩
    refine ⟨_, rfl, _, _, rfl, rfl, .inr ⟨by omega, by omega⟩, _, _, rfl, rfl, .inl ⟨_, rfl, _, _, rfl, rfl, by omega, ?_⟩⟩
    refine ⟨_, rfl, m, rfl, by omega, by omega, for_range (fun i σ H' => ∃ (rest mixed : Int) (y : Option V) (ns : List Int), σ = [some (.int c), some (.int m), some (.ref f), some (.int rest), some (.int mixed), y] ∧ Same H H' ∧ H' f = some (.lst (ns.map V.int)) ∧ ns.length = i ∧ i ≤ m.toNat) ⟨_, _, none, [], rfl, new_same nf, upd_same, rfl, Nat.zero_le _⟩ ?_ ?_⟩
    · rintro i σ H' hi ⟨rest, mixed, y, ns, rfl, sm, hf, hl, hi'⟩
      rw [Int.zero_add]
      refine ⟨_, rfl, _, _, rfl, rfl, .inr ⟨by omega, by omega⟩, _, rfl, _, _, rfl, rfl, _, _, rfl, rfl, .inl ⟨by omega, by omega⟩, _, _, rfl, rfl, .inl ⟨_, rfl, _, _, rfl, rfl, by omega, ?_⟩⟩
      refine ⟨_, rfl, c, rfl, _, _, rfl, rfl, ⟨by omega, by omega, by decide⟩, _, _, rfl, rfl, _, rfl, ifD (fun _ => ?_) (fun _ => ?_)⟩
      · refine ⟨.ref f, rfl, .inl ⟨rfl, _, SqL.of hf⟩, _, rfl, .inl ⟨_, rfl, _, _, rfl, rfl, by omega, f, _, _, rfl, rfl, hf, by rw [List.length_map]; exact small1000 (by omega), ?_⟩⟩
        refine ⟨_, rfl, _, _, rfl, rfl, cdiv1 (by omega) (by omega), _, _, _, ns ++ [rest % 1009], rfl, same_wr sm nf, ?_, by rw [List.length_append, hl]; rfl, by omega⟩
        rw [upd_same, List.map_append]
        rfl
      · refine ⟨.ref f, rfl, .inl ⟨rfl, _, SqL.of hf⟩, _, rfl, _, _, rfl, rfl, cdiv1 (by omega) (by omega), .inl ⟨_, rfl, _, _, rfl, rfl, by omega, f, _, _, rfl, rfl, hf, by rw [List.length_map]; exact small1000 (by omega), ?_⟩⟩
        refine ⟨_, _, _, ns ++ [(mixed * 16807 + 271 * ((i : Int) + 3)) % 2147483629 / 7 % 1009], rfl, same_wr sm nf, ?_, by rw [List.length_append, hl]; rfl, by omega⟩
        rw [upd_same, List.map_append]
        rfl
    · rintro σ H' ⟨rest, mixed, y, ns, rfl, sm, hf, hl, hi'⟩
      exact ⟨_, rfl, qq _ f ns sm nf hf (by omega)⟩
theorem cut_ints (ns : List Int) (lo hi : Option Int) : ∃ cs : List Int, cutV (ns.map V.int) lo hi = cs.map V.int ∧ cs.length ≤ ns.length := by
  unfold cutV
  rw [← List.map_drop, ← List.map_take]
  refine ⟨_, rfl, ?_⟩
  rw [List.length_take, List.length_drop]
  omega
theorem cut_take {xs : List V} (h : 50 ≤ xs.length) : cutV xs none (some 50) = xs.take 50 := by
  have e1 : HT.sIx xs.length 0 none = 0 := rfl
  have e2 : HT.sIx xs.length xs.length (some 50) = 50 := by
    show _ = 50
    unfold HT.sIx
    simp
    omega
  unfold cutV
  rw [e1, e2]
  rfl
theorem int_at {ns : List Int} {i : Nat} {v : V} (h : (ns.map V.int)[i]? = some v) : ∃ z, ns[i]? = some z ∧ v = V.int z := by
  rw [List.getElem?_map] at h
  cases e : ns[i]? with
  | none => rw [e] at h; cases h
  | some z => rw [e] at h; exact ⟨z, rfl, (Option.some.inj h).symm⟩
def spLNum (K : PySem.W.Frag) : Sp := fun vs H Q _ => ∃ (a : Addr) (ns : List Int), vs = [.ref a, .int 50] ∧ SqL K H a (ns.map V.int) ∧ ns.length ≤ 63 ∧ ∀ H' r (ms : List Int), Same H H' → H' r = some (.lst (ms.map V.int)) → ms.length = 50 → Q (.ref r) H'
theorem ok_lnum (T : T8 w K mg) : Cal P w K mg base 2 "_law_numbers" (spLNum K) [] := by
  obtain ⟨fd, F⟩ := T.d.defs (d := dLNumbers) (by simp [fnL])
  have c_row : Cal P w K mg base 1 "_law_row" spLRow [] := ok_lrow T
  refine calN F (T.glo "_law_numbers" (by simp [faL, faL0, faL1])) scLNumbers (fun _ _ _ _ _ _ us hl => match us, hl with | [_, _], _ => rfl) (fun vs H Q E h => ?_) (fun cdv A outer s H vs Q E hr h => ?_)
  · obtain ⟨a, ns, rfl, _⟩ := h; rfl
  · obtain ⟨a, ns, rfl, ha, hn, qq⟩ := h
    refine ⟨_, (pss_cons (ps_set (i := 2) scLNumbers.nd rfl (Or.inl rfl) (pe_slice sl_list (pv 0) po_none (po_some pe_int)))
      (pss_cons (ps_set (i := 3) scLNumbers.nd rfl (Or.inl rfl) (pe_op op_add pe_int (pe_op op_fdiv (pv 1) (pe_callB (call_max2 rfl) rfl T.max (by decide +kernel) (pa_cons pe_int (pa_cons (pe_callB call_len_seq rfl T.len PySem.boot_len (pa_cons (pv 2) pa_nil)) pa_nil))))))
      (pss_cons (ps_set (i := 4) scLNumbers.nd rfl (Or.inl rfl) (pe_lst pa_nil))
      (pss_cons (ps_for PassesOwn.never rfl (pi_list (pv 2)) (pg_name (i := 5) scLNumbers.nd rfl (Or.inl rfl)) (pss_one (ps_for PassesOwn.never rfl (pi_list (pe_c c_row hr (by first | decide | omega) rfl (pa_cons (pv 5) (pa_cons (pv 3) pa_nil)))) (pg_name (i := 6) scLNumbers.nd rfl (Or.inl rfl)) (pss_one (ps_expr (pe_bm PySem.F.plainAttrs_list PySem.F.slot_list_append PySem.F.type_list_append mt_append (pv 4) (pa_cons (pv 6) pa_nil)))))))
      (pss_cons (ps_while PassesOwn.never (pt_cmpR op_lt (pe_callB call_len_seq rfl T.len PySem.boot_len (pa_cons (pv 4) pa_nil)) (pv 1) (nomark _)) (pss_one (ps_expr (pe_bm PySem.F.plainAttrs_list PySem.F.slot_list_append PySem.F.type_list_append mt_append (pv 4) (pa_cons pe_int pa_nil)))))
      (pss_one (ps_ret (pe_slice sl_list (pv 4) po_none (po_some (pv 1)))))))))), ?_⟩
    refine ⟨_, rfl, _, rfl, a, _, rfl, ha, fun p np => ?_⟩
    obtain ⟨cs, ec, hc⟩ := cut_ints ns none (some 63)
    rw [ec]
    have s1 : Same H (upd H p (.lst (cs.map V.int))) := new_same np
    generalize hH1 : upd H p (.lst (cs.map V.int)) = H1 at s1 ⊢
    have hp1 : H1 p = some (.lst (cs.map V.int)) := by rw [← hH1]; exact upd_same
    refine ⟨_, rfl, _, rfl, p, _, rfl, .inl (SqL.of hp1), _, _, rfl, ?_⟩
    rw [List.length_map]
    have hmx : 1 ≤ (if (cs.length : Int) > 1 then (cs.length : Int) else 1) ∧ (if (cs.length : Int) > 1 then (cs.length : Int) else 1) ≤ 63 := by split <;> omega
    generalize (if (cs.length : Int) > 1 then (cs.length : Int) else 1) = mx at hmx ⊢
    have he0 : 0 ≤ 50 / mx := Int.ediv_nonneg (by omega) (by omega)
    have he1 : 50 / mx ≤ 50 := Int.ediv_le_self _ (by omega)
    refine ⟨_, _, rfl, rfl, cdiv1 (by omega) (by omega), _, _, rfl, rfl, ?_⟩
    generalize hEach : (fun i j : Int => V.int (i + j)) 1 (50 / mx) = ev
    have hEach : ev = V.int (1 + 50 / mx) := hEach.symm
    subst hEach
    generalize hE : 1 + 50 / mx = each
    have e0 : 0 ≤ each := by omega
    have e1 : each ≤ 51 := by omega
    refine ⟨Nat.zero_le _, fun f nf => ?_⟩
    have nf0 : H f = none := s1.free nf
    have pf : p ≠ f := fun e => by rw [e, nf] at hp1; cases hp1
    refine ⟨_, rfl, p, rfl, ⟨_, SqL.of (new_same nf _ _ hp1)⟩, for_list (K := K) (xs := cs.map V.int) (fun i σ H' => ∃ (y5 y6 : Option V) (ms : List Int), σ = [some (.ref a), some (.int 50), some (.ref p), some (.int each), some (.ref f), y5, y6] ∧ Same H H' ∧ H' p = some (.lst (cs.map V.int)) ∧ H' f = some (.lst (ms.map V.int)) ∧ ms.length ≤ 51 * i ∧ i ≤ cs.length)
      ⟨none, none, [], rfl, s1.trans (new_same nf), new_same nf _ _ hp1, upd_same, Nat.le_refl _, Nat.zero_le _⟩ (fun i σ H' _ ⟨_, _, _, _, _, z, _⟩ => SqL.of z) ?_ ?_⟩
    · rintro i v σ H2 hv ⟨y5, y6, ms, rfl, s2, hp2, hf2, hl2, hi2⟩
      obtain ⟨c, hc2, rfl⟩ := int_at hv
      have il : i < cs.length := (List.getElem?_eq_some_iff.mp hc2).1
      refine ⟨_, rfl, _, rfl, c, each, rfl, e0, by omega, fun H3 r rs s3 nr hr3 hrl => ?_⟩
      have rf : r ≠ f := fun e => by rw [e, hf2] at nr; cases nr
      refine ⟨r, rfl, ⟨_, SqL.of hr3⟩, for_list (K := K) (xs := rs.map V.int) (fun j σ H' => ∃ (y6 : Option V) (ms : List Int), σ = [some (.ref a), some (.int 50), some (.ref p), some (.int each), some (.ref f), some (.int c), y6] ∧ Same H H' ∧ H' p = some (.lst (cs.map V.int)) ∧ H' r = some (.lst (rs.map V.int)) ∧ H' f = some (.lst (ms.map V.int)) ∧ ms.length ≤ 51 * i + j)
        ⟨y6, ms, rfl, s2.trans s3, s3 _ _ hp2, hr3, s3 _ _ hf2, hl2⟩ (fun i σ H' _ ⟨_, _, _, _, _, z, _⟩ => SqL.of z) ?_ ?_⟩
      · rintro j v σ H4 hv ⟨y6, ms, rfl, s4, hp4, hr4, hf4, hl4⟩
        obtain ⟨d, hd4, rfl⟩ := int_at hv
        have jl : j < rs.length := (List.getElem?_eq_some_iff.mp hd4).1
        refine ⟨.ref f, rfl, .inl ⟨rfl, _, SqL.of hf4⟩, _, rfl, f, _, _, rfl, rfl, hf4, by rw [List.length_map]; exact small5000 (by omega), ?_⟩
        refine ⟨_, ms ++ [d], rfl, same_wr s4 nf0, by rw [upd_ne pf]; exact hp4, by rw [upd_ne rf]; exact hr4, ?_, by rw [List.length_append]; show ms.length + 1 ≤ _; omega⟩
        rw [upd_same, List.map_append]
        rfl
      · rintro σ H4 ⟨y6, ms, rfl, s4, hp4, hr4, hf4, hl4⟩
        rw [List.length_map] at hl4
        exact ⟨_, y6, ms, rfl, s4, hp4, hf4, by omega, il⟩
    · rintro σ H2 ⟨y5, y6, ms, rfl, s2, hp2, hf2, hl2, hi2⟩
      rw [List.length_map] at hl2
      refine ⟨fun u σ H' => ∃ (y5 y6 : Option V) (ms : List Int), σ = [some (.ref a), some (.int 50), some (.ref p), some (.int each), some (.ref f), y5, y6] ∧ Same H H' ∧ H' f = some (.lst (ms.map V.int)) ∧ ms.length ≤ 3300 ∧ u = 50 - ms.length,
        ⟨_, y5, y6, ms, rfl, s2, hf2, by omega, rfl⟩, fun u σ H' hW => ?_⟩
      obtain ⟨y5, y6, ms, rfl, s3, hf3, hl3, hu⟩ := hW
      refine ⟨_, rfl, f, _, rfl, .inl (SqL.of hf3), ?_⟩
      rw [List.length_map]
      refine ⟨_, rfl, _, _, rfl, rfl, _, rfl, ifD (fun c => ?_) (fun c => ?_)⟩
      · refine ⟨fun σ' H' => ∃ (ms' : List Int), σ' = [some (.ref a), some (.int 50), some (.ref p), some (.int each), some (.ref f), y5, y6] ∧ Same H H' ∧ H' f = some (.lst (ms'.map V.int)) ∧ ms'.length ≤ 3300 ∧ ms'.length = ms.length + 1,
          fun σ' H' ⟨ms', e1, e2, e3, e4, e5⟩ => ⟨50 - ms'.length, by omega, y5, y6, ms', e1, e2, e3, e4, rfl⟩, ?_⟩
        refine ⟨.ref f, rfl, .inl ⟨rfl, _, SqL.of hf3⟩, f, _, _, rfl, rfl, hf3, by rw [List.length_map]; exact small5000 (by omega), ?_⟩
        refine ⟨ms ++ [0], rfl, same_wr s3 nf0, ?_, by rw [List.length_append]; show ms.length + 1 ≤ _; omega, by rw [List.length_append]; rfl⟩
        rw [upd_same, List.map_append]
        rfl
      · refine ⟨_, rfl, _, rfl, _, rfl, f, _, rfl, SqL.of hf3, fun r nr => ?_⟩
        refine qq _ r (ms.take 50) (s3.trans (new_same nr)) ?_ (by rw [List.length_take]; omega)
        rw [upd_same, cut_take (by rw [List.length_map]; omega), List.map_take]
end
end K8
set_option Elab.async false
set_option linter.all false
set_option maxRecDepth 100000
set_option maxHeartbeats 4000000
namespace K8
open PySem PySem.Spec PyProof.Rows L2
open C8 (Cal pe_c)
open K8R
abbrev nLSets : List Str := ["_law_n", "_law_k", "_law_found", "_law_turn", "_law_longer", "_law_one", "_law_r"]
theorem scLSets : FnScope nLSets ["_law_n", "_law_k"] (defScope sLSets) := ⟨rfl, rfl, rfl, by decide +kernel, rfl, by decide +kernel, by decide +kernel⟩
theorem tIf_val {tA : TT} {ta tb : TE} {σ : L2.St} {H : Hp} {Q : VK} {v : V} (c : Prop) [Decidable c] (h1 : ∀ R : Bool → Hp → Prop, R (decide c) H → tA σ H R) (h2 : c → ∀ R : VK, R v H → ta σ H R) (h3 : ¬ c → ∀ R : VK, R v H → tb σ H R) (q : Q v H) : tIf tA ta tb σ H Q :=
  h1 _ (ifD (fun hc => h2 hc _ q) fun hc => h3 hc _ q)
/-! ### subsets, one element longer by each turn -/
def loS (one : List Int) : Int := match one.getLast? with | none => 0 | some l => l + 1
def ext5 (one : List Int) : List (List Int) := (List.range (5 - loS one).toNat).map fun j : Nat => one ++ [loS one + (j : Int)]
def sets5 : Nat → List (List Int)
  | 0 => [[]]
  | t + 1 => (sets5 t).flatMap ext5
theorem sets5_2 : sets5 2 = pairs52 := by decide +kernel
theorem sets5_ok {t : Nat} (h : t < 2) : (sets5 t).length ≤ 5 ∧ ∀ one ∈ sets5 t, 0 ≤ loS one ∧ loS one ≤ 5 := by
  match t, h with
  | 0, _ => exact ⟨by decide, by decide⟩
  | 1, _ => exact ⟨by decide, by decide⟩
theorem ext5_len {one : List Int} (h : 0 ≤ loS one) : (ext5 one).length ≤ 5 := by
  unfold ext5
  rw [List.length_map, List.length_range]
  omega
theorem ext5_take {one : List Int} {j : Nat} (h : j < (5 - loS one).toNat) : (ext5 one).take (j + 1) = (ext5 one).take j ++ [one ++ [loS one + (j : Int)]] := by
  rw [List.take_add_one]
  unfold ext5
  rw [List.getElem?_map, List.getElem?_range h]
  rfl
theorem flat_len {f : List Int → List (List Int)} : ∀ L : List (List Int), (∀ x ∈ L, (f x).length ≤ 5) → (L.flatMap f).length ≤ 5 * L.length
  | [], _ => Nat.le_refl _
  | x :: L, h => by
    have h1 := h x List.mem_cons_self
    have h2 := flat_len L fun y hy => h y (List.mem_cons_of_mem _ hy)
    rw [List.flatMap_cons, List.length_append, List.length_cons]
    omega
/-- a list of tuples of ints -/
def IsLT (H : Hp) (f : Addr) (L : List (List Int)) : Prop := ∃ as : List Addr, H f = some (.lst (as.map V.ref)) ∧ as.length = L.length ∧ ∀ (i : Nat) b, as[i]? = some b → H b = some (.tup ((rowOf L i).map V.int))
theorem IsLT.mono {H H' : Hp} {a : Addr} {L : List (List Int)} (s : Same H H') (h : IsLT H a L) : IsLT H' a L := by
  obtain ⟨as, h1, h2, h3⟩ := h
  exact ⟨as, s _ _ h1, h2, fun i b e => s _ _ (h3 i b e)⟩
theorem rowOf_left {L M : List (List Int)} {i : Nat} (h : i < L.length) : rowOf (L ++ M) i = rowOf L i := by
  unfold rowOf
  rw [List.getD_eq_getElem?_getD, List.getElem?_append_left h, List.getD_eq_getElem?_getD]
theorem rowOf_last {L : List (List Int)} {x : List Int} : rowOf (L ++ [x]) L.length = x := by
  unfold rowOf
  rw [List.getD_eq_getElem?_getD, List.getElem?_append_right (Nat.le_refl _), Nat.sub_self]
  rfl
theorem IsLT.push {H : Hp} {f b : Addr} {L : List (List Int)} {one : List Int} {as : List Addr} (hf : H f = some (.lst (as.map V.ref))) (hl : as.length = L.length) (hp : ∀ (i : Nat) c, as[i]? = some c → H c = some (.tup ((rowOf L i).map V.int)))
    (hb : H b = some (.tup (one.map V.int))) : IsLT (upd H f (.lst (as.map V.ref ++ [.ref b]))) f (L ++ [one]) := by
  have ne : ∀ {c : Addr} {o : List V}, H c = some (.tup o) → upd H f (.lst (as.map V.ref ++ [.ref b])) c = some (.tup o) := fun {c o} z => by
    rw [upd_ne fun e => by rw [e, hf] at z; cases z]
    exact z
  refine ⟨as ++ [b], by rw [upd_same, List.map_append]; rfl, by rw [List.length_append, List.length_append, hl]; rfl, fun i c e => ?_⟩
  by_cases hi : i < as.length
  · rw [List.getElem?_append_left hi] at e
    rw [rowOf_left (by omega)]
    exact ne (hp i c e)
  · rw [List.getElem?_append_right (by omega)] at e
    have ei : i = L.length := by
      have := (List.getElem?_eq_some_iff.mp e).1
      rw [List.length_singleton] at this
      omega
    subst ei
    rw [hl, Nat.sub_self] at e
    have e : b = c := Option.some.inj e
    subst e
    rw [rowOf_last]
    exact ne hb
theorem atI_last {one : List Int} {l : Int} (h : one.getLast? = some l) : atI (one.map V.int) (-1) = some (.int l) := by
  have hne : one ≠ [] := fun e => by rw [e] at h; cases h
  have hl : 0 < one.length := List.length_pos_iff.mpr hne
  unfold atI
  have e : ixN (one.map V.int).length (-1) = some (one.length - 1) := by
    unfold ixN
    rw [List.length_map, if_neg (by omega), if_pos (by omega)]
    congr 1
    omega
  rw [e, Option.bind_some, List.getElem?_map]
  rw [List.getLast?_eq_getElem?] at h
  rw [h]
  rfl
section
variable {P : Program} {w : World} {K : PySem.W.Frag} {mg : Str → Option Value} {base : Heap}
def spLSets : Sp := fun vs H Q _ => vs = [.int 5, .int 2] ∧ ∀ H' r, Same H H' → IsLT H' r pairs52 → Q (.ref r) H'
theorem ok_lsets (T : T8 w K mg) : Cal P w K mg base 1 "_law_sets" spLSets [] := by
  obtain ⟨fd, F⟩ := T.d.defs (d := dLSets) (by simp [fnL])
  refine calN F (T.glo "_law_sets" (by simp [faL, faL0, faL1])) scLSets (fun _ _ _ _ _ _ us hl => match us, hl with | [_, _], _ => rfl) (fun vs H Q E h => ?_) (fun cdv A outer s H vs Q E hr h => ?_)
  · obtain ⟨rfl, _⟩ := h; rfl
  · obtain ⟨rfl, qq⟩ := h
    refine ⟨_, (pss_cons (ps_set (i := 2) scLSets.nd rfl (Or.inl rfl) (pe_lst (pa_cons (pe_tup pa_nil) pa_nil)))
      (pss_cons (ps_for PassesOwn.never rfl (pi_range1 rfl T.range (pa_cons (pv 1) pa_nil)) (pg_name (i := 3) scLSets.nd rfl (Or.inl rfl)) (pss_cons (ps_set (i := 4) scLSets.nd rfl (Or.inl rfl) (pe_lst pa_nil))
      (pss_cons (ps_for PassesOwn.never rfl (pi_list (pv 2)) (pg_name (i := 5) scLSets.nd rfl (Or.inl rfl)) (pss_one (ps_for PassesOwn.never rfl (pi_range2 rfl T.range (pa_cons (pe_ifExp (pt_cmpR op_gt (pe_callB call_len_seq rfl T.len PySem.boot_len (pa_cons (pv 5) pa_nil)) pe_int (nomark _)) (pe_op op_add (pe_callTy call_int1 rfl T.tint (by decide +kernel) (pa_cons (pe_ix ix_tup (pv 5) (pe_un un_neg pe_int) (fun _ _ => rfl)) pa_nil)) pe_int) pe_int) (pa_cons (pv 0) pa_nil))) (pg_name (i := 6) scLSets.nd rfl (Or.inl rfl)) (pss_one (ps_expr (pe_bm PySem.F.plainAttrs_list PySem.F.slot_list_append PySem.F.type_list_append mt_append (pv 4) (pa_cons (pe_op op_catA (pv 5) (pe_tup (pa_cons (pv 6) pa_nil))) pa_nil)))))))
      (pss_one (ps_set (i := 2) scLSets.nd rfl (Or.inl rfl) (pv 4))))))
      (pss_one (ps_ret (pv 2))))), ?_⟩
    refine ⟨Nat.zero_le _, fun e0 n0 => ⟨(by show 1 ≤ sizeLine; decide), fun f nf => ?_⟩⟩
    have s0 : Same H (upd (upd H e0 (.tup [])) f (.lst [.ref e0])) := (new_same n0).trans (new_same nf)
    refine ⟨_, rfl, 2, rfl, by omega, by omega, for_range (fun t σ H' => ∃ (fl : Addr) (y3 y4 y5 y6 : Option V), σ = [some (.int 5), some (.int 2), some (.ref fl), y3, y4, y5, y6] ∧ Same H H' ∧ IsLT H' fl (sets5 t))
      ⟨f, none, none, none, none, rfl, s0, [e0], upd_same, rfl, fun i b e => ?_⟩ ?_ ?_⟩
    · cases i with
      | zero =>
        have e : e0 = b := Option.some.inj e
        subst e
        exact new_same nf _ _ upd_same
      | succ i => cases e
    · rintro t σ Ht ht ⟨fl, y3, y4, y5, y6, rfl, st, hfl⟩
      have ht : t < 2 := ht
      obtain ⟨l5, lo5⟩ := sets5_ok ht
      rw [Int.zero_add]
      refine ⟨Nat.zero_le _, fun g ng => ?_⟩
      obtain ⟨as, a1, a2, a3⟩ := id hfl
      have xl : ((as.map V.ref).length) = (sets5 t).length := by rw [List.length_map, a2]
      refine ⟨_, rfl, fl, rfl, ⟨_, SqL.of (new_same ng _ _ a1)⟩, for_list (K := K) (xs := as.map V.ref) (fun i σ H' => ∃ (y5 y6 : Option V), σ = [some (.int 5), some (.int 2), some (.ref fl), some (.int t), some (.ref g), y5, y6] ∧ Same Ht H' ∧ IsLT H' g (((sets5 t).take i).flatMap ext5) ∧ i ≤ (sets5 t).length)
        ⟨y5, y6, rfl, new_same ng, ⟨[], upd_same, rfl, fun i b e => by cases e⟩, Nat.zero_le _⟩ (fun i σ H' _ ⟨_, _, _, z, _⟩ => SqL.of (z _ _ a1)) ?_ ?_⟩
      · rintro i v σ H1 hv ⟨y5, y6, rfl, s1, hg, hi⟩
        obtain ⟨b, hb, rfl⟩ := ref_at hv
        have il : i < (sets5 t).length := by rw [← a2]; exact (List.getElem?_eq_some_iff.mp hb).1
        have hbt := a3 i b hb
        have hmem : rowOf (sets5 t) i ∈ sets5 t := by
          unfold rowOf
          rw [List.getD_eq_getElem?_getD, List.getElem?_eq_getElem il]
          exact List.getElem_mem il
        generalize hone : rowOf (sets5 t) i = one at hbt hmem
        have htk : (sets5 t).take (i + 1) = (sets5 t).take i ++ [one] := by
          rw [List.take_add_one, List.getElem?_eq_getElem il, ← hone]
          unfold rowOf
          rw [List.getD_eq_getElem?_getD, List.getElem?_eq_getElem il]
          rfl
        obtain ⟨o1, o2⟩ := lo5 one hmem
        have fl5 : (((sets5 t).take i).flatMap ext5).length ≤ 25 := by
          have z := flat_len (f := ext5) ((sets5 t).take i) fun x hx => ext5_len (lo5 x (List.mem_of_mem_take hx)).1
          rw [List.length_take] at z
          omega
        refine tIf_val (v := .int (loS one)) (0 < (one.map V.int).length) (fun R q => ?_) (fun hc R q => ?_) (fun hc R q => ?_) ?_
        · refine ⟨_, rfl, b, _, rfl, .inr (SqT.of (s1 _ _ hbt)), _, _, rfl, rfl, _, rfl, ?_⟩
          have e : decide ((0 : Int) < ((one.map V.int).length : Int)) = decide (0 < (one.map V.int).length) := by
            rw [Bool.eq_iff_iff, decide_eq_true_iff, decide_eq_true_iff]
            omega
          rw [e]
          exact q
        · cases hgl : one.getLast? with
          | none =>
            rw [List.getLast?_eq_none_iff] at hgl
            rw [hgl] at hc
            cases hc
          | some l =>
            have el : loS one = l + 1 := by unfold loS; rw [hgl]
            rw [el] at q
            exact ⟨_, rfl, _, rfl, b, _, -1, _, rfl, rfl, SqT.of (s1 _ _ hbt), atI_last hgl, .inl ⟨l, rfl, _, _, rfl, rfl, q⟩⟩
        · have e : one = [] := by
            cases one with
            | nil => rfl
            | cons x r => exact absurd (by rw [List.length_map]; exact Nat.succ_pos _) hc
          rw [e] at q
          exact q
        refine ⟨_, rfl, loS one, 5, rfl, ⟨by omega, by omega, by omega, by omega⟩, for_range (fun j σ H' => ∃ (y6 : Option V), σ = [some (.int 5), some (.int 2), some (.ref fl), some (.int t), some (.ref g), some (.ref b), y6] ∧ Same Ht H' ∧ IsLT H' g (((sets5 t).take i).flatMap ext5 ++ (ext5 one).take j)) ⟨y6, rfl, s1, by rw [List.take_zero, List.append_nil]; exact hg⟩ ?_ ?_⟩
        · rintro j σ H2 hj ⟨y6, rfl, s2, cs, c1, c2, c3⟩
          have hcl : cs.length ≤ 30 := by
            have z := ext5_len o1
            rw [c2, List.length_append, List.length_take]
            omega
          refine ⟨.ref g, rfl, .inl ⟨rfl, _, SqL.of c1⟩, ?_⟩
          refine ⟨_, rfl, _, rfl, (by show 1 ≤ sizeLine; decide), fun r nr => ?_⟩
          have sr : Same H2 (upd H2 r (.tup [.int (loS one + (j : Int))])) := new_same nr
          have fin : ∀ (H3 : Hp) (q : Addr), Same H2 H3 → H3 q = some (.tup ((one ++ [loS one + (j : Int)]).map V.int)) → Same Ht (upd H3 g (.lst (cs.map V.ref ++ [.ref q]))) ∧ IsLT (upd H3 g (.lst (cs.map V.ref ++ [.ref q]))) g (((sets5 t).take i).flatMap ext5 ++ (ext5 one).take (j + 1)) := fun H3 q s3 hq => by
            refine ⟨same_wr (s2.trans s3) ng, ?_⟩
            rw [ext5_take hj, ← List.append_assoc]
            exact IsLT.push (s3 _ _ c1) c2 (fun i c e => s3 _ _ (c3 i c e)) hq
          refine ⟨b, r, _, _, rfl, rfl, SqT.of (sr _ _ (s2 _ _ hbt)), SqT.of upd_same, ?_, fun e => ?_, fun _ e => (nomatch e), fun _ _ p np => ?_⟩
          · have z := (SqT.of (K := K) (s2 _ _ hbt))
            rw [List.length_map]
            have l1 : one.length ≤ 2 := by
              have z : ∀ t, t < 2 → ∀ one ∈ sets5 t, one.length ≤ 2 := by decide
              exact z t ht one hmem
            show one.length + 1 ≤ sizeLine
            exact Nat.le_trans (Nat.add_le_add_right l1 1) (by decide)
          · have e1 : one = [] := List.map_eq_nil_iff.mp e
            obtain ⟨z1, z2⟩ := fin _ r sr (by rw [upd_same, e1]; rfl)
            exact ⟨g, _, _, rfl, rfl, sr _ _ c1, by rw [List.length_map]; exact small1000 (by omega), _, rfl, z1, z2⟩
          · obtain ⟨z1, z2⟩ := fin _ p (sr.trans (new_same np)) (by rw [upd_same, List.map_append]; first | done | rfl)
            exact ⟨g, _, _, rfl, rfl, new_same np _ _ (sr _ _ c1), by rw [List.length_map]; exact small1000 (by omega), _, rfl, z1, z2⟩
        · rintro σ H2 ⟨y6, rfl, s2, h2⟩
          refine ⟨_, _, rfl, s2, ?_, il⟩
          rw [htk, List.flatMap_append, List.flatMap_singleton]
          have e : (ext5 one).take (5 - loS one).toNat = ext5 one := List.take_of_length_le (by unfold ext5; rw [List.length_map, List.length_range]; exact Nat.le_refl _)
          rw [e] at h2
          exact h2
      · rintro σ H1 ⟨y5, y6, rfl, s1, hg, hi⟩
        rw [xl, List.take_length] at hg
        exact ⟨_, rfl, g, _, _, _, _, rfl, st.trans s1, hg⟩
    · rintro σ H1 ⟨fl, y3, y4, y5, y6, rfl, s1, h1⟩
      have h1 : IsLT H1 fl (sets5 2) := h1
      rw [sets5_2] at h1
      exact ⟨_, rfl, qq H1 fl s1 h1⟩
end
end K8
set_option Elab.async false
set_option linter.all false
set_option maxRecDepth 100000
set_option maxHeartbeats 4000000
namespace K8
open PySem PySem.Spec PyProof.Rows L2
open C8 (Cal pe_c)
open K8R
abbrev nLRows : List Str := ["_law_number", "_law_which", "_law_pairs", "_law_c", "_law_r", "_law_x", "_law_other", "_law_one"]
theorem scLRows : FnScope nLRows ["_law_number"] (defScope sLRows) := ⟨rfl, rfl, rfl, by decide +kernel, rfl, by decide +kernel, by decide +kernel⟩
abbrev gLRows0 : Scope := { kind := .function, names := [(".0", .local), ("_law_c", .local), ("int", .globalImplicit), ("_law_r", .free)], isGenerator := false, isCoroutine := false }
abbrev gLRows1 : Scope := { kind := .function, names := [(".0", .local), ("_law_r", .cell), ("range", .globalImplicit)], isGenerator := false, isCoroutine := false }
abbrev gLRows2 : Scope := { kind := .function, names := [(".0", .local), ("_law_c", .local), ("int", .globalImplicit), ("_law_r", .free)], isGenerator := false, isCoroutine := false }
abbrev gLRows3 : Scope := { kind := .function, names := [(".0", .local), ("_law_r", .cell), ("range", .globalImplicit)], isGenerator := false, isCoroutine := false }
abbrev gLRows4 : Scope := { kind := .function, names := [(".0", .local), ("_law_c", .local), ("int", .globalImplicit), ("_law_r", .free)], isGenerator := false, isCoroutine := false }
abbrev gLRows5 : Scope := { kind := .function, names := [(".0", .local), ("_law_r", .cell), ("range", .globalImplicit)], isGenerator := false, isCoroutine := false }
abbrev gLRows6 : Scope := { kind := .function, names := [(".0", .local), ("_law_c", .local), ("int", .globalImplicit), ("_law_r", .free)], isGenerator := false, isCoroutine := false }
abbrev gLRows7 : Scope := { kind := .function, names := [(".0", .local), ("_law_r", .cell), ("range", .globalImplicit)], isGenerator := false, isCoroutine := false }
abbrev gLRows8 : Scope := { kind := .function, names := [(".0", .local), ("_law_c", .local), ("int", .globalImplicit), ("_law_r", .free)], isGenerator := false, isCoroutine := false }
abbrev gLRows9 : Scope := { kind := .function, names := [(".0", .local), ("_law_r", .cell), ("range", .globalImplicit)], isGenerator := false, isCoroutine := false }
abbrev gLRows10 : Scope := { kind := .function, names := [(".0", .local), ("_law_x", .local), ("_law_other", .free)], isGenerator := false, isCoroutine := false }
abbrev gLRows11 : Scope := { kind := .function, names := [(".0", .local), ("_law_other", .cell), ("len", .globalImplicit), ("_law_one", .free)], isGenerator := false, isCoroutine := false }
abbrev gLRows12 : Scope := { kind := .function, names := [(".0", .local), ("_law_one", .cell), ("_law_pairs", .free)], isGenerator := false, isCoroutine := false }
abbrev gLRows13 : Scope := { kind := .function, names := [(".0", .local), ("_law_c", .local), ("int", .globalImplicit), ("_law_r", .free)], isGenerator := false, isCoroutine := false }
abbrev gLRows14 : Scope := { kind := .function, names := [(".0", .local), ("_law_r", .cell), ("range", .globalImplicit)], isGenerator := false, isCoroutine := false }
section
variable {X : Cx} {tg l : Expr} {tl : TE}
theorem pi_listK {K : PySem.W.Frag} (h : X.K = K) (hl : PE X l tl) : PI X tg l (iList K tl) := by
  subst h
  exact pi_list hl
theorem pi_tupK {K : PySem.W.Frag} (h : X.K = K) (hl : PE X l tl) : PI X tg l (iTup K tl) := by
  subst h
  exact pi_tup hl
end
/-- a list of lists of ints -/
def IsLL (H : Hp) (f : Addr) (L : List (List Int)) : Prop := ∃ as : List Addr, H f = some (.lst (as.map V.ref)) ∧ as.length = L.length ∧ ∀ (i : Nat) b, as[i]? = some b → H b = some (.lst ((rowOf L i).map V.int))
theorem IsLL.mono {H H' : Hp} {a : Addr} {L : List (List Int)} (s : Same H H') (h : IsLL H a L) : IsLL H' a L := by
  obtain ⟨as, h1, h2, h3⟩ := h
  exact ⟨as, s _ _ h1, h2, fun i b e => s _ _ (h3 i b e)⟩
theorem IsLL.push {H : Hp} {f b : Addr} {L : List (List Int)} {one : List Int} {as : List Addr} (hf : H f = some (.lst (as.map V.ref))) (hl : as.length = L.length) (hp : ∀ (i : Nat) c, as[i]? = some c → H c = some (.lst ((rowOf L i).map V.int)) ∧ c ≠ f)
    (hb : H b = some (.lst (one.map V.int))) (hbf : b ≠ f) : ∃ as' : List Addr, as.map V.ref ++ [.ref b] = as'.map V.ref ∧ as'.length = (L ++ [one]).length ∧ ∀ (i : Nat) c, as'[i]? = some c → upd H f (.lst (as.map V.ref ++ [.ref b])) c = some (.lst ((rowOf (L ++ [one]) i).map V.int)) ∧ c ≠ f := by
  have ne : ∀ {c : Addr} {o : List V}, H c = some (.lst o) → c ≠ f → upd H f (.lst (as.map V.ref ++ [.ref b])) c = some (.lst o) := fun {c o} z n => by
    rw [upd_ne n]
    exact z
  refine ⟨as ++ [b], by rw [List.map_append]; rfl, by rw [List.length_append, List.length_append, hl]; rfl, fun i c e => ?_⟩
  by_cases hi : i < as.length
  · rw [List.getElem?_append_left hi] at e
    rw [rowOf_left (by omega)]
    exact ⟨ne (hp i c e).1 (hp i c e).2, (hp i c e).2⟩
  · rw [List.getElem?_append_right (by omega)] at e
    have ei : i = L.length := by
      have := (List.getElem?_eq_some_iff.mp e).1
      rw [List.length_singleton] at this
      omega
    subst ei
    rw [hl, Nat.sub_self] at e
    have e : b = c := Option.some.inj e
    subst e
    rw [rowOf_last]
    exact ⟨ne hb hbf, hbf⟩
/-- a table by two ranges -/
theorem grid_rg {te : TE} {σ : L2.St} {H : Hp} {Q : VK} {r c n : Nat} (hn : n ≤ 1000) (f : Nat → Nat → Int) (hw : ∀ v, wipe ((wipe σ [r]).set r v) [r] = wipe σ [r])
    (hw2 : ∀ u v, wipe ((wipe ((wipe σ [r]).set r u) [c]).set c v) [c] = wipe ((wipe σ [r]).set r u) [c])
    (he : ∀ i j : Nat, i < n → j < n → ∀ (H' : Hp) (R : VK), (∀ H'', Same H' H'' → R (.int (f i j)) H'') → te ((wipe ((wipe σ [r]).set r (some (.int (i : Int)))) [c]).set c (some (.int (j : Int)))) H' R)
    (q : ∀ H' p, Same H H' → IsLL H' p (tabF n f) → Q (.ref p) H') :
    tLc (iRng1 (tCons (tC (.int (n : Int))) tNil)) (gName r) tYes (tLc (iRng1 (tCons (tC (.int (n : Int))) tNil)) (gName c) tYes te [c]) [r] σ H Q := by
  refine ⟨n, rfl, by omega, by omega, fun D nD => ?_⟩
  rw [show ((n : Int)).toNat = n from Int.toNat_natCast n]
  refine lc_range (fun i H' => Same H H' ∧ i ≤ n ∧ ∃ as : List Addr, H' D = some (.lst (as.map V.ref)) ∧ as.length = ((tabF n f).take i).length ∧ ∀ (j : Nat) b, as[j]? = some b → H' b = some (.lst ((rowOf ((tabF n f).take i) j).map V.int)) ∧ b ≠ D) ⟨new_same nD, Nat.zero_le _, [], upd_same, rfl, fun j b e => by cases e⟩ ?_ ?_
  · rintro i H1 hi ⟨s1, _, as, a1, a2, a3⟩
    rw [Int.zero_add]
    have al : as.length ≤ 1000 := by rw [a2, List.length_take, tabF_len]; omega
    have ht : (tabF n f).take (i + 1) = (tabF n f).take i ++ [(List.range n).map fun y => f i y] := by rw [List.take_add_one, tabF_row hi]; rfl
    refine ⟨hw _, yes_lc ?_⟩
    refine ⟨n, rfl, by omega, by omega, fun L nL => ?_⟩
    rw [show ((n : Int)).toNat = n from Int.toNat_natCast n]
    refine lc_range (fun j H' => Same H1 H' ∧ H' L = some (.lst (((List.range j).map fun y => f i y).map V.int))) ⟨new_same nL, upd_same⟩ ?_ ?_
    · rintro j H2 hj ⟨s2, hL⟩
      rw [Int.zero_add]
      refine ⟨hw2 _ _, yes_lc ?_⟩
      refine he i j hi hj H2 _ fun H3 s3 => ?_
      refine ⟨_, s3 _ _ hL, by rw [List.length_map, List.length_map, List.length_range]; exact small1000 (by omega), same_wr (s2.trans s3) nL, ?_⟩
      rw [upd_same, List.range_succ, List.map_append, List.map_append]
      rfl
    · rintro H2 ⟨s2, hL⟩
      have LD : L ≠ D := fun e => by rw [e, a1] at nL; cases nL
      obtain ⟨as', b1, b2, b3⟩ := IsLL.push (one := (List.range n).map fun y => f i y) (s2 _ _ a1) a2 (fun j b e => ⟨s2 _ _ (a3 j b e).1, (a3 j b e).2⟩) hL LD
      refine ⟨_, s2 _ _ a1, by rw [List.length_map]; exact small1000 al, same_wr (s1.trans s2) nD, hi, as', ?_, ?_, ?_⟩
      · rw [upd_same, b1]
      · rw [ht]; exact b2
      · rw [ht]; exact b3
  · rintro H1 ⟨s1, _, as, a1, a2, a3⟩
    have e : (tabF n f).take n = tabF n f := List.take_of_length_le (by rw [tabF_len]; exact Nat.le_refl _)
    rw [e] at a2 a3
    exact q _ D s1 ⟨as, a1, a2, fun j b z => (a3 j b z).1⟩
/-- a table by a list of tuples, walked twice -/
theorem grid_ls {K : PySem.W.Frag} {te : TE} {σ : L2.St} {H : Hp} {Q : VK} {r c k : Nat} {a : Addr} {ps : List Addr} (hn : ps.length ≤ 1000) (f : Nat → Nat → Int) (ha : H a = some (.lst (ps.map V.ref))) (hk : σ[k]? = some (some (.ref a))) (hk2 : ∀ v, ((wipe σ [r]).set r v)[k]? = some (some (.ref a)))
    (hw : ∀ v, wipe ((wipe σ [r]).set r v) [r] = wipe σ [r]) (hw2 : ∀ u v, wipe ((wipe ((wipe σ [r]).set r u) [c]).set c v) [c] = wipe ((wipe σ [r]).set r u) [c])
    (he : ∀ (i j : Nat) bi bj, ps[i]? = some bi → ps[j]? = some bj → ∀ (H' : Hp) (R : VK), Same H H' → (∀ H'', Same H' H'' → R (.int (f i j)) H'') → te ((wipe ((wipe σ [r]).set r (some (.ref bi))) [c]).set c (some (.ref bj))) H' R)
    (q : ∀ H' p, Same H H' → IsLL H' p (tabF ps.length f) → Q (.ref p) H') :
    tLc (iList K (tVar k)) (gName r) tYes (tLc (iList K (tVar k)) (gName c) tYes te [c]) [r] σ H Q := by
  refine ⟨_, hk, a, rfl, ⟨_, SqL.of ha⟩, fun D nD => ?_⟩
  have xl : (ps.map V.ref).length = ps.length := List.length_map _
  refine lc_list (K := K) (xs := ps.map V.ref) (fun i H' => Same H H' ∧ i ≤ ps.length ∧ ∃ as : List Addr, H' D = some (.lst (as.map V.ref)) ∧ as.length = ((tabF ps.length f).take i).length ∧ ∀ (j : Nat) b, as[j]? = some b → H' b = some (.lst ((rowOf ((tabF ps.length f).take i) j).map V.int)) ∧ b ≠ D) ⟨new_same nD, Nat.zero_le _, [], upd_same, rfl, fun j b e => by cases e⟩ (fun i H' _ h => SqL.of (h.1 _ _ ha)) ?_ ?_
  · rintro i v H1 hv ⟨s1, _, as, a1, a2, a3⟩
    obtain ⟨bi, hbi, rfl⟩ := ref_at hv
    have hi : i < ps.length := (List.getElem?_eq_some_iff.mp hbi).1
    have al : as.length ≤ 1000 := by rw [a2, List.length_take, tabF_len]; omega
    have ht : (tabF ps.length f).take (i + 1) = (tabF ps.length f).take i ++ [(List.range ps.length).map fun y => f i y] := by rw [List.take_add_one, tabF_row hi]; rfl
    refine ⟨hw _, yes_lc ?_⟩
    refine ⟨_, hk2 _, a, rfl, ⟨_, SqL.of (s1 _ _ ha)⟩, fun L nL => ?_⟩
    refine lc_list (K := K) (xs := ps.map V.ref) (fun j H' => Same H1 H' ∧ H' L = some (.lst (((List.range j).map fun y => f i y).map V.int))) ⟨new_same nL, upd_same⟩ (fun i H' _ h => SqL.of (h.1 _ _ (s1 _ _ ha))) ?_ ?_
    · rintro j v H2 hv ⟨s2, hL⟩
      obtain ⟨bj, hbj, rfl⟩ := ref_at hv
      have hj : j < ps.length := (List.getElem?_eq_some_iff.mp hbj).1
      refine ⟨hw2 _ _, yes_lc ?_⟩
      refine he i j bi bj hbi hbj H2 _ (s1.trans s2) fun H3 s3 => ?_
      refine ⟨_, s3 _ _ hL, by rw [List.length_map, List.length_map, List.length_range]; exact small1000 (by omega), same_wr (s2.trans s3) nL, ?_⟩
      rw [upd_same, List.range_succ, List.map_append, List.map_append]
      rfl
    · rintro H2 ⟨s2, hL⟩
      rw [xl] at hL
      have LD : L ≠ D := fun e => by rw [e, a1] at nL; cases nL
      obtain ⟨as', b1, b2, b3⟩ := IsLL.push (one := (List.range ps.length).map fun y => f i y) (s2 _ _ a1) a2 (fun j b e => ⟨s2 _ _ (a3 j b e).1, (a3 j b e).2⟩) hL LD
      refine ⟨_, s2 _ _ a1, by rw [List.length_map]; exact small1000 al, same_wr (s1.trans s2) nD, hi, as', ?_, ?_, ?_⟩
      · rw [upd_same, b1]
      · rw [ht]; exact b2
      · rw [ht]; exact b3
  · rintro H1 ⟨s1, _, as, a1, a2, a3⟩
    rw [xl] at a2 a3
    have e : (tabF ps.length f).take ps.length = tabF ps.length f := List.take_of_length_le (by rw [tabF_len]; exact Nat.le_refl _)
    rw [e] at a2 a3
    exact q _ D s1 ⟨as, a1, a2, fun j b z => (a3 j b z).1⟩
theorem vne {i j : Int} : (if (!decide (V.int i = V.int j)) = true then (1 : Int) else 0) = if i ≠ j then 1 else 0 := by
  by_cases h : i = j
  · have e : (if i ≠ j then (1 : Int) else 0) = 0 := if_neg fun z => z h
    rw [decide_eq_true (int_eq.mpr h), e]; rfl
  · have e : (if i ≠ j then (1 : Int) else 0) = 1 := if_pos h
    rw [decide_eq_false (fun z => h (int_eq.mp z)), e]; rfl
theorem veq {i j : Int} : (if decide (V.int i = V.int j) = true then (1 : Int) else 0) = if i = j then 1 else 0 := by
  by_cases h : i = j
  · rw [decide_eq_true (int_eq.mpr h), if_pos h]; rfl
  · rw [decide_eq_false (fun z => h (int_eq.mp z)), if_neg h]; rfl
theorem atI_getD {xs : List Int} {k : Int} (h0 : 0 ≤ k) (h1 : k < xs.length) : atI (xs.map V.int) k = some (.int (xs.getD k.toNat 0)) := by
  have e : ((k.toNat : Nat) : Int) = k := by omega
  rw [← e]
  refine atI_nat ?_
  rw [Int.toNat_natCast, List.getElem?_map, List.getElem?_eq_getElem (by omega), List.getD_eq_getElem?_getD, List.getElem?_eq_getElem (by omega)]
  rfl
section
variable {P : Program} {w : World} {K : PySem.W.Frag} {mg : Str → Option Value} {base : Heap}
def spLRows : Sp := fun vs H Q _ => ∃ z : Int, vs = [.int z] ∧ ∀ H' r, Same H H' → IsLL H' r (K8.base (z % 8).toNat) → Q (.ref r) H'
theorem ok_lrows (T : T8 w K mg) : Cal P w K mg base 2 "_law_rows" spLRows [] := by
  obtain ⟨fd, F⟩ := T.d.defs (d := dLRows) (by simp [fnL])
  have c_sets : Cal P w K mg base 1 "_law_sets" spLSets [] := ok_lsets T
  refine calN F (T.glo "_law_rows" (by simp [faL, faL0, faL1])) scLRows (fun _ _ _ _ _ _ us hl => match us, hl with | [_], _ => rfl) (fun vs H Q E h => ?_) (fun cdv A outer s H vs Q E hr h => ?_)
  · obtain ⟨z, rfl, _⟩ := h; rfl
  · obtain ⟨z, rfl, qq⟩ := h
    refine ⟨_, (pss_cons (ps_set (i := 1) scLRows.nd rfl (Or.inl rfl) (pe_op op_mod (pe_callTy call_int1 rfl T.tint (by decide +kernel) (pa_cons (pv 0) pa_nil)) pe_int))
      (pss_cons (ps_if (pt_cmpR op_eq (pv 1) pe_int (nomark _)) (pss_one (ps_ret (pe_lst (pa_cons (pe_lst (pa_cons pe_int pa_nil)) pa_nil)))) pss_nil)
      (pss_cons (ps_if (pt_cmpR op_eq (pv 1) pe_int (nomark _)) (pss_one (ps_ret (pe_lc (own := [("_law_r", 4)]) (g := (gName 4)) (tt := tYes) rfl scLRows.nd (pi_range1 rfl T.range (pa_cons pe_int pa_nil)) (blkOk_by (N := nLRows) (sc := (defScope sLRows)) (scope := gLRows1) (by decide +kernel)) (fun _ _ _ _ _ => (pg_name (i := 4) scLRows.nd rfl (Or.inr rfl))) (fun _ _ _ _ _ => pts_nil) (fun _ _ _ _ _ => (pe_lc (own := [("_law_c", 3)]) (g := (gName 3)) (tt := tYes) rfl scLRows.nd (pi_range1 rfl T.range (pa_cons pe_int pa_nil)) (blkOk_by (N := nLRows) (sc := (relS gLRows1 (defScope sLRows))) (scope := gLRows0) (by decide +kernel)) (fun _ _ _ _ _ => (pg_name (i := 3) scLRows.nd rfl (Or.inl rfl))) (fun _ _ _ _ _ => pts_nil) (fun _ _ _ _ _ => (pe_callTy call_int1 rfl T.tint (by decide +kernel) (pa_cons (pe_cmpR op_ne (pv 4) (pv 3) (nomark _)) pa_nil)))))))) pss_nil)
      (pss_cons (ps_if (pt_cmpR op_eq (pv 1) pe_int (nomark _)) (pss_one (ps_ret (pe_lc (own := [("_law_r", 4)]) (g := (gName 4)) (tt := tYes) rfl scLRows.nd (pi_range1 rfl T.range (pa_cons pe_int pa_nil)) (blkOk_by (N := nLRows) (sc := (defScope sLRows)) (scope := gLRows3) (by decide +kernel)) (fun _ _ _ _ _ => (pg_name (i := 4) scLRows.nd rfl (Or.inr rfl))) (fun _ _ _ _ _ => pts_nil) (fun _ _ _ _ _ => (pe_lc (own := [("_law_c", 3)]) (g := (gName 3)) (tt := tYes) rfl scLRows.nd (pi_range1 rfl T.range (pa_cons pe_int pa_nil)) (blkOk_by (N := nLRows) (sc := (relS gLRows3 (defScope sLRows))) (scope := gLRows2) (by decide +kernel)) (fun _ _ _ _ _ => (pg_name (i := 3) scLRows.nd rfl (Or.inl rfl))) (fun _ _ _ _ _ => pts_nil) (fun _ _ _ _ _ => (pe_ifExp (pt_cmpR op_eq (pv 4) (pv 3) (nomark _)) pe_int (pe_op op_add pe_int (pe_callTy call_int1 rfl T.tint (by decide +kernel) (pa_cons (pe_cmpR op_eq (pe_op op_fdiv (pv 4) pe_int) (pe_op op_fdiv (pv 3) pe_int) (nomark _)) pa_nil)))))))))) pss_nil)
      (pss_cons (ps_if (pt_cmpR op_eq (pv 1) pe_int (nomark _)) (pss_one (ps_ret (pe_lc (own := [("_law_r", 4)]) (g := (gName 4)) (tt := tYes) rfl scLRows.nd (pi_range1 rfl T.range (pa_cons pe_int pa_nil)) (blkOk_by (N := nLRows) (sc := (defScope sLRows)) (scope := gLRows5) (by decide +kernel)) (fun _ _ _ _ _ => (pg_name (i := 4) scLRows.nd rfl (Or.inr rfl))) (fun _ _ _ _ _ => pts_nil) (fun _ _ _ _ _ => (pe_lc (own := [("_law_c", 3)]) (g := (gName 3)) (tt := tYes) rfl scLRows.nd (pi_range1 rfl T.range (pa_cons pe_int pa_nil)) (blkOk_by (N := nLRows) (sc := (relS gLRows5 (defScope sLRows))) (scope := gLRows4) (by decide +kernel)) (fun _ _ _ _ _ => (pg_name (i := 3) scLRows.nd rfl (Or.inl rfl))) (fun _ _ _ _ _ => pts_nil) (fun _ _ _ _ _ => (pe_ix (ix_tupK (K := K) rfl) (pe_tup (pa_cons pe_int (pa_cons pe_int (pa_cons pe_int (pa_cons pe_int (pa_cons pe_int (pa_cons pe_int pa_nil))))))) (pe_op op_mod (pe_callTy call_int1 rfl T.tint (by decide +kernel) (pa_cons (pe_op op_sub (pv 4) (pv 3)) pa_nil)) pe_int) (fun _ _ => rfl)))))))) pss_nil)
      (pss_cons (ps_if (pt_cmpR op_eq (pv 1) pe_int (nomark _)) (pss_one (ps_ret (pe_lc (own := [("_law_r", 4)]) (g := (gName 4)) (tt := tYes) rfl scLRows.nd (pi_range1 rfl T.range (pa_cons pe_int pa_nil)) (blkOk_by (N := nLRows) (sc := (defScope sLRows)) (scope := gLRows7) (by decide +kernel)) (fun _ _ _ _ _ => (pg_name (i := 4) scLRows.nd rfl (Or.inr rfl))) (fun _ _ _ _ _ => pts_nil) (fun _ _ _ _ _ => (pe_lc (own := [("_law_c", 3)]) (g := (gName 3)) (tt := tYes) rfl scLRows.nd (pi_range1 rfl T.range (pa_cons pe_int pa_nil)) (blkOk_by (N := nLRows) (sc := (relS gLRows7 (defScope sLRows))) (scope := gLRows6) (by decide +kernel)) (fun _ _ _ _ _ => (pg_name (i := 3) scLRows.nd rfl (Or.inl rfl))) (fun _ _ _ _ _ => pts_nil) (fun _ _ _ _ _ => (pe_ix (ix_tupK (K := K) rfl) (pe_tup (pa_cons pe_int (pa_cons pe_int (pa_cons pe_int (pa_cons pe_int (pa_cons pe_int pa_nil)))))) (pe_op op_mod (pe_callTy call_int1 rfl T.tint (by decide +kernel) (pa_cons (pe_op op_sub (pv 4) (pv 3)) pa_nil)) pe_int) (fun _ _ => rfl)))))))) pss_nil)
      (pss_cons (ps_if (pt_cmpR op_eq (pv 1) pe_int (nomark _)) (pss_one (ps_ret (pe_lc (own := [("_law_r", 4)]) (g := (gName 4)) (tt := tYes) rfl scLRows.nd (pi_range1 rfl T.range (pa_cons pe_int pa_nil)) (blkOk_by (N := nLRows) (sc := (defScope sLRows)) (scope := gLRows9) (by decide +kernel)) (fun _ _ _ _ _ => (pg_name (i := 4) scLRows.nd rfl (Or.inr rfl))) (fun _ _ _ _ _ => pts_nil) (fun _ _ _ _ _ => (pe_lc (own := [("_law_c", 3)]) (g := (gName 3)) (tt := tYes) rfl scLRows.nd (pi_range1 rfl T.range (pa_cons pe_int pa_nil)) (blkOk_by (N := nLRows) (sc := (relS gLRows9 (defScope sLRows))) (scope := gLRows8) (by decide +kernel)) (fun _ _ _ _ _ => (pg_name (i := 3) scLRows.nd rfl (Or.inl rfl))) (fun _ _ _ _ _ => pts_nil) (fun _ _ _ _ _ => (pe_op op_add (pe_callTy call_int1 rfl T.tint (by decide +kernel) (pa_cons (pe_cmpR op_ne (pe_op op_fdiv (pv 4) pe_int) (pe_op op_fdiv (pv 3) pe_int) (nomark _)) pa_nil)) (pe_callTy call_int1 rfl T.tint (by decide +kernel) (pa_cons (pe_cmpR op_ne (pe_op op_mod (pe_callTy call_int1 rfl T.tint (by decide +kernel) (pa_cons (pv 4) pa_nil)) pe_int) (pe_op op_mod (pe_callTy call_int1 rfl T.tint (by decide +kernel) (pa_cons (pv 3) pa_nil)) pe_int) (nomark _)) pa_nil))))))))) pss_nil)
      (pss_cons (ps_if (pt_cmpR op_eq (pv 1) pe_int (nomark _)) (pss_cons (ps_set (i := 2) scLRows.nd rfl (Or.inr rfl) (pe_c c_sets hr (by first | decide | omega) rfl (pa_cons pe_int (pa_cons pe_int pa_nil))))
      (pss_one (ps_ret (pe_lc (own := [("_law_one", 7)]) (g := (gName 7)) (tt := tYes) rfl scLRows.nd (pi_list (pv 2)) (blkOk_by (N := nLRows) (sc := (defScope sLRows)) (scope := gLRows12) (by decide +kernel)) (fun _ _ _ _ _ => (pg_name (i := 7) scLRows.nd rfl (Or.inr rfl))) (fun _ _ _ _ _ => pts_nil) (fun _ _ _ _ _ => (pe_lc (own := [("_law_other", 6)]) (g := (gName 6)) (tt := tYes) rfl scLRows.nd (pi_listK (K := K) rfl (pv 2)) (blkOk_by (N := nLRows) (sc := (relS gLRows12 (defScope sLRows))) (scope := gLRows11) (by decide +kernel)) (fun _ _ _ _ _ => (pg_name (i := 6) scLRows.nd rfl (Or.inr rfl))) (fun _ _ _ _ _ => pts_nil) (fun _ _ _ _ _ => (pe_op op_sub pe_int (pe_callB (cr_lenK (K := K) rfl) rfl T.len PySem.boot_len (pa_cons (pe_lc (own := [("_law_x", 5)]) (g := (gName 5)) rfl scLRows.nd (pi_tupK (K := K) rfl (pv 7)) (blkOk_by (N := nLRows) (sc := (relS gLRows11 (relS gLRows12 (defScope sLRows)))) (scope := gLRows10) (by decide +kernel)) (fun _ _ _ _ _ => (pg_name (i := 5) scLRows.nd rfl (Or.inl rfl))) (fun _ _ _ _ _ => (pts_one (pt_cmpR (op_inK (K := K) rfl) (pv 5) (pv 6) rfl))) (fun _ _ _ _ _ => (pv 5))) pa_nil)))))))))) pss_nil)
      (pss_one (ps_ret (pe_lc (own := [("_law_r", 4)]) (g := (gName 4)) (tt := tYes) rfl scLRows.nd (pi_range1 rfl T.range (pa_cons pe_int pa_nil)) (blkOk_by (N := nLRows) (sc := (defScope sLRows)) (scope := gLRows14) (by decide +kernel)) (fun _ _ _ _ _ => (pg_name (i := 4) scLRows.nd rfl (Or.inr rfl))) (fun _ _ _ _ _ => pts_nil) (fun _ _ _ _ _ => (pe_lc (own := [("_law_c", 3)]) (g := (gName 3)) (tt := tYes) rfl scLRows.nd (pi_range1 rfl T.range (pa_cons pe_int pa_nil)) (blkOk_by (N := nLRows) (sc := (relS gLRows14 (defScope sLRows))) (scope := gLRows13) (by decide +kernel)) (fun _ _ _ _ _ => (pg_name (i := 3) scLRows.nd rfl (Or.inl rfl))) (fun _ _ _ _ _ => pts_nil) (fun _ _ _ _ _ => (pe_ifExp (pt_cmpR op_eq (pv 4) (pv 3) (nomark _)) pe_int (pe_op op_add pe_int (pe_callTy call_int1 rfl T.tint (by decide +kernel) (pa_cons (pe_cmpR op_eq (pe_op op_mod (pe_callTy call_int1 rfl T.tint (by decide +kernel) (pa_cons (pe_op op_add (pv 4) (pv 3)) pa_nil)) pe_int) pe_int (nomark _)) pa_nil)))))))))))))))))), ?_⟩
    have z0 : 0 ≤ z % 8 := Int.emod_nonneg _ (by omega)
    have z8 : z % 8 < 8 := Int.emod_lt_of_pos _ (by omega)
    refine ⟨_, rfl, .inl ⟨_, rfl, _, _, rfl, rfl, by omega, ?_⟩⟩
    refine ⟨_, rfl, rfl, _, rfl, ifD (fun c => ?_) (fun c0 => ?_)⟩
    · have e : (z % 8).toNat = 0 := by have := int_eq.mp c; omega
      rw [e] at qq
      refine ⟨(by show 1 ≤ sizeLine; decide), fun b nb => ⟨(by show 1 ≤ sizeLine; decide), fun p np => ?_⟩⟩
      refine qq _ p ((new_same nb).trans (new_same np)) ⟨[b], upd_same, rfl, fun i x e => ?_⟩
      cases i with
      | zero =>
        have e : b = x := Option.some.inj e
        subst e
        exact new_same np _ _ upd_same
      | succ i => cases e
    have c0 : ¬ z % 8 = 0 := fun h => c0 (int_eq.mpr h)
    refine ⟨_, rfl, rfl, _, rfl, ifD (fun c => ?_) (fun c1 => ?_)⟩
    · have e : (z % 8).toNat = 1 := by have := int_eq.mp c; omega
      rw [e] at qq
      refine grid_rg (r := 4) (c := 3) (n := 4) (by omega) (fun i j => b1 i j) (fun _ => rfl) (fun _ _ => rfl) (fun i j hi hj H' R q => ?_) qq
      refine ⟨_, rfl, _, rfl, rfl, .inr ⟨_, rfl, ?_⟩⟩
      rw [vne]
      exact q _ fun _ _ e => e
    have c1 : ¬ z % 8 = 1 := fun h => c1 (int_eq.mpr h)
    refine ⟨_, rfl, rfl, _, rfl, ifD (fun c => ?_) (fun c2 => ?_)⟩
    · have e : (z % 8).toNat = 2 := by have := int_eq.mp c; omega
      rw [e] at qq
      refine grid_rg (r := 4) (c := 3) (n := 6) (by omega) (fun i j => b2 i j) (fun _ => rfl) (fun _ _ => rfl) (fun i j hi hj H' R q => ?_) qq
      refine ⟨_, rfl, _, rfl, rfl, _, rfl, ifD (fun c => ?_) (fun c => ?_)⟩
      · have e : b2 i j = 0 := if_pos (int_eq.mp c)
        have z := q H' fun _ _ e => e
        rw [e] at z
        exact z
      · have e : b2 i j = 1 + (if (i : Int) / 2 = (j : Int) / 2 then 1 else 0) := if_neg fun h => c (int_eq.mpr h)
        have z := q H' fun _ _ e => e
        rw [e, ← veq] at z
        exact ⟨_, rfl, _, _, rfl, rfl, cdiv1 (by omega) (by omega), _, rfl, _, _, rfl, rfl, cdiv1 (by omega) (by omega), rfl, .inr ⟨_, rfl, _, _, rfl, rfl, z⟩⟩
    have c2 : ¬ z % 8 = 2 := fun h => c2 (int_eq.mpr h)
    refine ⟨_, rfl, rfl, _, rfl, ifD (fun c => ?_) (fun c3 => ?_)⟩
    · have e : (z % 8).toNat = 3 := by have := int_eq.mp c; omega
      rw [e] at qq
      refine grid_rg (r := 4) (c := 3) (n := 6) (by omega) (fun i j => b3 i j) (fun _ => rfl) (fun _ _ => rfl) (fun i j hi hj H' R q => ?_) qq
      refine ⟨(by show 6 ≤ sizeLine; decide), fun p np => ?_⟩
      exact ⟨_, rfl, _, rfl, _, _, rfl, rfl, .inl ⟨_, rfl, _, _, rfl, rfl, by omega, p, _, _, _, rfl, rfl, SqT.of upd_same, atI_getD (xs := [0, 1, 2, 3, 2, 1]) (k := ((i : Int) - (j : Int)) % 6) (Int.emod_nonneg _ (by omega)) (by show _ < (6 : Int); exact Int.emod_lt_of_pos _ (by omega)), q _ (new_same np)⟩⟩
    have c3 : ¬ z % 8 = 3 := fun h => c3 (int_eq.mpr h)
    refine ⟨_, rfl, rfl, _, rfl, ifD (fun c => ?_) (fun c4 => ?_)⟩
    · have e : (z % 8).toNat = 4 := by have := int_eq.mp c; omega
      rw [e] at qq
      refine grid_rg (r := 4) (c := 3) (n := 5) (by omega) (fun i j => b4 i j) (fun _ => rfl) (fun _ _ => rfl) (fun i j hi hj H' R q => ?_) qq
      refine ⟨(by show 5 ≤ sizeLine; decide), fun p np => ?_⟩
      exact ⟨_, rfl, _, rfl, _, _, rfl, rfl, .inl ⟨_, rfl, _, _, rfl, rfl, by omega, p, _, _, _, rfl, rfl, SqT.of upd_same, atI_getD (xs := [0, 1, 2, 2, 1]) (k := ((i : Int) - (j : Int)) % 5) (Int.emod_nonneg _ (by omega)) (by show _ < (5 : Int); exact Int.emod_lt_of_pos _ (by omega)), q _ (new_same np)⟩⟩
    have c4 : ¬ z % 8 = 4 := fun h => c4 (int_eq.mpr h)
    refine ⟨_, rfl, rfl, _, rfl, ifD (fun c => ?_) (fun c5 => ?_)⟩
    · have e : (z % 8).toNat = 5 := by have := int_eq.mp c; omega
      rw [e] at qq
      refine grid_rg (r := 4) (c := 3) (n := 9) (by omega) (fun i j => b5 i j) (fun _ => rfl) (fun _ _ => rfl) (fun i j hi hj H' R q => ?_) qq
      have z := q H' fun _ _ e => e
      have e : b5 i j = (if (i : Int) / 3 ≠ (j : Int) / 3 then 1 else 0) + (if (i : Int) % 3 ≠ (j : Int) % 3 then 1 else 0) := rfl
      rw [e, ← vne, ← vne] at z
      exact ⟨_, rfl, _, _, rfl, rfl, cdiv1 (by omega) (by omega), _, rfl, _, _, rfl, rfl, cdiv1 (by omega) (by omega), rfl, .inr ⟨_, rfl, _, rfl, .inl ⟨_, rfl, _, _, rfl, rfl, by omega, _, rfl, .inl ⟨_, rfl, _, _, rfl, rfl, by omega, rfl, .inr ⟨_, rfl, _, _, rfl, rfl, z⟩⟩⟩⟩⟩
    have c5 : ¬ z % 8 = 5 := fun h => c5 (int_eq.mpr h)
    refine ⟨_, rfl, rfl, _, rfl, ifD (fun c => ?_) (fun c6 => ?_)⟩
    · have e : (z % 8).toNat = 6 := by have := int_eq.mp c; omega
      rw [e] at qq
      refine ⟨rfl, fun H1 g s1 hg => ?_⟩
      obtain ⟨ps, g1, g2, g3⟩ := hg
      have g2 : ps.length = 10 := g2
      have memr : ∀ (i : Nat) b, ps[i]? = some b → i < 10 ∧ (rowOf pairs52 i).length ≤ 2 := fun i b e => by
        have z := (List.getElem?_eq_some_iff.mp e).1
        have y : ∀ i, i < 10 → (rowOf pairs52 i).length ≤ 2 := by decide
        exact ⟨by omega, y i (by omega)⟩
      refine grid_ls (K := K) (r := 7) (c := 6) (k := 2) (a := g) (ps := ps) (by omega) (fun i j => b6 i j) g1 rfl (fun _ => rfl) (fun _ => rfl) (fun _ _ => rfl) (fun i j bi bj hi hj H2 R s2 q => ?_) (fun H2 p s2 h => qq H2 p (s1.trans s2) (by rw [g2] at h; exact h))
      have hbi := g3 i bi hi
      have hbj := g3 j bj hj
      refine ⟨_, rfl, bi, rfl, ⟨_, SqT.of (s2 _ _ hbi)⟩, fun L nL => lc_tup (K := K) (xs := (rowOf pairs52 i).map V.int) (fun t H' => Same H2 H' ∧ H' L = some (.lst ((inn ((rowOf pairs52 i).take t) (rowOf pairs52 j)).map V.int))) ⟨new_same nL, by rw [upd_same]; rfl⟩ (fun t H' _ h => SqT.of (h.1 _ _ (s2 _ _ hbi))) ?_ ?_⟩
      · rintro t u H' hu ⟨sm, hL⟩
        obtain ⟨ia, ha, rfl⟩ := int_at hu
        have tk : (rowOf pairs52 i).take (t + 1) = (rowOf pairs52 i).take t ++ [ia] := by rw [List.take_add_one, ha]; rfl
        have ol : (inn ((rowOf pairs52 i).take t) (rowOf pairs52 j)).length ≤ 100 := by
          have z1 := List.length_filter_le (fun z => decide (z ∈ rowOf pairs52 j)) ((rowOf pairs52 i).take t)
          have z2 : ((rowOf pairs52 i).take t).length ≤ 100 := by rw [List.length_take]; have := (memr i bi hi).2; omega
          unfold inn
          omega
        refine ⟨rfl, _, rfl, _, rfl, bj, (rowOf pairs52 j).map V.int, rfl, .inr (SqT.of (sm _ _ (s2 _ _ hbj))), rfl, flat_ints _, decide (ia ∈ rowOf pairs52 j), ?_, ifD (fun c => ?_) (fun c => ?_)⟩
        · show V.bl (inV (.int ia) ((rowOf pairs52 j).map V.int)) = _
          rw [inV_ints]
        · refine ⟨_, rfl, _, hL, by rw [List.length_map]; exact small1000 (by omega), same_wr sm nL, ?_⟩
          rw [upd_same, tk]
          unfold inn
          rw [List.filter_append, List.map_append, List.filter_cons_of_pos (by simpa using c)]
          rfl
        · refine ⟨sm, ?_⟩
          rw [hL, tk]
          unfold inn
          rw [List.filter_append, List.map_append, List.filter_cons_of_neg (by simpa using c)]
          simp
      · rintro H3 ⟨sm, hL⟩
        rw [List.length_map, List.take_length] at hL
        refine ⟨L, _, rfl, .inl (SqL.of hL), _, _, rfl, rfl, ?_⟩
        rw [List.length_map]
        exact q _ sm
    have c6 : ¬ z % 8 = 6 := fun h => c6 (int_eq.mpr h)
    have e : (z % 8).toNat = 7 := by omega
    rw [e] at qq
    refine grid_rg (r := 4) (c := 3) (n := 4) (by omega) (fun i j => b7 i j) (fun _ => rfl) (fun _ _ => rfl) (fun i j hi hj H' R q => ?_) qq
    refine ⟨_, rfl, _, rfl, rfl, _, rfl, ifD (fun c => ?_) (fun c => ?_)⟩
    · have e : b7 i j = 0 := if_pos (int_eq.mp c)
      have z := q H' fun _ _ e => e
      rw [e] at z
      exact z
    · have e : b7 i j = 1 + (if ((i : Int) + (j : Int)) % 2 = 0 then 1 else 0) := if_neg fun h => c (int_eq.mpr h)
      have z := q H' fun _ _ e => e
      rw [e, ← veq] at z
      exact ⟨_, rfl, _, rfl, _, _, rfl, rfl, .inl ⟨_, rfl, _, _, rfl, rfl, by omega, rfl, .inr ⟨_, rfl, _, _, rfl, rfl, z⟩⟩⟩
end
end K8
set_option Elab.async false
set_option linter.all false
set_option maxRecDepth 100000
set_option maxHeartbeats 4000000
namespace K8
open PySem PySem.Spec PyProof.Rows L2
open C8 (Cal pe_c)
open K8R
abbrev nLListed : List Str := ["_law_numbers_here", "_law_at", "_law_rows_here", "_law_left", "_law_names", "_law_k", "_law_c", "_law_r"]
theorem scLListed : FnScope nLListed ["_law_numbers_here", "_law_at"] (defScope sLListed) := ⟨rfl, rfl, rfl, by decide +kernel, rfl, by decide +kernel, by decide +kernel⟩
abbrev gLListed0 : Scope := { kind := .function, names := [(".0", .local), ("_law_c", .local), ("_law_r", .free), ("_law_rows_here", .free)], isGenerator := false, isCoroutine := false }
abbrev gLListed1 : Scope := { kind := .function, names := [(".0", .local), ("_law_r", .cell), ("tuple", .globalImplicit), ("_law_names", .free), ("_law_rows_here", .free)], isGenerator := false, isCoroutine := false }
theorem renamed_rowAt {w : Nat} {ns : List Nat} {x r : Nat} (h : ns[x]? = some r) : rowOf (renamed w ns) x = ns.map fun c => at2 (base w) r c := by
  have hx : x < ns.length := (List.getElem?_eq_some_iff.mp h).1
  rw [renamed_row hx, List.getD_eq_getElem?_getD, h]
  rfl
theorem pop_perm {α : Type} : ∀ (l : List α) (i : Nat) (x : α), l[i]? = some x → (x :: l.eraseIdx i).Perm l
  | [], i, x, h => by cases h
  | y :: l, 0, x, h => by
    have e : y = x := Option.some.inj h
    subst e
    exact List.Perm.refl _
  | y :: l, i + 1, x, h => (List.Perm.swap y x (l.eraseIdx i)).trans ((pop_perm l i x h).cons y)
theorem erase_map {α β : Type} (f : α → β) : ∀ (l : List α) (i : Nat), (l.map f).eraseIdx i = (l.eraseIdx i).map f
  | [], i => rfl
  | y :: l, 0 => rfl
  | y :: l, i + 1 => congrArg (f y :: ·) (erase_map f l i)
abbrev vN (j : Nat) : V := .int (j : Int)
theorem vN_map (ns : List Nat) : ns.map vN = (ns.map fun j : Nat => (j : Int)).map V.int := by rw [List.map_map]; rfl
section
variable {P : Program} {w : World} {K : PySem.W.Frag} {mg : Str → Option Value} {base : Heap}
def spLListed : Sp := fun vs H Q _ => ∃ (a : Addr) (ms : List Int), vs = [.ref a, .int 3] ∧ H a = some (.lst (ms.map V.int)) ∧ ms.length = 50 ∧
  ∀ H' p w ns, Same H H' → w < 8 → ns.Perm (List.range (baseN w)) → IsTr H' (.listed (renamed w ns) (baseM w)) p → Q (.ref p) H'
theorem ok_llisted (T : T8 w K mg) : Cal P w K mg base 3 "_law_listed" spLListed [] := by
  obtain ⟨fd, F⟩ := T.d.defs (d := dLListed) (by simp [fnL])
  have c_rows : Cal P w K mg base 2 "_law_rows" spLRows [] := ok_lrows T
  refine calN F (T.glo "_law_listed" (by simp [faL, faL0, faL1])) scLListed (fun _ _ _ _ _ _ us hl => match us, hl with | [_, _], _ => rfl) (fun vs H Q E h => ?_) (fun cdv A outer s H vs Q E hr h => ?_)
  · obtain ⟨a, ms, rfl, _⟩ := h; rfl
  · obtain ⟨a, ms, rfl, ha, hm, qq⟩ := h
    refine ⟨_, (pss_cons (ps_set (i := 2) scLListed.nd rfl (Or.inr rfl) (pe_c c_rows hr (by first | decide | omega) rfl (pa_cons (pe_ix ix_list (pv 0) (pv 1) (fun _ _ => rfl)) pa_nil)))
      (pss_cons (ps_set (i := 3) scLListed.nd rfl (Or.inl rfl) (pe_listRg rfl rfl T.list (prg_1 rfl T.range (pe_callB call_len_seq rfl T.len PySem.boot_len (pa_cons (pv 2) pa_nil)))))
      (pss_cons (ps_set (i := 4) scLListed.nd rfl (Or.inr rfl) (pe_lst pa_nil))
      (pss_cons (ps_for PassesOwn.never rfl (pi_range1 rfl T.range (pa_cons (pe_callB call_len_seq rfl T.len PySem.boot_len (pa_cons (pv 2) pa_nil)) pa_nil)) (pg_name (i := 5) scLListed.nd rfl (Or.inl rfl)) (pss_one (ps_expr (pe_bm PySem.F.plainAttrs_list PySem.F.slot_list_append PySem.F.type_list_append mt_append (pv 4) (pa_cons (pe_bm PySem.F.plainAttrs_list PySem.F.slot_list_pop PySem.F.type_list_pop mt_popAt (pv 3) (pa_cons (pe_op op_mod (pe_callTy call_int1 rfl T.tint (by decide +kernel) (pa_cons (pe_ix ix_list (pv 0) (pe_op op_add (pe_op op_add (pv 1) pe_int) (pv 5)) (fun _ _ => rfl)) pa_nil)) (pe_callB call_len_seq rfl T.len PySem.boot_len (pa_cons (pv 3) pa_nil))) pa_nil)) pa_nil)))))
      (pss_one (ps_ret (pe_tup (pa_cons pe_str (pa_cons (pe_callTy call_tuple_of rfl T.tuple (by decide +kernel) (pa_cons (pe_lc (own := [("_law_r", 7)]) (g := (gName 7)) (tt := tYes) rfl scLListed.nd (pi_list (pv 4)) (blkOk_by (N := nLListed) (sc := (defScope sLListed)) (scope := gLListed1) (by decide +kernel)) (fun _ _ _ _ _ => (pg_name (i := 7) scLListed.nd rfl (Or.inr rfl))) (fun _ _ _ _ _ => pts_nil) (fun _ _ _ _ _ => (pe_callTy (cr_tupK (K := K) rfl) rfl T.tuple (by decide +kernel) (pa_cons (pe_lc (own := [("_law_c", 6)]) (g := (gName 6)) (tt := tYes) rfl scLListed.nd (pi_listK (K := K) rfl (pv 4)) (blkOk_by (N := nLListed) (sc := (relS gLListed1 (defScope sLListed))) (scope := gLListed0) (by decide +kernel)) (fun _ _ _ _ _ => (pg_name (i := 6) scLListed.nd rfl (Or.inl rfl))) (fun _ _ _ _ _ => pts_nil) (fun _ _ _ _ _ => (pe_ix (ix_listK (K := K) rfl) (pe_ix (ix_listK (K := K) rfl) (pv 2) (pv 7) (fun _ _ => rfl)) (pv 6) (fun _ _ => rfl)))) pa_nil)))) pa_nil)) pa_nil))))))))), ?_⟩
    generalize hz : ms.getD (3 : Int).toNat 0 = z
    have a3 := atI_getD (xs := ms) (k := 3) (by omega) (by omega)
    rw [hz] at a3
    refine ⟨_, rfl, _, rfl, a, _, 3, _, rfl, rfl, SqL.of ha, a3, z, rfl, fun H1 r s1 hr => ?_⟩
    generalize hw : (z % 8).toNat = W at hr
    have hW : W < 8 := by
      have z0 : 0 ≤ z % 8 := Int.emod_nonneg _ (by omega)
      have z8 : z % 8 < 8 := Int.emod_lt_of_pos _ (by omega)
      omega
    obtain ⟨as, g1, g2, g3⟩ := hr
    have eN : (K8.base W).length = baseN W := tabF_len _ _
    rw [eN] at g2
    obtain ⟨bn1, bn2⟩ := baseN_le W
    have al : (as.map V.ref).length = baseN W := by rw [List.length_map, g2]
    have ha1 := s1 _ _ ha
    refine ⟨_, rfl, r, _, rfl, .inl (SqL.of g1), ?_⟩
    rw [al]
    refine ⟨_, rfl, RgOk.of_le (by omega) (by omega) (by omega) (by omega), fun lf nlf => ?_⟩
    rw [rgV_nat, ← vN_map]
    refine ⟨Nat.zero_le _, fun nm nnm => ?_⟩
    have s2 : Same H1 (upd (upd H1 lf (.lst ((List.range (baseN W)).map vN))) nm (.lst [])) := (new_same nlf).trans (new_same nnm)
    have nnm1 : H1 nm = none := (new_same nlf).free nnm
    have nl : nm ≠ lf := fun e => by rw [e, upd_same] at nnm; cases nnm
    refine ⟨_, rfl, r, _, rfl, .inl (SqL.of (s2 _ _ g1)), ?_⟩
    rw [al]
    refine ⟨_, rfl, by omega, by omega, for_range (fun i σ H' => ∃ (y5 : Option V) (ns ls : List Nat), σ = [some (.ref a), some (.int 3), some (.ref r), some (.ref lf), some (.ref nm), y5, none, none] ∧ Same H1 H' ∧ H' nm = some (.lst (ns.map vN)) ∧ H' lf = some (.lst (ls.map vN)) ∧ ns.length = i ∧ (ns ++ ls).Perm (List.range (baseN W)))
      ⟨none, [], List.range (baseN W), rfl, s2, upd_same, by rw [upd_ne (Ne.symm nl)]; exact upd_same, rfl, List.Perm.refl _⟩ ?_ ?_⟩
    · rintro i σ H2 hi ⟨y5, ns, ls, rfl, s3, hnm, hlf, hl, pm⟩
      rw [Int.zero_add]
      have hi : i < baseN W := by omega
      have pl := pm.length_eq
      rw [List.length_append, List.length_range] at pl
      have ll : ((ls.map vN).length : Int) = (baseN W : Int) - i := by rw [List.length_map]; omega
      have ai := atI_getD (xs := ms) (k := 3 + 1 + (i : Int)) (by omega) (by omega)
      generalize ms.getD (3 + 1 + (i : Int)).toNat 0 = q at ai
      have q0 : 0 ≤ q % ((ls.map vN).length : Int) := Int.emod_nonneg _ (by omega)
      have q1 : q % ((ls.map vN).length : Int) < ((ls.map vN).length : Int) := Int.emod_lt_of_pos _ (by omega)
      generalize hk : (q % ((ls.map vN).length : Int)).toNat = k
      have lm : (ls.map vN).length = ls.length := List.length_map _
      have kl : k < ls.length := by omega
      have hk2 : seqIndex? (q % ((ls.map vN).length : Int)) (ls.map vN).length = some k := by
        refine (ixN_seq ?_).1
        unfold ixN
        rw [if_pos q0, if_pos q1, hk]
      have hy : (ls.map vN)[k]? = some (vN ls[k]) := by rw [List.getElem?_map, List.getElem?_eq_getElem kl]; rfl
      refine ⟨.ref nm, rfl, .inl ⟨rfl, _, SqL.of hnm⟩, .ref lf, rfl, .inl ⟨rfl, _, SqL.of hlf⟩, _, rfl, _, rfl, _, _, rfl, rfl, _, rfl, _, _, rfl, rfl, a, _, _, _, rfl, rfl, SqL.of (s3 _ _ ha1), ai, .inl ⟨_, rfl, _, rfl, lf, _, rfl, .inl (SqL.of hlf), _, _, rfl, rfl, by omega, lf, _, _, k, _, rfl, rfl, hlf, by omega, by omega, hk2, hy, ?_⟩⟩
      refine ⟨nm, _, _, rfl, rfl, by rw [upd_ne nl]; exact hnm, by rw [List.length_map]; exact small1000 (by omega), ?_⟩
      refine ⟨_, ns ++ [ls[k]], ls.eraseIdx k, rfl, same_wr (same_wr s3 nlf) nnm1, ?_, ?_, by rw [List.length_append, hl]; rfl, ?_⟩
      · rw [upd_same, List.map_append]
        rfl
      · rw [upd_ne (Ne.symm nl), upd_same, erase_map]
      · refine List.Perm.trans ?_ pm
        rw [List.append_assoc]
        exact (pop_perm ls k ls[k] (List.getElem?_eq_getElem kl)).append_left ns
    · rintro σ H2 ⟨y5, ns, ls, rfl, s3, hnm, hlf, hl, pm⟩
      have hl : ns.length = baseN W := hl
      have pl := pm.length_eq
      rw [List.length_append, List.length_range] at pl
      have el : ls = [] := List.length_eq_zero_iff.mp (by omega)
      rw [el, List.append_nil] at pm
      have mem : ∀ {x c : Nat}, ns[x]? = some c → c < baseN W := fun {x c} e => List.mem_range.mp (pm.mem_iff.mp (List.mem_of_getElem? e))
      have nat_at : ∀ {x : Nat} {v : V}, (ns.map vN)[x]? = some v → ∃ c, ns[x]? = some c ∧ v = vN c := fun {x v} h => by
        rw [List.getElem?_map] at h
        cases e : ns[x]? with
        | none => rw [e] at h; cases h
        | some c => rw [e] at h; exact ⟨c, rfl, (Option.some.inj h).symm⟩
      have nl' : (ns.map vN).length = ns.length := List.length_map _
      refine ⟨_, rfl, nm, rfl, ⟨_, SqL.of hnm⟩, fun D nD => lc_list (K := K) (xs := ns.map vN) (fun i H' => Same H2 H' ∧ i ≤ ns.length ∧ ∃ cs : List Addr, H' D = some (.lst (cs.map V.ref)) ∧ cs.length = i ∧ ∀ (j : Nat) c, cs[j]? = some c → H' c = some (.tup ((rowOf (renamed W ns) j).map V.int))) ⟨new_same nD, Nat.zero_le _, [], upd_same, rfl, fun j c e => by cases e⟩ (fun i H' _ h => SqL.of (h.1 _ _ hnm)) ?_ ?_⟩
      · rintro i v H3 hv ⟨s4, _, cs, hD, hcl, hr2⟩
        obtain ⟨x, hx, rfl⟩ := nat_at hv
        have hi : i < ns.length := (List.getElem?_eq_some_iff.mp hx).1
        have xN := mem hx
        have xa : x < as.length := by omega
        refine ⟨rfl, yes_lc ?_⟩
        refine ⟨_, rfl, nm, rfl, ⟨_, SqL.of (s4 _ _ hnm)⟩, fun L nL => lc_list (K := K) (xs := ns.map vN) (fun j H' => Same H3 H' ∧ H' L = some (.lst (((ns.take j).map fun c => at2 (K8.base W) x c).map V.int))) ⟨new_same nL, by rw [upd_same]; rfl⟩ (fun i H' _ h => SqL.of (h.1 _ _ (s4 _ _ hnm))) ?_ ?_⟩
        · rintro j v H4 hv ⟨s5, hL⟩
          obtain ⟨y, hy, rfl⟩ := nat_at hv
          have hj : j < ns.length := (List.getElem?_eq_some_iff.mp hy).1
          have yN := mem hy
          have rl : (rowOf (K8.base W) x).length = baseN W := by
            unfold K8.base
            rw [tabF_rowOf xN, List.length_map, List.length_range]
          have tk : ns.take (j + 1) = ns.take j ++ [y] := by rw [List.take_add_one, hy]; rfl
          refine ⟨rfl, yes_lc ?_⟩
          refine ⟨_, rfl, _, rfl, r, _, _, _, rfl, rfl, SqL.of (s5 _ _ (s4 _ _ (s3 _ _ g1))), atI_nat (ref_get xa), _, rfl, as[x], _, _, _, rfl, rfl, SqL.of (s5 _ _ (s4 _ _ (s3 _ _ (g3 x as[x] (List.getElem?_eq_getElem xa))))), atI_nat (row_some (rows := K8.base W) (x := x) (y := y) (by omega)), ?_⟩
          refine ⟨_, hL, by rw [List.length_map, List.length_map, List.length_take]; exact small1000 (by omega), same_wr s5 nL, ?_⟩
          rw [upd_same, tk, List.map_append, List.map_append]
          rfl
        · rintro H4 ⟨s5, hL⟩
          rw [nl', List.take_length, ← renamed_rowAt (w := W) hx] at hL
          refine ⟨L, _, rfl, .inl ⟨SqL.of hL, fun t nt => ?_⟩⟩
          have s6 : Same H3 (upd H4 t (.tup ((rowOf (renamed W ns) i).map V.int))) := s5.trans (new_same nt)
          refine ⟨_, s6 _ _ hD, by rw [List.length_map]; exact small1000 (by omega), same_wr (s4.trans s6) nD, hi, cs ++ [t], ?_, by rw [List.length_append, hcl]; rfl, fun j c e => ?_⟩
          · rw [upd_same, List.map_append]
            rfl
          · have ne : ∀ c', (∃ o, (upd H4 t (.tup ((rowOf (renamed W ns) i).map V.int))) c' = some (.tup o)) → c' ≠ D := fun c' ⟨o, z⟩ e => by
              rw [e, s6 _ _ hD] at z
              cases z
            by_cases hj : j < cs.length
            · rw [List.getElem?_append_left hj] at e
              have z := s6 _ _ (hr2 j c e)
              rw [upd_ne (ne c ⟨_, z⟩)]
              exact z
            · rw [List.getElem?_append_right (by omega)] at e
              have ej : j = i := by
                have := (List.getElem?_eq_some_iff.mp e).1
                rw [List.length_singleton] at this
                omega
              subst ej
              rw [hcl, Nat.sub_self] at e
              have e : t = c := Option.some.inj e
              subst e
              rw [upd_ne (ne t ⟨_, upd_same⟩), upd_same]
      · rintro H3 ⟨s4, _, cs, hD, hcl, hr2⟩
        rw [nl'] at hcl
        refine ⟨D, _, rfl, .inl ⟨SqL.of hD, fun t nt => ⟨(by show 2 ≤ sizeLine; decide), fun p np => ?_⟩⟩⟩
        refine qq _ p W ns (s1.trans (s3.trans (s4.trans ((new_same nt).trans (new_same np))))) hW pm ⟨t, upd_same, ?_⟩
        refine IsRows.mono (new_same np) ⟨cs, upd_same, by rw [hcl, renamed_len], fun j c e => new_same nt _ _ (hr2 j c e)⟩
end
end K8
set_option Elab.async false
set_option linter.all false
set_option maxRecDepth 100000
set_option maxHeartbeats 4000000
namespace K8
open PySem PySem.Spec PyProof.Rows L2
open C8 (Cal pe_c)
open K8R
abbrev nLSmall : List Str := ["_law_numbers_here", "_law_at", "_law_leaves"]
theorem scLSmall : FnScope nLSmall ["_law_numbers_here", "_law_at"] (defScope sLSmall) := ⟨rfl, rfl, rfl, by decide +kernel, rfl, by decide +kernel, by decide +kernel⟩
section
variable {P : Program} {w : World} {K : PySem.W.Frag} {mg : Str → Option Value} {base : Heap}
def spLSmall : Sp := fun vs H Q _ => ∃ (a : Addr) (ms : List Int), vs = [.ref a, .int 0] ∧ H a = some (.lst (ms.map V.int)) ∧ ms.length = 50 ∧ ∀ H' p t, Same H H' → Leaf t → IsTr H' t p → Q (.ref p) H'
theorem ok_lsmall (T : T8 w K mg) : Cal P w K mg base 4 "_law_small" spLSmall [] := by
  obtain ⟨fd, F⟩ := T.d.defs (d := dLSmall) (by simp [fnL])
  have c_listed : Cal P w K mg base 3 "_law_listed" spLListed [] := ok_llisted T
  refine calN F (T.glo "_law_small" (by simp [faL, faL0, faL1])) scLSmall (fun _ _ _ _ _ _ us hl => match us, hl with | [_, _], _ => rfl) (fun vs H Q E h => ?_) (fun cdv A outer s H vs Q E hr h => ?_)
  · obtain ⟨a, ms, rfl, _⟩ := h; rfl
  · obtain ⟨a, ms, rfl, ha, hm, qq⟩ := h
    refine ⟨_, (pss_cons (ps_set (i := 2) scLSmall.nd rfl (Or.inl rfl) (pe_lst (pa_cons (pe_tup (pa_cons pe_str (pa_cons (pe_op op_add pe_int (pe_op op_mod (pe_callTy call_int1 rfl T.tint (by decide +kernel) (pa_cons (pe_ix ix_list (pv 0) (pe_op op_add (pv 1) pe_int) (fun _ _ => rfl)) pa_nil)) pe_int)) (pa_cons (pe_op op_add pe_int (pe_op op_mod (pe_callTy call_int1 rfl T.tint (by decide +kernel) (pa_cons (pe_ix ix_list (pv 0) (pe_op op_add (pv 1) pe_int) (fun _ _ => rfl)) pa_nil)) pe_int)) pa_nil)))) (pa_cons (pe_tup (pa_cons pe_str (pa_cons pe_int (pa_cons pe_int pa_nil)))) (pa_cons (pe_tup (pa_cons pe_str (pa_cons (pe_op op_add pe_int (pe_op op_mod (pe_callTy call_int1 rfl T.tint (by decide +kernel) (pa_cons (pe_ix ix_list (pv 0) (pe_op op_add (pv 1) pe_int) (fun _ _ => rfl)) pa_nil)) pe_int)) (pa_cons pe_int pa_nil)))) pa_nil)))))
      (pss_cons (ps_set (i := 2) scLSmall.nd rfl (Or.inl rfl) (pe_op op_cat (pv 2) (pe_lst (pa_cons (pe_tup (pa_cons pe_str (pa_cons (pe_op op_add pe_int (pe_op op_mod (pe_callTy call_int1 rfl T.tint (by decide +kernel) (pa_cons (pe_ix ix_list (pv 0) (pe_op op_add (pv 1) pe_int) (fun _ _ => rfl)) pa_nil)) pe_int)) (pa_cons pe_int pa_nil)))) (pa_cons (pe_tup (pa_cons pe_str (pa_cons pe_int (pa_cons pe_int pa_nil)))) (pa_cons (pe_c c_listed hr (by first | decide | omega) rfl (pa_cons (pv 0) (pa_cons (pe_op op_add (pv 1) pe_int) pa_nil))) (pa_cons (pe_c c_listed hr (by first | decide | omega) rfl (pa_cons (pv 0) (pa_cons (pe_op op_add (pv 1) pe_int) pa_nil))) pa_nil)))))))
      (pss_one (ps_ret (pe_ix ix_list (pv 2) (pe_op op_mod (pe_callTy call_int1 rfl T.tint (by decide +kernel) (pa_cons (pe_ix ix_list (pv 0) (pv 1) (fun _ _ => rfl)) pa_nil)) pe_int) (fun _ _ => rfl)))))), ?_⟩
    have a0 := atI_getD (xs := ms) (k := 0) (by omega) (by omega)
    have a1 := atI_getD (xs := ms) (k := 0 + 1) (by omega) (by omega)
    have a2 := atI_getD (xs := ms) (k := 0 + 2) (by omega) (by omega)
    generalize ms.getD (0 : Int).toNat 0 = z0 at a0
    generalize ms.getD (0 + 1 : Int).toNat 0 = z1 at a1
    generalize ms.getD (0 + 2 : Int).toNat 0 = z2 at a2
    have m3 : 0 ≤ z1 % 3 ∧ z1 % 3 < 3 := ⟨Int.emod_nonneg _ (by omega), Int.emod_lt_of_pos _ (by omega)⟩
    have m2 : 0 ≤ z2 % 2 ∧ z2 % 2 < 2 := ⟨Int.emod_nonneg _ (by omega), Int.emod_lt_of_pos _ (by omega)⟩
    have m4 : 0 ≤ z1 % 4 ∧ z1 % 4 < 4 := ⟨Int.emod_nonneg _ (by omega), Int.emod_lt_of_pos _ (by omega)⟩
    have m7 : 0 ≤ z0 % 7 ∧ z0 % 7 < 7 := ⟨Int.emod_nonneg _ (by omega), Int.emod_lt_of_pos _ (by omega)⟩
    have l3 : 3 ≤ sizeLine := by decide
    have l4 : 4 ≤ sizeLine := by decide
    refine ⟨_, rfl, _, rfl, _, _, rfl, rfl, a, _, _, _, rfl, rfl, SqL.of ha, a1, .inl ⟨_, rfl, _, _, rfl, rfl, by omega, _, _, rfl, rfl, _, rfl, _, rfl, _, _, rfl, rfl, a, _, _, _, rfl, rfl, SqL.of ha, a2, .inl ⟨_, rfl, _, _, rfl, rfl, by omega, _, _, rfl, rfl, l3, fun r1 n1 => ?_⟩⟩⟩
    have s1 : Same H (upd H r1 (.tup [.str "words", .int (1 + z1 % 3), .int (2 + z2 % 2)])) := new_same n1
    have h1 : upd H r1 (.tup [.str "words", .int (1 + z1 % 3), .int (2 + z2 % 2)]) r1 = some (.tup [.str "words", .int (1 + z1 % 3), .int (2 + z2 % 2)]) := upd_same
    generalize upd H r1 (.tup [.str "words", .int (1 + z1 % 3), .int (2 + z2 % 2)]) = H1 at s1 h1 ⊢
    refine ⟨l3, fun r2 n2 => ?_⟩
    have s2 : Same H1 (upd H1 r2 (.tup [.str "words", .int 4, .int 2])) := new_same n2
    have h2 : upd H1 r2 (.tup [.str "words", .int 4, .int 2]) r2 = some (.tup [.str "words", .int 4, .int 2]) := upd_same
    generalize upd H1 r2 (.tup [.str "words", .int 4, .int 2]) = H2 at s2 h2 ⊢
    refine ⟨_, rfl, _, rfl, _, _, rfl, rfl, a, _, _, _, rfl, rfl, SqL.of (s2 _ _ (s1 _ _ ha)), a1, .inl ⟨_, rfl, _, _, rfl, rfl, by omega, _, _, rfl, rfl, l3, fun r3 n3 => ?_⟩⟩
    have s3 : Same H2 (upd H2 r3 (.tup [.str "sets", .int (2 + z1 % 4), .int 1])) := new_same n3
    have h3 : upd H2 r3 (.tup [.str "sets", .int (2 + z1 % 4), .int 1]) r3 = some (.tup [.str "sets", .int (2 + z1 % 4), .int 1]) := upd_same
    generalize upd H2 r3 (.tup [.str "sets", .int (2 + z1 % 4), .int 1]) = H3 at s3 h3 ⊢
    refine ⟨l3, fun q1 nq1 => ?_⟩
    have s4 : Same H3 (upd H3 q1 (.lst [.ref r1, .ref r2, .ref r3])) := new_same nq1
    have hq1 : upd H3 q1 (.lst [.ref r1, .ref r2, .ref r3]) q1 = some (.lst [.ref r1, .ref r2, .ref r3]) := upd_same
    generalize upd H3 q1 (.lst [.ref r1, .ref r2, .ref r3]) = H4 at s4 hq1 ⊢
    have t1 : IsTr H1 (.words (1 + z1 % 3) (2 + z2 % 2)) r1 := h1
    have t2 : IsTr H2 (.words 4 2) r2 := h2
    have t3 : IsTr H3 (.sets (2 + z1 % 4) 1) r3 := h3
    have s14 := s2.trans (s3.trans s4)
    have s04 := s1.trans s14
    have ha4 := s04 _ _ ha
    refine ⟨_, rfl, _, rfl, _, rfl, _, _, rfl, rfl, a, _, _, _, rfl, rfl, SqL.of ha4, a1, .inl ⟨_, rfl, _, _, rfl, rfl, by omega, _, _, rfl, rfl, l3, fun r4 n5 => ?_⟩⟩
    have s5 : Same H4 (upd H4 r4 (.tup [.str "sets", .int (4 + z1 % 3), .int 2])) := new_same n5
    have h5 : upd H4 r4 (.tup [.str "sets", .int (4 + z1 % 3), .int 2]) r4 = some (.tup [.str "sets", .int (4 + z1 % 3), .int 2]) := upd_same
    generalize upd H4 r4 (.tup [.str "sets", .int (4 + z1 % 3), .int 2]) = H5 at s5 h5 ⊢
    refine ⟨l3, fun r5 n6 => ?_⟩
    have s6 : Same H5 (upd H5 r5 (.tup [.str "sets", .int 6, .int 3])) := new_same n6
    have h6 : upd H5 r5 (.tup [.str "sets", .int 6, .int 3]) r5 = some (.tup [.str "sets", .int 6, .int 3]) := upd_same
    generalize upd H5 r5 (.tup [.str "sets", .int 6, .int 3]) = H6 at s6 h6 ⊢
    have t4 : IsTr H5 (.sets (4 + z1 % 3) 2) r4 := h5
    have t5 : IsTr H6 (.sets 6 3) r5 := h6
    have ha6 := s6 _ _ (s5 _ _ ha4)
    refine ⟨_, rfl, _, rfl, _, _, rfl, rfl, a, ms, rfl, ha6, hm, fun H7 r6 w6 ns6 s7 hw6 p6 t6 => ?_⟩
    refine ⟨_, rfl, _, rfl, _, _, rfl, rfl, a, ms, rfl, s7 _ _ ha6, hm, fun H8 r7 w7 ns7 s8 hw7 p7 t7 => ?_⟩
    refine ⟨l4, fun q2 nq2 => ?_⟩
    have s9 : Same H8 (upd H8 q2 (.lst [.ref r4, .ref r5, .ref r6, .ref r7])) := new_same nq2
    have hq2 : upd H8 q2 (.lst [.ref r4, .ref r5, .ref r6, .ref r7]) q2 = some (.lst [.ref r4, .ref r5, .ref r6, .ref r7]) := upd_same
    generalize upd H8 q2 (.lst [.ref r4, .ref r5, .ref r6, .ref r7]) = H9 at s9 hq2 ⊢
    have s49 := s5.trans (s6.trans (s7.trans (s8.trans s9)))
    refine ⟨q1, q2, _, _, rfl, rfl, s49 _ _ hq1, hq2, (by show 7 ≤ sizeLine; decide), fun q3 nq3 => ?_⟩
    have s10 : Same H9 (upd H9 q3 (.lst ([.ref r1, .ref r2, .ref r3] ++ [.ref r4, .ref r5, .ref r6, .ref r7]))) := new_same nq3
    have hq3 : upd H9 q3 (.lst ([.ref r1, .ref r2, .ref r3] ++ [.ref r4, .ref r5, .ref r6, .ref r7])) q3 = some (.lst ([.ref r1, .ref r2, .ref r3] ++ [.ref r4, .ref r5, .ref r6, .ref r7])) := upd_same
    generalize upd H9 q3 (.lst ([.ref r1, .ref r2, .ref r3] ++ [.ref r4, .ref r5, .ref r6, .ref r7])) = H10 at s10 hq3 ⊢
    have s410 := s49.trans s10
    have s010 := s04.trans s410
    have fin : ∀ (k : Nat) (p : Addr) (t : Tr), z0 % 7 = (k : Int) → Leaf t → IsTr H10 t p → [V.ref r1, V.ref r2, V.ref r3, V.ref r4, V.ref r5, V.ref r6, V.ref r7][k]? = some (.ref p) → rIxL K (.ref q3) (.int (z0 % 7)) H10 Q := fun k p t e l i h => ⟨q3, _, _, _, rfl, rfl, SqL.of hq3, by rw [e]; exact atI_nat h, qq H10 p t s010 l i⟩
    refine ⟨_, rfl, _, rfl, _, rfl, a, _, _, _, rfl, rfl, SqL.of (s010 _ _ ha), a0, .inl ⟨_, rfl, _, _, rfl, rfl, by omega, ?_⟩⟩
    have e7 : z0 % 7 = 0 ∨ z0 % 7 = 1 ∨ z0 % 7 = 2 ∨ z0 % 7 = 3 ∨ z0 % 7 = 4 ∨ z0 % 7 = 5 ∨ z0 % 7 = 6 := by omega
    rcases e7 with e | e | e | e | e | e | e
    · exact fin 0 r1 _ e (leaf_words (by omega) (by omega) (by omega) (by omega)) (t1.mono (s14.trans s410)) rfl
    · exact fin 1 r2 _ e leaf_w42 (t2.mono ((s3.trans s4).trans s410)) rfl
    · exact fin 2 r3 _ e (leaf_sets1 (by omega) (by omega)) (t3.mono (s4.trans s410)) rfl
    · exact fin 3 r4 _ e (leaf_sets2 (by omega) (by omega)) (t4.mono (s6.trans (s7.trans (s8.trans (s9.trans s10))))) rfl
    · exact fin 4 r5 _ e leaf_s63 (t5.mono (s7.trans (s8.trans (s9.trans s10)))) rfl
    · exact fin 5 r6 _ e (leaf_listed (renamed_good hw6 p6) (by rw [renamed_len, p6.length_eq, List.length_range]; exact (baseN_le w6).2)) (t6.mono (s8.trans (s9.trans s10))) rfl
    · exact fin 6 r7 _ e (leaf_listed (renamed_good hw7 p7) (by rw [renamed_len, p7.length_eq, List.length_range]; exact (baseN_le w7).2)) (t7.mono (s9.trans s10)) rfl
end
end K8
set_option Elab.async false
set_option linter.all false
set_option maxRecDepth 100000
set_option maxHeartbeats 4000000
namespace K8
open PySem PySem.Spec PyProof.Rows L2
open C8 (Cal pe_c)
open K8R
abbrev nLIsTold : List Str := ["_law_rows_here", "_law_kinds_here", "_law_n", "_law_ways", "_law_x", "_law_y", "_law_found", "_law_z", "_law_pair"]
theorem scLIsTold : FnScope nLIsTold ["_law_rows_here", "_law_kinds_here"] (defScope sLIsTold) := ⟨rfl, rfl, rfl, by decide +kernel, rfl, by decide +kernel, by decide +kernel⟩
structure GoodW (rows : List (List Int)) (m : Int) : Prop where
  one : 1 ≤ rows.length
  few : rows.length ≤ 24
  m60 : m ≤ 60
  sq : ∀ x, x < rows.length → (rowOf rows x).length = rows.length
  good : Good rows.length m (at2 rows)
theorem GoodW.mpos {rows : List (List Int)} {m : Int} (h : GoodW rows m) : 1 ≤ m := by
  have z := h.good.rng 0 0 (by have := h.one; omega) (by have := h.one; omega)
  omega
theorem tab_goodW {t : Tr} (h : TrOk t) (g : GoodT t) (hn : pts t < 25) : GoodW (tab t) (knd t) := by
  obtain ⟨⟨a, _⟩, ⟨_, b⟩, _⟩ := h.nums
  have e : (tab t).length = (pts t).toNat := tabF_len _ _
  refine ⟨by omega, by omega, b, fun x hx => ?_, ?_⟩
  · rw [e] at hx ⊢
    unfold tab
    rw [tabF_rowOf hx, List.length_map, List.length_range]
  · rw [e]
    exact (g hn).congr fun x y hx hy => tabF_at hx hy
section
variable {P : Program} {w : World} {K : PySem.W.Frag} {mg : Str → Option Value} {base : Heap}
def spTold : Sp := fun vs H Q _ => ∃ (a : Addr) (rows : List (List Int)) (m : Int), vs = [.ref a, .int m] ∧ IsRows H a rows ∧ GoodW rows m ∧ ∀ H', Same H H' → Q (.bl true) H'
theorem ok_told (T : T8 w K mg) : Cal P w K mg base 1 "_law_is_told" spTold [] := by
  obtain ⟨fd, F⟩ := T.d.defs (d := dLIsTold) (by simp [fnL])
  refine calN F (T.glo "_law_is_told" (by simp [faL, faL0, faL1])) scLIsTold (fun _ _ _ _ _ _ us hl => match us, hl with | [_, _], _ => rfl) (fun vs H Q E h => ?_) (fun cdv A outer s H vs Q E hr h => ?_)
  · obtain ⟨a, rows, m, rfl, _⟩ := h; rfl
  · obtain ⟨a, rows, m, rfl, hR, g, qq⟩ := h
    refine ⟨_, (pss_cons (ps_set (i := 2) scLIsTold.nd rfl (Or.inl rfl) (pe_callB call_len_seq rfl T.len PySem.boot_len (pa_cons (pv 0) pa_nil)))
      (pss_cons (ps_set (i := 3) scLIsTold.nd rfl (Or.inl rfl) pe_dnewK)
      (pss_cons (ps_for PassesOwn.never rfl (pi_range1 rfl T.range (pa_cons (pv 2) pa_nil)) (pg_name (i := 4) scLIsTold.nd rfl (Or.inl rfl)) (pss_one (ps_for PassesOwn.never rfl (pi_range1 rfl T.range (pa_cons (pv 2) pa_nil)) (pg_name (i := 5) scLIsTold.nd rfl (Or.inl rfl)) (pss_cons (ps_set (i := 6) scLIsTold.nd rfl (Or.inl rfl) pe_dnewT)
      (pss_cons (ps_for PassesOwn.never rfl (pi_range1 rfl T.range (pa_cons (pv 2) pa_nil)) (pg_name (i := 7) scLIsTold.nd rfl (Or.inl rfl)) (pss_cons (ps_set (i := 8) scLIsTold.nd rfl (Or.inl rfl) (pe_tup (pa_cons (pe_ix ix_tup (pe_ix ix_tup (pv 0) (pv 4) (fun _ _ => rfl)) (pv 7) (fun _ _ => rfl)) (pa_cons (pe_ix ix_tup (pe_ix ix_tup (pv 0) (pv 7) (fun _ _ => rfl)) (pv 5) (fun _ _ => rfl)) pa_nil))))
      (pss_one (ps_dput (hu_of hr) (pv 6) (pv 8) (pe_op op_add (pe_dget2 (hu_of hr) (pv 6) (pv 8) pe_int ⟨rfl, rfl, rfl, rfl⟩) pe_int) rfl))))
      (pss_cons (ps_if (pt_cmpR (op_neT (hu_of hr)) (pe_dget2 (hu_of hr) (pv 3) (pe_ix ix_tup (pe_ix ix_tup (pv 0) (pv 4) (fun _ _ => rfl)) (pv 5) (fun _ _ => rfl)) (pv 6) ⟨rfl, rfl, rfl, rfl⟩) (pv 6) (nomark _)) (pss_one (ps_ret pe_bl)) pss_nil)
      (pss_one (ps_dput (hu_of hr) (pv 3) (pe_ix ix_tup (pe_ix ix_tup (pv 0) (pv 4) (fun _ _ => rfl)) (pv 5) (fun _ _ => rfl)) (pv 6) rfl))))))))
      (pss_one (ps_ret (pe_cmpR (op_eqD hr.units) (pe_callB (call_sortedDI rfl) rfl T.sorted (by decide +kernel) (pa_cons (pv 3) pa_nil)) (pe_listRg rfl rfl T.list (prg_1 rfl T.range (pv 1))) (nomark _))))))), ?_⟩
    obtain ⟨as, hA, hAl, hAr⟩ := id hR
    have h1 := g.one
    have h24 := g.few
    have m60 := g.m60
    have mp := g.mpos
    have al : (as.map V.ref).length = rows.length := by rw [List.length_map, hAl]
    refine ⟨_, rfl, a, _, rfl, .inr (SqT.of hA), ?_⟩
    rw [al]
    refine fun f nf => ?_
    refine ⟨_, rfl, _, rfl, by omega, by omega, for_range (fun i σ H' => ∃ y4 y5 y6 y7 y8, σ = [some (.ref a), some (.int m), some (.int rows.length), some (.ref f), y4, y5, y6, y7, y8] ∧ Same H H' ∧ ∃ kvs, H' f = some (.dK kvs) ∧ kvs.length ≤ 24 * i ∧ WaysOk rows H' kvs ∧ IsSet (fun v => ∃ x y, x < i ∧ y < rows.length ∧ at2 rows x y = v) kvs)
      ⟨none, none, none, none, none, rfl, new_same nf, [], upd_same, Nat.le_refl _, waysOk_nil, isSet_nil.congr fun v => ⟨False.elim, fun ⟨x, y, q, _⟩ => (Nat.not_lt_zero _ q).elim⟩⟩ ?_ ?_⟩
    · rintro i σ H1 hi ⟨y4, y5, y6, y7, y8, rfl, s1, kvs, hk, hkl, hW, hS⟩
      have hi : i < rows.length := by omega
      rw [Int.zero_add]
      refine ⟨_, rfl, _, rfl, by omega, by omega, for_range (fun j σ H' => ∃ y5 y6 y7 y8, σ = [some (.ref a), some (.int m), some (.int rows.length), some (.ref f), some (.int i), y5, y6, y7, y8] ∧ Same H H' ∧ ∃ kvs, H' f = some (.dK kvs) ∧ kvs.length ≤ 24 * i + j ∧ WaysOk rows H' kvs ∧ IsSet (fun v => (∃ x y, x < i ∧ y < rows.length ∧ at2 rows x y = v) ∨ ∃ y, y < j ∧ at2 rows i y = v) kvs)
        ⟨y5, y6, y7, y8, rfl, s1, kvs, hk, hkl, hW, hS.congr fun v => ⟨.inl, fun z => z.elim id fun ⟨y, q, _⟩ => (Nat.not_lt_zero _ q).elim⟩⟩ ?_ ?_⟩
      · rintro j σ H2 hj ⟨y5, y6, y7, y8, rfl, s2, kvs, hk, hkl, hW, hS⟩
        have hj : j < rows.length := by omega
        rw [Int.zero_add]
        have lx : (rowOf rows i).length = rows.length := g.sq i hi
        have ly : (rowOf rows j).length = rows.length := g.sq j hj
        refine fun d nd => ?_
        have fd' : f ≠ d := fun e => by rw [e, nd] at hk; cases hk
        refine ⟨_, rfl, _, rfl, by omega, by omega, for_range (fun z σ H' => ∃ y7 y8, σ = [some (.ref a), some (.int m), some (.int rows.length), some (.ref f), some (.int i), some (.int j), some (.ref d), y7, y8] ∧ Same H2 H' ∧ ∃ k2, H' d = some (.dT k2) ∧ k2.length ≤ z ∧ IsCnt (ctz (rowOf rows i) (rowOf rows j) z) k2)
          ⟨y7, y8, rfl, new_same nd, [], upd_same, Nat.le_refl _, isCnt_nil⟩ ?_ ?_⟩
        · rintro z σ H3 hz ⟨y7, y8, rfl, s3, k2, hd, hdl, hc⟩
          have hz : z < rows.length := by omega
          rw [Int.zero_add]
          have hR3 := hR.mono (s2.trans s3)
          obtain ⟨bx, xs, u1, u2, u3⟩ := hR3.at (K := K) hi
          obtain ⟨bz, zs, v1, v2, v3⟩ := hR3.at (K := K) hz
          have lz : (rowOf rows z).length = rows.length := g.sq z hz
          refine ⟨_, rfl, _, rfl, a, _, _, _, rfl, rfl, u1, u2, _, rfl, bx, _, _, _, rfl, rfl, SqT.of u3, atI_nat (row_some (by omega)), _, rfl, _, rfl, a, _, _, _, rfl, rfl, v1, v2, _, rfl, bz, _, _, _, rfl, rfl, SqT.of v3, atI_nat (row_some (by omega)), (by show 2 ≤ sizeLine; decide), fun t nt => ?_⟩
          have st : Same H3 (upd H3 t (.tup [.int (at2 rows i z), .int (at2 rows z j)])) := new_same nt
          refine ⟨_, rfl, d, rfl, .inr ⟨_, .inl (st _ _ hd)⟩, _, rfl, _, DGet.t (k := [.inl (at2 rows i z), .inl (at2 rows z j)]) (st _ _ hd) upd_same, _, 1, hc.get _ _, rfl, _, rfl, _, rfl, d, _, rfl, DPut.t (k := [.inl (at2 rows i z), .inl (at2 rows z j)]) (st _ _ hd) upd_same (small1000 (by omega)), ?_⟩
          refine ⟨_, _, rfl, same_wr (s3.trans st) nd, _, upd_same, Nat.le_trans (length_putK _ _ _) (by omega), (hc.put _ _).congr fun c1 c2 => ?_⟩
          show _ = ctz (rowOf rows i) (rowOf rows j) z c1 c2 + (if (rowOf rows i)[z]? = some c1 ∧ (rowOf rows j)[z]? = some c2 then 1 else 0)
          rw [row_getI (by omega), row_getI (by omega), g.good.sym z j hz hj]
        · rintro σ H3 ⟨y7, y8, rfl, s3, k2, hd, hdl, hc⟩
          have hc : IsCnt (ctz (rowOf rows i) (rowOf rows j) rows.length) k2 := hc
          have hk3 := s3 _ _ hk
          have hW3 := hW.mono s3
          have hR3 := hR.mono (s2.trans s3)
          obtain ⟨bx, xs, u1, u2, u3⟩ := hR3.at (K := K) hi
          refine ⟨_, rfl, f, rfl, .inl ⟨_, .inl hk3⟩, _, rfl, _, rfl, a, _, _, _, rfl, rfl, u1, u2, _, rfl, bx, _, _, _, rfl, rfl, SqT.of u3, atI_nat (row_some (by omega)), _, rfl, _, DGet.k (k := .inl (at2 rows i j)) hk3, _, rfl, ?_⟩
          have same : rNeT ((valV kvs (.inl (at2 rows i j))).getD (.ref d)) (.ref d) H3 (fun x H' => x = .bl false ∧ H' = H3) := by
            cases e : valV kvs (.inl (at2 rows i j)) with
            | none => exact ⟨d, d, k2, k2, rfl, rfl, hd, hd, hc.same hc fun _ _ => rfl, rfl, rfl⟩
            | some u =>
              obtain ⟨x', y', d', k3, w1, w2, w3, rfl, w4, w5⟩ := hW3 _ _ e
              refine ⟨d', d, k3, k2, rfl, rfl, w4, hd, w5.same hc fun c1 c2 => ?_, rfl, rfl⟩
              have gr : ∀ x', x' < rows.length → ∀ z, z < rows.length → (rowOf rows x')[z]? = some (at2 rows x' z) := fun x' q z q2 => row_getI (by rw [g.sq x' q]; exact q2)
              rw [ctz_cnt (f := at2 rows) (x := x') (y := y') c1 c2 rows.length (gr x' w1) (gr y' w2), ctz_cnt (f := at2 rows) (x := i) (y := j) c1 c2 rows.length (gr i hi) (gr j hj)]
              exact g.good.coh x' y' i j w1 w2 hi hj w3 c1 c2
          obtain ⟨c1, c2, c3, c4, c5, c6, c7, c8, c9, _⟩ := same
          refine ⟨c1, c2, c3, c4, c5, c6, c7, c8, c9, false, rfl, iteF ?_⟩
          refine ⟨_, rfl, _, rfl, _, rfl, _, rfl, a, _, _, _, rfl, rfl, u1, u2, _, rfl, bx, _, _, _, rfl, rfl, SqT.of u3, atI_nat (row_some (by omega)), f, _, rfl, DPut.k (k := .inl (at2 rows i j)) hk3 (small1000 (by omega)), ?_⟩
          refine ⟨_, _, _, _, rfl, same_wr (s2.trans s3) nf, _, upd_same, Nat.le_trans (length_putK _ _ _) (by omega), hW3.put hk3 hi hj hd hc, (hS.put (at2 rows i j) (.ref d)).congr fun v => ?_⟩
          constructor
          · rintro (z | rfl)
            · rcases z with z | ⟨y, q, e⟩
              · exact .inl z
              · exact .inr ⟨y, by omega, e⟩
            · exact .inr ⟨j, by omega, rfl⟩
          · rintro (z | ⟨y, q, e⟩)
            · exact .inl (.inl z)
            · by_cases ey : y = j
              · subst ey; exact .inr e.symm
              · exact .inl (.inr ⟨y, by omega, e⟩)
      · rintro σ H2 ⟨y5, y6, y7, y8, rfl, s2, kvs, hk, hkl, hW, hS⟩
        have hS : IsSet (fun v => (∃ x y, x < i ∧ y < rows.length ∧ at2 rows x y = v) ∨ ∃ y, y < rows.length ∧ at2 rows i y = v) kvs := hS
        refine ⟨_, _, _, _, _, rfl, s2, kvs, hk, by omega, hW, hS.congr fun v => ?_⟩
        constructor
        · rintro (⟨x, y, q, q2, e⟩ | ⟨y, q, e⟩)
          · exact ⟨x, y, by omega, q2, e⟩
          · exact ⟨i, y, by omega, q, e⟩
        · rintro ⟨x, y, q, q2, e⟩
          by_cases ex : x = i
          · subst ex; exact .inr ⟨y, q2, e⟩
          · exact .inl ⟨x, y, by omega, q2, e⟩
    · rintro σ H1 ⟨y4, y5, y6, y7, y8, rfl, s1, kvs, hk, hkl, hW, hS⟩
      have hS : IsSet (fun v => ∃ x y, x < rows.length ∧ y < rows.length ∧ at2 rows x y = v) kvs := hS
      obtain ⟨ks, k1, k2, k3⟩ := hS.ints
      have km : ∀ v, v ∈ ks ↔ 0 ≤ v ∧ v < m.toNat := fun v => by
        rw [k3 v]
        constructor
        · rintro ⟨x, y, q1, q2, rfl⟩
          have z := g.good.rng x y q1 q2
          omega
        · rintro ⟨z1, z2⟩
          obtain ⟨y, q1, q2⟩ := g.good.occ 0 (by omega) v z1 (by omega)
          exact ⟨0, y, by omega, q1, q2⟩
      have kl : ks.length ≤ 60 := by
        have z := len_le_of_sub (l := ks) (m := (List.range m.toNat).map fun j : Nat => (j : Int)) k2 fun v hv => by
          obtain ⟨z1, z2⟩ := (km v).mp hv
          exact List.mem_map.mpr ⟨v.toNat, List.mem_range.mpr (by omega), by omega⟩
        rw [List.length_map, List.length_range] at z
        omega
      refine ⟨_, rfl, f, kvs, ks, rfl, .inl hk, k1, by omega, fun ys p pm pw np => ?_⟩
      have e : ys = (List.range m.toNat).map fun j : Nat => (j : Int) := sorted_range pw (pm.nodup_iff.mpr k2) fun v => by rw [pm.mem_iff]; exact km v
      subst e
      refine ⟨_, rfl, _, rfl, RgOk.of_le (by omega) (by omega) (by omega) (by omega), fun q2 nq2 => ?_⟩
      have em : ((m.toNat : Nat) : Int) = m := by omega
      have rg : rgV 0 m = ((List.range m.toNat).map fun j : Nat => (j : Int)).map V.int := by rw [← rgV_nat, em]
      rw [rg]
      refine eqI (ms := (List.range m.toNat).map fun j : Nat => (j : Int)) (SqL.of (new_same nq2 _ _ upd_same)) (SqL.of upd_same) ?_
      rw [decide_eq_true rfl]
      exact qq _ (s1.trans ((new_same np).trans (new_same nq2)))
end
end K8
set_option Elab.async false
set_option linter.all false
set_option maxRecDepth 100000
set_option maxHeartbeats 4000000
namespace K8
open PySem PySem.Spec PyProof.Rows L2
open C8 (Cal pe_c)
open K8R
abbrev nLaw : List Str := ["_law_script", "_law_numbers_here", "_law_tree_here", "_law_grown", "_law_told", "_law_n", "_law_x", "_law_y"]
theorem scLaw : FnScope nLaw ["_law_script"] (defScope sLaw) := ⟨rfl, rfl, rfl, by decide +kernel, rfl, by decide +kernel, by decide +kernel⟩
abbrev gLaw0 : Scope := { kind := .function, names := [(".0", .local), ("_law_y", .local), ("_law_kind", .globalImplicit), ("_law_tree_here", .free), ("_law_x", .free)], isGenerator := false, isCoroutine := false }
theorem seq_cut1 {a B : TS} {D : Ends} {σ : L2.St} {H : Hp} (R : L2.St → Hp → Prop) (hA : ∀ N : L2.St → Hp → Prop, (∀ σ' H', R σ' H' → N σ' H') → a { D with nx := N } σ H) (hB : ∀ σ' H', R σ' H' → B D σ' H') : tSeq a B D σ H := hA (B D) hB
theorem seq_cut3 {a b c B : TS} {D : Ends} {σ : L2.St} {H : Hp} (R : L2.St → Hp → Prop) (hA : ∀ N : L2.St → Hp → Prop, (∀ σ' H', R σ' H' → N σ' H') → tSeq a (tSeq b c) { D with nx := N } σ H) (hB : ∀ σ' H', R σ' H' → B D σ' H') : tSeq a (tSeq b (tSeq c B)) D σ H := hA (B D) hB
theorem seq_cut4 {a b c d B : TS} {D : Ends} {σ : L2.St} {H : Hp} (R : L2.St → Hp → Prop) (hA : ∀ N : L2.St → Hp → Prop, (∀ σ' H', R σ' H' → N σ' H') → tSeq a (tSeq b (tSeq c d)) { D with nx := N } σ H) (hB : ∀ σ' H', R σ' H' → B D σ' H') : tSeq a (tSeq b (tSeq c (tSeq d B))) D σ H := hA (B D) hB
theorem ifNo {c A B : Prop} [Decidable c] (h : c) (b : B) : if (!decide c) = true then A else B := by
  rw [decide_eq_true h]; exact iteF b
theorem prod_ok {t u : Tr} (l : Leaf t) (f : Fac u) : TrOk (.prod t u) ∧ hgt (.prod t u) ≤ 2 := by
  obtain ⟨v, ku, nu⟩ := f.leaf
  obtain ⟨⟨a1, a2⟩, ⟨a3, a4⟩, a5, a6⟩ := l.ok.nums
  obtain ⟨⟨c1, c2⟩, ⟨c3, c4⟩, c5, c6⟩ := v.ok.nums
  have kt := l.k
  have z := Int.mul_le_mul_of_nonneg_right l.n (show 0 ≤ pts u by omega)
  have z2 := v.n
  exact ⟨⟨l.ok, v.ok, by rw [l.p, v.p]; decide, by omega, by rw [ku]; omega⟩, by show max (hgt t) (hgt u) + 1 ≤ 2; rw [l.h, v.h]; decide⟩
theorem tab_again (t : Tr) (m : Int) : tab (.listed (tab t) m) = tab t := by
  have e : (pts (.listed (tab t) m)).toNat = (pts t).toNat := by
    show (((tab t).length : Int)).toNat = _
    unfold tab
    rw [tabF_len, Int.toNat_natCast]
  show tabF (pts (.listed (tab t) m)).toNat (fun x y => kin (.listed (tab t) m) x y) = tabF (pts t).toNat fun x y => kin t x y
  rw [e]
  refine List.map_congr_left fun x hx => List.map_congr_left fun y hy => ?_
  show at2 (tab t) ((x : Int)).toNat ((y : Int)).toNat = _
  rw [Int.toNat_natCast, Int.toNat_natCast]
  exact tabF_at (List.mem_range.mp hx) (List.mem_range.mp hy)
section
variable {P : Program} {w : World} {K : PySem.W.Frag} {mg : Str → Option Value} {base : Heap}
def spLaw (K : PySem.W.Frag) : Sp := fun vs H Q _ => ∃ (a : Addr) (ns : List Int), vs = [.ref a] ∧ SqL K H a (ns.map V.int) ∧ ns.length ≤ 63 ∧ ∀ H', Q (.bl true) H'
theorem fnN {x : Str} {params : Arguments} {body : List Stmt} {scope : Scope} {f : Addr} {fd : FuncData} {N ps : List Str} {k : Nat} {sp : Sp} (F : FunD K x x params body scope [] [] f fd) (S : FnScope N ps scope) (len : ∀ vs H Q E, sp vs H Q E → vs.length = ps.length)
    (hbody : ∀ (cdv : Value) (A : Around) (outer : List Env) (s : Shared) (H : Hp) (vs : List V) (Q : VK) (E : XK), Room k (A.deeper (envOfC x scope s.heap.objs.size f cdv)) → sp vs H Q E →
      ∃ t, PSs (cxOf CX0 P w K mg base N x scope f cdv A outer s H E).nox body t ∧ t { nx := fun _ H' => Q .non H', rt := Q } (start N vs) H) : FnOk P w K mg base CX0 (k + 1) f fd ps sp := by
  refine F.ok S len fun cdv A outer s H vs Q E hr h => ?_
  obtain ⟨t, h1, h2⟩ := hbody cdv A outer s H vs Q E hr h
  exact ⟨t, h1.nox, h2⟩
theorem fn_law (T : T8 w K mg) {fd : FuncData} (F : FunD K dLaw.name dLaw.qual dLaw.params dLaw.body dLaw.scope (He.DefD.dvs K dLaw) (He.DefD.kws K dLaw) (He.fAd K dLaw.at_) fd) : FnOk P w K mg base CX0 8 (He.fAd K dLaw.at_) fd ["_law_script"] (spLaw K) := by
  have c_num : Cal P w K mg base 2 "_law_numbers" (spLNum K) [] := ok_lnum T
  have c_small : Cal P w K mg base 4 "_law_small" spLSmall [] := ok_lsmall T
  have c_pts : Cal P w K mg base 3 "_law_points" (spT 2 pts) [] := ok_lpoints T 2
  have c_knd : Cal P w K mg base 3 "_law_kinds" (spT 2 knd) [] := ok_lkinds T 2
  have c_kind : Cal P w K mg base 5 "_law_kind" (spKind 2) [] := ok_lkind T 2
  have c_table : Cal P w K mg base 6 "kind_table" spTab [] := ok_table T
  have c_pc : Cal P w K mg base 6 "point_count" (spTree fun t => .int (pts t)) [] := ok_pcount T
  have c_kc : Cal P w K mg base 6 "kind_count" (spTree fun t => .int (knd t)) [] := ok_kcount T
  have c_told : Cal P w K mg base 1 "_law_is_told" spTold [] := ok_told T
  have c_isc : Cal P w K mg base 7 "is_scheme" (spTree fun _ => .bl true) [] := ok_isscheme T
  have c_ref := ok_refused (P := P) (base := base) T
  refine fnN F scLaw (fun vs H Q E h => ?_) (fun cdv A outer s H vs Q E hr h => ?_)
  · obtain ⟨a, ns, rfl, _⟩ := h; rfl
  · obtain ⟨a, ns, rfl, ha, hn, qq⟩ := h
    refine ⟨_, (pss_cons (ps_set (i := 1) scLaw.nd rfl (Or.inl rfl) (pe_c c_num hr (by first | decide | omega) rfl (pa_cons (pv 0) (pa_cons pe_int pa_nil))))
      (pss_cons (ps_set (i := 2) scLaw.nd rfl (Or.inr rfl) (pe_c c_small hr (by first | decide | omega) rfl (pa_cons (pv 1) (pa_cons pe_int pa_nil))))
      (pss_cons (ps_if (pt_cmpR op_eq (pe_op op_mod (pe_callTy call_int1 rfl T.tint (by decide +kernel) (pa_cons (pe_ix ix_list (pv 1) pe_int (fun _ _ => rfl)) pa_nil)) pe_int) pe_int (nomark _)) (pss_cons (ps_set (i := 3) scLaw.nd rfl (Or.inl rfl) (pe_tup (pa_cons pe_str (pa_cons (pv 2) (pa_cons (pe_ix ix_list (pe_lst (pa_cons (pe_tup (pa_cons pe_str (pa_cons pe_int (pa_cons pe_int pa_nil)))) (pa_cons (pe_tup (pa_cons pe_str (pa_cons pe_int (pa_cons pe_int pa_nil)))) (pa_cons (pe_tup (pa_cons pe_str (pa_cons (pe_tup (pa_cons (pe_tup (pa_cons pe_int (pa_cons pe_int pa_nil))) (pa_cons (pe_tup (pa_cons pe_int (pa_cons pe_int pa_nil))) pa_nil))) pa_nil))) pa_nil)))) (pe_op op_mod (pe_callTy call_int1 rfl T.tint (by decide +kernel) (pa_cons (pe_ix ix_list (pv 1) pe_int (fun _ _ => rfl)) pa_nil)) pe_int) (fun _ _ => rfl)) pa_nil)))))
      (pss_one (ps_if (pt_cmpR op_lt (pe_c c_pts hr (by first | decide | omega) rfl (pa_cons (pv 3) pa_nil)) pe_int (nomark _)) (pss_one (ps_set (i := 2) scLaw.nd rfl (Or.inr rfl) (pv 3))) pss_nil))) pss_nil)
      (pss_cons (ps_set (i := 4) scLaw.nd rfl (Or.inl rfl) (pe_c c_table hr (by first | decide | omega) rfl (pa_cons (pv 2) pa_nil)))
      (pss_cons (ps_set (i := 5) scLaw.nd rfl (Or.inl rfl) (pe_c c_pts hr (by first | decide | omega) rfl (pa_cons (pv 2) pa_nil)))
      (pss_cons (ps_if (PW.pt (pw_or (pt_not (pt_val (pe_callB RZ.call_isTy rfl T.isin (by decide +kernel) (pa_cons (pv 4) (pa_cons (pe_bltn (v := .ty "tuple") rfl T.tuple (u := .type "tuple") (by decide +kernel) rfl) pa_nil))))) (pw_or (pt_cmpR op_ne (pe_callB call_len_seq rfl T.len PySem.boot_len (pa_cons (pv 4) pa_nil)) (pv 5) (nomark _)) (pw_or (pt_cmpR op_ne (pe_c c_pc hr (by first | decide | omega) rfl (pa_cons (pv 2) pa_nil)) (pv 5) (nomark _)) (pw_or1 (pt_cmpR op_ne (pe_c c_kc hr (by first | decide | omega) rfl (pa_cons (pv 2) pa_nil)) (pe_c c_knd hr (by first | decide | omega) rfl (pa_cons (pv 2) pa_nil)) (nomark _))))))) (pss_one (ps_ret pe_bl)) pss_nil)
      (pss_cons (ps_for PassesOwn.never rfl (pi_range1 rfl T.range (pa_cons (pv 5) pa_nil)) (pg_name (i := 6) scLaw.nd rfl (Or.inr rfl)) (pss_one (ps_if (PW.pt (pw_or (pt_not (pt_val (pe_callB RZ.call_isTy rfl T.isin (by decide +kernel) (pa_cons (pe_ix ix_tup (pv 4) (pv 6) (fun _ _ => rfl)) (pa_cons (pe_bltn (v := .ty "tuple") rfl T.tuple (u := .type "tuple") (by decide +kernel) rfl) pa_nil))))) (pw_or1 (pt_cmpR (op_neD hr.units) (pe_callTy call_list_of rfl T.list (by decide +kernel) (pa_cons (pe_ix ix_tup (pv 4) (pv 6) (fun _ _ => rfl)) pa_nil)) (pe_lc (own := [("_law_y", 7)]) (g := (gName 7)) (tt := tYes) rfl scLaw.nd (pi_range1 rfl T.range (pa_cons (pv 5) pa_nil)) (blkOk_by (N := nLaw) (sc := (defScope sLaw)) (scope := gLaw0) (by decide +kernel)) (fun _ _ _ _ _ => (pg_name (i := 7) scLaw.nd rfl (Or.inl rfl))) (fun _ _ _ _ _ => pts_nil) (fun _ _ _ _ _ => (pe_c c_kind hr (by first | decide | omega) rfl (pa_cons (pv 2) (pa_cons (pv 6) (pa_cons (pv 7) pa_nil)))))) (nomark _))))) (pss_one (ps_ret pe_bl)) pss_nil)))
      (pss_cons (ps_if (PW.pt (pw_and (pt_cmpR op_lt (pv 5) pe_int (nomark _)) (pw_and1 (pt_not (pt_val (pe_c c_told hr (by first | decide | omega) rfl (pa_cons (pv 4) (pa_cons (pe_c c_knd hr (by first | decide | omega) rfl (pa_cons (pv 2) pa_nil)) pa_nil)))))))) (pss_one (ps_ret pe_bl)) pss_nil)
      (pss_cons (ps_if (PW.pt (pw_and (pt_cmpR op_lt (pv 5) pe_int (nomark _)) (pw_and (pt_cmpR op_lt (pe_c c_knd hr (by first | decide | omega) rfl (pa_cons (pv 2) pa_nil)) pe_int (nomark _)) (pw_and1 (PW.pt (pw_or (pt_not (pt_val (pe_c c_isc hr (by first | decide | omega) rfl (pa_cons (pe_tup (pa_cons pe_str (pa_cons (pv 4) pa_nil))) pa_nil)))) (pw_or1 (pt_cmpR (op_neD hr.units) (pe_c c_table hr (by first | decide | omega) rfl (pa_cons (pe_tup (pa_cons pe_str (pa_cons (pv 4) pa_nil))) pa_nil)) (pv 4) (nomark _))))))))) (pss_one (ps_ret pe_bl)) pss_nil)
      (pss_one (ps_ret (pe_c c_ref hr (by first | decide | omega) rfl (pa_cons (pe_ix ix_list (pe_lst (pa_cons (pe_tup (pa_cons pe_str (pa_cons pe_int (pa_cons pe_int pa_nil)))) (pa_cons (pe_tup (pa_cons pe_str (pa_cons pe_int (pa_cons pe_int pa_nil)))) (pa_cons (pe_tup (pa_cons pe_str (pa_cons pe_int (pa_cons pe_int pa_nil)))) (pa_cons (pe_tup (pa_cons pe_str (pa_cons (pe_tup (pa_cons pe_str (pa_cons pe_int (pa_cons pe_int pa_nil)))) (pa_cons (pe_tup (pa_cons pe_str (pa_cons pe_int (pa_cons pe_int pa_nil)))) pa_nil)))) pa_nil))))) (pe_op op_mod (pe_callTy call_int1 rfl T.tint (by decide +kernel) (pa_cons (pe_ix ix_list (pv 1) pe_int (fun _ _ => rfl)) pa_nil)) pe_int) (fun _ _ => rfl)) pa_nil))))))))))))), ?_⟩
    have l2 : 2 ≤ sizeLine := by decide
    have l3 : 3 ≤ sizeLine := by decide
    refine seq_cut3 (fun σ' H' => ∃ (nr tr : Addr) (ms : List Int) (t : Tr) (g : Option V), σ' = [some (.ref a), some (.ref nr), some (.ref tr), g, none, none, none, none] ∧ H' nr = some (.lst (ms.map V.int)) ∧ ms.length = 50 ∧ Small t ∧ IsTr H' t tr) (fun N hN => ?_) ?_
    · refine ⟨_, rfl, a, ns, rfl, ha, hn, fun H1 nr ms s1 hnr hm => ?_⟩
      refine ⟨_, rfl, nr, ms, rfl, hnr, hm, fun H2 tr t s2 lf it => ?_⟩
      have hnr2 := s2 _ _ hnr
      have a40 := atI_getD (xs := ms) (k := 40) (by omega) (by omega)
      have a41 := atI_getD (xs := ms) (k := 41) (by omega) (by omega)
      generalize ms.getD (40 : Int).toNat 0 = z0 at a40
      generalize ms.getD (41 : Int).toNat 0 = z1 at a41
      have m3 : 0 ≤ z1 % 3 ∧ z1 % 3 < 3 := ⟨Int.emod_nonneg _ (by omega), Int.emod_lt_of_pos _ (by omega)⟩
      refine ⟨_, rfl, nr, _, 40, _, rfl, rfl, SqL.of hnr2, a40, .inl ⟨_, rfl, _, _, rfl, rfl, by omega, rfl, _, rfl, ifD (fun _ => ?_) (fun _ => ?_)⟩⟩
      · refine ⟨_, rfl, l3, fun r1 n1 => ?_⟩
        have s3 : Same H2 (upd H2 r1 (.tup [.str "words", .int 1, .int 2])) := new_same n1
        have h1 : upd H2 r1 (.tup [.str "words", .int 1, .int 2]) r1 = some (.tup [.str "words", .int 1, .int 2]) := upd_same
        generalize upd H2 r1 (.tup [.str "words", .int 1, .int 2]) = H3 at s3 h1 ⊢
        refine ⟨l3, fun r2 n2 => ?_⟩
        have s4 : Same H3 (upd H3 r2 (.tup [.str "words", .int 1, .int 3])) := new_same n2
        have h2 : upd H3 r2 (.tup [.str "words", .int 1, .int 3]) r2 = some (.tup [.str "words", .int 1, .int 3]) := upd_same
        generalize upd H3 r2 (.tup [.str "words", .int 1, .int 3]) = H4 at s4 h2 ⊢
        refine ⟨l2, fun e1 ne1 => ?_⟩
        have s5 : Same H4 (upd H4 e1 (.tup [.int 0, .int 1])) := new_same ne1
        have he1 : upd H4 e1 (.tup [.int 0, .int 1]) e1 = some (.tup [.int 0, .int 1]) := upd_same
        generalize upd H4 e1 (.tup [.int 0, .int 1]) = H5 at s5 he1 ⊢
        refine ⟨l2, fun e2 ne2 => ?_⟩
        have s6 : Same H5 (upd H5 e2 (.tup [.int 1, .int 0])) := new_same ne2
        have he2 : upd H5 e2 (.tup [.int 1, .int 0]) e2 = some (.tup [.int 1, .int 0]) := upd_same
        generalize upd H5 e2 (.tup [.int 1, .int 0]) = H6 at s6 he2 ⊢
        refine ⟨l2, fun e3 ne3 => ?_⟩
        have s7 : Same H6 (upd H6 e3 (.tup [.ref e1, .ref e2])) := new_same ne3
        have he3 : upd H6 e3 (.tup [.ref e1, .ref e2]) e3 = some (.tup [.ref e1, .ref e2]) := upd_same
        generalize upd H6 e3 (.tup [.ref e1, .ref e2]) = H7 at s7 he3 ⊢
        refine ⟨l2, fun r3 n3 => ?_⟩
        have s8 : Same H7 (upd H7 r3 (.tup [.str "listed", .ref e3])) := new_same n3
        have h3 : upd H7 r3 (.tup [.str "listed", .ref e3]) r3 = some (.tup [.str "listed", .ref e3]) := upd_same
        generalize upd H7 r3 (.tup [.str "listed", .ref e3]) = H8 at s8 h3 ⊢
        refine ⟨l3, fun q1 nq1 => ?_⟩
        have s9 : Same H8 (upd H8 q1 (.lst [.ref r1, .ref r2, .ref r3])) := new_same nq1
        have hq1 : upd H8 q1 (.lst [.ref r1, .ref r2, .ref r3]) q1 = some (.lst [.ref r1, .ref r2, .ref r3]) := upd_same
        generalize upd H8 q1 (.lst [.ref r1, .ref r2, .ref r3]) = H9 at s9 hq1 ⊢
        have s49 := s5.trans (s6.trans (s7.trans (s8.trans s9)))
        have s29 := s3.trans (s4.trans s49)
        have t1 : IsTr H3 (.words 1 2) r1 := h1
        have t2 : IsTr H4 (.words 1 3) r2 := h2
        have t3 : IsTr H8 (.listed k2rows 2) r3 := ⟨e3, h3, [e1, e2], s8 _ _ he3, rfl, fun i b e => by
          match i, e with
          | 0, e =>
            have e : e1 = b := Option.some.inj e
            subst e
            exact s8 _ _ (s7 _ _ (s6 _ _ he1))
          | 1, e =>
            have e : e2 = b := Option.some.inj e
            subst e
            exact s8 _ _ (s7 _ _ he2)⟩
        obtain ⟨fa, u, hfac, hIs, hat⟩ : ∃ fa u, Fac u ∧ IsTr H9 u fa ∧ atI [V.ref r1, V.ref r2, V.ref r3] (z1 % 3) = some (.ref fa) := by
          have e7 : z1 % 3 = 0 ∨ z1 % 3 = 1 ∨ z1 % 3 = 2 := by omega
          rcases e7 with e | e | e
          · exact ⟨r1, _, .a, t1.mono (s4.trans s49), by rw [e]; exact atI_nat (j := 0) rfl⟩
          · exact ⟨r2, _, .b, t2.mono s49, by rw [e]; exact atI_nat (j := 1) rfl⟩
          · exact ⟨r3, _, .c, t3.mono s9, by rw [e]; exact atI_nat (j := 2) rfl⟩
        refine ⟨_, rfl, nr, _, 41, _, rfl, rfl, SqL.of (s29 _ _ hnr2), a41, .inl ⟨_, rfl, _, _, rfl, rfl, by omega, q1, _, _, _, rfl, rfl, SqL.of hq1, hat, l3, fun g ng => ?_⟩⟩
        have s10 : Same H9 (upd H9 g (.tup [.str "product", .ref tr, .ref fa])) := new_same ng
        have hg : upd H9 g (.tup [.str "product", .ref tr, .ref fa]) g = some (.tup [.str "product", .ref tr, .ref fa]) := upd_same
        generalize upd H9 g (.tup [.str "product", .ref tr, .ref fa]) = H10 at s10 hg ⊢
        obtain ⟨p1, p2⟩ := prod_ok lf hfac
        have itg : IsTr H10 (.prod t u) g := ⟨tr, fa, hg, it.mono (s29.trans s10), hIs.mono s10⟩
        refine ⟨_, rfl, g, .prod t u, rfl, itg, p1, p2, _, _, rfl, rfl, _, rfl, ifD (fun c => ?_) (fun c => ?_)⟩
        · exact ⟨_, rfl, hN _ _ ⟨nr, g, ms, .prod t u, _, rfl, s10 _ _ (s29 _ _ hnr2), hm, grown_small lf hfac c, itg⟩⟩
        · exact hN _ _ ⟨nr, tr, ms, t, _, rfl, s10 _ _ (s29 _ _ hnr2), hm, lf.small, it.mono (s29.trans s10)⟩
      · exact hN _ _ ⟨nr, tr, ms, t, _, rfl, hnr2, hm, lf.small, it⟩
    rintro σ H1 ⟨nr, tr, ms, t, g, rfl, hnr, hm, sml, it⟩
    obtain ⟨⟨n1, n2⟩, ⟨n3, n4⟩, n5, n6⟩ := sml.ok.nums
    have n30 := sml.n
    have eN : (((pts t).toNat : Nat) : Int) = pts t := by omega
    have tl : (tab t).length = (pts t).toNat := tabF_len _ _
    refine seq_cut4 (fun σ' H' => ∃ (p : Addr) (y6 y7 : Option V), σ' = [some (.ref a), some (.ref nr), some (.ref tr), g, some (.ref p), some (.int (pts t)), y6, y7] ∧ H' nr = some (.lst (ms.map V.int)) ∧ IsTr H' t tr ∧ IsRows H' p (tab t)) (fun N hN => ?_) ?_
    · refine ⟨_, rfl, tr, t, rfl, it, sml.ok, sml.h, by omega, fun H2 p s2 hp => ?_⟩
      have it2 := it.mono s2
      refine ⟨_, rfl, tr, t, rfl, it2, sml.ok, sml.h, ?_⟩
      obtain ⟨as, p1, p2, p3⟩ := id hp
      have row : ∀ (i : Nat), i < (pts t).toNat → ∃ b, (as.map V.ref)[i]? = some (.ref b) ∧ H2 b = some (.tup (((List.range (pts t).toNat).map fun y : Nat => kin t (i : Int) (y : Int)).map V.int)) := fun i hi => by
        have ia : i < as.length := by omega
        refine ⟨as[i], ref_get ia, ?_⟩
        have z := p3 i as[i] (List.getElem?_eq_getElem ia)
        unfold tab at z
        rw [tabF_rowOf hi] at z
        exact z
      refine ⟨_, rfl, _, "tuple", rfl, .tup p1, true, rfl, iteF ?_⟩
      refine ⟨_, rfl, p, _, rfl, .inr (SqT.of p1), _, rfl, rfl, _, rfl, ifNo (int_eq.mpr (by rw [List.length_map, p2]; omega)) ?_⟩
      refine ⟨_, rfl, tr, t, rfl, it2, sml.ok, sml.h, fun H3 s3 => ⟨_, rfl, rfl, _, rfl, ifNo rfl ?_⟩⟩
      refine ⟨_, rfl, tr, t, rfl, it2.mono s3, sml.ok, sml.h, fun H4 s4 => ⟨_, rfl, tr, t, rfl, it2.mono (s3.trans s4), sml.ok, sml.h, rfl, _, rfl, ifNo rfl ?_⟩⟩
      have s24 := s3.trans s4
      refine ⟨_, rfl, pts t, rfl, by omega, by omega, for_range (fun i σ H' => ∃ (y6 y7 : Option V), σ = [some (.ref a), some (.ref nr), some (.ref tr), g, some (.ref p), some (.int (pts t)), y6, y7] ∧ Same H2 H') ⟨none, none, rfl, s24⟩ ?_ ?_⟩
      · rintro i σ H5 hi ⟨y6, y7, rfl, s5⟩
        rw [Int.zero_add]
        obtain ⟨b, hb1, hb2⟩ := row i hi
        have hb5 := s5 _ _ hb2
        have sq5 : SqT K H5 p (as.map V.ref) := SqT.of (s5 _ _ p1)
        refine ⟨_, rfl, _, rfl, p, _, _, _, rfl, rfl, sq5, atI_nat hb1, _, "tuple", rfl, .tup hb5, true, rfl, iteF ?_⟩
        refine ⟨_, rfl, _, rfl, p, _, _, _, rfl, rfl, sq5, atI_nat hb1, b, _, rfl, .inr (SqT.of hb5), fun l nl => ?_⟩
        have s6 : Same H5 (upd H5 l (.lst (((List.range (pts t).toNat).map fun y : Nat => kin t (i : Int) (y : Int)).map V.int))) := new_same nl
        have hl6 : upd H5 l (.lst (((List.range (pts t).toNat).map fun y : Nat => kin t (i : Int) (y : Int)).map V.int)) l = some (.lst (((List.range (pts t).toNat).map fun y : Nat => kin t (i : Int) (y : Int)).map V.int)) := upd_same
        generalize upd H5 l (.lst (((List.range (pts t).toNat).map fun y : Nat => kin t (i : Int) (y : Int)).map V.int)) = H6 at s6 hl6 ⊢
        refine ⟨_, rfl, pts t, rfl, by omega, by omega, fun L nL => lc_range (fun j H' => Same H6 H' ∧ H' L = some (.lst (((List.range j).map fun y : Nat => kin t (i : Int) (y : Int)).map V.int))) ⟨new_same nL, upd_same⟩ ?_ ?_⟩
        · rintro j H7 hj ⟨s7, hL⟩
          rw [Int.zero_add]
          refine ⟨rfl, yes_lc ?_⟩
          refine ⟨_, rfl, _, rfl, _, rfl, tr, t, (i : Int), (j : Int), rfl, it2.mono (s5.trans (s6.trans s7)), sml.ok, sml.h, by omega, by omega, by omega, by omega, fun H8 s8 => ?_⟩
          refine ⟨_, s8 _ _ hL, by rw [List.length_map, List.length_map, List.length_range]; exact small1000 (by omega), same_wr (s7.trans s8) nL, ?_⟩
          rw [upd_same, List.range_succ, List.map_append, List.map_append]
          rfl
        · rintro H7 ⟨s7, hL⟩
          refine neI (ns := (List.range (pts t).toNat).map fun y : Nat => kin t (i : Int) (y : Int)) (SqL.of (s7 _ _ hl6)) (SqL.of hL) ⟨_, rfl, ifNo rfl ?_⟩
          exact ⟨_, _, rfl, s5.trans (s6.trans s7)⟩
      · rintro σ H5 ⟨y6, y7, rfl, s5⟩
        exact hN _ _ ⟨p, _, _, rfl, s5 _ _ (s2 _ _ hnr), it2.mono s5, hp.mono s5⟩
    rintro σ H2 ⟨p, y6, y7, rfl, hnr2, it2, hp⟩
    refine seq_cut1 (fun σ' H' => σ' = [some (.ref a), some (.ref nr), some (.ref tr), g, some (.ref p), some (.int (pts t)), y6, y7] ∧ H' nr = some (.lst (ms.map V.int)) ∧ IsTr H' t tr ∧ IsRows H' p (tab t)) (fun N hN => ?_) ?_
    · refine ⟨_, rfl, _, _, rfl, rfl, _, rfl, ifD (fun c => ?_) (fun c => ?_)⟩
      · refine ⟨_, rfl, _, rfl, tr, t, rfl, it2, sml.ok, sml.h, p, tab t, knd t, rfl, hp, tab_goodW sml.ok sml.g c, fun H3 s3 => ⟨true, rfl, iteF ?_⟩⟩
        exact hN _ _ ⟨rfl, s3 _ _ hnr2, it2.mono s3, hp.mono s3⟩
      · exact iteF (hN _ _ ⟨rfl, hnr2, it2, hp⟩)
    rintro σ H3 ⟨rfl, hnr3, it3, hp3⟩
    refine seq_cut1 (fun σ' H' => σ' = [some (.ref a), some (.ref nr), some (.ref tr), g, some (.ref p), some (.int (pts t)), y6, y7] ∧ H' nr = some (.lst (ms.map V.int))) (fun N hN => ?_) ?_
    · refine ⟨_, rfl, _, _, rfl, rfl, _, rfl, ifD (fun c => ?_) (fun c => ?_)⟩
      · refine ⟨_, rfl, tr, t, rfl, it3, sml.ok, sml.h, _, _, rfl, rfl, _, rfl, ifD (fun c9 => ?_) (fun c9 => ?_)⟩
        · have gd : GoodR (tab t) (knd t) := tab_good sml.ok sml.g c c9
          have h24 := gd.few
          refine ⟨_, rfl, l2, fun q nq => ?_⟩
          have s4 : Same H3 (upd H3 q (.tup [.str "listed", .ref p])) := new_same nq
          have hq : upd H3 q (.tup [.str "listed", .ref p]) q = some (.tup [.str "listed", .ref p]) := upd_same
          generalize upd H3 q (.tup [.str "listed", .ref p]) = H4 at s4 hq ⊢
          refine ⟨q, .listed (tab t) (knd t), rfl, ⟨p, hq, hp3.mono s4⟩, gd, (by show 1 ≤ 2; decide), fun H5 s5 => ⟨true, rfl, iteF ?_⟩⟩
          refine ⟨_, rfl, l2, fun q2 nq2 => ?_⟩
          have s6 : Same H5 (upd H5 q2 (.tup [.str "listed", .ref p])) := new_same nq2
          have hq2 : upd H5 q2 (.tup [.str "listed", .ref p]) q2 = some (.tup [.str "listed", .ref p]) := upd_same
          generalize upd H5 q2 (.tup [.str "listed", .ref p]) = H6 at s6 hq2 ⊢
          refine ⟨q2, .listed (tab t) (knd t), rfl, ⟨p, hq2, hp3.mono (s4.trans (s5.trans s6))⟩, gd, (by show 1 ≤ 2; decide), (by show ((tab t).length : Int) ≤ 100; omega), fun H7 r s7 hr7 => ?_⟩
          rw [tab_again] at hr7
          have s37 := s4.trans (s5.trans (s6.trans s7))
          exact ⟨_, rfl, neRows hr7 (hp3.mono s37) ⟨false, rfl, iteF (hN _ _ ⟨rfl, s37 _ _ hnr3⟩)⟩⟩
        · exact iteF (hN _ _ ⟨rfl, hnr3⟩)
      · exact iteF (hN _ _ ⟨rfl, hnr3⟩)
    rintro σ H4 ⟨rfl, hnr4⟩
    have a42 := atI_getD (xs := ms) (k := 42) (by omega) (by omega)
    generalize ms.getD (42 : Int).toNat 0 = z at a42
    have m4 : 0 ≤ z % 4 ∧ z % 4 < 4 := ⟨Int.emod_nonneg _ (by omega), Int.emod_lt_of_pos _ (by omega)⟩
    refine ⟨l3, fun r1 n1 => ?_⟩
    have s5 : Same H4 (upd H4 r1 (.tup [.str "words", .int 7, .int 2])) := new_same n1
    have h1 : upd H4 r1 (.tup [.str "words", .int 7, .int 2]) r1 = some (.tup [.str "words", .int 7, .int 2]) := upd_same
    generalize upd H4 r1 (.tup [.str "words", .int 7, .int 2]) = H5 at s5 h1 ⊢
    refine ⟨l3, fun r2 n2 => ?_⟩
    have s6 : Same H5 (upd H5 r2 (.tup [.str "sets", .int 15, .int 2])) := new_same n2
    have h2 : upd H5 r2 (.tup [.str "sets", .int 15, .int 2]) r2 = some (.tup [.str "sets", .int 15, .int 2]) := upd_same
    generalize upd H5 r2 (.tup [.str "sets", .int 15, .int 2]) = H6 at s6 h2 ⊢
    refine ⟨l3, fun r3 n3 => ?_⟩
    have s7 : Same H6 (upd H6 r3 (.tup [.str "words", .int 1, .int 101])) := new_same n3
    have h3 : upd H6 r3 (.tup [.str "words", .int 1, .int 101]) r3 = some (.tup [.str "words", .int 1, .int 101]) := upd_same
    generalize upd H6 r3 (.tup [.str "words", .int 1, .int 101]) = H7 at s7 h3 ⊢
    refine ⟨l3, fun e1 ne1 => ?_⟩
    have s8 : Same H7 (upd H7 e1 (.tup [.str "words", .int 3, .int 3])) := new_same ne1
    have he1 : upd H7 e1 (.tup [.str "words", .int 3, .int 3]) e1 = some (.tup [.str "words", .int 3, .int 3]) := upd_same
    generalize upd H7 e1 (.tup [.str "words", .int 3, .int 3]) = H8 at s8 he1 ⊢
    refine ⟨l3, fun e2 ne2 => ?_⟩
    have s9 : Same H8 (upd H8 e2 (.tup [.str "sets", .int 4, .int 2])) := new_same ne2
    have he2 : upd H8 e2 (.tup [.str "sets", .int 4, .int 2]) e2 = some (.tup [.str "sets", .int 4, .int 2]) := upd_same
    generalize upd H8 e2 (.tup [.str "sets", .int 4, .int 2]) = H9 at s9 he2 ⊢
    refine ⟨l3, fun r4 n4 => ?_⟩
    have s10 : Same H9 (upd H9 r4 (.tup [.str "product", .ref e1, .ref e2])) := new_same n4
    have h4 : upd H9 r4 (.tup [.str "product", .ref e1, .ref e2]) r4 = some (.tup [.str "product", .ref e1, .ref e2]) := upd_same
    generalize upd H9 r4 (.tup [.str "product", .ref e1, .ref e2]) = H10 at s10 h4 ⊢
    refine ⟨(by show 4 ≤ sizeLine; decide), fun q1 nq1 => ?_⟩
    have s11 : Same H10 (upd H10 q1 (.lst [.ref r1, .ref r2, .ref r3, .ref r4])) := new_same nq1
    have hq1 : upd H10 q1 (.lst [.ref r1, .ref r2, .ref r3, .ref r4]) q1 = some (.lst [.ref r1, .ref r2, .ref r3, .ref r4]) := upd_same
    generalize upd H10 q1 (.lst [.ref r1, .ref r2, .ref r3, .ref r4]) = H11 at s11 hq1 ⊢
    have s811 := s9.trans (s10.trans s11)
    have s711 := s8.trans s811
    have s411 := s5.trans (s6.trans (s7.trans s711))
    have t1 : IsTr H5 (.words 7 2) r1 := h1
    have t2 : IsTr H6 (.sets 15 2) r2 := h2
    have t3 : IsTr H7 (.words 1 101) r3 := h3
    have t4a : IsTr H8 (.words 3 3) e1 := he1
    have t4b : IsTr H9 (.sets 4 2) e2 := he2
    have t4 : IsTr H10 (.prod (.words 3 3) (.sets 4 2)) r4 := ⟨e1, e2, h4, t4a.mono (s9.trans s10), t4b.mono s10⟩
    obtain ⟨fa, u, hbig, hIs, hat⟩ : ∃ fa u, Big u ∧ IsTr H11 u fa ∧ atI [V.ref r1, V.ref r2, V.ref r3, V.ref r4] (z % 4) = some (.ref fa) := by
      have e7 : z % 4 = 0 ∨ z % 4 = 1 ∨ z % 4 = 2 ∨ z % 4 = 3 := by omega
      rcases e7 with e | e | e | e
      · exact ⟨r1, _, .a, t1.mono (s6.trans (s7.trans s711)), by rw [e]; exact atI_nat (j := 0) rfl⟩
      · exact ⟨r2, _, .b, t2.mono (s7.trans s711), by rw [e]; exact atI_nat (j := 1) rfl⟩
      · exact ⟨r3, _, .c, t3.mono s711, by rw [e]; exact atI_nat (j := 2) rfl⟩
      · exact ⟨r4, _, .d, t4.mono s11, by rw [e]; exact atI_nat (j := 3) rfl⟩
    obtain ⟨b1, b2, b3⟩ := hbig.is
    exact ⟨_, rfl, nr, _, 42, _, rfl, rfl, SqL.of (s411 _ _ hnr4), a42, .inl ⟨_, rfl, _, _, rfl, rfl, by omega, q1, _, _, _, rfl, rfl, SqL.of hq1, hat, fa, u, rfl, hIs, b1, b2, b3, fun H' _ => qq H'⟩⟩
end
end K8
set_option Elab.async false
set_option linter.all false
set_option maxRecDepth 100000
set_option maxHeartbeats 0
namespace K8
open PySem PySem.Spec PyProof.Rows L2
theorem facts {w : World} {h : Heap} {K : PySem.W.Frag} {mg : Str → Option Value} {f : Addr} (X : K.In h) (G : h.Ns mainGlobals mg) (hfa : mg ("law" : Str) = some (.ref f)) (c : He.SaysX faL fnL tsL [] exB w h K) {P : Program} :
    ∃ fd : FuncData, (∀ (s : Shared) (v : Value), BindsTo s fd ⟨[v], []⟩ [("_law_script", v)]) ∧ ∀ base : Heap, K.In base → base.Ns mainGlobals mg → FnOk P w K mg base CX0 8 f fd ["_law_script"] (spLaw K) := by
  have T : T8 w K mg := ⟨c.t.d, ⟨h, X, G⟩, c.t.tab 0, c.more⟩
  obtain ⟨fd, F⟩ := T.d.defs (d := dLaw) (by simp [fnL])
  have e := hfa.symm.trans (T.glo "law" (by simp [faL, faL0, faL1]))
  cases e
  have b := FunD.bindsA (ps := ["_law_script"]) F fun _ _ _ _ _ _ us hl => match us, hl with | [_], _ => rfl
  exact ⟨fd, fun s v => b s [v] rfl, fun base _ _ => fn_law T F⟩
end K8
open PySem PySem.W PySem.Calls PyProof.Rows
theorem PySem.Challenge.cw_schemebound_k08_whole_tables_of_kinds_holds : PySem.Challenge.rw_schemebound_k08_whole_tables_of_kinds.Holds := by
  w_on; o_law
  refine HandSHeadRun.head_any (r := K8.RR) (q := view K8.RR.prog [51]) (H := K8.hkL) (ob := K8.obL) (M := 3000) (loose := K8.looseL) (d := HandSHeadRun.topDef K8.RR.prog 51) (kwd := []) K8.obL_eq
    (by kernel_rfl) (fun s => by kernel_rfl) K8.runL (by kernel_rfl) (by kernel_rfl) (by kernel_rfl) (by rfl) (by first | assumption | decide +kernel) (by decide +kernel) ⟨rfl, rfl, rfl, rfl, rfl, by decide +kernel⟩ ?hw ?hc
  case hw => w_witness2
  case hc =>
    refine L2.walk_ofE (l := PySem.Challenge.rw_schemebound_k08_whole_tables_of_kinds) (n := 63) (k := 8) (x := "_law_script") (CX := L2.CX0) rfl (by decide) (by kernel_rfl) ⟨rfl, by decide, by decide⟩ ?F (fun _ _ _ _ z => z)
    intro w mg fa h Y G hmg0
    obtain ⟨K, KX, c⟩ := Y
    have hmg : mg ("law" : PySem.Str) = some (.ref fa) := by
      have e : (HandSHeadRun.topDef K8.RR.prog 51).name = ("law" : PySem.Str) := by kernel_rfl
      rw [← e]
      exact hmg0
    obtain ⟨fd, hb, hF⟩ := K8.facts (P := (PySem.Challenge.rw_schemebound_k08_whole_tables_of_kinds).prog) KX G hmg c
    exact ⟨K, fd, K8.spLaw K, KX, hb, fun H a ns hl _ hS => ⟨a, ns, rfl, hS, hl, fun _ => rfl⟩, hF⟩
