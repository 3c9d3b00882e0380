import PyProof.Rows.All
import Wide.All
import OpenK.AllK
import Wide.FinOn
import KE.KStateDown
import HandS.Base
import HandS.Call
import HandS.Ends
import HandS.More
import HandS.Words
import HandS.WordsExc
import HandS.Defaults
import HandS.Head0
import HandS.Head1
import HandS.Head2
import HandS.HeadEnd
import HandS.HeadHook1
import HandS.HeadHook2
import HandS.HeadHook3
import HandS.HeadHook4
import PySem.Challenge.RW_earthtold_k67_whole_plans_and_histories
import HandS.ForMost
import HandS.Walk
import HandS.Zip
import HandS.TupAny
import HandS.TupMul
import HandS.TupLe
import HandS.Style
import HandS.Deep
import HandS.SortInts
import HandS.IsInst
import HandS.Conv
import HandS.DictComp
import HandS.Remove
import KE.GoesMore
import PyProof.TupleOfSeq
import PyProof.SeqIndex
import HandS.SortOrd
import HandS.Rev
import HandS.SetFor
import PyProof.AssignAttr
import KE.KDictDisplayH
import HandS.TupSets
import HandS.OwnEq
import HandS.Codes
set_option Elab.async false
set_option linter.all false
set_option maxRecDepth 100000
/-! E0: the text by its statements; the head: what is read off the run, the run. Printed by k67end.py. -/
namespace K67
open PySem PySem.Spec PyProof.Rows L2
abbrev PP : Program := PySem.Challenge.pw_earthtold_k67_whole_plans_and_histories
def top (i : Nat) : Stmt := PP.main.body.getD i (.Pass ⟨0, 0, 0, 0⟩)
end K67
namespace H67
open PySem PySem.Spec PyProof.Rows L2 K67
def dG (x : Str) (st : Stmt) : He.DefD := ⟨(x, none), x, x, defArgs st, defBody st, defScope st, [], []⟩
def dM (C m q : Str) (st : Stmt) : He.DefD := ⟨(C, some m), m, q, defArgs st, defBody st, defScope st, [], []⟩
def fn : List He.DefD := [dG "_law_tape" (top 72), dG "is_integer" (top 1), dG "is_within" (top 2), dG "is_row" (top 4), dG "is_tuple" (top 3), dG "is_column" (top 39), dG "check_grid" (top 40), dG "laid" (top 45), dG "steps_of" (top 41), dG "pair_at" (top 42), dG "overs_of" (top 43), dG "ring_in" (top 46), dG "history" (top 47), dG "check_crews" (top 56), dG "is_lot" (top 5), dG "check_set" (top 55), dG "needed_by" (top 57), dG "row_of" (top 59), dG "ring_among" (top 60), dG "stuck_ring" (top 61), dG "check_few" (top 67), dG "bare_in" (top 64), dG "choices" (top 65), dG "fewest" (top 66), dG "least_plan" (top 68), dM "RawBook" "__init__" "RawBook.__init__" (inClass (top 26) 0), dG "read_off" (top 44), dG "_law_draw" (top 73), dG "_law_overs" (top 76), dG "needed" (top 58), dG "_law_shuffled" (top 74), dG "is_ring" (top 48), dG "is_order" (top 29), dG "is_history" (top 49), dG "_law_is_laid" (top 77), dG "check_order" (top 30), dG "place_of" (top 31), dG "over_amiss" (top 32), dG "kind_amiss" (top 33), dG "is_dated" (top 27), dG "date_amiss" (top 34), dG "amiss_in" (top 35), dG "amiss" (top 36), dG "_law_is_way" (top 79), dG "_law_followed" (top 80), dG "_law_is_ring" (top 78), dG "is_ring_of" (top 69), dG "is_stuck" (top 70), dG "_law_ring_right" (top 84), dG "_law_spots" (top 81), dG "are_days" (top 62), dG "is_plan" (top 63), dG "check_squares" (top 50), dG "shown" (top 51), dG "_law_laid_right" (top 83), dG "_law_turned" (top 82), dG "is_pair" (top 20), dG "are_overs" (top 21), dG "is_bound" (top 22), dG "is_date" (top 23), dG "is_kind" (top 24), dM "Book" "__init__" "Book.__init__" (inClass (top 25) 0), dM "Book" "parts" "Book.parts" (inClass (top 25) 2), dM "RawBook" "__eq__" "Book.__eq__" (inClass (top 25) 1), dG "_law_grid_right" (top 85), dG "_law_grid" (top 75), dG "law" (top 86)]
def fa : List He.Fa := [.glo "_law_tape", .glo "is_integer", .glo "is_within", .glo "is_row", .glo "is_tuple", .glo "is_column", .glo "check_grid", .glo "laid", .glo "steps_of", .glo "pair_at", .glo "overs_of", .glo "ring_in", .glo "history", .glo "check_crews", .glo "is_lot", .glo "check_set", .glo "needed_by", .glo "row_of", .glo "ring_among", .glo "stuck_ring", .glo "check_few", .glo "bare_in", .glo "choices", .glo "fewest", .glo "least_plan", .glo "read_off", .glo "_law_draw", .glo "_law_overs", .glo "needed", .glo "_law_shuffled", .glo "is_ring", .glo "is_order", .glo "is_history", .glo "_law_is_laid", .glo "check_order", .glo "place_of", .glo "over_amiss", .glo "kind_amiss", .glo "is_dated", .glo "date_amiss", .glo "amiss_in", .glo "amiss", .glo "_law_is_way", .glo "_law_followed", .glo "_law_is_ring", .glo "is_ring_of", .glo "is_stuck", .glo "_law_ring_right", .glo "_law_spots", .glo "are_days", .glo "is_plan", .glo "check_squares", .glo "shown", .glo "_law_laid_right", .glo "_law_turned", .glo "is_pair", .glo "are_overs", .glo "is_bound", .glo "is_date", .glo "is_kind", .glo "_law_grid_right", .glo "_law_grid", .glo "law", .glo "Book", .glo "RawBook", .free "int", .free "sum", .free "len", .free "abs", .free "isinstance", .free "bool", .free "list", .free "tuple", .free "all", .free "set", .free "range", .free "any", .free "enumerate", .free "sorted", .free "zip", .free "min", .free "str", .free "max", .int "MOST_LAYERS" 16, .int "MOST_COLUMNS" 20, .int "MOST_CREWS" 4, .int "MOST_NEEDED" 12, .int "FARTHEST" 100000, .int "MOST_KINDS" 16, .cls "Book", .cls "RawBook", .noat "Book" "count", .noat "Book" "overs", .noat "Book" "dates", .noat "Book" "kinds", .noat "Book" "looked", .noat "RawBook" "count", .noat "RawBook" "overs", .noat "RawBook" "dates", .noat "RawBook" "kinds", .noat "RawBook" "looked", .mkr "Book", .mkr "RawBook", .meth "Book" "parts", .meth "RawBook" "parts", .meth "RawBook" "__eq__"]
abbrev cb (K : PySem.W.Frag) : Addr := He.ga K "Book"
abbrev cr (K : PySem.W.Frag) : Addr := He.ga K "RawBook"
/-- what isinstance and == ask of the two classes -/
def ex (K : PySem.W.Frag) : Bool :=
  decide (PySem.W.findIn K (.ref (cb K)) "__class__" = some (some (.builtin "object.__class__"))) && (decide (PySem.W.specialIn K (.builtin "object.__class__") "__get__" = some (some (.builtin "getset_descriptor.__get__"))) &&
  (decide (PySem.W.takesIn K (.builtin "object.__class__") = some true) && (decide (PySem.W.mroIn K (cb K) (.type "object") = some true) && (decide (PySem.W.kitOne K (.ref (cb K)) (.ref (cb K)) = some true) &&
  (PySem.W.notFirst K (cr K) (.ref (cb K)) && (decide (cb K ≠ cr K) && decide (He.ma K (cb K) "parts" = He.ma K (cr K) "parts")))))))
abbrev Rw : PySem.W.OpenRow := PySem.W.OpenLaw.row PySem.Challenge.rw_earthtold_k67_whole_plans_and_histories
abbrev hk : PySem.W.Hook := He.hookX 4 fa fn [] [] ex
def ob (s : PySem.W.SharedT) : He.AlX := He.obsX 4 fa fn [] [] ex (HandSHeadRun.getT s)
theorem ob_eq (s : PySem.W.SharedT) : ob s = hk.obs s.abs := He.obsX_eq (HandSHeadRun.getT_eq s)
def nm0 : List PySem.Str := ["is_integer", "is_within", "is_tuple", "is_row", "is_lot", "EarthError", "BadBook", "NoOrder", "NoCount", "NoGrid", "NoSquares", "NoSet", "NoCrews", "TooMany", "MOST_LAYERS", "MOST_KINDS", "FARTHEST", "is_pair", "are_overs", "is_bound", "is_date", "is_kind", "Book", "RawBook", "is_dated", "is_order", "check_order", "place_of", "over_amiss", "kind_amiss"]
def nm1 : List PySem.Str := ["date_amiss", "amiss_in", "amiss", "MOST_COLUMNS", "is_column", "check_grid", "steps_of", "pair_at", "overs_of", "read_off", "laid", "ring_in", "history", "is_ring", "is_history", "check_squares", "shown", "MOST_CREWS", "MOST_NEEDED", "check_set", "check_crews", "needed_by", "needed", "row_of", "ring_among", "stuck_ring", "are_days", "is_plan", "bare_in", "choices"]
def nm2 : List PySem.Str := ["fewest", "check_few", "least_plan", "is_ring_of", "is_stuck", "_law_tape", "_law_draw", "_law_shuffled", "_law_grid", "_law_overs", "_law_is_laid", "_law_is_ring", "_law_is_way", "_law_followed", "_law_spots", "_law_turned", "_law_laid_right", "_law_ring_right", "_law_grid_right"]
def names : List PySem.Str := nm0 ++ nm1 ++ nm2
theorem run (w : World) : HandSHeadRun.RunEq Rw (PySem.W.view Rw.prog [86]) hk ob 8000 names w := by
  intro os
  kernel_rfl
end H67
set_option Elab.async false
set_option linter.all false
set_option maxRecDepth 100000
/-! DL0: data by value over the hand layer's readings: states, judgements, transport. -/
namespace DL
open PySem L2

/-! ### heaps -/
def hide (L : List Addr) (H : Hp) : Hp := fun a => if a ∈ L then none else H a
theorem hide_in {L : List Addr} {H : Hp} {a : Addr} (h : a ∈ L) : hide L H a = none := if_pos h
theorem hide_out {L : List Addr} {H : Hp} {a : Addr} (h : a ∉ L) : hide L H a = H a := if_neg h
theorem hide_some {L : List Addr} {H : Hp} {a : Addr} {o : HO} (h : hide L H a = some o) : a ∉ L ∧ H a = some o := by
  by_cases m : a ∈ L
  · rw [hide_in m] at h; cases h
  · rw [hide_out m] at h; exact ⟨m, h⟩
theorem hide_le {L : List Addr} {H : Hp} : Same (hide L H) H := fun _ _ h => (hide_some h).2
theorem hide_mono {L M : List Addr} {H H' : Hp} (hl : ∀ a, a ∈ M → a ∈ L) (s : Same H H') : Same (hide L H) (hide M H') := fun a o h => by
  obtain ⟨h1, h2⟩ := hide_some h
  rw [hide_out fun m => h1 (hl a m)]
  exact s a o h2
/-- what never changes: tuples, instances -/
def imm : HO → Bool
  | .tup _ => true
  | .ins _ _ _ => true
  | .own _ => true
  | .frz _ (.tup _) => true
  | .frz _ (.lst _) => true
  | _ => false
def gp (G : Hp) : Hp := fun a => match G a with
  | some o => if imm o = true then some o else none
  | none => none
theorem gp_some {G : Hp} {a : Addr} {o : HO} (h : gp G a = some o) : G a = some o ∧ imm o = true := by
  unfold gp at h
  cases e : G a with
  | none => rw [e] at h; cases h
  | some u =>
    rw [e] at h
    by_cases c : imm u = true
    · simp only [c, if_true] at h
      cases h
      exact ⟨rfl, c⟩
    · simp only [c, if_false] at h
      cases h
theorem gp_of {G : Hp} {a : Addr} {o : HO} (h : G a = some o) (c : imm o = true) : gp G a = some o := by
  unfold gp
  rw [h]
  simp [c]
theorem gp_mono {G G' : Hp} (s : Same G G') : Same (gp G) (gp G') := fun a o h => by
  obtain ⟨h1, h2⟩ := gp_some h
  exact gp_of (s a o h1) h2
theorem same_new {H : Hp} {p : Addr} {o : HO} (h : H p = none) : Same H (upd H p o) := fun b u e => by
  rw [upd_ne (ne_of_none e h)]
  exact e

/-! ### data -/
inductive D (κ : Type) where
  | non | bl (b : Bool) | int (i : Int) | str (x : Str) | ty (n : String)
  | tup (xs : List (D κ)) | lst (xs : List (D κ))
  | dik (ks : List Key) (xs : List (D κ)) | dit (ks : List (List Key)) (xs : List (D κ))
  | wtup (xs : List (D κ)) | ktup (xs : List (D κ))
  | obj (k : κ) | any
mutual
def D.pur {κ : Type} : D κ → Bool
  | .lst _ => false
  | .dik _ _ => false
  | .dit _ _ => false
  | .tup xs => D.purs xs
  | .wtup xs => D.purs xs
  | .ktup xs => D.purs xs
  | _ => true
def D.purs {κ : Type} : List (D κ) → Bool
  | [] => true
  | x :: xs => x.pur && D.purs xs
end
theorem D.purs_iff {κ : Type} : ∀ {xs : List (D κ)}, D.purs xs = true ↔ ∀ x ∈ xs, x.pur = true
  | [] => by simp [D.purs]
  | x :: xs => by simp [D.purs, D.purs_iff (xs := xs)]

/-- the surroundings: sealed objects, and what of the heap is theirs -/
structure Wrl (K : PySem.W.Frag) where
  κ : Type
  W : Type
  le : W → W → Prop
  refl : ∀ w, le w w
  trans : ∀ {a b c}, le a b → le b c → le a c
  A : W → List Addr
  Am : ∀ {w w'}, le w w' → ∀ a, a ∈ A w → a ∈ A w'
  ok : W → Hp → Prop
  rob : W → Hp → V → κ → Prop
  okm : ∀ {w H H'}, (∀ a, a ∈ A w → H' a = H a) → Same (gp (hide (A w) H)) (gp (hide (A w) H')) → ok w H → ok w H'
  okt : ∀ {w H}, ok w H → ∀ a, a ∈ A w → H a ≠ none
  robm : ∀ {w w' G G' v k}, le w w' → Same (gp G) (gp G') → rob w G v k → rob w' G' v k

variable {K : PySem.W.Frag} (Z : Wrl K)
mutual
inductive Rp (w : Z.W) (G : Hp) : V → D Z.κ → Prop
  | non : Rp w G .non .non
  | bl (b : Bool) : Rp w G (.bl b) (.bl b)
  | int (i : Int) : Rp w G (.int i) (.int i)
  | str (x : Str) : Rp w G (.str x) (.str x)
  | ty (n : String) : Rp w G (.ty n) (.ty n)
  | tup {a : Addr} {vs : List V} {ds : List (D Z.κ)} : SqT K G a vs → RpA w G vs ds → Rp w G (.ref a) (.tup ds)
  | wtup {a : Addr} {vs : List V} {ds : List (D Z.κ)} {o : Obj} : o.dict = none → G a = some (.frz o (.tup vs)) → RpA w G vs ds → Rp w G (.ref a) (.wtup ds)
  | ktup {a : Addr} {vs : List V} {ds : List (D Z.κ)} : G a = some (.tup vs) → RpA w G vs ds → Rp w G (.ref a) (.ktup ds)
  | lst {a : Addr} {vs : List V} {ds : List (D Z.κ)} : G a = some (.lst vs) → RpA w G vs ds → Rp w G (.ref a) (.lst ds)
  | dik {a : Addr} {kvs : List (Key × V)} {ks : List Key} {ds : List (D Z.κ)} : G a = some (.dK kvs) → kvs.map (·.1) = ks → RpA w G (kvs.map (·.2)) ds → Rp w G (.ref a) (.dik ks ds)
  | dit {a : Addr} {kvs : List (List Key × V)} {ks : List (List Key)} {ds : List (D Z.κ)} : G a = some (.dT kvs) → kvs.map (·.1) = ks → RpA w G (kvs.map (·.2)) ds → Rp w G (.ref a) (.dit ks ds)
  | obj {v : V} {k : Z.κ} : Z.rob w G v k → Rp w G v (.obj k)
  | any {v : V} : Rp w G v .any
inductive RpA (w : Z.W) (G : Hp) : List V → List (D Z.κ) → Prop
  | nil : RpA w G [] []
  | cons {v : V} {vs : List V} {d : D Z.κ} {ds : List (D Z.κ)} : Rp w G v d → RpA w G vs ds → RpA w G (v :: vs) (d :: ds)
end
section
variable {Z} {w w' : Z.W} {G G' : Hp}
theorem sqT_mono {a : Addr} {vs : List V} (s : Same G G') (h : SqT K G a vs) : SqT K G' a vs := by
  rcases h with (h | ⟨o, h⟩) | h
  · exact .inl (.inl (s _ _ h))
  · exact .inl (.inr ⟨o, s _ _ h⟩)
  · exact .inr h
theorem sqT_gp {a : Addr} {vs : List V} (s : Same (gp G) (gp G')) (h : SqT K G a vs) : SqT K G' a vs := by
  rcases h with (h | ⟨o, h⟩) | h
  · exact .inl (.inl (gp_some (s _ _ (gp_of h rfl))).1)
  · exact .inl (.inr ⟨o, (gp_some (s _ _ (gp_of h rfl))).1⟩)
  · exact .inr h
mutual
theorem Rp.mono (l : Z.le w w') (s : Same G G') : ∀ {v : V} {d : D Z.κ}, Rp Z w G v d → Rp Z w' G' v d
  | _, _, .non => .non
  | _, _, .bl b => .bl b
  | _, _, .int i => .int i
  | _, _, .str x => .str x
  | _, _, .ty n => .ty n
  | _, _, .tup h r => .tup (sqT_mono s h) (RpA.mono l s r)
  | _, _, .wtup e h r => .wtup e (s _ _ h) (RpA.mono l s r)
  | _, _, .ktup h r => .ktup (s _ _ h) (RpA.mono l s r)
  | _, _, .lst h r => .lst (s _ _ h) (RpA.mono l s r)
  | _, _, .dik h e r => .dik (s _ _ h) e (RpA.mono l s r)
  | _, _, .dit h e r => .dit (s _ _ h) e (RpA.mono l s r)
  | _, _, .obj h => .obj (Z.robm l (gp_mono s) h)
  | _, _, .any => .any
theorem RpA.mono (l : Z.le w w') (s : Same G G') : ∀ {vs : List V} {ds : List (D Z.κ)}, RpA Z w G vs ds → RpA Z w' G' vs ds
  | _, _, .nil => .nil
  | _, _, .cons h r => .cons (Rp.mono l s h) (RpA.mono l s r)
end
mutual
theorem Rp.pmono (l : Z.le w w') (s : Same (gp G) (gp G')) : ∀ {v : V} {d : D Z.κ}, d.pur = true → Rp Z w G v d → Rp Z w' G' v d
  | _, _, _, .non => .non
  | _, _, _, .bl b => .bl b
  | _, _, _, .int i => .int i
  | _, _, _, .str x => .str x
  | _, _, _, .ty n => .ty n
  | _, _, p, .tup h r => .tup (sqT_gp s h) (RpA.pmono l s (by simpa [D.pur] using p) r)
  | _, _, p, .wtup e h r => .wtup e (gp_some (s _ _ (gp_of h rfl))).1 (RpA.pmono l s (by simpa [D.pur] using p) r)
  | _, _, p, .ktup h r => .ktup (gp_some (s _ _ (gp_of h rfl))).1 (RpA.pmono l s (by simpa [D.pur] using p) r)
  | _, _, p, .lst h r => by simp [D.pur] at p
  | _, _, p, .dik h e r => by simp [D.pur] at p
  | _, _, p, .dit h e r => by simp [D.pur] at p
  | _, _, _, .obj h => .obj (Z.robm l s h)
  | _, _, _, .any => .any
theorem RpA.pmono (l : Z.le w w') (s : Same (gp G) (gp G')) : ∀ {vs : List V} {ds : List (D Z.κ)}, D.purs ds = true → RpA Z w G vs ds → RpA Z w' G' vs ds
  | _, _, _, .nil => .nil
  | _, _, p, .cons h r => by
    simp only [D.purs, Bool.and_eq_true] at p
    exact .cons (Rp.pmono l s p.1 h) (RpA.pmono l s p.2 r)
end
theorem RpA.length : ∀ {vs : List V} {ds : List (D Z.κ)}, RpA Z w G vs ds → vs.length = ds.length
  | _, _, .nil => rfl
  | _, _, .cons _ r => congrArg Nat.succ r.length
theorem RpA.get : ∀ {vs : List V} {ds : List (D Z.κ)} {i : Nat} {v : V}, RpA Z w G vs ds → vs[i]? = some v → ∃ d, ds[i]? = some d ∧ Rp Z w G v d
  | _, _, _, _, .nil, e => by simp at e
  | _, _, 0, _, .cons h _, e => by simp at e; subst e; exact ⟨_, rfl, h⟩
  | _, _, i + 1, v, .cons _ r, e => by
    obtain ⟨d, h1, h2⟩ := RpA.get (i := i) (v := v) r (by simpa using e)
    exact ⟨d, by simpa using h1, h2⟩
theorem RpA.getD : ∀ {vs : List V} {ds : List (D Z.κ)} {i : Nat} {d : D Z.κ}, RpA Z w G vs ds → ds[i]? = some d → ∃ v, vs[i]? = some v ∧ Rp Z w G v d
  | _, _, _, _, .nil, e => by simp at e
  | _, _, 0, _, .cons h _, e => by simp at e; subst e; exact ⟨_, rfl, h⟩
  | _, _, i + 1, d, .cons _ r, e => by
    obtain ⟨v, h1, h2⟩ := RpA.getD (i := i) (d := d) r (by simpa using e)
    exact ⟨v, by simpa using h1, h2⟩
theorem RpA.app : ∀ {vs us : List V} {ds es : List (D Z.κ)}, RpA Z w G vs ds → RpA Z w G us es → RpA Z w G (vs ++ us) (ds ++ es)
  | _, _, _, _, .nil, s => s
  | _, _, _, _, .cons h r, s => .cons h (RpA.app r s)
theorem RpA.take : ∀ {vs : List V} {ds : List (D Z.κ)} (n : Nat), RpA Z w G vs ds → RpA Z w G (vs.take n) (ds.take n)
  | _, _, 0, _ => .nil
  | _, _, _ + 1, .nil => .nil
  | _, _, n + 1, .cons h r => .cons h (RpA.take n r)
theorem RpA.drop : ∀ {vs : List V} {ds : List (D Z.κ)} (n : Nat), RpA Z w G vs ds → RpA Z w G (vs.drop n) (ds.drop n)
  | _, _, 0, r => r
  | _, _, _ + 1, .nil => .nil
  | _, _, n + 1, .cons _ r => RpA.drop n r
theorem RpA.set {v : V} {d : D Z.κ} (h : Rp Z w G v d) : ∀ {vs : List V} {ds : List (D Z.κ)} (n : Nat), RpA Z w G vs ds → RpA Z w G (vs.set n v) (ds.set n d)
  | _, _, _, .nil => .nil
  | _, _, 0, .cons _ r => .cons h r
  | _, _, n + 1, .cons q r => .cons q (RpA.set h n r)
theorem RpA.erase : ∀ {vs : List V} {ds : List (D Z.κ)} (n : Nat), RpA Z w G vs ds → RpA Z w G (vs.eraseIdx n) (ds.eraseIdx n)
  | _, _, _, .nil => .nil
  | _, _, 0, .cons _ r => r
  | _, _, n + 1, .cons q r => .cons q (RpA.erase n r)
theorem RpA.rev : ∀ {vs : List V} {ds : List (D Z.κ)}, RpA Z w G vs ds → RpA Z w G vs.reverse ds.reverse
  | _, _, .nil => .nil
  | _, _, .cons h r => by
    rw [List.reverse_cons, List.reverse_cons]
    exact RpA.app (RpA.rev r) (.cons h .nil)
theorem RpA.nil_iff {vs : List V} {ds : List (D Z.κ)} (r : RpA Z w G vs ds) : vs = [] ↔ ds = [] := by
  cases r <;> simp
end

/-! ### less told of data -/
mutual
inductive LD {κ : Type} : D κ → D κ → Prop
  | refl (d : D κ) : LD d d
  | tup {xs ys : List (D κ)} : LDs xs ys → LD (.tup xs) (.tup ys)
  | wtup {xs ys : List (D κ)} : LDs xs ys → LD (.wtup xs) (.tup ys)
  | ktup {xs ys : List (D κ)} : LDs xs ys → LD (.ktup xs) (.tup ys)
  | wt {xs ys : List (D κ)} : LDs xs ys → LD (.wtup xs) (.wtup ys)
  | kt {xs ys : List (D κ)} : LDs xs ys → LD (.ktup xs) (.ktup ys)
  | lst {xs ys : List (D κ)} : LDs xs ys → LD (.lst xs) (.lst ys)
  | any (d : D κ) : LD d .any
inductive LDs {κ : Type} : List (D κ) → List (D κ) → Prop
  | nil : LDs [] []
  | cons {x y : D κ} {xs ys : List (D κ)} : LD x y → LDs xs ys → LDs (x :: xs) (y :: ys)
end
section
variable {Z} {w : Z.W} {G : Hp}
mutual
theorem Rp.ld : ∀ {v : V} {d e : D Z.κ}, LD d e → Rp Z w G v d → Rp Z w G v e
  | _, _, _, .refl _, r => r
  | _, _, _, .any _, _ => .any
  | _, _, _, .tup h, .tup a r => .tup a (RpA.ld h r)
  | _, _, _, .wtup h, .wtup _ a r => .tup (.inl (.inr ⟨_, a⟩)) (RpA.ld h r)
  | _, _, _, .ktup h, .ktup a r => .tup (.inl (.inl a)) (RpA.ld h r)
  | _, _, _, .wt h, .wtup e a r => .wtup e a (RpA.ld h r)
  | _, _, _, .kt h, .ktup a r => .ktup a (RpA.ld h r)
  | _, _, _, .lst h, .lst a r => .lst a (RpA.ld h r)
theorem RpA.ld : ∀ {vs : List V} {ds es : List (D Z.κ)}, LDs ds es → RpA Z w G vs ds → RpA Z w G vs es
  | _, _, _, .nil, .nil => .nil
  | _, _, _, .cons h t, .cons r u => .cons (Rp.ld h r) (RpA.ld t u)
end
end
theorem LDs.refl {κ : Type} : ∀ ds : List (D κ), LDs ds ds
  | [] => .nil
  | d :: ds => .cons (.refl d) (LDs.refl ds)
theorem LDs.map {κ α : Type} {f g : α → D κ} : ∀ {xs : List α}, (∀ x ∈ xs, LD (f x) (g x)) → LDs (xs.map f) (xs.map g)
  | [], _ => .nil
  | x :: xs, h => .cons (h x List.mem_cons_self) (LDs.map fun y hy => h y (List.mem_cons_of_mem _ hy))

/-! ### states -/
/-- what an object of one's own holds -/
inductive OC (κ : Type) where
  | lst (xs : List (D κ)) | dik (ks : List Key) (xs : List (D κ)) | dit (ks : List (List Key)) (xs : List (D κ))
def OC.dat {κ : Type} : OC κ → D κ
  | .lst xs => .lst xs
  | .dik ks xs => .dik ks xs
  | .dit ks xs => .dit ks xs
def OC.pur {κ : Type} : OC κ → Bool
  | .lst xs => D.purs xs
  | .dik _ xs => D.purs xs
  | .dit _ xs => D.purs xs
def OcAt (w : Z.W) (G H : Hp) (p : Addr) : OC Z.κ → Prop
  | .lst xs => ∃ vs, H p = some (.lst vs) ∧ RpA Z w G vs xs
  | .dik ks xs => ∃ kvs, H p = some (.dK kvs) ∧ kvs.map (·.1) = ks ∧ RpA Z w G (kvs.map (·.2)) xs
  | .dit ks xs => ∃ kvs, H p = some (.dT kvs) ∧ kvs.map (·.1) = ks ∧ RpA Z w G (kvs.map (·.2)) xs
/-- a slot: unknown; data; an object that nobody else holds -/
inductive SL (κ : Type) where
  | u | d (x : D κ) | own (p : Addr) (c : OC κ)
def SlAt (w : Z.W) (G H : Hp) : SL Z.κ → Option V → Prop
  | .u, _ => True
  | .d x, o => ∃ v, o = some v ∧ Rp Z w G v x
  | .own p c, o => o = some (.ref p) ∧ OcAt Z w G H p c
def owns {κ : Type} : List (SL κ) → List Addr
  | [] => []
  | .own p _ :: τ => p :: owns τ
  | _ :: τ => owns τ
abbrev Pd (κ : Type) := List (Addr × OC κ)
def OL {κ : Type} (E : Pd κ) (τ : List (SL κ)) : List Addr := E.map (·.1) ++ owns τ
def HL (w : Z.W) (E : Pd Z.κ) (τ : List (SL Z.κ)) : List Addr := Z.A w ++ OL E τ
abbrev Gd (w : Z.W) (E : Pd Z.κ) (τ : List (SL Z.κ)) (H : Hp) : Hp := hide (HL Z w E τ) H
structure Rep (H0 : Hp) (w : Z.W) (E : Pd Z.κ) (τ : List (SL Z.κ)) (σ : L2.St) (H : Hp) : Prop where
  nd : (OL E τ).Nodup
  dj : ∀ a, a ∈ OL E τ → a ∉ Z.A w
  ok : Z.ok w H
  fr : Same H0 (Gd Z w E τ H)
  pe : ∀ q, q ∈ E → OcAt Z w (Gd Z w E τ H) H q.1 q.2
  sl : Paired (SlAt Z w (Gd Z w E τ H) H) τ σ
/-- what an expression gives: data; a new object; the object of a slot -/
inductive ER (κ : Type) where
  | v (d : D κ) | n (p : Addr) (c : OC κ) | b (i : Nat)
def GR (r : ER Z.κ) (w : Z.W) (E : Pd Z.κ) (τ : List (SL Z.κ)) (H : Hp) : Hp := match r with
  | .n p c => Gd Z w ((p, c) :: E) τ H
  | _ => Gd Z w E τ H
def Res (H0 : Hp) (w : Z.W) (E : Pd Z.κ) (τ : List (SL Z.κ)) (σ : L2.St) (H : Hp) (x : V) : ER Z.κ → Prop
  | .v d => Rep Z H0 w E τ σ H ∧ Rp Z w (Gd Z w E τ H) x d
  | .n p c => x = .ref p ∧ Rep Z H0 w ((p, c) :: E) τ σ H
  | .b i => Rep Z H0 w E τ σ H ∧ ∃ p c, τ[i]? = some (.own p c) ∧ x = .ref p
/-- slots keep their objects -/
def Shp {κ : Type} (τ τ' : List (SL κ)) : Prop := ∀ (i : Nat) (p : Addr) (c : OC κ), τ[i]? = some (SL.own p c) → ∃ c', τ'[i]? = some (SL.own p c')
theorem Shp.refl {κ : Type} (τ : List (SL κ)) : Shp τ τ := fun _ _ c h => ⟨c, h⟩
theorem Shp.trans {κ : Type} {a b c : List (SL κ)} (h : Shp a b) (k : Shp b c) : Shp a c := fun i p x e => by
  obtain ⟨y, e2⟩ := h i p x e
  exact k i p y e2
structure Nxt (w w' : Z.W) (G G' : Hp) (τ τ' : List (SL Z.κ)) : Prop where
  le : Z.le w w'
  sm : Same G G'
  sh : Shp τ τ'
theorem Nxt.refl {w : Z.W} {G : Hp} {τ : List (SL Z.κ)} : Nxt Z w w G G τ τ := ⟨Z.refl w, Same.refl G, Shp.refl τ⟩
theorem Nxt.trans {w w1 w2 : Z.W} {G G1 G2 : Hp} {τ τ1 τ2 : List (SL Z.κ)} (a : Nxt Z w w1 G G1 τ τ1) (b : Nxt Z w1 w2 G1 G2 τ1 τ2) : Nxt Z w w2 G G2 τ τ2 :=
  ⟨Z.trans a.le b.le, a.sm.trans b.sm, a.sh.trans b.sh⟩

abbrev PE' (κ : Type) := ER κ → List (SL κ) → Prop
def DE (t : TE) (τ : List (SL Z.κ)) (P : PE' Z.κ) : Prop := ∀ H0 w E σ H (Q : VK), Rep Z H0 w E τ σ H →
  (∀ r τ' x w' H', P r τ' → Nxt Z w w' (Gd Z w E τ H) (GR Z r w' E τ' H') τ τ' → Res Z H0 w' E τ' σ H' x r → Q x H') → t σ H Q
def DT (t : TT) (τ : List (SL Z.κ)) (P : Bool → List (SL Z.κ) → Prop) : Prop := ∀ H0 w E σ H (Q : Bool → Hp → Prop), Rep Z H0 w E τ σ H →
  (∀ b τ' w' H', P b τ' → Nxt Z w w' (Gd Z w E τ H) (Gd Z w' E τ' H') τ τ' → Rep Z H0 w' E τ' σ H' → Q b H') → t σ H Q
/-- a value at hand, told -/
def RV (w : Z.W) (G : Hp) (τ : List (SL Z.κ)) (x : V) : ER Z.κ → Prop
  | .v d => Rp Z w G x d
  | .n _ _ => False
  | .b i => ∃ p c, τ[i]? = some (.own p c) ∧ x = .ref p
def DA (t : TA) (τ : List (SL Z.κ)) (P : List (ER Z.κ) → List (SL Z.κ) → Prop) : Prop := ∀ H0 w E σ H (Q : List V → Hp → Prop), Rep Z H0 w E τ σ H →
  (∀ rs τ' xs w' H', P rs τ' → Nxt Z w w' (Gd Z w E τ H) (Gd Z w' E τ' H') τ τ' → Rep Z H0 w' E τ' σ H' → Paired (RV Z w' (Gd Z w' E τ' H') τ') xs rs → Q xs H') → t σ H Q
/-- a new object as data -/
def fz {κ : Type} : ER κ → ER κ
  | .n _ c => .v c.dat
  | r => r
/-- the data of it -/
def vw {κ : Type} (τ : List (SL κ)) : ER κ → D κ
  | .v d => d
  | .n _ c => c.dat
  | .b i => match τ[i]? with
    | some (.own _ c) => c.dat
    | _ => .any
def Vw (w : Z.W) (G H : Hp) (x : V) (d : D Z.κ) : Prop := Rp Z w G x d ∨ ∃ (p : Addr) (c : OC Z.κ), x = .ref p ∧ d = c.dat ∧ OcAt Z w G H p c
/-- what an operation of values leaves -/
inductive Out (w : Z.W) (G H : Hp) : V → Hp → ER Z.κ → Prop
  | same {x : V} {d : D Z.κ} : Rp Z w G x d → Out w G H x H (.v d)
  | tup {p : Addr} {vs : List V} {ds : List (D Z.κ)} : H p = none → RpA Z w G vs ds → Out w G H (.ref p) (upd H p (.tup vs)) (.v (.tup ds))
  | ktup {p : Addr} {vs : List V} {ds : List (D Z.κ)} : H p = none → RpA Z w G vs ds → Out w G H (.ref p) (upd H p (.tup vs)) (.v (.ktup ds))
  | wtup {p : Addr} {vs : List V} {ds : List (D Z.κ)} {o : Obj} : H p = none → o.dict = none → RpA Z w G vs ds → Out w G H (.ref p) (upd H p (.frz o (.tup vs))) (.v (.wtup ds))
  | lst {p : Addr} {vs : List V} {ds : List (D Z.κ)} : H p = none → RpA Z w G vs ds → Out w G H (.ref p) (upd H p (.lst vs)) (.n p (.lst ds))
  | dik {p : Addr} {kvs : List (Key × V)} {ds : List (D Z.κ)} : H p = none → RpA Z w G (kvs.map (·.2)) ds → Out w G H (.ref p) (upd H p (.dK kvs)) (.n p (.dik (kvs.map (·.1)) ds))
  | dit {p : Addr} {kvs : List (List Key × V)} {ds : List (D Z.κ)} : H p = none → RpA Z w G (kvs.map (·.2)) ds → Out w G H (.ref p) (upd H p (.dT kvs)) (.n p (.dit (kvs.map (·.1)) ds))

/-! ### transport -/
section
variable {Z} {H0 : Hp} {w w' : Z.W} {E : Pd Z.κ} {τ τ' : List (SL Z.κ)} {σ : L2.St} {H H' G G' : Hp} {p : Addr} {c : OC Z.κ} {x : V}
theorem OcAt.mono (l : Z.le w w') (s : Same G G') (e : H' p = H p) : ∀ {c : OC Z.κ}, OcAt Z w G H p c → OcAt Z w' G' H' p c
  | .lst xs, ⟨vs, e1, r⟩ => ⟨vs, by rw [e]; exact e1, r.mono l s⟩
  | .dik ks xs, ⟨vs, e1, e2, r⟩ => ⟨vs, by rw [e]; exact e1, e2, r.mono l s⟩
  | .dit ks xs, ⟨vs, e1, e2, r⟩ => ⟨vs, by rw [e]; exact e1, e2, r.mono l s⟩
theorem OcAt.there : ∀ {c : OC Z.κ}, OcAt Z w G H p c → ∃ o, H p = some o
  | .lst xs, ⟨vs, e1, r⟩ => ⟨_, e1⟩
  | .dik ks xs, ⟨vs, e1, e2, r⟩ => ⟨_, e1⟩
  | .dit ks xs, ⟨vs, e1, e2, r⟩ => ⟨_, e1⟩
theorem OcAt.mut : ∀ {c : OC Z.κ}, OcAt Z w G H p c → ∃ o, H p = some o ∧ imm o = false
  | .lst xs, ⟨vs, e1, r⟩ => ⟨_, e1, rfl⟩
  | .dik ks xs, ⟨vs, e1, e2, r⟩ => ⟨_, e1, rfl⟩
  | .dit ks xs, ⟨vs, e1, e2, r⟩ => ⟨_, e1, rfl⟩
/-- an own object shown as data -/
theorem OcAt.rp (hp : G' p = H p) (l : Z.le w w') (s : Same G G') : ∀ {c : OC Z.κ}, OcAt Z w G H p c → Rp Z w' G' (.ref p) c.dat
  | .lst xs, ⟨vs, e1, r⟩ => .lst (by rw [hp]; exact e1) (r.mono l s)
  | .dik ks xs, ⟨vs, e1, e2, r⟩ => .dik (by rw [hp]; exact e1) e2 (r.mono l s)
  | .dit ks xs, ⟨vs, e1, e2, r⟩ => .dit (by rw [hp]; exact e1) e2 (r.mono l s)
theorem SlAt.mono (l : Z.le w w') (s : Same G G') (e : ∀ p, (∃ o, H p = some o) → H' p = H p) : ∀ {a : SL Z.κ} {o : Option V}, SlAt Z w G H a o → SlAt Z w' G' H' a o
  | .u, _, _ => trivial
  | .d x, _, ⟨v, e1, r⟩ => ⟨v, e1, r.mono l s⟩
  | .own p c, _, ⟨e1, h⟩ => ⟨e1, h.mono l s (e p h.there)⟩
theorem owns_mem {i : Nat} : ∀ {τ : List (SL Z.κ)} {i : Nat}, τ[i]? = some (.own p c) → p ∈ owns τ
  | [], _, h => by simp at h
  | a :: τ, 0, h => by
    simp at h
    subst h
    exact List.mem_cons_self
  | a :: τ, i + 1, h => by
    have m := owns_mem (i := i) (τ := τ) (by simpa using h)
    cases a with
    | own q c => exact List.mem_cons_of_mem _ m
    | u => exact m
    | d x => exact m
theorem Paired.at {α β : Type} {R : α → β → Prop} : ∀ {l : List α} {m : List β} {i : Nat} {a : α}, Paired R l m → l[i]? = some a → ∃ b, m[i]? = some b ∧ R a b
  | _, _, _, _, .nil, h => by simp at h
  | _, _, 0, _, .cons r _, h => by simp at h; subst h; exact ⟨_, rfl, r⟩
  | _, _, i + 1, a, .cons _ t, h => by
    obtain ⟨b, h1, h2⟩ := Paired.at (i := i) (a := a) t (by simpa using h)
    exact ⟨b, by simpa using h1, h2⟩
theorem Paired.set {α β : Type} {R : α → β → Prop} {a : α} {b : β} (r : R a b) : ∀ {l : List α} {m : List β} (i : Nat), Paired R l m → Paired R (l.set i a) (m.set i b)
  | _, _, _, .nil => .nil
  | _, _, 0, .cons _ t => .cons r t
  | _, _, i + 1, .cons q t => .cons q (Paired.set r i t)
theorem Paired.len {α β : Type} {R : α → β → Prop} : ∀ {l : List α} {m : List β}, Paired R l m → l.length = m.length
  | _, _, .nil => rfl
  | _, _, .cons _ t => congrArg Nat.succ (Paired.len t)
/-- every object stays: the state stays -/
theorem Rep.ext (R : Rep Z H0 w E τ σ H) (s : Same H H') : Rep Z H0 w E τ σ H' ∧ Same (Gd Z w E τ H) (Gd Z w E τ H') := by
  have sg : Same (Gd Z w E τ H) (Gd Z w E τ H') := hide_mono (fun _ h => h) s
  have eq : ∀ p, (∃ o, H p = some o) → H' p = H p := fun p ⟨o, h⟩ => by rw [h]; exact s p o h
  refine ⟨⟨R.nd, R.dj, Z.okm (fun a ha => ?_) (gp_mono (hide_mono (fun _ h => h) s)) R.ok, R.fr.trans sg, fun q hq => (R.pe q hq).mono (Z.refl w) sg (eq _ (R.pe q hq).there), L2.Paired.mapP R.sl fun a o h => h.mono (Z.refl w) sg eq⟩, sg⟩
  have h1 := Z.okt R.ok a ha
  cases e : H a with
  | none => exact absurd e h1
  | some o => exact s a o e
theorem mem_HL {a : Addr} : a ∈ HL Z w E τ ↔ a ∈ Z.A w ∨ a ∈ OL E τ := List.mem_append
theorem OL_cons {κ : Type} (q : Addr × OC κ) (E : Pd κ) (τ : List (SL κ)) : OL (q :: E) τ = q.1 :: OL E τ := rfl
theorem mem_HL_cons {q : Addr × OC Z.κ} {a : Addr} : a ∈ HL Z w (q :: E) τ ↔ a = q.1 ∨ a ∈ HL Z w E τ := by
  rw [mem_HL, mem_HL, OL_cons, List.mem_cons]
  constructor
  · rintro (h | h | h)
    · exact .inr (.inl h)
    · exact .inl h
    · exact .inr (.inr h)
  · rintro (h | h | h)
    · exact .inr (.inl h)
    · exact .inl h
    · exact .inr (.inr h)
/-- what is hidden stands -/
theorem Rep.there (R : Rep Z H0 w E τ σ H) {a : Addr} (h : a ∈ HL Z w E τ) : ∃ o, H a = some o := by
  rcases mem_HL.mp h with h | h
  · have h1 := Z.okt R.ok a h
    cases e : H a with
    | none => exact absurd e h1
    | some o => exact ⟨o, rfl⟩
  · rcases List.mem_append.mp h with h | h
    · obtain ⟨q, hq, rfl⟩ := List.mem_map.mp h
      exact (R.pe q hq).there
    · have go : ∀ {τ : List (SL Z.κ)} {σ : L2.St} {G : Hp}, Paired (SlAt Z w G H) τ σ → a ∈ owns τ → ∃ o, H a = some o := by
        intro τ σ G r
        induction r with
        | nil => intro h; cases h
        | @cons b o τ σ r1 r2 ih =>
          intro h
          cases b with
          | u => exact ih h
          | d x => exact ih h
          | own q c =>
            rcases List.mem_cons.mp h with h | h
            · subst h
              exact r1.2.there
            · exact ih h
      exact go R.sl h
theorem Rep.fresh (R : Rep Z H0 w E τ σ H) (h : H p = none) : p ∉ HL Z w E τ := fun m => by
  obtain ⟨o, e⟩ := R.there m
  rw [h] at e
  cases e
/-- a new object is laid and pends -/
theorem Rep.push (R : Rep Z H0 w E τ σ H) (s : Same H H') (hp : H p = none) (ho : OcAt Z w (Gd Z w E τ H) H' p c) : Rep Z H0 w ((p, c) :: E) τ σ H' ∧ Same (Gd Z w E τ H) (Gd Z w ((p, c) :: E) τ H') := by
  have nf := R.fresh hp
  have sg : Same (Gd Z w E τ H) (Gd Z w ((p, c) :: E) τ H') := fun a o h => by
    obtain ⟨h1, h2⟩ := hide_some h
    have : a ∉ HL Z w ((p, c) :: E) τ := fun m => by
      rcases mem_HL_cons.mp m with m | m
      · rw [show a = p from m, hp] at h2; cases h2
      · exact h1 m
    rw [Gd, hide_out this]
    exact s a o h2
  have eq : ∀ p, (∃ o, H p = some o) → H' p = H p := fun p ⟨o, h⟩ => by rw [h]; exact s p o h
  refine ⟨⟨List.nodup_cons.mpr ⟨fun m => nf (mem_HL.mpr (.inr m)), R.nd⟩, fun a ha => ?_, (R.ext s).1.ok, R.fr.trans sg, fun q hq => ?_, L2.Paired.mapP R.sl fun a o h => h.mono (Z.refl w) sg eq⟩, sg⟩
  · rcases List.mem_cons.mp ha with e | ha
    · rw [e]
      exact fun m => nf (mem_HL.mpr (.inl m))
    · exact R.dj a ha
  rcases List.mem_cons.mp hq with e | hq
  · rw [e]
    exact ho.mono (Z.refl w) sg rfl
  · exact (R.pe q hq).mono (Z.refl w) sg (eq _ (R.pe q hq).there)
/-- a pending object becomes data -/
theorem Rep.freeze (R : Rep Z H0 w ((p, c) :: E) τ σ H) : Rep Z H0 w E τ σ H ∧ Rp Z w (Gd Z w E τ H) (.ref p) c.dat ∧ Same (Gd Z w ((p, c) :: E) τ H) (Gd Z w E τ H) := by
  have nd := List.nodup_cons.mp (show (p :: OL E τ).Nodup from R.nd)
  have np : p ∉ HL Z w E τ := fun m => by
    rcases mem_HL.mp m with m | m
    · exact R.dj p List.mem_cons_self m
    · exact nd.1 m
  have sg : Same (Gd Z w ((p, c) :: E) τ H) (Gd Z w E τ H) := hide_mono (fun a h => mem_HL_cons.mpr (.inr h)) (Same.refl H)
  refine ⟨⟨nd.2, fun a ha => R.dj a (List.mem_cons_of_mem _ ha), R.ok, R.fr.trans sg, fun q hq => (R.pe q (List.mem_cons_of_mem _ hq)).mono (Z.refl w) sg rfl, L2.Paired.mapP R.sl fun a o h => h.mono (Z.refl w) sg fun _ _ => rfl⟩, ?_, sg⟩
  exact (R.pe (p, c) List.mem_cons_self).rp (hide_out np) (Z.refl w) sg
theorem Res.fz {r : ER Z.κ} (h : Res Z H0 w E τ σ H x r) : Rep Z H0 w E τ σ H ∧ RV Z w (Gd Z w E τ H) τ x (fz r) ∧ Same (GR Z r w E τ H) (Gd Z w E τ H) := by
  cases r with
  | v d => exact ⟨h.1, h.2, Same.refl _⟩
  | n p c =>
    obtain ⟨rfl, R⟩ := h
    obtain ⟨h1, h2, h3⟩ := R.freeze
    exact ⟨h1, h2, h3⟩
  | b i => exact ⟨h.1, h.2, Same.refl _⟩
theorem RV.mono {r : ER Z.κ} (l : Z.le w w') (s : Same G G') (sh : Shp τ τ') (h : RV Z w G τ x r) : RV Z w' G' τ' x r := by
  cases r with
  | v d => exact Rp.mono l s h
  | n p c => exact h
  | b i =>
    obtain ⟨p, c, e, rfl⟩ := h
    obtain ⟨c', e'⟩ := sh i p c e
    exact ⟨p, c', e', rfl⟩
theorem RV.nxt {r : ER Z.κ} (n : Nxt Z w w' G G' τ τ') (h : RV Z w G τ x r) : RV Z w' G' τ' x r := h.mono n.le n.sm n.sh
theorem RV.view {r : ER Z.κ} (R : Rep Z H0 w E τ σ H) (h : RV Z w (Gd Z w E τ H) τ x r) : Vw Z w (Gd Z w E τ H) H x (vw τ r) := by
  cases r with
  | v d => exact .inl h
  | n p c => exact h.elim
  | b i =>
    obtain ⟨p, c, e, rfl⟩ := h
    obtain ⟨o, _, _, ho⟩ := Paired.at R.sl e
    have ev : vw τ (ER.b i) = c.dat := by simp only [vw, e]
    rw [ev]
    exact .inr ⟨p, c, rfl, rfl, ho⟩
/-- behind an operation of values -/
theorem Rep.out {r : ER Z.κ} (R : Rep Z H0 w E τ σ H) (h : Out Z w (Gd Z w E τ H) H x H' r) : Res Z H0 w E τ σ H' x r ∧ Same (Gd Z w E τ H) (GR Z r w E τ H') := by
  cases h with
  | same h => exact ⟨⟨R, h⟩, Same.refl _⟩
  | tup hp h =>
    obtain ⟨R', s⟩ := R.ext (same_new (o := .tup _) hp)
    refine ⟨⟨R', .tup (.inl (.inl ?_)) (h.mono (Z.refl w) s)⟩, s⟩
    rw [Gd, hide_out (R.fresh hp), upd_same]
  | ktup hp h =>
    obtain ⟨R', s⟩ := R.ext (same_new (o := .tup _) hp)
    refine ⟨⟨R', .ktup ?_ (h.mono (Z.refl w) s)⟩, s⟩
    rw [Gd, hide_out (R.fresh hp), upd_same]
  | wtup hp ho h =>
    obtain ⟨R', s⟩ := R.ext (same_new (o := .frz _ _) hp)
    refine ⟨⟨R', .wtup ho ?_ (h.mono (Z.refl w) s)⟩, s⟩
    rw [Gd, hide_out (R.fresh hp), upd_same]
  | lst hp h =>
    obtain ⟨R', s⟩ := R.push (p := _) (c := .lst _) (same_new hp) hp ⟨_, upd_same, h⟩
    exact ⟨⟨rfl, R'⟩, s⟩
  | dik hp h =>
    obtain ⟨R', s⟩ := R.push (p := _) (c := .dik _ _) (same_new hp) hp ⟨_, upd_same, rfl, h⟩
    exact ⟨⟨rfl, R'⟩, s⟩
  | dit hp h =>
    obtain ⟨R', s⟩ := R.push (p := _) (c := .dit _ _) (same_new hp) hp ⟨_, upd_same, rfl, h⟩
    exact ⟨⟨rfl, R'⟩, s⟩
end
end DL
set_option Elab.async false
set_option linter.all false
set_option maxRecDepth 100000
/-! DL1: the rules of expressions, tests, arguments, calls. -/
namespace DL
open PySem L2
variable {K : PySem.W.Frag} {Z : Wrl K}
section
variable {τ : List (SL Z.κ)} {P P' : PE' Z.κ} {t ta tb tc : TE} {tt tu : TT} {tr : TA} {PT' : Bool → List (SL Z.κ) → Prop} {PA' : List (ER Z.κ) → List (SL Z.κ) → Prop}

theorem DE.mono (h : DE Z t τ P) (k : ∀ r τ', P r τ' → P' r τ') : DE Z t τ P' := fun H0 w E σ H Q R c => h H0 w E σ H Q R fun r τ' x w' H' p => c r τ' x w' H' (k r τ' p)
/-! ### names, constants -/
theorem de_d {i : Nat} {x : D Z.κ} (h : τ[i]? = some (.d x)) (k : P (.v x) τ) : DE Z (tVar i) τ P := fun H0 w E σ H Q R c => by
  obtain ⟨o, e, v, rfl, r⟩ := Paired.at R.sl h
  exact ⟨v, e, c _ _ _ _ _ k (.refl Z) ⟨R, r⟩⟩
theorem de_o {i : Nat} {p : Addr} {oc : OC Z.κ} (h : τ[i]? = some (.own p oc)) (k : P (.b i) τ) : DE Z (tVar i) τ P := fun H0 w E σ H Q R c => by
  obtain ⟨o, e, rfl, r⟩ := Paired.at R.sl h
  exact ⟨_, e, c _ _ _ _ _ k (.refl Z) ⟨R, _, _, h, rfl⟩⟩
theorem de_int {i : Int} (k : P (.v (.int i)) τ) : DE Z (tC (.int i)) τ P := fun H0 w E σ H Q R c => c _ _ _ _ _ k (.refl Z) ⟨R, .int i⟩
theorem de_bl {b : Bool} (k : P (.v (.bl b)) τ) : DE Z (tC (.bl b)) τ P := fun H0 w E σ H Q R c => c _ _ _ _ _ k (.refl Z) ⟨R, .bl b⟩
theorem de_non (k : P (.v .non) τ) : DE Z (tC .non) τ P := fun H0 w E σ H Q R c => c _ _ _ _ _ k (.refl Z) ⟨R, .non⟩
theorem de_str {x : Str} (k : P (.v (.str x)) τ) : DE Z (tC (.str x)) τ P := fun H0 w E σ H Q R c => c _ _ _ _ _ k (.refl Z) ⟨R, .str x⟩
theorem de_ty {n : String} (k : P (.v (.ty n)) τ) : DE Z (tC (.ty n)) τ P := fun H0 w E σ H Q R c => c _ _ _ _ _ k (.refl Z) ⟨R, .ty n⟩
/-! ### operations of values -/
def BS2 (Z : Wrl K) (r : R2) (sem : D Z.κ → D Z.κ → (ER Z.κ → Prop) → Prop) : Prop := ∀ (w : Z.W) (G H : Hp) (x y : V) (dx dy : D Z.κ) (Q : VK) (P : ER Z.κ → Prop), Same G H → Vw Z w G H x dx → Vw Z w G H y dy → sem dx dy P →
  (∀ v H' e, P e → Out Z w G H v H' e → Q v H') → r x y H Q
def BS1 (Z : Wrl K) (r : V → Hp → VK → Prop) (sem : D Z.κ → (ER Z.κ → Prop) → Prop) : Prop := ∀ (w : Z.W) (G H : Hp) (x : V) (dx : D Z.κ) (Q : VK) (P : ER Z.κ → Prop), Same G H → Vw Z w G H x dx → sem dx P →
  (∀ v H' e, P e → Out Z w G H v H' e → Q v H') → r x H Q
def BSL (Z : Wrl K) (r : List V → Hp → VK → Prop) (sem : List (D Z.κ) → (ER Z.κ → Prop) → Prop) : Prop := ∀ (w : Z.W) (G H : Hp) (xs : List V) (ds : List (D Z.κ)) (Q : VK) (P : ER Z.κ → Prop), Same G H → Paired (Vw Z w G H) xs ds → sem ds P →
  (∀ v H' e, P e → Out Z w G H v H' e → Q v H') → r xs H Q
theorem de_op {r : R2} {sem : D Z.κ → D Z.κ → (ER Z.κ → Prop) → Prop} (hr : BS2 Z r sem) (h : DE Z ta τ fun r1 τ1 => DE Z tb τ1 fun r2 τ2 => sem (vw τ2 (fz r1)) (vw τ2 (fz r2)) fun e => P e τ2) : DE Z (tOp r ta tb) τ P := fun H0 w E σ H Q R c => by
  refine h H0 w E σ H _ R fun r1 τ1 x w1 H1 h1 n1 q1 => ?_
  obtain ⟨R1, v1, s1⟩ := q1.fz
  refine h1 H0 w1 E σ H1 _ R1 fun r2 τ2 y w2 H2 h2 n2 q2 => ?_
  obtain ⟨R2, v2, s2⟩ := q2.fz
  have n12 : Nxt Z w1 w2 (Gd Z w1 E τ1 H1) (Gd Z w2 E τ2 H2) τ1 τ2 := ⟨n2.le, n2.sm.trans s2, n2.sh⟩
  have n02 : Nxt Z w w2 (Gd Z w E τ H) (Gd Z w2 E τ2 H2) τ τ2 := (Nxt.trans Z ⟨n1.le, n1.sm.trans s1, n1.sh⟩ n12)
  refine hr w2 (Gd Z w2 E τ2 H2) H2 x y _ _ Q _ hide_le ((v1.nxt n12).view R2) (v2.view R2) h2 fun v H' e he ho => ?_
  obtain ⟨q, s⟩ := R2.out ho
  exact c e τ2 v w2 H' he ⟨n02.le, n02.sm.trans s, n02.sh⟩ q
theorem de_un {r : V → Hp → VK → Prop} {sem : D Z.κ → (ER Z.κ → Prop) → Prop} (hr : BS1 Z r sem) (h : DE Z ta τ fun r1 τ1 => sem (vw τ1 (fz r1)) fun e => P e τ1) : DE Z (tUn r ta) τ P := fun H0 w E σ H Q R c => by
  refine h H0 w E σ H _ R fun r1 τ1 x w1 H1 h1 n1 q1 => ?_
  obtain ⟨R1, v1, s1⟩ := q1.fz
  refine hr w1 (Gd Z w1 E τ1 H1) H1 x _ Q _ hide_le (v1.view R1) h1 fun v H' e he ho => ?_
  obtain ⟨q, s⟩ := R1.out ho
  exact c e τ1 v w1 H' he ⟨n1.le, (n1.sm.trans s1).trans s, n1.sh⟩ q
/-! ### arguments -/
theorem da_nil (k : PA' [] τ) : DA Z tNil τ PA' := fun H0 w E σ H Q R c => c _ _ _ _ _ k (.refl Z) R .nil
theorem RVs.nxt {w w' : Z.W} {G G' : Hp} {τ τ' : List (SL Z.κ)} (n : Nxt Z w w' G G' τ τ') {xs : List V} {rs : List (ER Z.κ)} (h : Paired (RV Z w G τ) xs rs) : Paired (RV Z w' G' τ') xs rs := L2.Paired.mapP h fun _ _ r => r.nxt n
theorem da_cons (h : DE Z ta τ fun r τ1 => DA Z tr τ1 fun rs τ2 => PA' (fz r :: rs) τ2) : DA Z (tCons ta tr) τ PA' := fun H0 w E σ H Q R c => by
  refine h H0 w E σ H _ R fun r1 τ1 x w1 H1 h1 n1 q1 => ?_
  obtain ⟨R1, v1, s1⟩ := q1.fz
  refine h1 H0 w1 E σ H1 _ R1 fun rs τ2 xs w2 H2 h2 n2 R2 vs => ?_
  exact c (fz r1 :: rs) τ2 (x :: xs) w2 H2 h2 (Nxt.trans Z ⟨n1.le, n1.sm.trans s1, n1.sh⟩ n2) R2 (.cons (v1.nxt n2) vs)
theorem RVs.views {H0 : Hp} {w : Z.W} {E : Pd Z.κ} {τ : List (SL Z.κ)} {σ : L2.St} {H : Hp} (R : Rep Z H0 w E τ σ H) : ∀ {xs : List V} {rs : List (ER Z.κ)}, Paired (RV Z w (Gd Z w E τ H) τ) xs rs → Paired (Vw Z w (Gd Z w E τ H) H) xs (rs.map (vw τ))
  | _, _, .nil => .nil
  | _, _, .cons r t => .cons (r.view R) (RVs.views R t)
theorem RVs.data {w : Z.W} {G : Hp} {τ : List (SL Z.κ)} : ∀ {xs : List V} {ds : List (D Z.κ)}, Paired (RV Z w G τ) xs (ds.map .v) → RpA Z w G xs ds
  | [], [], .nil => .nil
  | _ :: _, _ :: _, .cons r t => .cons r (RVs.data t)
theorem de_cb {r : List V → Hp → VK → Prop} {sem : List (D Z.κ) → (ER Z.κ → Prop) → Prop} (hr : BSL Z r sem) (h : DA Z tr τ fun rs τ1 => sem (rs.map (vw τ1)) fun e => P e τ1) : DE Z (tCB r tr) τ P := fun H0 w E σ H Q R c => by
  refine h H0 w E σ H _ R fun rs τ1 xs w1 H1 h1 n1 R1 vs => ?_
  refine hr w1 (Gd Z w1 E τ1 H1) H1 xs _ Q _ hide_le (RVs.views R1 vs) h1 fun v H' e he ho => ?_
  obtain ⟨q, s⟩ := R1.out ho
  exact c e τ1 v w1 H' he ⟨n1.le, n1.sm.trans s, n1.sh⟩ q
theorem small_line {n : Nat} (h : n ≤ 100000) : n ≤ sizeLine := Nat.le_trans h (by decide)
theorem small_lt {n : Nat} (h : n < 100000) : n < sizeLine := Nat.lt_of_lt_of_le h (by decide)
theorem de_tup (h : DA Z tr τ fun rs τ1 => ∃ ds : List (D Z.κ), rs = ds.map .v ∧ ds.length ≤ 100000 ∧ P (.v (.tup ds)) τ1) : DE Z (tTup tr) τ P := fun H0 w E σ H Q R c => by
  refine h H0 w E σ H _ R fun rs τ1 xs w1 H1 h1 n1 R1 vs => ?_
  obtain ⟨ds, rfl, hl, k⟩ := h1
  have r := RVs.data vs
  refine ⟨small_line (by rw [r.length]; exact hl), fun p hp => ?_⟩
  obtain ⟨q, s⟩ := R1.out (.tup hp r)
  exact c _ τ1 _ w1 _ k ⟨n1.le, n1.sm.trans s, n1.sh⟩ q
theorem de_lst (h : DA Z tr τ fun rs τ1 => ∃ ds : List (D Z.κ), rs = ds.map .v ∧ ds.length ≤ 100000 ∧ ∀ p, P (.n p (.lst ds)) τ1) : DE Z (tLst tr) τ P := fun H0 w E σ H Q R c => by
  refine h H0 w E σ H _ R fun rs τ1 xs w1 H1 h1 n1 R1 vs => ?_
  obtain ⟨ds, rfl, hl, k⟩ := h1
  have r := RVs.data vs
  refine ⟨small_line (by rw [r.length]; exact hl), fun p hp => ?_⟩
  obtain ⟨q, s⟩ := R1.out (.lst hp r)
  exact c _ τ1 _ w1 _ (k p) ⟨n1.le, n1.sm.trans s, n1.sh⟩ q
theorem de_dnk (k : ∀ p, P (.n p (.dik [] [])) τ) : DE Z tDNewK τ P := fun H0 w E σ H Q R c p hp => by
  obtain ⟨q, s⟩ := R.out (.dik (kvs := []) (ds := []) hp .nil)
  exact c _ τ _ w _ (k p) ⟨Z.refl w, s, Shp.refl τ⟩ q
theorem de_dnt (k : ∀ p, P (.n p (.dit [] [])) τ) : DE Z tDNewT τ P := fun H0 w E σ H Q R c p hp => by
  obtain ⟨q, s⟩ := R.out (.dit (kvs := []) (ds := []) hp .nil)
  exact c _ τ _ w _ (k p) ⟨Z.refl w, s, Shp.refl τ⟩ q
/-! ### tests -/
theorem rp_bl {w : Z.W} {G : Hp} {x : V} {b : Bool} (h : Rp Z w G x (.bl b)) : x = .bl b := by cases h; rfl
theorem dt_test (h : DE Z t τ fun r τ1 => ∃ b, r = .v (.bl b) ∧ PT' b τ1) : DT Z (tTest t) τ PT' := fun H0 w E σ H Q R c => by
  refine h H0 w E σ H _ R fun r1 τ1 x w1 H1 h1 n1 q1 => ?_
  obtain ⟨b, rfl, k⟩ := h1
  exact ⟨b, rp_bl q1.2, c b τ1 w1 H1 k n1 q1.1⟩
theorem dt_val (h : DE Z t τ fun r τ1 => ∃ b, r = .v (.bl b) ∧ PT' b τ1) : DT Z (tB t) τ PT' := dt_test h
theorem dt_not (h : DT Z tt τ fun b τ1 => PT' (!b) τ1) : DT Z (tNot tt) τ PT' := fun H0 w E σ H Q R c =>
  h H0 w E σ H _ R fun b τ1 w1 H1 h1 n1 q1 => c (!b) τ1 w1 H1 h1 n1 q1
theorem dt_and (h : DT Z tt τ fun b τ1 => if b = true then DT Z tu τ1 PT' else PT' false τ1) : DT Z (tAnd tt tu) τ PT' := fun H0 w E σ H Q R c => by
  refine h H0 w E σ H _ R fun b τ1 w1 H1 h1 n1 q1 => ?_
  cases b with
  | true => exact iteT ((show DT Z tu τ1 PT' from by simpa using h1) H0 w1 E σ H1 Q q1 fun b τ2 w2 H2 h2 n2 q2 => c b τ2 w2 H2 h2 (n1.trans Z n2) q2)
  | false => exact iteF (c false τ1 w1 H1 (by simpa using h1) n1 q1)
theorem dt_or (h : DT Z tt τ fun b τ1 => if b = true then PT' true τ1 else DT Z tu τ1 PT') : DT Z (tOr tt tu) τ PT' := fun H0 w E σ H Q R c => by
  refine h H0 w E σ H _ R fun b τ1 w1 H1 h1 n1 q1 => ?_
  cases b with
  | true => exact iteT (c true τ1 w1 H1 (by simpa using h1) n1 q1)
  | false => exact iteF ((show DT Z tu τ1 PT' from by simpa using h1) H0 w1 E σ H1 Q q1 fun b τ2 w2 H2 h2 n2 q2 => c b τ2 w2 H2 h2 (n1.trans Z n2) q2)
theorem dt_yes (h : PT' true τ) : DT Z tYes τ PT' := fun H0 w E σ H Q R c => c true τ w H h (.refl Z) R
theorem de_ifx (h : DT Z tt τ fun b τ1 => if b = true then DE Z ta τ1 P else DE Z tb τ1 P) : DE Z (tIf tt ta tb) τ P := fun H0 w E σ H Q R c => by
  refine h H0 w E σ H _ R fun b τ1 w1 H1 h1 n1 q1 => ?_
  cases b with
  | true => exact iteT ((show DE Z ta τ1 P from by simpa using h1) H0 w1 E σ H1 Q q1 fun r τ2 x w2 H2 h2 n2 q2 => c r τ2 x w2 H2 h2 ⟨Z.trans n1.le n2.le, n1.sm.trans n2.sm, n1.sh.trans n2.sh⟩ q2)
  | false => exact iteF ((show DE Z tb τ1 P from by simpa using h1) H0 w1 E σ H1 Q q1 fun r τ2 x w2 H2 h2 n2 q2 => c r τ2 x w2 H2 h2 ⟨Z.trans n1.le n2.le, n1.sm.trans n2.sm, n1.sh.trans n2.sh⟩ q2)
theorem de_andV (h : DE Z ta τ fun r τ1 => ∃ b, r = .v (.bl b) ∧ if b = true then DE Z tb τ1 P else P (.v (.bl false)) τ1) : DE Z (tAndV ta tb) τ P := fun H0 w E σ H Q R c => by
  refine h H0 w E σ H _ R fun r τ1 x w1 H1 h1 n1 q1 => ?_
  obtain ⟨b, rfl, h1⟩ := h1
  refine ⟨b, rp_bl q1.2, ?_⟩
  cases b with
  | true => exact iteT ((show DE Z tb τ1 P from by simpa using h1) H0 w1 E σ H1 Q q1.1 fun r τ2 x w2 H2 h2 n2 q2 => c r τ2 x w2 H2 h2 ⟨Z.trans n1.le n2.le, n1.sm.trans n2.sm, n1.sh.trans n2.sh⟩ q2)
  | false => exact iteF (c _ τ1 _ w1 H1 (by simpa using h1) n1 ⟨q1.1, .bl false⟩)
theorem de_orV (h : DE Z ta τ fun r τ1 => ∃ b, r = .v (.bl b) ∧ if b = true then P (.v (.bl true)) τ1 else DE Z tb τ1 P) : DE Z (tOrV ta tb) τ P := fun H0 w E σ H Q R c => by
  refine h H0 w E σ H _ R fun r τ1 x w1 H1 h1 n1 q1 => ?_
  obtain ⟨b, rfl, h1⟩ := h1
  refine ⟨b, rp_bl q1.2, ?_⟩
  cases b with
  | true => exact iteT (c _ τ1 _ w1 H1 (by simpa using h1) n1 ⟨q1.1, .bl true⟩)
  | false => exact iteF ((show DE Z tb τ1 P from by simpa using h1) H0 w1 E σ H1 Q q1.1 fun r τ2 x w2 H2 h2 n2 q2 => c r τ2 x w2 H2 h2 ⟨Z.trans n1.le n2.le, n1.sm.trans n2.sm, n1.sh.trans n2.sh⟩ q2)
theorem de_notV (h : DE Z ta τ fun r τ1 => ∃ b, r = .v (.bl b) ∧ P (.v (.bl (!b))) τ1) : DE Z (tNotV ta) τ P := fun H0 w E σ H Q R c => by
  refine h H0 w E σ H _ R fun r τ1 x w1 H1 h1 n1 q1 => ?_
  obtain ⟨b, rfl, h1⟩ := h1
  exact ⟨b, rp_bl q1.2, c _ τ1 _ w1 H1 h1 n1 ⟨q1.1, .bl _⟩⟩
/-- a chain of two comparisons of whole numbers -/
theorem de_chain {f g : Int → Int → Bool} (h : DE Z ta τ fun r τ1 => ∃ i, r = .v (.int i) ∧ DE Z tb τ1 fun r2 τ2 => ∃ j, r2 = .v (.int j) ∧ if f i j = true then DE Z tc τ2 (fun r3 τ3 => ∃ k, r3 = .v (.int k) ∧ P (.v (.bl (g j k))) τ3) else P (.v (.bl false)) τ2) :
    DE Z (tChain (rI0 fun i j => .bl (f i j)) (rI0 fun i j => .bl (g i j)) ta tb tc) τ P := fun H0 w E σ H Q R c => by
  refine h H0 w E σ H _ R fun r τ1 x w1 H1 h1 n1 q1 => ?_
  obtain ⟨i, rfl, h1⟩ := h1
  refine h1 H0 w1 E σ H1 _ q1.1 fun r2 τ2 y w2 H2 h2 n2 q2 => ?_
  obtain ⟨j, rfl, h2⟩ := h2
  have ex : x = .int i := by cases q1.2; rfl
  have ey : y = .int j := by cases q2.2; rfl
  have n12 : Nxt Z w w2 (Gd Z w E τ H) (Gd Z w2 E τ2 H2) τ τ2 := Nxt.trans Z n1 n2
  refine ⟨i, j, ex, ey, f i j, rfl, ?_⟩
  cases hf : f i j with
  | false =>
    rw [hf] at h2
    exact iteF (c (.v (.bl false)) τ2 _ w2 H2 (by simpa using h2) n12 ⟨q2.1, .bl false⟩)
  | true =>
    rw [hf] at h2
    refine iteT ((show DE Z tc τ2 (fun r3 τ3 => ∃ k, r3 = .v (.int k) ∧ P (.v (.bl (g j k))) τ3) from by simpa using h2) H0 w2 E σ H2 _ q2.1 fun r3 τ3 z w3 H3 h3 n3 q3 => ?_)
    obtain ⟨k, rfl, h3⟩ := h3
    have ez : z = .int k := by cases q3.2; rfl
    exact ⟨j, k, ey, ez, c _ τ3 _ w3 H3 h3 (Nxt.trans Z n12 n3) ⟨q3.1, .bl _⟩⟩
end

/-! ### defs -/
abbrev FS (κ : Type) := List (D κ) → (ER κ → Prop) → Prop
/-- what a call leaves, at the caller's -/
def Outc (Z : Wrl K) (w : Z.W) (H H' : Hp) (x : V) : ER Z.κ → Prop
  | .v d => d.pur = true ∧ Rp Z w (hide (Z.A w) H') x d
  | .n p c => c.pur = true ∧ x = .ref p ∧ H p = none ∧ p ∉ Z.A w ∧ OcAt Z w (hide (Z.A w) H') H' p c
  | .b _ => False
def spD (Z : Wrl K) (S : FS Z.κ) : Sp := fun vs H Q _ => ∃ (w : Z.W) (ds : List (D Z.κ)) (P : ER Z.κ → Prop), Z.ok w H ∧ RpA Z w (hide (Z.A w) H) vs ds ∧ S ds P ∧
  ∀ r x H' w', P r → Z.le w w' → Z.ok w' H' → Same (hide (Z.A w) H) (hide (Z.A w') H') → Outc Z w' H H' x r → Q x H'
section
variable {H0 : Hp} {w w' : Z.W} {E : Pd Z.κ} {τ τ' : List (SL Z.κ)} {σ : L2.St} {H H' : Hp} {p : Addr} {c : OC Z.κ} {x : V}
theorem Rep.ocs (R : Rep Z H0 w E τ σ H) {a : Addr} (h : a ∈ OL E τ) : ∃ o, H a = some o ∧ imm o = false := by
  rcases List.mem_append.mp h with h | h
  · obtain ⟨q, hq, rfl⟩ := List.mem_map.mp h
    exact (R.pe q hq).mut
  · have go : ∀ {τ : List (SL Z.κ)} {σ : L2.St} {G : Hp}, Paired (SlAt Z w G H) τ σ → a ∈ owns τ → ∃ o, H a = some o ∧ imm o = false := by
      intro τ σ G r
      induction r with
      | nil => intro h; cases h
      | @cons b o τ σ r1 r2 ih =>
        intro h
        cases b with
        | u => exact ih h
        | d x => exact ih h
        | own q c =>
          rcases List.mem_cons.mp h with h | h
          · subst h
            exact r1.2.mut
          · exact ih h
    exact go R.sl h
theorem OcAt.pmono {G G' : Hp} (l : Z.le w w') (s : Same (gp G) (gp G')) (e : H' p = H p) : ∀ {c : OC Z.κ}, c.pur = true → OcAt Z w G H p c → OcAt Z w' G' H' p c
  | .lst xs, h, ⟨vs, e1, r⟩ => ⟨vs, by rw [e]; exact e1, r.pmono l s h⟩
  | .dik ks xs, h, ⟨vs, e1, e2, r⟩ => ⟨vs, by rw [e]; exact e1, e2, r.pmono l s h⟩
  | .dit ks xs, h, ⟨vs, e1, e2, r⟩ => ⟨vs, by rw [e]; exact e1, e2, r.pmono l s h⟩
/-- behind a call -/
theorem Rep.called (R : Rep Z H0 w E τ σ H) (l : Z.le w w') (k : Z.ok w' H') (s : Same (hide (Z.A w) H) (hide (Z.A w') H')) : Rep Z H0 w' E τ σ H' ∧ Same (Gd Z w E τ H) (Gd Z w' E τ H') := by
  have own : ∀ a, a ∈ OL E τ → a ∉ Z.A w' ∧ H' a = H a := fun a ha => by
    obtain ⟨o, e, _⟩ := R.ocs ha
    obtain ⟨h1, h2⟩ := hide_some (s a o (by rw [hide_out (R.dj a ha)]; exact e))
    exact ⟨h1, by rw [h2, e]⟩
  have sg : Same (Gd Z w E τ H) (Gd Z w' E τ H') := fun a o h => by
    obtain ⟨h1, h2⟩ := hide_some h
    have n1 : a ∉ Z.A w := fun m => h1 (mem_HL.mpr (.inl m))
    have n2 : a ∉ OL E τ := fun m => h1 (mem_HL.mpr (.inr m))
    obtain ⟨h3, h4⟩ := hide_some (s a o (by rw [hide_out n1]; exact h2))
    rw [Gd, hide_out (fun m => (mem_HL.mp m).elim h3 n2)]
    exact h4
  refine ⟨⟨R.nd, fun a ha => (own a ha).1, k, R.fr.trans sg, fun q hq => (R.pe q hq).mono l sg (own q.1 ?_).2, ?_⟩, sg⟩
  · exact List.mem_append_left _ (List.mem_map.mpr ⟨q, hq, rfl⟩)
  · have go : ∀ {τ2 : List (SL Z.κ)} {σ : L2.St}, (∀ a, a ∈ owns τ2 → H' a = H a) → Paired (SlAt Z w (Gd Z w E τ H) H) τ2 σ → Paired (SlAt Z w' (Gd Z w' E τ H') H') τ2 σ := by
      intro τ2 σ ho r
      induction r with
      | nil => exact .nil
      | @cons b o τ σ r1 r2 ih =>
        cases b with
        | u => exact .cons trivial (ih ho)
        | d x =>
          obtain ⟨v, e1, r⟩ := r1
          exact .cons ⟨v, e1, r.mono l sg⟩ (ih ho)
        | own q c => exact .cons ⟨r1.1, r1.2.mono l sg (ho q List.mem_cons_self)⟩ (ih fun a ha => ho a (List.mem_cons_of_mem _ ha))
    exact go (fun a ha => (own a (List.mem_append_right _ ha)).2) R.sl
theorem Rep.called_out {r : ER Z.κ} (R : Rep Z H0 w E τ σ H) (l : Z.le w w') (k : Z.ok w' H') (s : Same (hide (Z.A w) H) (hide (Z.A w') H')) (o : Outc Z w' H H' x r) :
    Res Z H0 w' E τ σ H' x r ∧ Same (Gd Z w E τ H) (GR Z r w' E τ H') := by
  obtain ⟨R', sg⟩ := R.called l k s
  have pm : Same (gp (hide (Z.A w') H')) (gp (Gd Z w' E τ H')) := fun a u h => by
    obtain ⟨h1, h2⟩ := gp_some h
    obtain ⟨h3, h4⟩ := hide_some h1
    refine gp_of ?_ h2
    rw [Gd, hide_out fun m => ?_]
    · exact h4
    · rcases mem_HL.mp m with m | m
      · exact h3 m
      · obtain ⟨u', e, i⟩ := R'.ocs m
        rw [h4] at e
        cases e
        rw [h2] at i
        cases i
  cases r with
  | v d => exact ⟨⟨R', Rp.pmono (Z.refl w') pm o.1 o.2⟩, sg⟩
  | b i => exact o.elim
  | n p c =>
    obtain ⟨pu, rfl, hp, ha, oc⟩ := o
    have np : p ∉ OL E τ := fun m => by
      obtain ⟨u, e, _⟩ := R.ocs m
      rw [hp] at e
      cases e
    have sg2 : Same (Gd Z w E τ H) (Gd Z w' ((p, c) :: E) τ H') := fun a u h => by
      have h1 := sg a u h
      obtain ⟨h2, h3⟩ := hide_some h1
      rw [Gd, hide_out fun m => ?_]
      · exact h3
      · rcases mem_HL_cons.mp m with m | m
        · obtain ⟨_, h4⟩ := hide_some h
          rw [show a = p from m, hp] at h4
          cases h4
        · exact h2 m
    have ag : ∀ {v : V} {d : D Z.κ}, Rp Z w (Gd Z w E τ H) v d → Rp Z w' (Gd Z w' ((p, c) :: E) τ H') v d := fun r => r.mono l sg2
    refine ⟨⟨rfl, ⟨List.nodup_cons.mpr ⟨np, R.nd⟩, fun a hm => ?_, k, R.fr.trans sg2, fun q hq => ?_, ?_⟩⟩, sg2⟩
    · rcases List.mem_cons.mp hm with e | hm
      · rw [e]; exact ha
      · exact R'.dj a hm
    · rcases List.mem_cons.mp hq with e | hq
      · rw [e]
        refine OcAt.pmono (H := H') (Z.refl w') (fun a u h => ?_) rfl pu oc
        have h1 := pm a u h
        obtain ⟨h2, h3⟩ := gp_some h1
        obtain ⟨h4, h5⟩ := hide_some h2
        refine gp_of ?_ h3
        rw [Gd, hide_out fun m => ?_]
        · exact h5
        · rcases mem_HL_cons.mp m with m | m
          · obtain ⟨u2, e2, i2⟩ := oc.mut
            rw [show a = p from m, e2] at h5
            cases h5
            rw [h3] at i2
            cases i2
          · exact h4 m
      · exact (R.pe q hq).mono l sg2 (by
          obtain ⟨u, e, _⟩ := R.ocs (List.mem_append_left _ (List.mem_map.mpr ⟨q, hq, rfl⟩))
          rw [e]
          exact (hide_some (s q.1 u (by rw [hide_out (R.dj q.1 (List.mem_append_left _ (List.mem_map.mpr ⟨q, hq, rfl⟩)))]; exact e))).2)
    · have own : ∀ a, a ∈ OL E τ → H' a = H a := fun a ha => by
        obtain ⟨u, e, _⟩ := R.ocs ha
        rw [e]
        exact (hide_some (s a u (by rw [hide_out (R.dj a ha)]; exact e))).2
      have go : ∀ {τ2 : List (SL Z.κ)} {σ : L2.St}, (∀ a, a ∈ owns τ2 → H' a = H a) → Paired (SlAt Z w (Gd Z w E τ H) H) τ2 σ → Paired (SlAt Z w' (Gd Z w' ((p, c) :: E) τ H') H') τ2 σ := by
        intro τ2 σ ho r
        induction r with
        | nil => exact .nil
        | @cons b o τ σ r1 r2 ih =>
          cases b with
          | u => exact .cons trivial (ih ho)
          | d x =>
            obtain ⟨v, e1, r⟩ := r1
            exact .cons ⟨v, e1, r.mono l sg2⟩ (ih ho)
          | own q c => exact .cons ⟨r1.1, r1.2.mono l sg2 (ho q List.mem_cons_self)⟩ (ih fun a ha => ho a (List.mem_cons_of_mem _ ha))
      exact go (fun a ha => own a (List.mem_append_right _ ha)) R.sl
theorem RV.arg {r : ER Z.κ} (R : Rep Z H0 w E τ σ H) (h : RV Z w (Gd Z w E τ H) τ x r) : Rp Z w (hide (Z.A w) H) x (vw τ r) := by
  have sh : Same (Gd Z w E τ H) (hide (Z.A w) H) := hide_mono (fun a h => mem_HL.mpr (.inl h)) (Same.refl H)
  cases r with
  | v d => exact Rp.mono (Z.refl w) sh h
  | n p c => exact h.elim
  | b i =>
    obtain ⟨p, c, e, rfl⟩ := h
    obtain ⟨o, _, _, ho⟩ := Paired.at R.sl e
    have ev : vw τ (ER.b i) = c.dat := by simp only [vw, e]
    rw [ev]
    exact ho.rp (hide_out (R.dj p (List.mem_append_right _ (owns_mem (i := i) e)))) (Z.refl w) sh
theorem RVs.args (R : Rep Z H0 w E τ σ H) : ∀ {xs : List V} {rs : List (ER Z.κ)}, Paired (RV Z w (Gd Z w E τ H) τ) xs rs → RpA Z w (hide (Z.A w) H) xs (rs.map (vw τ))
  | _, _, .nil => .nil
  | _, _, .cons r t => .cons (r.arg R) (RVs.args R t)
end
/-- a call of a def by its promise -/
theorem de_call {S : FS Z.κ} {E0' : XK} {tr : TA} {τ : List (SL Z.κ)} {P : PE' Z.κ} (h : DA Z tr τ fun rs τ1 => S (rs.map (vw τ1)) fun r => P r τ1) : DE Z (tCall (spD Z S) [] E0' tr) τ P := fun H0 w E σ H Q R c => by
  refine h H0 w E σ H _ R fun rs τ1 xs w1 H1 h1 n1 R1 vs => ?_
  show spD Z S (xs ++ []) H1 Q E0'
  rw [List.append_nil]
  refine ⟨w1, _, _, R1.ok, RVs.args R1 vs, h1, fun r x H' w' hp l k s o => ?_⟩
  obtain ⟨q, sg⟩ := R1.called_out l k s o
  exact c r τ1 x w' H' hp ⟨Z.trans n1.le l, n1.sm.trans sg, n1.sh⟩ q
end DL
set_option Elab.async false
set_option linter.all false
set_option maxRecDepth 100000
/-! DL2: stores, statements, loops, comprehensions, methods that change a slot's object. -/
namespace DL
open PySem L2
variable {K : PySem.W.Frag} {Z : Wrl K}
/-! ### slots and their objects -/
def ownL {κ : Type} : SL κ → List Addr
  | .own p _ => [p]
  | _ => []
theorem ownL_u {κ : Type} : ownL (.u : SL κ) = [] := rfl
theorem ownL_d {κ : Type} {x : D κ} : ownL (.d x) = [] := rfl
theorem ownL_o {κ : Type} {p : Addr} {c : OC κ} : ownL (.own p c) = [p] := rfl
theorem owns_cons {κ : Type} (s : SL κ) (τ : List (SL κ)) : owns (s :: τ) = ownL s ++ owns τ := by cases s <;> rfl
theorem owns_set {κ : Type} (s : SL κ) : ∀ {τ : List (SL κ)} {i : Nat} {s0 : SL κ}, τ[i]? = some s0 → ∀ a, (owns (τ.set i s)).count a + (ownL s0).count a = (owns τ).count a + (ownL s).count a
  | [], _, _, h => by simp at h
  | b :: τ, 0, s0, h => by
    simp at h
    subst h
    intro a
    rw [List.set_cons_zero, owns_cons, owns_cons, List.count_append, List.count_append]
    omega
  | b :: τ, i + 1, s0, h => by
    intro a
    have ih := owns_set s (τ := τ) (i := i) (by simpa using h) a
    rw [List.set_cons_succ, owns_cons, owns_cons, List.count_append, List.count_append]
    omega
theorem owns_set_same {κ : Type} {s s0 : SL κ} (e : ownL s = ownL s0) : ∀ {τ : List (SL κ)} {i : Nat}, τ[i]? = some s0 → owns (τ.set i s) = owns τ
  | [], _, h => by simp at h
  | b :: τ, 0, h => by
    simp at h
    subst h
    rw [List.set_cons_zero, owns_cons, owns_cons, e]
  | b :: τ, i + 1, h => by
    rw [List.set_cons_succ, owns_cons, owns_cons, owns_set_same e (τ := τ) (i := i) (by simpa using h)]
section
variable {H0 : Hp} {w w' : Z.W} {E E' : Pd Z.κ} {τ τ' : List (SL Z.κ)} {σ σ' : L2.St} {H H' : Hp} {p : Addr} {c c' : OC Z.κ} {x : V} {d : D Z.κ} {rest : List Addr}
/-- fewer objects are one's own; what they hold is told anew -/
theorem Rep.sub (R : Rep Z H0 w E τ σ H) (pm : ∀ a, rest.count a + (OL E' τ').count a = (OL E τ).count a) (pe' : ∀ q, q ∈ E' → OcAt Z w (Gd Z w E τ H) H q.1 q.2) (sl' : Paired (SlAt Z w (Gd Z w E τ H) H) τ' σ') :
    Rep Z H0 w E' τ' σ' H ∧ Same (Gd Z w E τ H) (Gd Z w E' τ' H) := by
  have sub : ∀ a, a ∈ OL E' τ' → a ∈ OL E τ := fun a h => by
    have h1 := List.count_pos_iff.mpr h
    have h2 := pm a
    exact List.count_pos_iff.mp (by omega)
  have sg : Same (Gd Z w E τ H) (Gd Z w E' τ' H) := hide_mono (fun a h => by
    rcases mem_HL.mp h with h | h
    · exact mem_HL.mpr (.inl h)
    · exact mem_HL.mpr (.inr (sub a h))) (Same.refl H)
  refine ⟨⟨List.nodup_iff_count.mpr fun a => ?_, fun a h => R.dj a (sub a h), R.ok, R.fr.trans sg, fun q hq => (pe' q hq).mono (Z.refl w) sg rfl, L2.Paired.mapP sl' fun a o h => h.mono (Z.refl w) sg fun _ _ => rfl⟩, sg⟩
  have h1 := List.nodup_iff_count.mp R.nd a
  have h2 := pm a
  omega
theorem OL_count (E : Pd Z.κ) (τ : List (SL Z.κ)) (a : Addr) : (OL E τ).count a = (E.map (·.1)).count a + (owns τ).count a := List.count_append
theorem set_none {α : Type} {l : List α} {i : Nat} {x : α} (h : l[i]? = none) : l.set i x = l := List.set_eq_of_length_le (List.getElem?_eq_none_iff.mp h)
theorem Rep.sl_none (R : Rep Z H0 w E τ σ H) {i : Nat} (h : τ[i]? = none) : σ[i]? = none := by
  have := Paired.len R.sl
  rw [List.getElem?_eq_none_iff] at h ⊢
  omega
/-- a slot takes data -/
theorem Rep.store (R : Rep Z H0 w E τ σ H) (i : Nat) (h : Rp Z w (Gd Z w E τ H) x d) : Rep Z H0 w E (τ.set i (.d d)) (σ.set i (some x)) H ∧ Same (Gd Z w E τ H) (Gd Z w E (τ.set i (.d d)) H) := by
  cases e : τ[i]? with
  | none => rw [set_none e, set_none (R.sl_none e)]; exact ⟨R, Same.refl _⟩
  | some s0 =>
    refine R.sub (rest := ownL s0) (fun a => ?_) R.pe (Paired.set ⟨x, rfl, h⟩ i R.sl)
    have := owns_set (.d d) e a
    rw [OL_count, OL_count]
    simp only [ownL_u, ownL_d, List.count_nil] at this
    omega
/-- a slot is forgotten -/
theorem Rep.wipe1 (R : Rep Z H0 w E τ σ H) (i : Nat) (o : Option V) : Rep Z H0 w E (τ.set i .u) (σ.set i o) H ∧ Same (Gd Z w E τ H) (Gd Z w E (τ.set i .u) H) := by
  cases e : τ[i]? with
  | none => rw [set_none e, set_none (R.sl_none e)]; exact ⟨R, Same.refl _⟩
  | some s0 =>
    refine R.sub (rest := ownL s0) (fun a => ?_) R.pe (Paired.set trivial i R.sl)
    have := owns_set .u e a
    rw [OL_count, OL_count]
    simp only [ownL_u, ownL_d, List.count_nil] at this
    omega
/-- a slot takes a new object -/
theorem Rep.take {E1 E2 : Pd Z.κ} (R : Rep Z H0 w (E1 ++ (p, c) :: E2) τ σ H) (i : Nat) : Rep Z H0 w (E1 ++ E2) (τ.set i (.own p c)) (σ.set i (some (.ref p))) H ∧ Same (Gd Z w (E1 ++ (p, c) :: E2) τ H) (Gd Z w (E1 ++ E2) (τ.set i (.own p c)) H) := by
  have hc : ∀ a, ((E1 ++ (p, c) :: E2).map (·.1)).count a = ((E1 ++ E2).map (·.1)).count a + [p].count a := fun a => by
    simp only [List.map_append, List.map_cons, List.count_append, List.count_cons, List.count_nil]
    omega
  have pe' : ∀ q, q ∈ E1 ++ E2 → OcAt Z w (Gd Z w (E1 ++ (p, c) :: E2) τ H) H q.1 q.2 := fun q hq => R.pe q (by
    rcases List.mem_append.mp hq with h | h
    · exact List.mem_append_left _ h
    · exact List.mem_append_right _ (List.mem_cons_of_mem _ h))
  cases e : τ[i]? with
  | none =>
    rw [set_none e, set_none (R.sl_none e)]
    refine R.sub (rest := [p]) (fun a => ?_) pe' R.sl
    rw [OL_count, OL_count, hc]
    omega
  | some s0 =>
    refine R.sub (rest := ownL s0) (fun a => ?_) pe' (Paired.set ⟨rfl, R.pe (p, c) (List.mem_append_right _ List.mem_cons_self)⟩ i R.sl)
    have := owns_set (.own p c) e a
    rw [OL_count, OL_count, hc]
    rw [ownL_o] at this
    omega
/-- a slot gives its object to another one -/
theorem Rep.move (R : Rep Z H0 w E τ σ H) (i j : Nat) (e : τ[j]? = some (.own p c)) (hij : i ≠ j) :
    Rep Z H0 w E ((τ.set j .u).set i (.own p c)) (σ.set i (some (.ref p))) H ∧ Same (Gd Z w E τ H) (Gd Z w E ((τ.set j .u).set i (.own p c)) H) := by
  obtain ⟨o, eo, rfl, oc⟩ := Paired.at R.sl e
  have jl : σ.set j (some (.ref p)) = σ := List.ext_getElem? fun k => by
    by_cases h : k = j
    · subst h
      rw [List.getElem?_set_self (List.getElem?_eq_some_iff.mp eo).1, eo]
    · rw [List.getElem?_set_ne (Ne.symm h)]
  have sl : Paired (SlAt Z w (Gd Z w E τ H) H) ((τ.set j .u).set i (.own p c)) (σ.set i (some (.ref p))) := by
    have h1 : Paired (SlAt Z w (Gd Z w E τ H) H) (τ.set j .u) (σ.set j (some (.ref p))) := Paired.set trivial j R.sl
    rw [jl] at h1
    exact Paired.set ⟨rfl, oc⟩ i h1
  have c1 := owns_set .u e
  cases e2 : (τ.set j .u)[i]? with
  | none =>
    have e3 : τ.length ≤ i := by
      have := List.getElem?_eq_none_iff.mp e2
      rwa [List.length_set] at this
    refine R.sub (rest := [p]) (fun a => ?_) R.pe sl
    have := c1 a
    rw [set_none e2, OL_count, OL_count]
    rw [ownL_u, ownL_o, List.count_nil] at this
    omega
  | some s0 =>
    refine R.sub (rest := ownL s0) (fun a => ?_) R.pe sl
    have h1 := c1 a
    have h2 := owns_set (.own p c) e2 a
    rw [OL_count, OL_count]
    rw [ownL_u, ownL_o, List.count_nil] at h1
    rw [ownL_o] at h2
    omega
/-- a slot's object becomes data -/
theorem Rep.thaw (R : Rep Z H0 w E τ σ H) (i : Nat) (e : τ[i]? = some (.own p c)) : Rep Z H0 w E (τ.set i (.d c.dat)) σ H ∧ Rp Z w (Gd Z w E (τ.set i (.d c.dat)) H) (.ref p) c.dat ∧ Same (Gd Z w E τ H) (Gd Z w E (τ.set i (.d c.dat)) H) := by
  obtain ⟨o, eo, rfl, oc⟩ := Paired.at R.sl e
  have il : σ.set i (some (.ref p)) = σ := List.ext_getElem? fun k => by
    by_cases h : k = i
    · subst h
      rw [List.getElem?_set_self (List.getElem?_eq_some_iff.mp eo).1, eo]
    · rw [List.getElem?_set_ne (Ne.symm h)]
  obtain ⟨R1, s1⟩ := R.wipe1 i (some (.ref p))
  rw [il] at R1
  have cnt := owns_set .u e p
  have np : p ∉ OL E (τ.set i .u) := fun m => by
    have h1 := List.nodup_iff_count.mp R.nd p
    have h2 := List.count_pos_iff.mpr m
    rw [OL_count] at h1 h2
    rw [ownL_u, ownL_o, List.count_nil, List.count_cons_self, List.count_nil] at cnt
    omega
  have nz : p ∉ HL Z w E (τ.set i .u) := fun m => (mem_HL.mp m).elim (R.dj p (List.mem_append_right _ (owns_mem (i := i) e))) np
  have rp : Rp Z w (Gd Z w E (τ.set i .u) H) (.ref p) c.dat := oc.rp (hide_out nz) (Z.refl w) s1
  obtain ⟨R2, s2⟩ := R1.store (x := .ref p) i rp
  rw [il] at R2
  have e3 : (τ.set i .u).set i (.d c.dat) = τ.set i (.d c.dat) := List.set_set _
  rw [e3] at R2 s2
  exact ⟨R2, rp.mono (Z.refl w) s2, s1.trans s2⟩
theorem sl_keep {w : Z.W} {G H H' : Hp} {p : Addr} (k : ∀ a, a ≠ p → H' a = H a) : ∀ {τ : List (SL Z.κ)} {σ : L2.St}, Paired (SlAt Z w G H) τ σ → p ∉ owns τ → Paired (SlAt Z w G H') τ σ
  | _, _, .nil, _ => .nil
  | .u :: _, _, .cons _ t, n => .cons trivial (sl_keep k t n)
  | .d x :: _, _, .cons r t, n => .cons r (sl_keep k t n)
  | .own q c :: _, _, .cons r t, n => .cons ⟨r.1, r.2.mono (Z.refl w) (Same.refl G) (k q fun e => n (by rw [← e]; exact List.mem_cons_self))⟩ (sl_keep k t fun m => n (List.mem_cons_of_mem _ m))
theorem sl_mut {w : Z.W} {G H H' : Hp} {p : Addr} {c c' : OC Z.κ} : ∀ {τ : List (SL Z.κ)} {σ : L2.St} {i : Nat}, Paired (SlAt Z w G H) τ σ → τ[i]? = some (.own p c) → (owns τ).count p ≤ 1 → OcAt Z w G H' p c' → (∀ a, a ≠ p → H' a = H a) → Paired (SlAt Z w G H') (τ.set i (.own p c')) σ
  | _, _, _, .nil, e, _, _, _ => by simp at e
  | b :: τ, _, 0, .cons r t, e, n, oc, k => by
    simp at e
    subst e
    rw [owns_cons, ownL_o, List.count_append, List.count_cons_self] at n
    refine .cons ⟨r.1, oc⟩ (sl_keep k t fun m => ?_)
    have := List.count_pos_iff.mpr m
    omega
  | b :: τ, o :: _, i + 1, .cons r t, e, n, oc, k => by
    have e' : τ[i]? = some (.own p c) := by simpa using e
    have m := List.count_pos_iff.mpr (owns_mem (i := i) e')
    rw [owns_cons, List.count_append] at n
    have n1 : p ∉ ownL b := fun q => by
      have := List.count_pos_iff.mpr q
      omega
    rw [List.set_cons_succ]
    refine .cons ?_ (sl_mut t e' (by omega) oc k)
    cases b with
    | u => exact trivial
    | d x => exact r
    | own q c2 => exact ⟨r.1, r.2.mono (Z.refl w) (Same.refl G) (k q fun z => n1 (by rw [ownL_o, z]; exact List.mem_cons_self))⟩
/-- a slot's object is changed -/
theorem Rep.mut (R : Rep Z H0 w E τ σ H) {i : Nat} (e : τ[i]? = some (.own p c)) (oc : OcAt Z w (Gd Z w E τ H) H' p c') (k : ∀ a, a ≠ p → H' a = H a) :
    Rep Z H0 w E (τ.set i (.own p c')) σ H' ∧ Gd Z w E (τ.set i (.own p c')) H' = Gd Z w E τ H := by
  have eo : owns (τ.set i (.own p c')) = owns τ := owns_set_same (by rfl) e
  have eO : OL E (τ.set i (.own p c')) = OL E τ := by unfold OL; rw [eo]
  have eH : HL Z w E (τ.set i (.own p c')) = HL Z w E τ := by unfold HL; rw [eO]
  have pm : p ∈ OL E τ := List.mem_append_right _ (owns_mem (i := i) e)
  have eg : Gd Z w E (τ.set i (.own p c')) H' = Gd Z w E τ H := by
    funext a
    show hide (HL Z w E (τ.set i (.own p c'))) H' a = hide (HL Z w E τ) H a
    rw [eH]
    by_cases m : a ∈ HL Z w E τ
    · rw [hide_in m, hide_in m]
    · rw [hide_out m, hide_out m]
      exact k a fun q => m (by rw [q]; exact mem_HL.mpr (.inr pm))
  obtain ⟨o, eso, rfl, oc0⟩ := Paired.at R.sl e
  have pne : ∀ q, q ∈ E → q.1 ≠ p := fun q hq z => by
    have h1 := List.nodup_iff_count.mp R.nd p
    have h2 : 0 < (E.map (·.1)).count p := List.count_pos_iff.mpr (List.mem_map.mpr ⟨q, hq, z⟩)
    have h3 : 0 < (owns τ).count p := List.count_pos_iff.mpr (owns_mem (i := i) e)
    rw [OL_count] at h1
    omega
  refine ⟨⟨by rw [eO]; exact R.nd, by rw [eO]; exact R.dj, ?_, by rw [eg]; exact R.fr, fun q hq => by rw [eg]; exact (R.pe q hq).mono (Z.refl w) (Same.refl _) (k _ (pne q hq)), ?_⟩, eg⟩
  · refine Z.okm (fun a ha => k a fun q => R.dj p pm (by rw [← q]; exact ha)) (fun a u h => ?_) R.ok
    obtain ⟨h1, h2⟩ := gp_some h
    obtain ⟨h3, h4⟩ := hide_some h1
    have ne : a ≠ p := fun q => by
      obtain ⟨u', e', i'⟩ := oc0.mut
      rw [q, e'] at h4
      cases h4
      rw [h2] at i'
      cases i'
    refine gp_of ?_ h2
    rw [hide_out h3, k a ne]
    exact h4
  · rw [eg]
    have h1 := List.nodup_iff_count.mp R.nd p
    rw [OL_count] at h1
    exact sl_mut R.sl e (by omega) oc k
end
end DL
set_option Elab.async false
set_option linter.all false
set_option maxRecDepth 100000
/-! DL3: statements, targets, loops. -/
namespace DL
open PySem L2
variable {K : PySem.W.Frag} {Z : Wrl K}
structure DEnd (κ : Type) where
  nx : List (SL κ) → Prop
  rt : ER κ → Prop
  bk : List (SL κ) → Prop := fun _ => False
  ct : List (SL κ) → Prop := fun _ => False
def DX (Z : Wrl K) (t : TS) (τ : List (SL Z.κ)) (D : DEnd Z.κ) : Prop := ∀ H0 w σ H (Dc : Ends), Rep Z H0 w [] τ σ H →
  (∀ τ' σ' w' H', D.nx τ' → Z.le w w' → Rep Z H0 w' [] τ' σ' H' → Dc.nx σ' H') →
  (∀ r τ' σ' x w' H', D.rt r → Z.le w w' → Res Z H0 w' [] τ' σ' H' x r → Dc.rt x H') →
  (∀ τ' σ' w' H', D.bk τ' → Z.le w w' → Rep Z H0 w' [] τ' σ' H' → Dc.bk σ' H') →
  (∀ τ' σ' w' H', D.ct τ' → Z.le w w' → Rep Z H0 w' [] τ' σ' H' → Dc.ct σ' H') → t Dc σ H
/-- no slot of these holds an object of its own -/
def clear {κ : Type} (τ : List (SL κ)) (vs : List Nat) : Prop := ∀ v, v ∈ vs → ∀ p c, τ[v]? ≠ some (.own p c)
theorem ownL_nil {κ : Type} {s : SL κ} (h : ∀ p c, s ≠ .own p c) : ownL s = [] := by
  cases s with
  | own p c => exact absurd rfl (h p c)
  | u => rfl
  | d x => rfl
/-- data is written to slots of L alone -/
structure Wr {κ : Type} (L : List Nat) (τ τ' : List (SL κ)) : Prop where
  keep : ∀ k, k ∉ L → τ'[k]? = τ[k]?
  own : clear τ L → owns τ' = owns τ
  clr : ∀ M, clear τ M → clear τ' M
theorem Wr.refl {κ : Type} (τ : List (SL κ)) : Wr [] τ τ := ⟨fun _ _ => rfl, fun _ => rfl, fun _ h => h⟩
theorem Wr.one {κ : Type} (τ : List (SL κ)) (i : Nat) (d : D κ) : Wr [i] τ (τ.set i (.d d)) where
  keep := fun k hk => List.getElem?_set_ne fun e => hk (by rw [e]; exact List.mem_cons_self)
  own := fun h => by
    cases e : τ[i]? with
    | none => rw [set_none e]
    | some s =>
      have e0 : ownL s = [] := ownL_nil fun p c q => h i List.mem_cons_self p c (by rw [e, q])
      exact owns_set_same (s := .d d) (by rw [e0]; rfl) e
  clr := fun M h v hv p c => by
    by_cases e : i = v
    · subst e
      cases q : τ[i]? with
      | none => rw [set_none q, q]; intro z; cases z
      | some s =>
        rw [List.getElem?_set_self (List.getElem?_eq_some_iff.mp q).1]
        intro z
        cases z
    · rw [List.getElem?_set_ne e]
      exact h v hv p c
theorem Wr.trans {κ : Type} {L M : List Nat} {a b c : List (SL κ)} (h : Wr L a b) (k : Wr M b c) : Wr (L ++ M) a c where
  keep := fun i hi => (k.keep i fun m => hi (List.mem_append_right _ m)).trans (h.keep i fun m => hi (List.mem_append_left _ m))
  own := fun z => (k.own (h.clr M fun v hv => z v (List.mem_append_right _ hv))).trans (h.own fun v hv => z v (List.mem_append_left _ hv))
  clr := fun N z => k.clr N (h.clr N z)
/-- one target; L: the slots that it writes -/
def DG (Z : Wrl K) (L : List Nat) (g : TG) (d : D Z.κ) (τ : List (SL Z.κ)) (Q : List (SL Z.κ) → Prop) : Prop := ∀ H0 w E σ H x (k : L2.St → Hp → Prop), Rep Z H0 w E τ σ H → Rp Z w (Gd Z w E τ H) x d →
  (∀ τ' σ', Q τ' → Same (Gd Z w E τ H) (Gd Z w E τ' H) → Rep Z H0 w E τ' σ' H → (∀ vs : List Nat, (∀ i, i ∈ L → i ∈ vs) → wipe σ' vs = wipe σ vs) → Wr L τ τ' → k σ' H) → g x σ H k
def DGs (Z : Wrl K) (L : List Nat) (g : TGs) (ds : List (D Z.κ)) (τ : List (SL Z.κ)) (Q : List (SL Z.κ) → Prop) : Prop := ∀ H0 w E σ H xs (k : L2.St → Hp → Prop), Rep Z H0 w E τ σ H → RpA Z w (Gd Z w E τ H) xs ds →
  (∀ τ' σ', Q τ' → Same (Gd Z w E τ H) (Gd Z w E τ' H) → Rep Z H0 w E τ' σ' H → (∀ vs : List Nat, (∀ i, i ∈ L → i ∈ vs) → wipe σ' vs = wipe σ vs) → Wr L τ τ' → k σ' H) → g xs σ H k
theorem wipe_at (σ : L2.St) (vs : List Nat) (k : Nat) : (wipe σ vs)[k]? = if k ∈ vs then σ[k]?.map fun _ => none else σ[k]? := by
  induction vs with
  | nil => simp [wipe]
  | cons v vs ih =>
    unfold wipe
    by_cases h : v = k
    · subst h
      simp only [List.mem_cons, true_or, if_true]
      cases e : σ[v]? with
      | none =>
        have : (wipe σ vs)[v]? = none := by rw [ih, e]; simp
        rw [set_none this, this]
        rfl
      | some o =>
        have hl : v < (wipe σ vs).length := by rw [wipe_length]; exact (List.getElem?_eq_some_iff.mp e).1
        rw [List.getElem?_set_self hl]
        rfl
    · rw [List.getElem?_set_ne h, ih]
      have : (k ∈ v :: vs) ↔ k ∈ vs := by simp [Ne.symm h]
      simp only [this]
theorem wipe_set {σ : L2.St} {i : Nat} {o : Option V} {vs : List Nat} (h : i ∈ vs) : wipe (σ.set i o) vs = wipe σ vs := List.ext_getElem? fun k => by
  rw [wipe_at, wipe_at]
  by_cases hk : k ∈ vs
  · simp only [hk, if_true]
    by_cases e : k = i
    · subst e
      cases q : σ[k]? with
      | none => rw [set_none q, q]
      | some u => rw [List.getElem?_set_self (List.getElem?_eq_some_iff.mp q).1] <;> rfl
    · rw [List.getElem?_set_ne (Ne.symm e)]
  · have e : k ≠ i := fun q => hk (by rw [q]; exact h)
    simp only [hk, if_false]
    rw [List.getElem?_set_ne (Ne.symm e)]
section
variable {τ : List (SL Z.κ)} {D' : DEnd Z.κ} {Q : List (SL Z.κ) → Prop}
theorem dg_name {i : Nat} {d : D Z.κ} (h : Q (τ.set i (.d d))) : DG Z [i] (gName i) d τ Q := fun H0 w E σ H x k R r c => by
  obtain ⟨R', s⟩ := R.store i r
  exact c _ _ h s R' (fun vs hv => wipe_set (hv i List.mem_cons_self)) (Wr.one τ i d)
theorem dgs_nil (h : Q τ) : DGs Z [] gNil [] τ Q := fun H0 w E σ H xs k R r c => by
  cases r
  exact ⟨rfl, c _ _ h (Same.refl _) R (fun _ _ => rfl) (Wr.refl τ)⟩
theorem dgs_cons {L L' : List Nat} {g : TG} {gs : TGs} {d : D Z.κ} {ds : List (D Z.κ)} (h : DG Z L g d τ fun τ1 => DGs Z L' gs ds τ1 Q) : DGs Z (L ++ L') (gCons g gs) (d :: ds) τ Q := fun H0 w E σ H xs k R r c => by
  cases r with
  | cons r1 r2 =>
    refine ⟨_, _, rfl, h H0 w E σ H _ _ R r1 fun τ1 σ1 h1 s1 R1 w1 x1 => ?_⟩
    refine h1 H0 w E σ1 H _ _ R1 (r2.mono (Z.refl w) s1) fun τ2 σ2 h2 s2 R2 w2 x2 => ?_
    exact c τ2 σ2 h2 (s1.trans s2) R2 (fun vs hv => (w2 vs fun i hi => hv i (List.mem_append_right _ hi)).trans (w1 vs fun i hi => hv i (List.mem_append_left _ hi))) (x1.trans x2)
theorem dg_tup {L : List Nat} {n : Nat} {gs : TGs} {ds : List (D Z.κ)} (hn : ds.length = n) (h : DGs Z L gs ds τ Q) : DG Z L (gTup K n gs) (.tup ds) τ Q := fun H0 w E σ H x k R r c => by
  cases r with
  | tup r1 r2 => exact ⟨_, _, rfl, sqT_mono hide_le r1, by rw [r2.length, hn], h H0 w E σ H _ k R r2 c⟩
end
section
variable {H0 H0' : Hp} {w : Z.W} {E : Pd Z.κ} {τ : List (SL Z.κ)} {σ : L2.St} {H : Hp} {x : V}
theorem Rep.frm (s : Same H0 H0') (R : Rep Z H0' w E τ σ H) : Rep Z H0 w E τ σ H := ⟨R.nd, R.dj, R.ok, s.trans R.fr, R.pe, R.sl⟩
theorem Res.frm {r : ER Z.κ} (s : Same H0 H0') (R : Res Z H0' w E τ σ H x r) : Res Z H0 w E τ σ H x r := by
  cases r with
  | v d => exact ⟨R.1.frm s, R.2⟩
  | n p c => exact ⟨R.1, R.2.frm s⟩
  | b i => exact ⟨R.1.frm s, R.2⟩
end
section
variable {τ : List (SL Z.κ)} {D1 D2 : DEnd Z.κ} {t u : TS} {te : TE} {tt : TT}
theorem DX.mono (h : DX Z t τ D1) (h1 : ∀ τ', D1.nx τ' → D2.nx τ') (h2 : ∀ r, D1.rt r → D2.rt r) (h3 : ∀ τ', D1.bk τ' → D2.bk τ') (h4 : ∀ τ', D1.ct τ' → D2.ct τ') : DX Z t τ D2 := fun H0 w σ H Dc R a b c d =>
  h H0 w σ H Dc R (fun τ' σ' w' H' q => a τ' σ' w' H' (h1 τ' q)) (fun r τ' σ' x w' H' q => b r τ' σ' x w' H' (h2 r q)) (fun τ' σ' w' H' q => c τ' σ' w' H' (h3 τ' q)) (fun τ' σ' w' H' q => d τ' σ' w' H' (h4 τ' q))
theorem dx_seq (h : DX Z t τ { D1 with nx := fun τ1 => DX Z u τ1 D1 }) : DX Z (tSeq t u) τ D1 := fun H0 w σ H Dc R a b c d =>
  h H0 w σ H _ R (fun τ1 σ1 w1 H1 q l R1 => q H0 w1 σ1 H1 Dc R1 (fun τ' σ' w' H' q2 l2 => a τ' σ' w' H' q2 (Z.trans l l2)) (fun r τ' σ' x w' H' q2 l2 => b r τ' σ' x w' H' q2 (Z.trans l l2))
    (fun τ' σ' w' H' q2 l2 => c τ' σ' w' H' q2 (Z.trans l l2)) (fun τ' σ' w' H' q2 l2 => d τ' σ' w' H' q2 (Z.trans l l2))) b c d
theorem dx_next (h : D1.nx τ) : DX Z tNext τ D1 := fun H0 w σ H Dc R a b c d => a τ σ w H h (Z.refl w) R
theorem dx_brk (h : D1.bk τ) : DX Z tBreak τ D1 := fun H0 w σ H Dc R a b c d => c τ σ w H h (Z.refl w) R
theorem dx_cnt (h : D1.ct τ) : DX Z tCont τ D1 := fun H0 w σ H Dc R a b c d => d τ σ w H h (Z.refl w) R
/-- what a slot takes -/
def sto {κ : Type} (τ : List (SL κ)) (i : Nat) : ER κ → List (SL κ)
  | .v d => τ.set i (.d d)
  | .n p c => τ.set i (.own p c)
  | .b j => if i = j then τ else match τ[j]? with
    | some (.own p c) => (τ.set j .u).set i (.own p c)
    | _ => τ
theorem Res.sto {H0 : Hp} {w : Z.W} {σ : L2.St} {H : Hp} {x : V} {r : ER Z.κ} (R : Res Z H0 w [] τ σ H x r) (i : Nat) : Rep Z H0 w [] (sto τ i r) (σ.set i (some x)) H := by
  cases r with
  | v d => exact (R.1.store i R.2).1
  | n p c =>
    obtain ⟨rfl, R⟩ := R
    exact (Rep.take (E1 := []) (E2 := []) R i).1
  | b j =>
    obtain ⟨R, p, c, e, rfl⟩ := R
    have ev : DL.sto τ i (ER.b j) = if i = j then τ else (τ.set j .u).set i (.own p c) := by simp only [DL.sto, e]
    rw [ev]
    by_cases h : i = j
    · rw [if_pos h]
      subst h
      obtain ⟨o, eo, rfl, _⟩ := Paired.at R.sl e
      have il : σ.set i (some (.ref p)) = σ := List.ext_getElem? fun k => by
        by_cases h : k = i
        · subst h
          rw [List.getElem?_set_self (List.getElem?_eq_some_iff.mp eo).1, eo]
        · rw [List.getElem?_set_ne (Ne.symm h)]
      rw [il]
      exact R
    · rw [if_neg h]
      exact (R.move i j e h).1
theorem dx_asg {i : Nat} (h : DE Z te τ fun r τ1 => D1.nx (sto τ1 i r)) : DX Z (tAsg te (gName i)) τ D1 := fun H0 w σ H Dc R a b c d =>
  h H0 w [] σ H _ R fun r τ1 x w1 H1 q n q1 => a _ _ w1 H1 q n.le (q1.sto i)
theorem dx_asgG {L : List Nat} {g : TG} (h : DE Z te τ fun r τ1 => ∃ dd, fz r = .v dd ∧ DG Z L g dd τ1 D1.nx) : DX Z (tAsg te g) τ D1 := fun H0 w σ H Dc R a b c d =>
  h H0 w [] σ H _ R fun r τ1 x w1 H1 ⟨dd, e, q⟩ n q1 => by
    obtain ⟨R1, v1, s1⟩ := q1.fz
    rw [e] at v1
    exact q H0 w1 [] σ H1 x _ R1 v1 fun τ' σ' q2 s2 R2 _ _ => a τ' σ' w1 H1 q2 n.le R2
theorem dx_drop (h : DE Z te τ fun _ τ1 => D1.nx τ1) : DX Z (tDrop te) τ D1 := fun H0 w σ H Dc R a b c d =>
  h H0 w [] σ H _ R fun r τ1 x w1 H1 q n q1 => a _ _ w1 H1 q n.le q1.fz.1
/-- what is handed back -/
def ret {κ : Type} (τ : List (SL κ)) : ER κ → ER κ
  | .b i => match τ[i]? with
    | some (.own p c) => .n p c
    | _ => .b i
  | r => r
theorem dx_ret (h : DE Z te τ fun r τ1 => D1.rt (ret τ1 r)) : DX Z (tRet te) τ D1 := fun H0 w σ H Dc R a b c d =>
  h H0 w [] σ H _ R fun r τ1 x w1 H1 q n q1 => by
    cases r with
    | v dd => exact b _ τ1 σ x w1 H1 q n.le q1
    | n p oc => exact b _ τ1 σ x w1 H1 q n.le q1
    | b i =>
      obtain ⟨R1, p, oc, e, rfl⟩ := q1
      have ev : ret τ1 (ER.b i) = .n p oc := by simp only [ret, e]
      rw [ev] at q
      obtain ⟨o, eo, rfl, od⟩ := Paired.at R1.sl e
      have il : σ.set i (some (.ref p)) = σ := List.ext_getElem? fun k => by
        by_cases h : k = i
        · subst h
          rw [List.getElem?_set_self (List.getElem?_eq_some_iff.mp eo).1, eo]
        · rw [List.getElem?_set_ne (Ne.symm h)]
      have sl : Paired (SlAt Z w1 (Gd Z w1 [] τ1 H1) H1) (τ1.set i .u) σ := by
        have h1 : Paired (SlAt Z w1 (Gd Z w1 [] τ1 H1) H1) (τ1.set i .u) (σ.set i (some (.ref p))) := Paired.set trivial i R1.sl
        rw [il] at h1
        exact h1
      obtain ⟨R2, s2⟩ := R1.sub (rest := []) (E' := [(p, oc)]) (τ' := τ1.set i .u) (σ' := σ) (fun a => by
        have := owns_set .u e a
        rw [OL_count, OL_count]
        rw [ownL_u, ownL_o, List.count_nil] at this
        simp only [List.map_cons, List.map_nil, List.count_nil]
        omega) (fun q hq => by
          rw [List.mem_singleton.mp hq]
          exact od) sl
      exact b (.n p oc) (τ1.set i .u) σ _ w1 H1 q n.le ⟨rfl, R2⟩
theorem dx_retN (h : D1.rt (.v .non)) : DX Z tRetN τ D1 := fun H0 w σ H Dc R a b c d => b (.v .non) τ σ .non w H h (Z.refl w) ⟨R, .non⟩
theorem dx_if (h : DT Z tt τ fun b τ1 => if b = true then DX Z t τ1 D1 else DX Z u τ1 D1) : DX Z (tIfS tt t u) τ D1 := fun H0 w σ H Dc R a b c d =>
  h H0 w [] σ H _ R fun k τ1 w1 H1 q n R1 => by
    have go : ∀ {v : TS}, DX Z v τ1 D1 → v Dc σ H1 := fun q => q H0 w1 σ H1 Dc R1 (fun τ' σ' w' H' q2 l2 => a τ' σ' w' H' q2 (Z.trans n.le l2)) (fun r τ' σ' x w' H' q2 l2 => b r τ' σ' x w' H' q2 (Z.trans n.le l2))
      (fun τ' σ' w' H' q2 l2 => c τ' σ' w' H' q2 (Z.trans n.le l2)) (fun τ' σ' w' H' q2 l2 => d τ' σ' w' H' q2 (Z.trans n.le l2))
    cases k with
    | true => exact iteT (go (by simpa using q))
    | false => exact iteF (go (by simpa using q))
/-- a while, by an invariant with a number that falls -/
theorem dx_while (I : Nat → List (SL Z.κ) → Prop) (h0 : ∃ n, I n τ) (h : ∀ n τ1, I n τ1 → DT Z tt τ1 fun b τ2 => if b = true then DX Z t τ2 { D1 with nx := fun τ3 => ∃ m, m < n ∧ I m τ3, ct := fun τ3 => ∃ m, m < n ∧ I m τ3, bk := D1.nx } else D1.nx τ2) :
    DX Z (tWhile tt t) τ D1 := fun H0 w σ H Dc R a b c d => by
  obtain ⟨n0, i0⟩ := h0
  refine ⟨fun m σ1 H1 => ∃ τ1 w1, Z.le w w1 ∧ Rep Z H0 w1 [] τ1 σ1 H1 ∧ I m τ1, ⟨n0, τ, w, Z.refl w, R, i0⟩, ?_⟩
  rintro m σ1 H1 ⟨τ1, w1, l1, R1, i1⟩
  refine h m τ1 i1 H0 w1 [] σ1 H1 _ R1 fun k τ2 w2 H2 q n R2 => ?_
  have l2 := Z.trans l1 n.le
  cases k with
  | false => exact iteF (a τ2 σ1 w2 H2 (by simpa using q) l2 R2)
  | true =>
    refine iteT ⟨fun σ' H' => ∃ m', m' < m ∧ ∃ τ1 w1, Z.le w w1 ∧ Rep Z H0 w1 [] τ1 σ' H' ∧ I m' τ1, fun σ' H' z => z, ?_⟩
    have q' : DX Z t τ2 { D1 with nx := fun τ3 => ∃ m', m' < m ∧ I m' τ3, ct := fun τ3 => ∃ m', m' < m ∧ I m' τ3, bk := D1.nx } := by simpa using q
    exact q' H0 w2 σ1 H2 _ R2 (fun τ' σ' w' H' ⟨m', lt, i'⟩ l R' => ⟨m', lt, τ', w', Z.trans l2 l, R', i'⟩) (fun r τ' σ' x w' H' q2 l => b r τ' σ' x w' H' q2 (Z.trans l2 l))
      (fun τ' σ' w' H' q2 l R' => a τ' σ' w' H' q2 (Z.trans l2 l) R') (fun τ' σ' w' H' ⟨m', lt, i'⟩ l R' => ⟨m', lt, τ', w', Z.trans l2 l, R', i'⟩)
end
/-! ### what is walked -/
/-- while C holds, the walk gives these items -/
structure DWk (Z : Wrl K) (J : It) (items : List (D Z.κ)) (C : Z.W → Hp → Hp → Prop) : Prop where
  go : ∀ i w G H, i < items.length → C w G H → J.go i H
  st : ∀ w G H, C w G H → J.stop items.length H
  yl : ∀ i w G H x H', i < items.length → C w G H → J.yld i H x H' → ∃ d, items[i]? = some d ∧ Out Z w G H x H' (.v d)
def Stay {κ : Type} (src : Option Nat) (τ τ' : List (SL κ)) : Prop := match src with
  | none => True
  | some k => τ'[k]? = τ[k]?
def DI (Z : Wrl K) (wi : TI) (τ : List (SL Z.κ)) (P : List (D Z.κ) → Option Nat → List (SL Z.κ) → Prop) : Prop := ∀ H0 w E σ H (R : It → Hp → Prop), Rep Z H0 w E τ σ H →
  (∀ J items src τ1 w1 H1 (C : Z.W → Hp → Hp → Prop), P items src τ1 → Nxt Z w w1 (Gd Z w E τ H) (Gd Z w1 E τ1 H1) τ τ1 → Rep Z H0 w1 E τ1 σ H1 → DWk Z J items C →
    (∀ H0' w2 E2 τ2 σ2 H2, Rep Z H0' w2 E2 τ2 σ2 H2 → Z.le w1 w2 → Same (Gd Z w1 E τ1 H1) H0' → Stay src τ1 τ2 → C w2 (Gd Z w2 E2 τ2 H2) H2) → R J H1) → wi σ H R
section
variable {τ : List (SL Z.κ)} {D1 : DEnd Z.κ} {tb : TS} {wi : TI} {g : TG} {L : List Nat}
theorem dx_for (h : DI Z wi τ fun items src τ1 => ∃ I : Nat → List (SL Z.κ) → Prop, I 0 τ1 ∧ (∀ i τ2, I i τ2 → Stay src τ1 τ2) ∧
    (∀ i d τ2, items[i]? = some d → I i τ2 → DG Z L g d τ2 fun τ3 => DX Z tb τ3 { D1 with nx := I (i + 1), ct := I (i + 1), bk := D1.nx }) ∧ ∀ τ2, I items.length τ2 → D1.nx τ2) : DX Z (tFor wi g tb) τ D1 := fun H0 w σ H Dc R a b c d => by
  refine h H0 w [] σ H _ R fun J items src τ1 w1 H1 C hP n R1 W hC => ?_
  obtain ⟨I, i0, hs, ht, hd⟩ := hP
  have fr1 : Same H0 (Gd Z w1 [] τ1 H1) := R1.fr
  have R1' : Rep Z (Gd Z w1 [] τ1 H1) w1 [] τ1 σ H1 := ⟨R1.nd, R1.dj, R1.ok, Same.refl _, R1.pe, R1.sl⟩
  refine ⟨fun i m σ2 H2 => m = items.length - i ∧ i ≤ items.length ∧ ∃ τ2 w2, Z.le w1 w2 ∧ Rep Z (Gd Z w1 [] τ1 H1) w2 [] τ2 σ2 H2 ∧ I i τ2, ⟨_, rfl, Nat.zero_le _, τ1, w1, Z.refl w1, R1', i0⟩, ?_⟩
  rintro i m σ2 H2 ⟨rfl, hi, τ2, w2, l2, R2, i2⟩
  have hc := hC _ w2 [] τ2 σ2 H2 R2 l2 (Same.refl _) (hs i τ2 i2)
  have l0 := Z.trans n.le l2
  by_cases hlt : i < items.length
  · refine .inr ⟨W.go i _ _ H2 hlt hc, fun σ' H' => ∃ τ3 w3, Z.le w1 w3 ∧ Rep Z (Gd Z w1 [] τ1 H1) w3 [] τ3 σ' H' ∧ I (i + 1) τ3, fun σ' H' z => ⟨items.length - (i + 1), by omega, rfl, hlt, z⟩, fun x H' y => ?_⟩
    obtain ⟨dd, e, o⟩ := W.yl i _ _ H2 x H' hlt hc y
    obtain ⟨⟨R3, r3⟩, s3⟩ := R2.out o
    refine ht i dd τ2 e i2 _ w2 [] σ2 H' x _ R3 r3 fun τ3 σ3 q3 _ R4 _ _ => ?_
    exact q3 _ w2 σ3 H' _ R4 (fun τ' σ' w' H' q l R' => ⟨τ', w', Z.trans l2 l, R', q⟩) (fun r τ' σ' x w' H' q l R' => b r τ' σ' x w' H' q (Z.trans l0 l) (R'.frm fr1))
      (fun τ' σ' w' H' q l R' => a τ' σ' w' H' q (Z.trans l0 l) (R'.frm fr1)) (fun τ' σ' w' H' q l R' => ⟨τ', w', Z.trans l2 l, R', q⟩)
  · have e : i = items.length := by omega
    subst e
    exact .inl ⟨W.st _ _ H2 hc, a τ2 σ2 w2 H2 (hd τ2 i2) l0 (R2.frm fr1)⟩
end
end DL
set_option Elab.async false
set_option linter.all false
set_option maxRecDepth 100000
/-! DL4: a def by its body; comprehensions; what lists, tuples, ranges, zip give. -/
namespace DL
open PySem PySem.Spec PyProof.Rows L2
variable {K : PySem.W.Frag} {Z : Wrl K}
/-! ### a def -/
def okr {κ : Type} : ER κ → Prop
  | .v d => d.pur = true
  | .n _ c => c.pur = true
  | .b _ => False
def init {κ : Type} (ds : List (D κ)) (n : Nat) : List (SL κ) := ds.map .d ++ List.replicate (n - ds.length) .u
theorem owns_rep {κ : Type} : ∀ n : Nat, owns (List.replicate n (.u : SL κ)) = []
  | 0 => rfl
  | n + 1 => owns_rep n
theorem owns_init {κ : Type} (n : Nat) : ∀ ds : List (D κ), owns (ds.map SL.d ++ List.replicate n .u) = []
  | [] => owns_rep n
  | d :: ds => owns_init n ds
theorem rep_slots {w : Z.W} {G H : Hp} : ∀ (n : Nat) {vs : List V} {ds : List (D Z.κ)}, RpA Z w G vs ds → Paired (SlAt Z w G H) (ds.map SL.d ++ List.replicate n .u) (vs.map some ++ List.replicate n none)
  | 0, _, _, .nil => .nil
  | n + 1, _, _, .nil => .cons trivial (rep_slots n .nil)
  | n, _, _, .cons r t => .cons ⟨_, rfl, r⟩ (rep_slots n t)
theorem fn_dx {P : Program} {w : World} {mg : Str → Option Value} {base : Heap} {x qual : Str} {params : Arguments} {body : List Stmt} {scope : Scope} {f : Addr} {fd : FuncData} {N ps : List Str} {k : Nat} {S : FS Z.κ}
    (F : FunD K x qual params body scope [] [] f fd) (sc : FnScope N ps scope) (hl : ∀ ds Q, S ds Q → ds.length = ps.length)
    (bod : ∀ (cdv : Value) (A : Around) (outer : List Env) (s : Shared) (H : Hp) (E : XK), Room k (A.deeper (envOfC qual scope s.heap.objs.size f cdv)) → ∃ t, PSs (cxOf CX0 P w K mg base N qual scope f cdv A outer s H E).nox body t ∧
      ∀ ds Q, S ds Q → DX Z t (init ds N.length) { nx := fun _ => Q (.v .non), rt := fun r => okr r ∧ Q r }) : FnOk P w K mg base CX0 (k + 1) f fd ps (spD Z S) := by
  refine F.ok sc (fun vs H Q E h => ?_) (fun cdv A outer s H vs Q E hr h => ?_)
  · obtain ⟨w, ds, P, _, r, h, _⟩ := h
    rw [r.length, hl _ _ h]
  · obtain ⟨t, syn, sem⟩ := bod cdv A outer s H E hr
    refine ⟨t, PSs.nox syn, ?_⟩
    obtain ⟨w, ds, P, ok, r, h, c⟩ := h
    have e0 : OL ([] : Pd Z.κ) (init ds N.length) = [] := by
      show [] ++ owns _ = []
      unfold init
      rw [owns_init] <;> rfl
    have sg : Same (hide (Z.A w) H) (Gd Z w [] (init ds N.length) H) := hide_mono (fun a h => (mem_HL.mp h).elim id fun z => by rw [e0] at z; cases z) (Same.refl H)
    have R : Rep Z (hide (Z.A w) H) w [] (init ds N.length) (L2.start N vs) H := by
      refine ⟨by rw [e0]; exact List.nodup_nil, fun a h => (by rw [e0] at h; cases h), ok, sg, fun q h => (by cases h), ?_⟩
      have q := rep_slots (H := H) (N.length - ds.length) (r.mono (Z.refl w) sg)
      unfold L2.start
      rw [r.length]
      exact q
    have back : ∀ {w' : Z.W} {E : Pd Z.κ} {τ : List (SL Z.κ)} {σ : L2.St} {H' : Hp}, Rep Z (hide (Z.A w) H) w' E τ σ H' → Same (hide (Z.A w) H) (hide (Z.A w') H') := fun R' => R'.fr.trans (hide_mono (fun a h => mem_HL.mpr (.inl h)) (Same.refl _))
    refine sem ds P h _ w (L2.start N vs) H _ R (fun τ' σ' w' H' q l R' => ?_) (fun r' τ' σ' y w' H' q l R' => ?_) (fun _ _ _ _ q => q.elim) (fun _ _ _ _ q => q.elim)
    · exact c _ _ H' w' q l R'.ok (back R') ⟨rfl, .non⟩
    · obtain ⟨o, q⟩ := q
      cases r' with
      | b i => exact o.elim
      | v d => exact c _ _ H' w' q l R'.1.ok (back R'.1) ⟨o, R'.2.mono (Z.refl w') (hide_mono (fun a h => mem_HL.mpr (.inl h)) (Same.refl _))⟩
      | n p oc =>
        obtain ⟨rfl, R'⟩ := R'
        have pm : p ∈ HL Z w' [(p, oc)] τ' := mem_HL.mpr (.inr List.mem_cons_self)
        refine c _ _ H' w' q l R'.ok (back R') ⟨o, rfl, ?_, R'.dj p List.mem_cons_self, (R'.pe _ List.mem_cons_self).mono (Z.refl w') (hide_mono (fun a h => mem_HL.mpr (.inl h)) (Same.refl _)) rfl⟩
        cases e : H p with
        | none => rfl
        | some u =>
          have n1 : p ∉ Z.A w := fun m => R'.dj p List.mem_cons_self (Z.Am l p m)
          have := R'.fr p u (by rw [hide_out n1]; exact e)
          exact absurd pm (hide_some this).1
/-! ### comprehensions -/
def wipeS {κ : Type} (τ : List (SL κ)) : List Nat → List (SL κ)
  | [] => τ
  | v :: vs => (wipeS τ vs).set v .u
theorem Rep.wipes {H0 : Hp} {w : Z.W} {E : Pd Z.κ} {τ : List (SL Z.κ)} {σ : L2.St} {H : Hp} (R : Rep Z H0 w E τ σ H) : ∀ vs : List Nat, Rep Z H0 w E (wipeS τ vs) (wipe σ vs) H ∧ Same (Gd Z w E τ H) (Gd Z w E (wipeS τ vs) H)
  | [] => ⟨R, Same.refl _⟩
  | v :: vs => by
    obtain ⟨R1, s1⟩ := R.wipes vs
    obtain ⟨R2, s2⟩ := R1.wipe1 v none
    exact ⟨R2, s1.trans s2⟩
theorem wipeS_at {κ : Type} (τ : List (SL κ)) : ∀ (vs : List Nat) (k : Nat), (wipeS τ vs)[k]? = some .u ∨ (wipeS τ vs)[k]? = τ[k]? ∧ (k ∈ vs → τ[k]? = none)
  | [], k => .inr ⟨rfl, fun h => by cases h⟩
  | v :: vs, k => by
    unfold wipeS
    by_cases h : v = k
    · subst h
      cases e : (wipeS τ vs)[v]? with
      | none =>
        rw [set_none e, e]
        rcases wipeS_at τ vs v with z | ⟨z, _⟩
        · rw [e] at z; cases z
        · rw [e] at z
          exact .inr ⟨z, fun _ => z.symm⟩
      | some s => exact .inl (List.getElem?_set_self (List.getElem?_eq_some_iff.mp e).1)
    · rw [List.getElem?_set_ne h]
      rcases wipeS_at τ vs k with z | ⟨z, y⟩
      · exact .inl z
      · refine .inr ⟨z, fun m => ?_⟩
        rcases List.mem_cons.mp m with m | m
        · exact absurd m.symm h
        · exact y m
theorem wipeS_out {κ : Type} (τ : List (SL κ)) : ∀ {vs : List Nat} {k : Nat}, k ∉ vs → (wipeS τ vs)[k]? = τ[k]?
  | [], _, _ => rfl
  | v :: vs, k, h => by
    unfold wipeS
    rw [List.getElem?_set_ne fun e => h (by rw [e]; exact List.mem_cons_self)]
    exact wipeS_out τ fun m => h (List.mem_cons_of_mem _ m)
theorem wipeS_clear {κ : Type} (τ : List (SL κ)) {vs : List Nat} (h : clear τ vs) : clear (wipeS τ vs) vs := fun v hv p c => by
  rcases wipeS_at τ vs v with z | ⟨z, y⟩
  · rw [z]; intro q; cases q
  · rw [z]; exact h v hv p c
theorem owns_wipeS {κ : Type} (τ : List (SL κ)) : ∀ {vs : List Nat}, clear τ vs → owns (wipeS τ vs) = owns τ
  | [], _ => rfl
  | v :: vs, h => by
    have ih := owns_wipeS τ (vs := vs) fun u hu => h u (List.mem_cons_of_mem _ hu)
    unfold wipeS
    cases e : (wipeS τ vs)[v]? with
    | none => rw [set_none e, ih]
    | some s =>
      have hs : ownL s = [] := by
        rcases wipeS_at τ vs v with z | ⟨z, _⟩
        · rw [e] at z; cases z; rfl
        · refine ownL_nil fun p c q => h v List.mem_cons_self p c ?_
          rw [← z, e, q]
      rw [owns_set_same (s := .u) (by rw [hs]; rfl) e, ih]
section
variable {τ : List (SL Z.κ)} {P : PE' Z.κ} {wi : TI} {g : TG} {tt : TT} {te : TE} {L vs : List Nat}
/-- [te for g in wi if tt], by an invariant over the items taken and the list so far -/
theorem de_lcI (h : DI Z wi τ fun items src τ1 => clear τ1 vs ∧ (∀ i, i ∈ L → i ∈ vs) ∧ items.length ≤ 100000 ∧ (match src with | none => True | some k => k ∉ vs) ∧ ∃ I : Nat → List (D Z.κ) → Prop, I 0 [] ∧
    (∀ i d acc, items[i]? = some d → I i acc → DG Z L g d (wipeS τ1 vs) fun τ2 => DT Z tt τ2 fun b τ3 => τ3 = τ2 ∧ if b = true then DE Z te τ3 (fun r τ4 => τ4 = τ2 ∧ ∃ e, fz r = .v e ∧ I (i + 1) (acc ++ [e])) else I (i + 1) acc) ∧
    ∀ acc p, I items.length acc → P (.n p (.lst acc)) τ1) : DE Z (tLc wi g tt te vs) τ P := fun H0 w E σ H Q R c => by
  refine h H0 w E σ H _ R fun J items src τ1 w1 H1 C hP n1 R1 W hC => ?_
  obtain ⟨cl, hL, hz, hsrc, I, i0, ht, hd⟩ := hP
  intro Dd hD
  have ow := owns_wipeS τ1 cl
  -- the state while the list grows
  have EQ : ∀ (w' : Z.W) (c : OC Z.κ) (H' : Hp), Gd Z w' ((Dd, c) :: E) (wipeS τ1 vs) H' = Gd Z w' ((Dd, .lst []) :: E) τ1 H' := fun w' c H' => by
    show hide (Z.A w' ++ (Dd :: (E.map (·.1) ++ owns _))) H' = hide (Z.A w' ++ (Dd :: (E.map (·.1) ++ owns _))) H'
    rw [ow]
  have start : ∃ s0 : Same (Gd Z w1 E τ1 H1) (Gd Z w1 ((Dd, .lst []) :: E) τ1 (upd H1 Dd (.lst []))), Rep Z (Gd Z w1 E τ1 H1) w1 ((Dd, .lst []) :: E) τ1 σ (upd H1 Dd (.lst [])) := by
    have R1' : Rep Z (Gd Z w1 E τ1 H1) w1 E τ1 σ H1 := ⟨R1.nd, R1.dj, R1.ok, Same.refl _, R1.pe, R1.sl⟩
    obtain ⟨a, b⟩ := R1'.push (c := .lst []) (same_new (o := .lst []) hD) hD ⟨[], upd_same, .nil⟩
    exact ⟨b, a⟩
  obtain ⟨s0, R0⟩ := start
  let St : Nat → Hp → Prop := fun i H' => ∃ acc w', acc.length ≤ i ∧ Z.le w1 w' ∧ I i acc ∧ Rep Z (Gd Z w1 E τ1 H1) w' ((Dd, .lst acc) :: E) τ1 σ H'
  have stay : ∀ i H', i ≤ items.length → St i H' → ∃ w' acc, C w' (Gd Z w' ((Dd, .lst acc) :: E) τ1 H') H' := fun i H' hi ⟨acc, w', _, l, _, R'⟩ => ⟨w', acc, hC _ w' _ τ1 σ H' R' l (Same.refl _) (by cases src <;> first | trivial | rfl)⟩
  refine ⟨fun i m H' => m = items.length - i ∧ i ≤ items.length ∧ St i H', ⟨_, rfl, Nat.zero_le _, [], w1, Nat.le_refl _, Z.refl w1, i0, R0⟩, ?_⟩
  rintro i m H2 ⟨rfl, hi, acc, w2, hl, l2, i2, R2⟩
  have hc := hC _ w2 _ τ1 σ H2 R2 l2 (Same.refl _) (by cases src <;> first | trivial | rfl)
  by_cases hlt : i < items.length
  · refine .inr ⟨W.go i _ _ H2 hlt hc, St (i + 1), fun H' z => ⟨items.length - (i + 1), by omega, rfl, hlt, z⟩, fun x H3 y => ?_⟩
    obtain ⟨dd, e, o⟩ := W.yl i _ _ H2 x H3 hlt hc y
    obtain ⟨⟨R3, r3⟩, s3⟩ := R2.out o
    obtain ⟨R3w, s3w⟩ := R3.wipes vs
    refine ht i dd acc e i2 _ w2 _ (wipe σ vs) H3 x _ R3w (r3.mono (Z.refl w2) s3w) fun τ2 σ2 q2 s4 R4 wp wr => ?_
    have oz : owns τ2 = owns (wipeS τ1 vs) := wr.own fun v hv => wipeS_clear τ1 cl v (hL v hv)
    have ok : ∀ k, k ∉ vs → τ2[k]? = τ1[k]? := fun k hk => (wr.keep k fun m => hk (hL k m)).trans (wipeS_out τ1 hk)
    refine ⟨(wp vs hL).trans ?_, ?_⟩
    · refine List.ext_getElem? fun k => ?_
      rw [wipe_at, wipe_at]
      by_cases hk : k ∈ vs
      · simp only [hk, if_true]
        cases σ[k]? <;> rfl
      · simp only [hk, if_false]
    · -- back to the slots of the whole
      have ret : ∀ (w3 : Z.W) (c : OC Z.κ) (σ3 : L2.St) (H4 : Hp), Z.le w2 w3 → Same (Gd Z w2 ((Dd, .lst acc) :: E) τ2 H3) (Gd Z w3 ((Dd, .lst acc) :: E) τ2 H4) → Rep Z (Gd Z w1 E τ1 H1) w3 ((Dd, .lst acc) :: E) τ2 σ3 H4 → Rep Z (Gd Z w1 E τ1 H1) w3 ((Dd, .lst acc) :: E) τ1 σ H4 := by
        intro w3 _ σ3 H4 l3 s5 R5
        have eo : owns τ2 = owns τ1 := oz.trans ow
        have eO : OL ((Dd, OC.lst acc) :: E) τ1 = OL ((Dd, OC.lst acc) :: E) τ2 := by unfold OL; rw [eo]
        have eg : ∀ (w : Z.W) (H : Hp), Gd Z w ((Dd, .lst acc) :: E) τ1 H = Gd Z w ((Dd, .lst acc) :: E) τ2 H := fun w H => by unfold Gd HL; rw [eO]
        have s6 : Same (Gd Z w2 ((Dd, .lst acc) :: E) τ1 H3) (Gd Z w3 ((Dd, .lst acc) :: E) τ1 H4) := by rw [eg, eg]; exact s5
        refine ⟨by rw [eO]; exact R5.nd, by rw [eO]; exact R5.dj, R5.ok, by rw [eg]; exact R5.fr, fun q hq => by rw [eg]; exact R5.pe q hq, ?_⟩
        -- each slot: data goes on; an object of its own is told by τ2
        have at3 : ∀ (k : Nat) s, τ1[k]? = some s → ∃ o, σ[k]? = some o ∧ SlAt Z w2 (Gd Z w2 ((Dd, .lst acc) :: E) τ1 H3) H3 s o := fun k s h => Paired.at R3.sl h
        have fin : ∀ (k : Nat) s o, τ1[k]? = some s → σ[k]? = some o → SlAt Z w3 (Gd Z w3 ((Dd, .lst acc) :: E) τ1 H4) H4 s o := by
          intro k s o h1 h2
          obtain ⟨o', h3, h4⟩ := at3 k s h1
          rw [h2] at h3
          cases h3
          cases s with
          | u => trivial
          | d x =>
            obtain ⟨v, e1, r⟩ := h4
            exact ⟨v, e1, r.mono l3 s6⟩
          | own p oc =>
            have nk : k ∉ vs := fun m => cl k m p oc h1
            have e2 : τ2[k]? = some (.own p oc) := by rw [ok k nk]; exact h1
            obtain ⟨_, _, _, oc5⟩ := Paired.at R5.sl e2
            refine ⟨h4.1, ?_⟩
            rw [eg]
            exact oc5
        have len : τ1.length = σ.length := Paired.len R3.sl
        have mk : ∀ {l : List (SL Z.κ)} {m : L2.St} {G : Hp}, l.length = m.length → (∀ (k : Nat) s o, l[k]? = some s → m[k]? = some o → SlAt Z w3 G H4 s o) → Paired (SlAt Z w3 G H4) l m := by
          intro l
          induction l with
          | nil =>
            intro m G hl _
            cases m with
            | nil => exact .nil
            | cons => simp at hl
          | cons s l ih =>
            intro m G hl h
            cases m with
            | nil => simp at hl
            | cons o m => exact .cons (h 0 s o rfl rfl) (ih (by simpa using hl) fun k s o h1 h2 => h (k + 1) s o (by simpa using h1) (by simpa using h2))
        exact mk len fin
      refine q2 _ w2 _ σ2 H3 _ R4 fun b τ3 w3 H4 q3 n3 R5 => ?_
      obtain ⟨rfl, q3⟩ := q3
      cases b with
      | false =>
        refine iteF ⟨acc, w3, Nat.le_succ_of_le hl, Z.trans l2 n3.le, by simpa using q3, ret w3 (.lst acc) σ2 H4 n3.le (by
          refine Same.trans ?_ n3.sm
          exact Same.refl _) R5⟩
      | true =>
        refine iteT ((show DE Z te τ3 _ from by simpa using q3) _ w3 _ σ2 H4 _ R5 fun r τ4 y w4 H5 q4 n4 R6 => ?_)
        obtain ⟨rfl, e, er, i3⟩ := q4
        obtain ⟨R7, v7, s7⟩ := R6.fz
        rw [er] at v7
        have l24 := Z.trans n3.le n4.le
        have R8 := ret w4 (.lst acc) σ2 H5 l24 (n3.sm.trans (n4.sm.trans s7)) R7
        obtain ⟨vsx, hv, rv⟩ := R8.pe (Dd, .lst acc) List.mem_cons_self
        have hvl : vsx.length = acc.length := rv.length
        refine ⟨vsx, hv, small_lt (by omega), acc ++ [e], w4, ?_, Z.trans l2 l24, i3, ?_⟩
        · rw [List.length_append, List.length_singleton]; omega
        · -- the list grows by one
          have eo : owns τ4 = owns τ1 := oz.trans ow
          have eg : Gd Z w4 ((Dd, .lst acc) :: E) τ4 H5 = Gd Z w4 ((Dd, .lst acc) :: E) τ1 H5 := by unfold Gd HL OL; rw [eo]
          have v8 : Rp Z w4 (Gd Z w4 ((Dd, .lst acc) :: E) τ1 H5) y e := by rw [← eg]; exact v7
          have dm : Dd ∈ HL Z w4 ((Dd, .lst acc) :: E) τ1 := mem_HL.mpr (.inr List.mem_cons_self)
          have eh : Gd Z w4 ((Dd, .lst (acc ++ [e])) :: E) τ1 (upd H5 Dd (.lst (vsx ++ [y]))) = Gd Z w4 ((Dd, .lst acc) :: E) τ1 H5 := by
            funext a
            show hide (HL Z w4 ((Dd, .lst acc) :: E) τ1) (upd H5 Dd _) a = hide (HL Z w4 ((Dd, .lst acc) :: E) τ1) H5 a
            by_cases m : a ∈ HL Z w4 ((Dd, .lst acc) :: E) τ1
            · rw [hide_in m, hide_in m]
            · rw [hide_out m, hide_out m, upd_ne fun q => m (by rw [q]; exact dm)]
          have dn := List.nodup_cons.mp (show (Dd :: OL E τ1).Nodup from R8.nd)
          have ne : ∀ a, a ∈ OL E τ1 → a ≠ Dd := fun a ha q => dn.1 (by rw [← q]; exact ha)
          refine ⟨R8.nd, R8.dj, Z.okm (fun a ha => upd_ne fun q => R8.dj Dd List.mem_cons_self (by rw [← q]; exact ha)) (fun a u h => ?_) R8.ok, by rw [eh]; exact R8.fr, fun q hq => ?_, ?_⟩
          · obtain ⟨h1, h2⟩ := gp_some h
            obtain ⟨h3, h4⟩ := hide_some h1
            have nd : a ≠ Dd := fun q => by
              rw [q, hv] at h4
              cases h4
              cases h2
            refine gp_of ?_ h2
            rw [hide_out h3, upd_ne nd]
            exact h4
          · rw [eh]
            rcases List.mem_cons.mp hq with z | hq
            · rw [z]
              exact ⟨_, upd_same, rv.app (.cons v8 .nil)⟩
            · exact (R8.pe q (List.mem_cons_of_mem _ hq)).mono (Z.refl w4) (Same.refl _) (upd_ne (ne q.1 (List.mem_append_left _ (List.mem_map.mpr ⟨q, hq, rfl⟩))))
          · rw [eh]
            exact sl_keep (fun a ha => upd_ne ha) R8.sl fun m => ne Dd (List.mem_append_right _ m) rfl
  · have e : i = items.length := by omega
    subst e
    refine .inl ⟨W.st _ _ H2 hc, c _ τ1 _ w2 H2 (hd acc Dd i2) ⟨Z.trans n1.le l2, ?_, n1.sh⟩ ⟨rfl, R2.frm R1.fr⟩⟩
    exact n1.sm.trans R2.fr
/-- one item's turn: what it gives, or nothing -/
def LcT (Z : Wrl K) (g : TG) (tt : TT) (te : TE) (L vs : List Nat) (τ1 : List (SL Z.κ)) (d : D Z.κ) (o : Option (D Z.κ)) : Prop :=
  DG Z L g d (wipeS τ1 vs) fun τ2 => DT Z tt τ2 fun b τ3 => τ3 = τ2 ∧ if b = true then DE Z te τ3 (fun r τ4 => τ4 = τ2 ∧ ∃ e, fz r = .v e ∧ o = some e) else o = none
theorem DT.mono {τ : List (SL Z.κ)} {t : TT} {P Q : Bool → List (SL Z.κ) → Prop} (h : DT Z t τ P) (k : ∀ b τ', P b τ' → Q b τ') : DT Z t τ Q := fun H0 w E σ H R r c => h H0 w E σ H R r fun b τ' w' H' p => c b τ' w' H' (k b τ' p)
theorem DG.mono {τ : List (SL Z.κ)} {L : List Nat} {g : TG} {d : D Z.κ} {P Q : List (SL Z.κ) → Prop} (h : DG Z L g d τ P) (k : ∀ τ', P τ' → Q τ') : DG Z L g d τ Q := fun H0 w E σ H x kk R r c => h H0 w E σ H x kk R r fun τ' σ' p => c τ' σ' (k τ' p)
theorem DI.mono {τ : List (SL Z.κ)} {wi : TI} {P Q : List (D Z.κ) → Option Nat → List (SL Z.κ) → Prop} (h : DI Z wi τ P) (k : ∀ a b c, P a b c → Q a b c) : DI Z wi τ Q := fun H0 w E σ H R r c => h H0 w E σ H R r fun J items src τ1 w1 H1 C p => c J items src τ1 w1 H1 C (k _ _ _ p)
/-- the same, each item by itself: f tells what it gives -/
theorem de_lc (h : DI Z wi τ fun items src τ1 => clear τ1 vs ∧ (∀ i, i ∈ L → i ∈ vs) ∧ items.length ≤ 100000 ∧ (match src with | none => True | some k => k ∉ vs) ∧ ∃ f : D Z.κ → Option (D Z.κ),
    (∀ d, d ∈ items → LcT Z g tt te L vs τ1 d (f d)) ∧ ∀ p, P (.n p (.lst (items.filterMap f))) τ1) : DE Z (tLc wi g tt te vs) τ P := by
  refine de_lcI (L := L) (DI.mono h ?_)
  rintro items src τ1 ⟨h1, h2, h3, h4, f, ht, hd⟩
  refine ⟨h1, h2, h3, h4, fun i acc => acc = (items.take i).filterMap f, rfl, fun i d acc e ha => ?_, fun acc p ha => ?_⟩
  · refine DG.mono (ht d (List.mem_of_getElem? e)) fun τ2 q => DT.mono q fun b τ3 q => ⟨q.1, ?_⟩
    have et : items.take (i + 1) = items.take i ++ [d] := by rw [List.take_add_one, e] <;> rfl
    cases b with
    | true =>
      rw [if_pos rfl]
      have q2 : DE Z te τ3 (fun r τ4 => τ4 = τ2 ∧ ∃ e, fz r = .v e ∧ f d = some e) := by simpa using q.2
      refine DE.mono q2 fun r τ4 q => ⟨q.1, ?_⟩
      obtain ⟨x, e1, e2⟩ := q.2
      refine ⟨x, e1, ?_⟩
      show acc ++ [x] = _
      rw [et, List.filterMap_append, ha]
      simp [e2]
    | false =>
      rw [if_neg Bool.false_ne_true]
      have q2 : f d = none := by simpa using q.2
      show acc = _
      rw [et, List.filterMap_append, ha]
      simp [q2]
  · rw [ha, List.take_length]
    exact hd p
end
/-! ### what gives items -/
section
variable {τ : List (SL Z.κ)} {P : List (D Z.κ) → Option Nat → List (SL Z.κ) → Prop} {te : TE} {ta : TA}
/-- a list or a tuple -/
def iSq (K : PySem.W.Frag) (te : TE) : TI := fun σ H R => te σ H fun x H1 => ∃ a, x = .ref a ∧ (((∃ xs, SqL K H1 a xs) ∧ R (Itl K a) H1) ∨ ((∃ xs, SqT K H1 a xs) ∧ R (Itt K a) H1))
/-- the items of it -/
def its {κ : Type} (τ : List (SL κ)) : ER κ → Option (List (D κ) × Option Nat)
  | .v (.lst xs) => some (xs, none)
  | .v (.tup xs) => some (xs, none)
  | .n _ (.lst xs) => some (xs, none)
  | .b i => match τ[i]? with
    | some (.own _ (.lst xs)) => some (xs, some i)
    | _ => none
  | _ => none
theorem wk_list {w1 : Z.W} {G1 : Hp} {a : Addr} {vs : List V} {ds : List (D Z.κ)} (h : SqL K G1 a vs) (r : RpA Z w1 G1 vs ds) : DWk Z (Itl K a) ds fun w G H => Z.le w1 w ∧ Same G1 G ∧ Same G H where
  go := fun i w G H hi c => by
    have hv : i < vs.length := by rw [r.length]; exact hi
    exact ⟨vs, vs[i], (c.2.1.trans c.2.2).seq h, List.getElem?_eq_getElem hv⟩
  st := fun w G H c => ⟨vs, (c.2.1.trans c.2.2).seq h, by rw [r.length]; exact Nat.le_refl _⟩
  yl := fun i w G H x H' hi c y => by
    obtain ⟨rfl, f⟩ := y
    obtain ⟨d, e, q⟩ := r.get (f vs ((c.2.1.trans c.2.2).seq h))
    exact ⟨d, e, .same (q.mono c.1 c.2.1)⟩
theorem wk_tup {w1 : Z.W} {G1 : Hp} {a : Addr} {vs : List V} {ds : List (D Z.κ)} (h : SqT K G1 a vs) (r : RpA Z w1 G1 vs ds) : DWk Z (Itt K a) ds fun w G H => Z.le w1 w ∧ Same G1 G ∧ Same G H where
  go := fun i w G H hi c => by
    have hv : i < vs.length := by rw [r.length]; exact hi
    exact ⟨vs, vs[i], sqT_mono (c.2.1.trans c.2.2) h, List.getElem?_eq_getElem hv⟩
  st := fun w G H c => ⟨vs, sqT_mono (c.2.1.trans c.2.2) h, by rw [r.length]; exact Nat.le_refl _⟩
  yl := fun i w G H x H' hi c y => by
    obtain ⟨rfl, f⟩ := y
    obtain ⟨d, e, q⟩ := r.get (f vs (sqT_mono (c.2.1.trans c.2.2) h))
    exact ⟨d, e, .same (q.mono c.1 c.2.1)⟩
theorem wk_own {a : Addr} {ds : List (D Z.κ)} : DWk Z (Itl K a) ds fun w G H => OcAt Z w G H a (.lst ds) where
  go := fun i w G H hi c => by
    obtain ⟨vs, e, r⟩ := c
    have hv : i < vs.length := by rw [r.length]; exact hi
    exact ⟨vs, vs[i], SqL.of e, List.getElem?_eq_getElem hv⟩
  st := fun w G H c => by
    obtain ⟨vs, e, r⟩ := c
    exact ⟨vs, SqL.of e, by rw [r.length]; exact Nat.le_refl _⟩
  yl := fun i w G H x H' hi c y => by
    obtain ⟨rfl, f⟩ := y
    obtain ⟨vs, e, r⟩ := c
    obtain ⟨d, e2, q⟩ := r.get (f vs (SqL.of e))
    exact ⟨d, e2, .same q⟩
theorem di_sq (h : DE Z te τ fun r τ1 => ∃ z, its τ1 r = some z ∧ P z.1 z.2 τ1) : DI Z (iSq K te) τ P := fun H0 w E σ H R rep c => by
  refine h H0 w E σ H _ rep fun r τ1 x w1 H1 hP n1 q1 => ?_
  obtain ⟨⟨items, src⟩, e, hP⟩ := hP
  obtain ⟨R1, v1, s1⟩ := q1.fz
  have n1' : Nxt Z w w1 (Gd Z w E τ H) (Gd Z w1 E τ1 H1) τ τ1 := ⟨n1.le, n1.sm.trans s1, n1.sh⟩
  have lst : ∀ {ds : List (D Z.κ)}, Rp Z w1 (Gd Z w1 E τ1 H1) x (.lst ds) → P ds none τ1 → ∃ a, x = .ref a ∧ (((∃ xs, SqL K H1 a xs) ∧ R (Itl K a) H1) ∨ ((∃ xs, SqT K H1 a xs) ∧ R (Itt K a) H1)) := fun v p => by
    cases v with
    | lst hs ra => exact ⟨_, rfl, .inl ⟨⟨_, SqL.of (hide_le _ _ hs)⟩, c _ _ none τ1 w1 H1 _ p n1' R1 (wk_list (SqL.of hs) ra) fun H0' w2 E2 τ2 σ2 H2 R2 l s _ => ⟨l, s.trans R2.fr, hide_le⟩⟩⟩
  have tup : ∀ {ds : List (D Z.κ)}, Rp Z w1 (Gd Z w1 E τ1 H1) x (.tup ds) → P ds none τ1 → ∃ a, x = .ref a ∧ (((∃ xs, SqL K H1 a xs) ∧ R (Itl K a) H1) ∨ ((∃ xs, SqT K H1 a xs) ∧ R (Itt K a) H1)) := fun v p => by
    cases v with
    | tup hs ra => exact ⟨_, rfl, .inr ⟨⟨_, sqT_mono hide_le hs⟩, c _ _ none τ1 w1 H1 _ p n1' R1 (wk_tup hs ra) fun H0' w2 E2 τ2 σ2 H2 R2 l s _ => ⟨l, s.trans R2.fr, hide_le⟩⟩⟩
  cases r with
  | v d =>
    cases d with
    | lst xs => simp only [its, Option.some.injEq, Prod.mk.injEq] at e; obtain ⟨rfl, rfl⟩ := e; exact lst v1 hP
    | tup xs => simp only [its, Option.some.injEq, Prod.mk.injEq] at e; obtain ⟨rfl, rfl⟩ := e; exact tup v1 hP
    | _ => simp [its] at e
  | n p oc =>
    cases oc with
    | lst xs => simp only [its, Option.some.injEq, Prod.mk.injEq] at e; obtain ⟨rfl, rfl⟩ := e; exact lst v1 hP
    | _ => simp [its] at e
  | b i =>
    obtain ⟨p, oc, ep, rfl⟩ := v1
    obtain ⟨o, _, rfl, hoc⟩ := Paired.at R1.sl ep
    cases oc with
    | lst xs =>
      simp only [its, ep, Option.some.injEq, Prod.mk.injEq] at e
      obtain ⟨rfl, rfl⟩ := e
      obtain ⟨vs, ev, rv⟩ := hoc
      refine ⟨p, rfl, .inl ⟨⟨vs, SqL.of ev⟩, c _ _ (some i) τ1 w1 H1 _ hP n1' R1 wk_own fun H0' w2 E2 τ2 σ2 H2 R2 l s st => ?_⟩⟩
      have e2 : τ2[i]? = some (.own p (.lst xs)) := by
        have : τ2[i]? = τ1[i]? := st
        rw [this, ep]
      obtain ⟨_, _, _, oc2⟩ := Paired.at R2.sl e2
      exact oc2
    | _ => simp [its, ep] at e
theorem di_rng1 (h : DA Z ta τ fun rs τ1 => ∃ j : Int, rs = [.v (.int j)] ∧ -(2 ^ 62) ≤ j ∧ j < 2 ^ 62 ∧ P ((List.range j.toNat).map fun i => .int (i : Nat)) none τ1) : DI Z (iRng1 ta) τ P := fun H0 w E σ H R rep c => by
  refine h H0 w E σ H _ rep fun rs τ1 xs w1 H1 hP n1 R1 v1 => ?_
  obtain ⟨j, rfl, h1, h2, hP⟩ := hP
  cases v1 with
  | cons r t =>
    cases t
    cases r
    refine ⟨j, rfl, h1, h2, c _ _ none τ1 w1 H1 (fun _ _ _ => True) hP n1 R1 ⟨fun i w G H hi _ => ?_, fun w G H _ => ?_, fun i w G H x H' hi _ y => ?_⟩ fun _ _ _ _ _ _ _ _ _ _ => trivial⟩
    · show i < j.toNat
      simpa using hi
    · show j.toNat ≤ _
      simp
    · obtain ⟨rfl, rfl⟩ := y
      have hi' : i < j.toNat := by simpa using hi
      refine ⟨.int (i : Nat), by simp [hi'], ?_⟩
      rw [Int.zero_add]
      exact .same (.int _)
theorem di_rng2 (h : DA Z ta τ fun rs τ1 => ∃ i j : Int, rs = [.v (.int i), .v (.int j)] ∧ (-(2 ^ 62) ≤ i ∧ i < 2 ^ 62 ∧ -(2 ^ 62) ≤ j ∧ j < 2 ^ 62) ∧ P ((List.range (j - i).toNat).map fun k => .int (i + (k : Nat))) none τ1) : DI Z (iRng2 ta) τ P := fun H0 w E σ H R rep c => by
  refine h H0 w E σ H _ rep fun rs τ1 xs w1 H1 hP n1 R1 v1 => ?_
  obtain ⟨i0, j, rfl, h1, hP⟩ := hP
  cases v1 with
  | cons r t =>
    cases t with
    | cons r2 t =>
      cases t
      cases r
      cases r2
      refine ⟨i0, j, rfl, h1, c _ _ none τ1 w1 H1 (fun _ _ _ => True) hP n1 R1 ⟨fun i w G H hi _ => ?_, fun w G H _ => ?_, fun i w G H x H' hi _ y => ?_⟩ fun _ _ _ _ _ _ _ _ _ _ => trivial⟩
      · show i < (j - i0).toNat
        simpa using hi
      · show (j - i0).toNat ≤ _
        simp
      · obtain ⟨rfl, rfl⟩ := y
        have hi' : i < (j - i0).toNat := by simpa using hi
        exact ⟨.int (i0 + (i : Nat)), by simp [hi'], .same (.int _)⟩
end
end DL
set_option Elab.async false
set_option linter.all false
set_option maxRecDepth 100000
/-! DL5: operators, comparisons, places, slices, by what they do to data. -/
namespace DL
open PySem PySem.Spec PyProof.Rows L2
variable {K : PySem.W.Frag} {Z : Wrl K}
/-! ### what data reads -/
section
variable {w : Z.W} {G H : Hp} {x y : V}
theorem Vw.ground {d : D Z.κ} (h : Vw Z w G H x d) (nl : ∀ c : OC Z.κ, d ≠ c.dat) : Rp Z w G x d := by
  rcases h with r | ⟨p, c, _, e, _⟩
  · exact r
  · exact absurd e (nl c)
theorem dat_ne {d : D Z.κ} (h1 : ∀ xs, d ≠ .lst xs) (h2 : ∀ a b, d ≠ .dik a b) (h3 : ∀ a b, d ≠ .dit a b) : ∀ c : OC Z.κ, d ≠ c.dat
  | .lst xs => h1 xs
  | .dik a b => h2 a b
  | .dit a b => h3 a b
theorem Vw.int {i : Int} (h : Vw Z w G H x (.int i)) : x = .int i := by
  cases h.ground (dat_ne (fun _ q => nomatch q) (fun _ _ q => nomatch q) fun _ _ q => nomatch q)
  rfl
theorem Vw.bl {b : Bool} (h : Vw Z w G H x (.bl b)) : x = .bl b := by
  cases h.ground (dat_ne (fun _ q => nomatch q) (fun _ _ q => nomatch q) fun _ _ q => nomatch q)
  rfl
theorem Vw.str {z : Str} (h : Vw Z w G H x (.str z)) : x = .str z := by
  cases h.ground (dat_ne (fun _ q => nomatch q) (fun _ _ q => nomatch q) fun _ _ q => nomatch q)
  rfl
theorem Vw.ty {n : String} (h : Vw Z w G H x (.ty n)) : x = .ty n := by
  cases h.ground (dat_ne (fun _ q => nomatch q) (fun _ _ q => nomatch q) fun _ _ q => nomatch q)
  rfl
theorem Vw.non (h : Vw Z w G H x .non) : x = .non := by
  cases h.ground (dat_ne (fun _ q => nomatch q) (fun _ _ q => nomatch q) fun _ _ q => nomatch q)
  rfl
theorem Vw.tup {ds : List (D Z.κ)} (s : Same G H) (h : Vw Z w G H x (.tup ds)) : ∃ a vs, x = .ref a ∧ SqT K H a vs ∧ RpA Z w G vs ds ∧ Rp Z w G (.ref a) (.tup ds) := by
  cases h.ground (dat_ne (fun _ q => nomatch q) (fun _ _ q => nomatch q) fun _ _ q => nomatch q) with
  | tup h1 h2 => exact ⟨_, _, rfl, sqT_mono s h1, h2, .tup h1 h2⟩
theorem Vw.ktup {ds : List (D Z.κ)} (s : Same G H) (h : Vw Z w G H x (.ktup ds)) : ∃ a vs, x = .ref a ∧ H a = some (.tup vs) ∧ RpA Z w G vs ds := by
  cases h.ground (dat_ne (fun _ q => nomatch q) (fun _ _ q => nomatch q) fun _ _ q => nomatch q) with
  | ktup h1 h2 => exact ⟨_, _, rfl, s _ _ h1, h2⟩
theorem Vw.wtup {ds : List (D Z.κ)} (s : Same G H) (h : Vw Z w G H x (.wtup ds)) : ∃ a vs o, x = .ref a ∧ o.dict = none ∧ H a = some (.frz o (.tup vs)) ∧ RpA Z w G vs ds := by
  cases h.ground (dat_ne (fun _ q => nomatch q) (fun _ _ q => nomatch q) fun _ _ q => nomatch q) with
  | wtup h0 h1 h2 => exact ⟨_, _, _, rfl, h0, s _ _ h1, h2⟩
theorem Vw.lst {ds : List (D Z.κ)} (s : Same G H) (h : Vw Z w G H x (.lst ds)) : ∃ a vs, x = .ref a ∧ H a = some (.lst vs) ∧ RpA Z w G vs ds := by
  rcases h with r | ⟨p, c, e1, e2, oc⟩
  · cases r with
    | lst h1 h2 => exact ⟨_, _, rfl, s _ _ h1, h2⟩
  · cases c with
    | lst xs =>
      obtain ⟨vs, e, r⟩ := oc
      have : ds = xs := by simpa [OC.dat] using e2
      subst this
      exact ⟨_, vs, e1, e, r⟩
    | dik a b => simp [OC.dat] at e2
    | dit a b => simp [OC.dat] at e2
end
mutual
def toPy {κ : Type} : D κ → Option PyData
  | .non => some .none
  | .bl b => some (.bool b)
  | .int i => some (.int i)
  | .str x => some (.str x)
  | .tup xs => (toPys xs).map .tuple
  | .lst xs => (toPys xs).map .list
  | _ => none
def toPys {κ : Type} : List (D κ) → Option (List PyData)
  | [] => some []
  | x :: xs => match toPy x, toPys xs with
    | some a, some b => some (a :: b)
    | _, _ => none
end
section
variable {w : Z.W} {G H : Hp}
mutual
theorem rp_dp (s : Same G H) : ∀ {x : V} {d : D Z.κ} {p : PyData}, Rp Z w G x d → toPy d = some p → Dp K H x p
  | _, _, _, .non, e => by simp [toPy] at e; subst e; exact .non
  | _, _, _, .bl b, e => by simp [toPy] at e; subst e; exact .bl b
  | _, _, _, .int i, e => by simp [toPy] at e; subst e; exact .int i
  | _, _, _, .str z, e => by simp [toPy] at e; subst e; exact .str z
  | _, _, _, .ty n, e => by simp [toPy] at e
  | _, _, _, .tup (ds := ds) h r, e => by
    cases q : toPys ds with
    | none => simp [toPy, q] at e
    | some ps => simp [toPy, q] at e; subst e; exact .tup (sqT_mono s h) (rpA_dp s r q)
  | _, _, _, .lst (ds := ds) h r, e => by
    cases q : toPys ds with
    | none => simp [toPy, q] at e
    | some ps => simp [toPy, q] at e; subst e; exact .lst (SqL.of (s _ _ h)) (rpA_dp s r q)
  | _, _, _, .dik _ _ _, e => by simp [toPy] at e
  | _, _, _, .dit _ _ _, e => by simp [toPy] at e
  | _, _, _, .wtup _ _ _, e => by simp [toPy] at e
  | _, _, _, .ktup _ _, e => by simp [toPy] at e
  | _, _, _, .obj _, e => by simp [toPy] at e
  | _, _, _, .any, e => by simp [toPy] at e
theorem rpA_dp (s : Same G H) : ∀ {vs : List V} {ds : List (D Z.κ)} {ps : List PyData}, RpA Z w G vs ds → toPys ds = some ps → DpAll K H vs ps
  | _, _, _, .nil, e => by simp [toPys] at e; subst e; exact .nil
  | _, _, _, .cons (d := d) (ds := ds) h r, e => by
    cases q : toPy d with
    | none => simp [toPys, q] at e
    | some a =>
      cases q2 : toPys ds with
      | none => simp [toPys, q, q2] at e
      | some b => simp [toPys, q, q2] at e; subst e; exact .cons (rp_dp s h q) (rpA_dp s r q2)
end
theorem vw_dp (s : Same G H) {x : V} {d : D Z.κ} {p : PyData} (h : Vw Z w G H x d) (e : toPy d = some p) : Dp K H x p := by
  rcases h with r | ⟨q, c, e1, e2, oc⟩
  · exact rp_dp s r e
  · subst e2
    cases c with
    | lst xs =>
      obtain ⟨vs, ev, r⟩ := oc
      cases q2 : toPys xs with
      | none => simp [OC.dat, toPy, q2] at e
      | some ps => simp [OC.dat, toPy, q2] at e; subst e; subst e1; exact .lst (SqL.of ev) (rpA_dp s r q2)
    | dik a b => simp [OC.dat, toPy] at e
    | dit a b => simp [OC.dat, toPy] at e
end
-- plain data of no great depth
mutual
def lay {κ : Type} : Nat → D κ → Bool
  | _, .non => true
  | _, .bl _ => true
  | _, .int _ => true
  | _, .str x => (PyData.str x).canLay0
  | n, .tup xs => match n with
    | 0 => false
    | m + 1 => lays m xs
  | n, .lst xs => match n with
    | 0 => false
    | m + 1 => lays m xs
  | _, _ => false
def lays {κ : Type} : Nat → List (D κ) → Bool
  | _, [] => true
  | n, x :: xs => lay n x && lays n xs
end
mutual
theorem lay_py {κ : Type} : ∀ {d : D κ} {n : Nat}, lay n d = true → ∃ p, toPy d = some p ∧ p.canLay0 = true ∧ p.depth ≤ n
  | .non, n, _ => ⟨_, rfl, rfl, by simp [PyData.depth]⟩
  | .bl b, n, _ => ⟨_, rfl, rfl, by simp [PyData.depth]⟩
  | .int i, n, _ => ⟨_, rfl, rfl, by simp [PyData.depth]⟩
  | .str x, n, h => ⟨_, rfl, by simpa [lay] using h, by simp [PyData.depth]⟩
  | .tup xs, 0, h => by simp [lay] at h
  | .lst xs, 0, h => by simp [lay] at h
  | .tup xs, n + 1, h => by
    obtain ⟨ps, e, c, dd⟩ := lays_py (n := n) (ds := xs) (by simpa [lay] using h)
    exact ⟨.tuple ps, by simp [toPy, e], by simpa [PyData.canLay0] using c, by simp only [PyData.depth]; omega⟩
  | .lst xs, n + 1, h => by
    obtain ⟨ps, e, c, dd⟩ := lays_py (n := n) (ds := xs) (by simpa [lay] using h)
    exact ⟨.list ps, by simp [toPy, e], by simpa [PyData.canLay0] using c, by simp only [PyData.depth]; omega⟩
  | .ty _, n, h => by simp [lay] at h
  | .dik _ _, n, h => by simp [lay] at h
  | .dit _ _, n, h => by simp [lay] at h
  | .wtup _, n, h => by simp [lay] at h
  | .ktup _, n, h => by simp [lay] at h
  | .obj _, n, h => by simp [lay] at h
  | .any, n, h => by simp [lay] at h
theorem lays_py {κ : Type} : ∀ {ds : List (D κ)} {n : Nat}, lays n ds = true → ∃ ps, toPys ds = some ps ∧ PyData.canLayAll0 ps = true ∧ PyData.depthAll ps ≤ n
  | [], n, _ => ⟨[], rfl, rfl, by simp [PyData.depthAll]⟩
  | x :: xs, n, h => by
    simp only [lays, Bool.and_eq_true] at h
    obtain ⟨p, e1, c1, d1⟩ := lay_py h.1
    obtain ⟨ps, e2, c2, d2⟩ := lays_py h.2
    exact ⟨p :: ps, by simp [toPys, e1, e2], by simp [PyData.canLayAll0, c1, c2], by simp only [PyData.depthAll]; omega⟩
end
/-- equal, as Python has it -/
def eqD {κ : Type} (d e : D κ) : Bool := match toPy d, toPy e with
  | some p, some q => PyData.eqv p q
  | _, _ => false
theorem shaped_of {p : PyData} (h1 : p.canLay0 = true) (h2 : p.depth ≤ 64) : SeqAt.shaped p = true := by
  unfold SeqAt.shaped
  rw [h1, decide_eq_true h2] <;> rfl
abbrev Sem2 (κ : Type) := D κ → D κ → (ER κ → Prop) → Prop
abbrev Sem1 (κ : Type) := D κ → (ER κ → Prop) → Prop
/-! ### == and != -/
def semEq {κ : Type} : Sem2 κ := fun d e P => lay 60 d = true ∧ lay 60 e = true ∧ P (.v (.bl (eqD d e)))
def semNe {κ : Type} : Sem2 κ := fun d e P => lay 60 d = true ∧ lay 60 e = true ∧ P (.v (.bl (!eqD d e)))
theorem bs_eq : BS2 Z (rEqD K) semEq := fun w G H x y dx dy Q P s hx hy h k => by
  obtain ⟨h1, h2, h3⟩ := h
  obtain ⟨p, e1, c1, d1⟩ := lay_py h1
  obtain ⟨q, e2, c2, d2⟩ := lay_py h2
  refine ⟨p, q, vw_dp s hx e1, vw_dp s hy e2, shaped_of c1 (by omega), shaped_of c2 (by omega), ?_⟩
  have : eqD dx dy = PyData.eqv p q := by simp only [eqD, e1, e2]
  rw [this] at h3
  exact k _ _ _ h3 (.same (.bl _))
theorem bs_ne : BS2 Z (rNeD K) semNe := fun w G H x y dx dy Q P s hx hy h k => by
  obtain ⟨h1, h2, h3⟩ := h
  obtain ⟨p, e1, c1, d1⟩ := lay_py h1
  obtain ⟨q, e2, c2, d2⟩ := lay_py h2
  refine ⟨p, q, vw_dp s hx e1, vw_dp s hy e2, shaped_of c1 (by omega), shaped_of c2 (by omega), ?_⟩
  have : eqD dx dy = PyData.eqv p q := by simp only [eqD, e1, e2]
  rw [this] at h3
  exact k _ _ _ h3 (.same (.bl _))
/-! ### + - * // % ** -/
def rAdd' (K : PySem.W.Frag) : R2 := fun x y H Q => rI0 (fun i j => .int (i + j)) x y H Q ∨ rCatA K x y H Q ∨ rCat x y H Q
theorem op_add' {X : Cx} : OpR X (binaryOp .Add) (rAdd' X.K) := op_add.or (op_catA.or op_cat)
def semAdd {κ : Type} : Sem2 κ := fun d e P => match d, e with
  | .int i, .int j => P (.v (.int (i + j)))
  | .tup xs, .tup ys => xs.length + ys.length ≤ 100000 ∧ P (.v (.tup (xs ++ ys)))
  | .lst xs, .lst ys => xs.length + ys.length ≤ 100000 ∧ ∀ p, P (.n p (.lst (xs ++ ys)))
  | _, _ => False
theorem RpA.app_nil {w : Z.W} {G : Hp} {vs : List V} {ds : List (D Z.κ)} (h : vs = []) (r : RpA Z w G vs ds) : ds = [] := r.nil_iff.mp h
theorem bs_add : BS2 Z (rAdd' K) semAdd := fun w G H x y dx dy Q P s hx hy h k => by
  unfold semAdd at h
  split at h
  · exact .inl ⟨_, _, hx.int, hy.int, k _ _ _ h (.same (.int _))⟩
  · obtain ⟨a, vs, e1, q1, r1, g1⟩ := hx.tup s
    obtain ⟨b, us, e2, q2, r2, g2⟩ := hy.tup s
    refine .inr (.inl ⟨a, b, vs, us, e1, e2, q1, q2, small_line (by rw [r1.length, r2.length]; exact h.1), fun z => ?_, fun _ z => ?_, fun _ _ p hp => ?_⟩)
    · have := r1.app_nil z
      subst this
      exact k _ _ _ h.2 (.same g2)
    · have := r2.app_nil z
      subst this
      refine k _ _ _ h.2 (.same ?_)
      rw [List.append_nil]
      exact g1
    · exact k _ _ _ h.2 (.tup hp (r1.app r2))
  · obtain ⟨a, vs, e1, q1, r1⟩ := hx.lst s
    obtain ⟨b, us, e2, q2, r2⟩ := hy.lst s
    exact .inr (.inr ⟨a, b, vs, us, e1, e2, q1, q2, small_line (by rw [r1.length, r2.length]; exact h.1), fun p hp => k _ _ _ (h.2 p) (.lst hp (r1.app r2))⟩)
  · exact h.elim
def semI {κ : Type} (C : Int → Int → Prop) (f : Int → Int → D κ) : Sem2 κ := fun d e P => match d, e with
  | .int i, .int j => C i j ∧ P (.v (f i j))
  | _, _ => False
theorem bs_I {C : Int → Int → Prop} {f : Int → Int → Int} : BS2 Z (rI C fun i j => .int (f i j)) (semI C fun i j => .int (f i j)) := fun w G H x y dx dy Q P s hx hy h k => by
  unfold semI at h
  split at h
  · exact ⟨_, _, hx.int, hy.int, h.1, k _ _ _ h.2 (.same (.int _))⟩
  · exact h.elim
def semI0 {κ : Type} (f : Int → Int → D κ) : Sem2 κ := fun d e P => match d, e with
  | .int i, .int j => P (.v (f i j))
  | _, _ => False
theorem bs_I0 {f : Int → Int → Int} : BS2 Z (rI0 fun i j => .int (f i j)) (semI0 fun i j => .int (f i j)) := fun w G H x y dx dy Q P s hx hy h k => by
  unfold semI0 at h
  split at h
  · exact ⟨_, _, hx.int, hy.int, k _ _ _ h (.same (.int _))⟩
  · exact h.elim
theorem bs_B0 {f : Int → Int → Bool} : BS2 Z (rI0 fun i j => .bl (f i j)) (semI0 fun i j => .bl (f i j)) := fun w G H x y dx dy Q P s hx hy h k => by
  unfold semI0 at h
  split at h
  · exact ⟨_, _, hx.int, hy.int, k _ _ _ h (.same (.bl _))⟩
  · exact h.elim
/-- a * b: two ints, a tuple some times (two at least) or once, a list some times -/
def rMul' (K : PySem.W.Frag) : R2 := fun x y H Q => rI CMul (fun i j => .int (i * j)) x y H Q ∨ rRepT K x y H Q ∨ rRep x y H Q
theorem op_mul' {X : Cx} : OpR X (binaryOp .Mult) (rMul' X.K) := op_mul.or (op_repT.or op_rep)
def semMul {κ : Type} : Sem2 κ := fun d e P => match d, e with
  | .int i, .int j => CMul i j ∧ P (.v (.int (i * j)))
  | .tup xs, .int k => xs ≠ [] ∧ 2 ≤ k ∧ k ≤ 1000 ∧ xs.length ≤ 1000 ∧ P (.v (.tup (List.replicate k.toNat xs).flatten))
  | .lst xs, .int k => 0 ≤ k ∧ k ≤ 1000 ∧ xs.length ≤ 100 ∧ ∀ p, P (.n p (.lst (List.replicate k.toNat xs).flatten))
  | _, _ => False
theorem RpA.rep {w : Z.W} {G : Hp} {vs : List V} {ds : List (D Z.κ)} (r : RpA Z w G vs ds) : ∀ n : Nat, RpA Z w G (List.replicate n vs).flatten (List.replicate n ds).flatten
  | 0 => .nil
  | n + 1 => by
    rw [List.replicate_succ, List.flatten_cons, List.replicate_succ, List.flatten_cons]
    exact r.app (r.rep n)
theorem bs_mul : BS2 Z (rMul' K) semMul := fun w G H x y dx dy Q P s hx hy h k => by
  unfold semMul at h
  split at h
  · exact .inl ⟨_, _, hx.int, hy.int, h.1, k _ _ _ h.2 (.same (.int _))⟩
  · obtain ⟨a, vs, e1, q1, r1, g1⟩ := hx.tup s
    obtain ⟨h1, h2, h3, h4, h5⟩ := h
    exact .inr (.inl ⟨a, _, vs, e1, hy.int, q1, fun z => h1 (r1.app_nil z), h2, h3, by rw [r1.length]; exact h4, fun p hp => k _ _ _ h5 (.tup hp (r1.rep _))⟩)
  · rename_i xs n
    obtain ⟨a, vs, e1, q1, r1⟩ := hx.lst s
    obtain ⟨h1, h2, h3, h4⟩ := h
    refine .inr (.inr ⟨a, _, vs, e1, hy.int, q1, by omega, by omega, ?_, fun p hp => k _ _ _ (h4 p) (.lst hp (r1.rep _))⟩)
    have e := r1.length
    have : vs.length * n.toNat ≤ 100 * 1000 := Nat.mul_le_mul (by omega) (by omega)
    exact small_line (by omega)
  · exact h.elim
/-! ### < <= > >= -/
def tInts {κ : Type} : List (D κ) → Option (List Int)
  | [] => some []
  | .int i :: xs => (tInts xs).map (i :: ·)
  | _ => none
theorem tInts_rp {w : Z.W} {G : Hp} : ∀ {ds : List (D Z.κ)} {ns : List Int} {vs : List V}, tInts ds = some ns → RpA Z w G vs ds → vs = ns.map V.int
  | [], ns, vs, e, r => by
    simp [tInts] at e
    subst e
    cases r
    rfl
  | d :: ds, ns, vs, e, r => by
    cases r with
    | cons r1 r2 =>
      cases d with
      | int i =>
        cases q : tInts ds with
        | none => simp [tInts, q] at e
        | some ms =>
          simp [tInts, q] at e
          subst e
          cases r1
          rw [List.map_cons, tInts_rp q r2]
      | _ => simp [tInts] at e
def rLt' (K : PySem.W.Frag) : R2 := fun x y H Q => rI0 (fun i j => .bl (decide (i < j))) x y H Q ∨ rLtT K x y H Q
theorem op_lt' {X : Cx} (hu : X.A.units < cLine) : OpR X (compareOp .Lt) (rLt' X.K) := op_lt.or (op_ltT hu)
def semLt {κ : Type} : Sem2 κ := fun d e P => match d, e with
  | .int i, .int j => P (.v (.bl (decide (i < j))))
  | .tup xs, .tup ys => ∃ ns ms, tInts xs = some ns ∧ tInts ys = some ms ∧ P (.v (.bl (HT.lexLt ns ms)))
  | _, _ => False
theorem bs_lt : BS2 Z (rLt' K) semLt := fun w G H x y dx dy Q P s hx hy h k => by
  unfold semLt at h
  split at h
  · exact .inl ⟨_, _, hx.int, hy.int, k _ _ _ h (.same (.bl _))⟩
  · obtain ⟨ns, ms, t1, t2, h⟩ := h
    obtain ⟨a, vs, e1, q1, r1, g1⟩ := hx.tup s
    obtain ⟨b, us, e2, q2, r2, g2⟩ := hy.tup s
    rw [tInts_rp t1 r1] at q1
    rw [tInts_rp t2 r2] at q2
    exact .inr ⟨a, b, ns, ms, e1, e2, q1, q2, k _ _ _ h (.same (.bl _))⟩
  · exact h.elim
/-! ### in, not in: lists and tuples of plain data -/
def rInTD (K : PySem.W.Frag) (neg : Bool) : R2 := fun x y H Q => ∃ d ds, Dp K H x d ∧ Dp K H y (.tuple ds) ∧ SeqAt.shaped d = true ∧ SeqAt.shaped (.tuple ds) = true ∧ Q (.bl (if neg then !ds.any fun z => PyData.eqv z d else ds.any fun z => PyData.eqv z d)) H
theorem op_inTD {X : Cx} (hu : X.A.units + 65 < cLine) : OpR X (compareOp .In) (rInTD X.K false) := fun pins s σ H x y v u Q I rx ry ⟨d, ds, hd, he, sd, se, q⟩ => by
  obtain ⟨as, r1⟩ := Dp.reads I d x v hd rx
  obtain ⟨bs, r2⟩ := Dp.reads I (.tuple ds) y u he ry
  exact SeqAt.in_tuple_reads r2 r1 (SeqAt.canLay_of_shaped se) (SeqAt.canLay_of_shaped sd) (room_in_shaped sd hu) ⟨.bl _, H, I, rfl, q⟩
theorem op_notInTD {X : Cx} (hu : X.A.units + 65 < cLine) : OpR X (compareOp .NotIn) (rInTD X.K true) := fun pins s σ H x y v u Q I rx ry ⟨d, ds, hd, he, sd, se, q⟩ => by
  obtain ⟨as, r1⟩ := Dp.reads I d x v hd rx
  obtain ⟨bs, r2⟩ := Dp.reads I (.tuple ds) y u he ry
  exact SeqAt.notIn_tuple_reads r2 r1 (SeqAt.canLay_of_shaped se) (SeqAt.canLay_of_shaped sd) (room_in_shaped sd hu) ⟨.bl _, H, I, rfl, q⟩
end DL
set_option Elab.async false
set_option linter.all false
set_option maxRecDepth 100000
/-! DL6: in, None, places, slices, builtin calls. -/
namespace DL
open PySem PySem.Spec PyProof.Rows L2
variable {K : PySem.W.Frag} {Z : Wrl K}
/-! ### plain lists of plain values -/
section
variable {w : Z.W} {G H : Hp}
theorem rp_ints : ∀ {ns : List Int} {vs : List V}, RpA Z w G vs (ns.map .int) → vs = ns.map V.int
  | [], _, .nil => rfl
  | n :: ns, _, .cons r t => by cases r; rw [rp_ints t] <;> rfl
theorem ints_rp : ∀ {ns : List Int}, RpA Z w G (ns.map V.int) (ns.map .int)
  | [] => .nil
  | n :: ns => .cons (.int n) ints_rp
theorem rp_bls : ∀ {bs : List Bool} {vs : List V}, RpA Z w G vs (bs.map .bl) → vs = bs.map V.bl
  | [], _, .nil => rfl
  | n :: ns, _, .cons r t => by cases r; rw [rp_bls t] <;> rfl
theorem rp_strs : ∀ {bs : List Str} {vs : List V}, RpA Z w G vs (bs.map .str) → vs = bs.map V.str
  | [], _, .nil => rfl
  | n :: ns, _, .cons r t => by cases r; rw [rp_strs t] <;> rfl
end
/-! ### in, not in -/
def rInA (K : PySem.W.Frag) : R2 := fun x y H Q => rInD K x y H Q ∨ rInTD K false x y H Q
def rNotInA (K : PySem.W.Frag) : R2 := fun x y H Q => rNotInD K x y H Q ∨ rInTD K true x y H Q
theorem op_inA {X : Cx} (hu : X.A.units + 65 < cLine) : OpR X (compareOp .In) (rInA X.K) := (op_inD hu).or (op_inTD hu)
theorem op_notInA {X : Cx} (hu : X.A.units + 65 < cLine) : OpR X (compareOp .NotIn) (rNotInA X.K) := (op_notInD hu).or (op_notInTD hu)
def seqD {κ : Type} : D κ → Option (List (D κ))
  | .lst xs => some xs
  | .tup xs => some xs
  | _ => none
theorem any_py {κ : Type} {d : D κ} {p : PyData} (e : toPy d = some p) : ∀ {xs : List (D κ)} {ps : List PyData}, toPys xs = some ps → (ps.any fun z => PyData.eqv z p) = xs.any fun z => eqD z d
  | [], ps, h => by simp [toPys] at h; subst h; rfl
  | x :: xs, ps, h => by
    cases q : toPy x with
    | none => simp [toPys, q] at h
    | some a =>
      cases q2 : toPys xs with
      | none => simp [toPys, q, q2] at h
      | some b =>
        simp [toPys, q, q2] at h
        subst h
        rw [List.any_cons, List.any_cons, any_py e q2]
        have : eqD x d = PyData.eqv a p := by simp only [eqD, q, e]
        rw [this]
def semIn {κ : Type} (neg : Bool) : Sem2 κ := fun d e P => lay 60 d = true ∧ lay 60 e = true ∧ ∃ xs, seqD e = some xs ∧ P (.v (.bl (if neg then !(xs.any fun z => eqD z d) else xs.any fun z => eqD z d)))
theorem seqD_py {κ : Type} {e : D κ} {xs : List (D κ)} {q : PyData} (h : seqD e = some xs) (h2 : toPy e = some q) : ∃ ps, toPys xs = some ps ∧ ((e = .lst xs ∧ q = .list ps) ∨ (e = .tup xs ∧ q = .tuple ps)) := by
  cases e with
  | lst ys =>
    simp [seqD] at h
    subst h
    cases z : toPys ys with
    | none => simp [toPy, z] at h2
    | some ps => simp [toPy, z] at h2; subst h2; exact ⟨ps, rfl, .inl ⟨rfl, rfl⟩⟩
  | tup ys =>
    simp [seqD] at h
    subst h
    cases z : toPys ys with
    | none => simp [toPy, z] at h2
    | some ps => simp [toPy, z] at h2; subst h2; exact ⟨ps, rfl, .inr ⟨rfl, rfl⟩⟩
  | _ => simp [seqD] at h
theorem bs_in : BS2 Z (rInA K) (semIn false) := fun w G H x y dx dy Q P s hx hy h k => by
  obtain ⟨h1, h2, xs, e, h3⟩ := h
  obtain ⟨p, e1, c1, d1⟩ := lay_py h1
  obtain ⟨q, e2, c2, d2⟩ := lay_py h2
  obtain ⟨ps, e3, e4⟩ := seqD_py e e2
  have ha := any_py e1 e3
  rw [if_neg Bool.false_ne_true, ← ha] at h3
  rcases e4 with ⟨rfl, rfl⟩ | ⟨rfl, rfl⟩
  · exact .inl ⟨p, ps, vw_dp s hx e1, vw_dp s hy e2, shaped_of c1 (by omega), shaped_of c2 (by omega), k _ _ _ h3 (.same (.bl _))⟩
  · exact .inr ⟨p, ps, vw_dp s hx e1, vw_dp s hy e2, shaped_of c1 (by omega), shaped_of c2 (by omega), k _ _ _ h3 (.same (.bl _))⟩
theorem bs_notIn : BS2 Z (rNotInA K) (semIn true) := fun w G H x y dx dy Q P s hx hy h k => by
  obtain ⟨h1, h2, xs, e, h3⟩ := h
  obtain ⟨p, e1, c1, d1⟩ := lay_py h1
  obtain ⟨q, e2, c2, d2⟩ := lay_py h2
  obtain ⟨ps, e3, e4⟩ := seqD_py e e2
  have ha := any_py e1 e3
  rw [if_pos rfl, ← ha] at h3
  rcases e4 with ⟨rfl, rfl⟩ | ⟨rfl, rfl⟩
  · exact .inl ⟨p, ps, vw_dp s hx e1, vw_dp s hy e2, shaped_of c1 (by omega), shaped_of c2 (by omega), k _ _ _ h3 (.same (.bl _))⟩
  · exact .inr ⟨p, ps, vw_dp s hx e1, vw_dp s hy e2, shaped_of c1 (by omega), shaped_of c2 (by omega), k _ _ _ h3 (.same (.bl _))⟩
/-! ### None, True -/
def isNon {κ : Type} : D κ → Bool
  | .non => true
  | _ => false
def told {κ : Type} : D κ → Bool
  | .obj _ => false
  | .any => false
  | _ => true
theorem rp_non {w : Z.W} {G : Hp} {x : V} {d : D Z.κ} (t : told d = true) (h : Rp Z w G x d) : decide (x = V.non) = isNon d := by
  cases h <;> first | rfl | (simp [told] at t; done) | simp [isNon]
theorem vw_non {w : Z.W} {G H : Hp} {x : V} {d : D Z.κ} (t : told d = true) (h : Vw Z w G H x d) : decide (x = V.non) = isNon d := by
  rcases h with r | ⟨p, c, rfl, rfl, _⟩
  · exact rp_non t r
  · cases c <;> simp [OC.dat, isNon]
def rIsN : V → Hp → VK → Prop := fun x H Q => Q (.bl (decide (x = .non))) H
def rNotN : V → Hp → VK → Prop := fun x H Q => Q (.bl (!decide (x = .non))) H
def semIsN {κ : Type} (neg : Bool) : Sem1 κ := fun d P => told d = true ∧ P (.v (.bl (if neg then !isNon d else isNon d)))
theorem bs_isN : BS1 Z rIsN (semIsN false) := fun w G H x dx Q P s hx h k => by
  have e := vw_non h.1 hx
  show Q (.bl (decide (x = .non))) H
  rw [e]
  exact k _ _ _ h.2 (.same (.bl _))
theorem bs_notN : BS1 Z rNotN (semIsN true) := fun w G H x dx Q P s hx h k => by
  have e := vw_non h.1 hx
  show Q (.bl (!decide (x = .non))) H
  rw [e]
  exact k _ _ _ h.2 (.same (.bl _))
section
variable {τ : List (SL Z.κ)} {P : PE' Z.κ} {t ta tb tc : TE}
theorem de_isN (h : DE Z ta τ fun r τ1 => semIsN false (vw τ1 (fz r)) fun e => P e τ1) : DE Z (tIsN ta) τ P := de_un (r := rIsN) bs_isN h
theorem de_notN (h : DE Z ta τ fun r τ1 => semIsN true (vw τ1 (fz r)) fun e => P e τ1) : DE Z (tNotN ta) τ P := de_un (r := rNotN) bs_notN h
end
def semIsB {κ : Type} (neg : Bool) : Sem2 κ := fun d e P => ∃ a b, d = .bl a ∧ e = .bl b ∧ P (.v (.bl (if neg then !decide (a = b) else decide (a = b))))
theorem bs_isB : BS2 Z rIsB (semIsB false) := fun w G H x y dx dy Q P s hx hy ⟨a, b, e1, e2, h⟩ k => by
  subst e1 e2
  exact ⟨a, b, hx.bl, hy.bl, k _ _ _ h (.same (.bl _))⟩
theorem bs_notB : BS2 Z rNotB (semIsB true) := fun w G H x y dx dy Q P s hx hy ⟨a, b, e1, e2, h⟩ k => by
  subst e1 e2
  exact ⟨a, b, hx.bl, hy.bl, k _ _ _ h (.same (.bl _))⟩
/-! ### places -/
def rIxA (K : PySem.W.Frag) : R2 := fun x y H Q => rIxL K x y H Q ∨ rIxT K x y H Q
theorem ix_seqA {X : Cx} : IxR X (rIxA X.K) := ix_list.or ix_tup
theorem RpA.atI {w : Z.W} {G : Hp} {vs : List V} {ds : List (D Z.κ)} {i : Int} {y : D Z.κ} (r : RpA Z w G vs ds) (h : L2.atI ds i = some y) : ∃ v, L2.atI vs i = some v ∧ Rp Z w G v y := by
  unfold L2.atI at h ⊢
  rw [r.length]
  cases e : L2.ixN ds.length i with
  | none => rw [e] at h; cases h
  | some j =>
    rw [e] at h
    obtain ⟨v, h1, h2⟩ := r.getD (i := j) (d := y) h
    exact ⟨v, h1, h2⟩
def semIx {κ : Type} : Sem2 κ := fun d e P => ∃ xs i y, seqD d = some xs ∧ e = .int i ∧ atI xs i = some y ∧ P (.v y)
theorem Vw.seq {w : Z.W} {G H : Hp} {x : V} {d : D Z.κ} {xs : List (D Z.κ)} (s : Same G H) (h : Vw Z w G H x d) (e : seqD d = some xs) : ∃ a vs, x = .ref a ∧ RpA Z w G vs xs ∧ ((d = .lst xs ∧ H a = some (.lst vs)) ∨ (d = .tup xs ∧ SqT K H a vs ∧ Rp Z w G (.ref a) (.tup xs))) := by
  cases d with
  | lst ys =>
    simp [seqD] at e
    subst e
    obtain ⟨a, vs, e1, e2, r⟩ := h.lst s
    exact ⟨a, vs, e1, r, .inl ⟨rfl, e2⟩⟩
  | tup ys =>
    simp [seqD] at e
    subst e
    obtain ⟨a, vs, e1, e2, r, g⟩ := h.tup s
    exact ⟨a, vs, e1, r, .inr ⟨rfl, e2, g⟩⟩
  | _ => simp [seqD] at e
theorem SqT.of' {H : Hp} {a : Addr} {vs : List V} (h : H a = some (.tup vs)) : SqT K H a vs := .inl (.inl h)
theorem bs_ix : BS2 Z (rIxA K) semIx := fun w G H x y dx dy Q P s hx hy ⟨xs, i, yd, e1, e2, e3, h⟩ k => by
  subst e2
  obtain ⟨a, vs, rfl, r, e⟩ := hx.seq s e1
  obtain ⟨v, h1, h2⟩ := r.atI e3
  rcases e with ⟨_, ha⟩ | ⟨_, ha, _⟩
  · exact .inl ⟨a, vs, i, v, rfl, hy.int, SqL.of ha, h1, k _ _ _ h (.same h2)⟩
  · exact .inr ⟨a, vs, i, v, rfl, hy.int, ha, h1, k _ _ _ h (.same h2)⟩
/-! ### slices -/
def cutL {α : Type} (xs : List α) (lo hi : Option Int) : List α := (xs.drop (HT.sIx xs.length 0 lo)).take (HT.sIx xs.length xs.length hi - HT.sIx xs.length 0 lo)
theorem RpA.cut {w : Z.W} {G : Hp} {vs : List V} {ds : List (D Z.κ)} (r : RpA Z w G vs ds) (lo hi : Option Int) : RpA Z w G (cutV vs lo hi) (cutL ds lo hi) := by
  unfold cutV cutL
  rw [r.length]
  exact (r.drop _).take _
theorem cut_whole {α : Type} {xs : List α} {lo hi : Option Int} (h : HT.sIx xs.length 0 lo = 0 ∧ HT.sIx xs.length xs.length hi = xs.length) : cutL xs lo hi = xs := by
  unfold cutL
  rw [h.1, h.2, List.drop_zero, Nat.sub_zero, List.take_length]
def DO (Z : Wrl K) (t : TO) (τ : List (SL Z.κ)) (P : Option Int → List (SL Z.κ) → Prop) : Prop := ∀ H0 w E σ H (Q : Option Int → Hp → Prop), Rep Z H0 w E τ σ H →
  (∀ o τ' w' H', P o τ' → Nxt Z w w' (Gd Z w E τ H) (Gd Z w' E τ' H') τ τ' → Rep Z H0 w' E τ' σ H' → Q o H') → t σ H Q
def rSlAll (K : PySem.W.Frag) : V → Option Int → Option Int → Hp → VK → Prop := fun x lo hi H Q => rSlA K x lo hi H Q ∨ rSlL K x lo hi H Q
theorem sl_all {X : Cx} : SlR X (rSlAll X.K) := sl_tupA.or sl_list
def semSl {κ : Type} (d : D κ) (lo hi : Option Int) (P : ER κ → Prop) : Prop := match d with
  | .tup xs => P (.v (.tup (cutL xs lo hi)))
  | .lst xs => ∀ p, P (.n p (.lst (cutL xs lo hi)))
  | _ => False
section
variable {τ : List (SL Z.κ)} {P : PE' Z.κ} {t ta tb tc : TE} {tl th : TO} {PO' : Option Int → List (SL Z.κ) → Prop}
theorem do_none (k : PO' none τ) : DO Z tNoPart τ PO' := fun H0 w E σ H Q R c => c _ _ _ _ k (.refl Z) R
theorem do_some (h : DE Z t τ fun r τ1 => ∃ i, r = .v (.int i) ∧ PO' (some i) τ1) : DO Z (tPart t) τ PO' := fun H0 w E σ H Q R c => by
  refine h H0 w E σ H _ R fun r1 τ1 x w1 H1 h1 n1 q1 => ?_
  obtain ⟨i, rfl, k⟩ := h1
  have ex : x = .int i := by cases q1.2; rfl
  exact ⟨i, ex, c _ τ1 w1 H1 k n1 q1.1⟩
theorem de_sl (h : DE Z ta τ fun r τ1 => DO Z tl τ1 fun lo τ2 => DO Z th τ2 fun hi τ3 => semSl (vw τ3 (fz r)) lo hi fun e => P e τ3) : DE Z (tSl (rSlAll K) ta tl th) τ P := fun H0 w E σ H Q R c => by
  refine h H0 w E σ H _ R fun r1 τ1 x w1 H1 h1 n1 q1 => ?_
  obtain ⟨R1, v1, s1⟩ := q1.fz
  refine h1 H0 w1 E σ H1 _ R1 fun lo τ2 w2 H2 h2 n2 R2 => ?_
  refine h2 H0 w2 E σ H2 _ R2 fun hi τ3 w3 H3 h3 n3 R3 => ?_
  have n13 := Nxt.trans Z n2 n3
  have n03 : Nxt Z w w3 (Gd Z w E τ H) (Gd Z w3 E τ3 H3) τ τ3 := Nxt.trans Z ⟨n1.le, n1.sm.trans s1, n1.sh⟩ n13
  have vx := (v1.nxt n13).view R3
  have fin : ∀ v H' e, P e τ3 → Out Z w3 (Gd Z w3 E τ3 H3) H3 v H' e → Q v H' := fun v H' e he ho => by
    obtain ⟨q, s⟩ := R3.out ho
    exact c e τ3 v w3 H' he ⟨n03.le, n03.sm.trans s, n03.sh⟩ q
  replace h3 : semSl (vw τ3 (fz r1)) lo hi fun e => P e τ3 := h3
  unfold semSl at h3
  split at h3
  · rename_i xs e
    rw [e] at vx
    obtain ⟨a, vs, rfl, ha, r, g⟩ := vx.tup hide_le
    refine .inl ⟨a, vs, rfl, ha, fun hw => ?_, fun _ p hp => fin _ _ _ h3 (.tup hp (r.cut lo hi))⟩
    rw [r.length] at hw
    refine fin _ _ _ h3 (.same ?_)
    rw [cut_whole hw]
    exact g
  · rename_i xs e
    rw [e] at vx
    obtain ⟨a, vs, rfl, ha, r⟩ := vx.lst hide_le
    exact .inr ⟨a, vs, rfl, SqL.of ha, fun p hp => fin _ _ _ (h3 p) (.lst hp (r.cut lo hi))⟩
  · exact h3.elim
theorem de_revL (h : DE Z ta τ fun r τ1 => ∃ xs, vw τ1 (fz r) = .lst xs ∧ ∀ p, P (.n p (.lst xs.reverse)) τ1) : DE Z (tRevL K ta) τ P :=
  de_un (r := fun x H Q => ∃ a xs, x = V.ref a ∧ SqL K H a xs ∧ ∀ p, H p = none → Q (.ref p) (upd H p (.lst xs.reverse))) (sem := fun d P => ∃ xs, d = .lst xs ∧ ∀ p, P (.n p (.lst xs.reverse)))
    (fun w G H x dx Q P s hx ⟨xs, e, h⟩ k => by
      subst e
      obtain ⟨a, vs, rfl, ha, r⟩ := hx.lst s
      exact ⟨a, vs, rfl, SqL.of ha, fun p hp => k _ _ _ (h p) (.lst hp r.rev)⟩) h
end
/-! ### builtin calls -/
abbrev SemL (κ : Type) := List (D κ) → (ER κ → Prop) → Prop
def semLen {κ : Type} : SemL κ := fun ds P => ∃ d xs, ds = [d] ∧ seqD d = some xs ∧ P (.v (.int (xs.length : Nat)))
theorem bs_len : BSL Z (fun xs H Q => ∃ p ys, xs = [V.ref p] ∧ (SqL K H p ys ∨ SqT K H p ys) ∧ Q (.int ys.length) H) semLen := fun w G H xs ds Q P s hx ⟨d, ys, e, e2, h⟩ k => by
  subst e
  cases hx with
  | cons h1 t =>
    cases t
    obtain ⟨a, vs, rfl, r, e⟩ := h1.seq s e2
    refine ⟨a, vs, rfl, ?_, ?_⟩
    · rcases e with ⟨_, ha⟩ | ⟨_, ha, _⟩
      · exact .inl (SqL.of ha)
      · exact .inr (ha)
    · rw [r.length]
      exact k _ _ _ h (.same (.int _))
def semAll {κ : Type} : SemL κ := fun ds P => ∃ bs : List Bool, ds = [.lst (bs.map .bl)] ∧ P (.v (.bl (bs.all id)))
def semAny {κ : Type} : SemL κ := fun ds P => ∃ bs : List Bool, ds = [.lst (bs.map .bl)] ∧ P (.v (.bl (bs.any id)))
theorem bs_all : BSL Z (rAll K) semAll := fun w G H xs ds Q P s hx ⟨bs, e, h⟩ k => by
  subst e
  cases hx with
  | cons h1 t =>
    cases t
    obtain ⟨a, vs, rfl, ha, r⟩ := h1.lst s
    rw [rp_bls r] at ha
    exact ⟨a, bs, rfl, SqL.of ha, k _ _ _ h (.same (.bl _))⟩
theorem bs_any : BSL Z (rAny K) semAny := fun w G H xs ds Q P s hx ⟨bs, e, h⟩ k => by
  subst e
  cases hx with
  | cons h1 t =>
    cases t
    obtain ⟨a, vs, rfl, ha, r⟩ := h1.lst s
    rw [rp_bls r] at ha
    exact ⟨a, bs, rfl, SqL.of ha, k _ _ _ h (.same (.bl _))⟩
def semSum {κ : Type} : SemL κ := fun ds P => ∃ ns : List Int, ds = [.lst (ns.map .int)] ∧ P (.v (.int ns.sum))
theorem bs_sum : BSL Z (rSum K) semSum := fun w G H xs ds Q P s hx ⟨bs, e, h⟩ k => by
  subst e
  cases hx with
  | cons h1 t =>
    cases t
    obtain ⟨a, vs, rfl, ha, r⟩ := h1.lst s
    rw [rp_ints r] at ha
    exact ⟨a, bs, rfl, SqL.of ha, k _ _ _ h (.same (.int _))⟩
/-- the least, the greatest -/
def leastI : List Int → Int
  | [] => 0
  | [x] => x
  | x :: xs => min x (leastI xs)
def mostI : List Int → Int
  | [] => 0
  | [x] => x
  | x :: xs => max x (mostI xs)
theorem leastI_spec : ∀ {xs : List Int}, xs ≠ [] → leastI xs ∈ xs ∧ ∀ y ∈ xs, leastI xs ≤ y
  | [x], _ => by simp [leastI]
  | x :: y :: xs, _ => by
    obtain ⟨h1, h2⟩ := leastI_spec (xs := y :: xs) (by simp)
    have e : leastI (x :: y :: xs) = min x (leastI (y :: xs)) := rfl
    rw [e]
    refine ⟨?_, fun z hz => ?_⟩
    · rcases Int.le_total x (leastI (y :: xs)) with h | h
      · rw [Int.min_eq_left h]; exact List.mem_cons_self
      · rw [Int.min_eq_right h]; exact List.mem_cons_of_mem _ h1
    · rcases List.mem_cons.mp hz with q | q
      · rw [q]; exact Int.min_le_left _ _
      · exact Int.le_trans (Int.min_le_right _ _) (h2 z q)
theorem mostI_spec : ∀ {xs : List Int}, xs ≠ [] → mostI xs ∈ xs ∧ ∀ y ∈ xs, y ≤ mostI xs
  | [x], _ => by simp [mostI]
  | x :: y :: xs, _ => by
    obtain ⟨h1, h2⟩ := mostI_spec (xs := y :: xs) (by simp)
    have e : mostI (x :: y :: xs) = max x (mostI (y :: xs)) := rfl
    rw [e]
    refine ⟨?_, fun z hz => ?_⟩
    · rcases Int.le_total x (mostI (y :: xs)) with h | h
      · rw [Int.max_eq_right h]; exact List.mem_cons_of_mem _ h1
      · rw [Int.max_eq_left h]; exact List.mem_cons_self
    · rcases List.mem_cons.mp hz with q | q
      · rw [q]; exact Int.le_max_left _ _
      · exact Int.le_trans (h2 z q) (Int.le_max_right _ _)
def semMin {κ : Type} : SemL κ := fun ds P => ∃ ns : List Int, ds = [.lst (ns.map .int)] ∧ ns ≠ [] ∧ P (.v (.int (leastI ns)))
def semMax {κ : Type} : SemL κ := fun ds P => ∃ ns : List Int, ds = [.lst (ns.map .int)] ∧ ns ≠ [] ∧ P (.v (.int (mostI ns)))
theorem bs_min : BSL Z (rMin K) semMin := fun w G H xs ds Q P s hx ⟨bs, e, hn, h⟩ k => by
  subst e
  cases hx with
  | cons h1 t =>
    cases t
    obtain ⟨a, vs, rfl, ha, r⟩ := h1.lst s
    rw [rp_ints r] at ha
    refine ⟨a, bs, rfl, SqL.of ha, List.length_pos_iff.mpr hn, fun m hm hl => ?_⟩
    obtain ⟨m1, m2⟩ := leastI_spec hn
    have e : m = leastI bs := Int.le_antisymm (hl _ m1) (m2 _ hm)
    rw [e]
    exact k _ _ _ h (.same (.int _))
theorem bs_max : BSL Z (rMax K) semMax := fun w G H xs ds Q P s hx ⟨bs, e, hn, h⟩ k => by
  subst e
  cases hx with
  | cons h1 t =>
    cases t
    obtain ⟨a, vs, rfl, ha, r⟩ := h1.lst s
    rw [rp_ints r] at ha
    refine ⟨a, bs, rfl, SqL.of ha, List.length_pos_iff.mpr hn, fun m hm hl => ?_⟩
    obtain ⟨m1, m2⟩ := mostI_spec hn
    have e : m = mostI bs := Int.le_antisymm (m2 _ hm) (hl _ m1)
    rw [e]
    exact k _ _ _ h (.same (.int _))
def semMin2 {κ : Type} : SemL κ := fun ds P => ∃ i j : Int, ds = [.int i, .int j] ∧ P (.v (.int (min i j)))
def semMax2 {κ : Type} : SemL κ := fun ds P => ∃ i j : Int, ds = [.int i, .int j] ∧ P (.v (.int (max i j)))
theorem bs_min2 : BSL Z (fun xs H Q => ∃ i j, xs = [V.int i, .int j] ∧ Q (.int (if j < i then j else i)) H) semMin2 := fun w G H xs ds Q P s hx ⟨i, j, e, h⟩ k => by
  subst e
  cases hx with
  | cons h1 t =>
    cases t with
    | cons h2 t =>
      cases t
      refine ⟨i, j, by rw [h1.int, h2.int], ?_⟩
      have e : (if j < i then j else i) = min i j := by rw [Int.min_def]; split <;> split <;> omega
      rw [e]
      exact k _ _ _ h (.same (.int _))
theorem bs_max2 : BSL Z (fun xs H Q => ∃ i j, xs = [V.int i, .int j] ∧ Q (.int (if j > i then j else i)) H) semMax2 := fun w G H xs ds Q P s hx ⟨i, j, e, h⟩ k => by
  subst e
  cases hx with
  | cons h1 t =>
    cases t with
    | cons h2 t =>
      cases t
      refine ⟨i, j, by rw [h1.int, h2.int], ?_⟩
      have e : (if j > i then j else i) = max i j := by rw [Int.max_def]; split <;> split <;> omega
      rw [e]
      exact k _ _ _ h (.same (.int _))
def semAbs {κ : Type} : SemL κ := fun ds P => ∃ i : Int, ds = [.int i] ∧ P (.v (.int (i.natAbs : Nat)))
theorem bs_abs : BSL Z (fun xs H Q => ∃ i, xs = [V.int i] ∧ Q (.int (if i < 0 then -i else i)) H) semAbs := fun w G H xs ds Q P s hx ⟨i, e, h⟩ k => by
  subst e
  cases hx with
  | cons h1 t =>
    cases t
    refine ⟨i, by rw [h1.int], ?_⟩
    have e : (if i < 0 then -i else i) = (i.natAbs : Nat) := by split <;> omega
    rw [e]
    exact k _ _ _ h (.same (.int _))
def semInt {κ : Type} : SemL κ := fun ds P => ∃ i : Int, ds = [.int i] ∧ P (.v (.int i))
theorem bs_int : BSL Z (fun xs H Q => (∃ i, xs = [V.int i] ∧ Q (.int i) H) ∨ ∃ k, xs = [V.bl k] ∧ Q (.int (if k then 1 else 0)) H) semInt := fun w G H xs ds Q P s hx ⟨i, e, h⟩ k => by
  subst e
  cases hx with
  | cons h1 t =>
    cases t
    exact .inl ⟨i, by rw [h1.int], k _ _ _ h (.same (.int _))⟩
/-- in order -/
def srt (ns : List Int) : List Int := ns.mergeSort fun a b => decide (a ≤ b)
theorem srt_perm (ns : List Int) : (srt ns).Perm ns := List.mergeSort_perm ns _
theorem srt_pw (ns : List Int) : (srt ns).Pairwise (· ≤ ·) := by
  have h := List.pairwise_mergeSort (le := fun a b : Int => decide (a ≤ b)) (fun a b c h1 h2 => by simp at *; omega) (fun a b => by simp; omega) ns
  exact h.imp fun h => by simpa using h
theorem srt_eq {ns ms : List Int} (p : ms.Perm ns) (s : ms.Pairwise (· ≤ ·)) : ms = srt ns :=
  (p.trans (srt_perm ns).symm).eq_of_pairwise (fun a b _ _ h1 h2 => Int.le_antisymm h1 h2) s (srt_pw ns)
def semSrtI {κ : Type} : SemL κ := fun ds P => ∃ ns : List Int, ds = [.lst (ns.map .int)] ∧ ∀ p, P (.n p (.lst ((srt ns).map .int)))
theorem bs_srtI : BSL Z (rSortedI K) semSrtI := fun w G H xs ds Q P s hx ⟨bs, e, h⟩ k => by
  subst e
  cases hx with
  | cons h1 t =>
    cases t
    obtain ⟨a, vs, rfl, ha, r⟩ := h1.lst s
    rw [rp_ints r] at ha
    refine ⟨a, bs, rfl, SqL.of ha, fun ns' p h1 h2 hp => ?_⟩
    rw [srt_eq h1 h2]
    exact k _ _ _ (h p) (.lst hp ints_rp)
def semList {κ : Type} : SemL κ := fun ds P => ∃ d xs, ds = [d] ∧ seqD d = some xs ∧ ∀ p, P (.n p (.lst xs))
theorem bs_list : BSL Z (fun xs H Q => ∃ p ys, xs = [V.ref p] ∧ (SqL K H p ys ∨ SqT K H p ys) ∧ ∀ l, H l = none → Q (.ref l) (upd H l (.lst ys))) semList := fun w G H xs ds Q P s hx ⟨d, ys, e, e2, h⟩ k => by
  subst e
  cases hx with
  | cons h1 t =>
    cases t
    obtain ⟨a, vs, rfl, r, e⟩ := h1.seq s e2
    refine ⟨a, vs, rfl, ?_, fun p hp => k _ _ _ (h p) (.lst hp r)⟩
    rcases e with ⟨_, ha⟩ | ⟨_, ha, _⟩
    · exact .inl (SqL.of ha)
    · exact .inr (ha)
section
variable {τ : List (SL Z.κ)} {P : PE' Z.κ} {t ta tb tc : TE} {tr : TA}
theorem de_tupleOf (h : DE Z ta τ fun r τ1 => ∃ xs, seqD (vw τ1 (fz r)) = some xs ∧ P (.v (.tup xs)) τ1) : DE Z (tThen ta (kTup K)) τ P :=
  de_un (r := kTup K) (sem := fun d P => ∃ xs, seqD d = some xs ∧ P (.v (.tup xs)))
    (fun w G H x dx Q P s hx ⟨xs, e, h⟩ k => by
      obtain ⟨a, vs, rfl, r, e⟩ := hx.seq s e
      rcases e with ⟨_, ha⟩ | ⟨_, ha, g⟩
      · exact .inl ⟨a, vs, rfl, SqL.of ha, fun p hp => k _ _ _ h (.tup hp r)⟩
      · exact .inr ⟨a, vs, rfl, ha, k _ _ _ h (.same g)⟩) h
def rgD {κ : Type} (a b : Int) : List (D κ) := (List.range (b - a).toNat).map fun i => .int (a + (i : Nat))
theorem rg_rp {w : Z.W} {G : Hp} (a b : Int) : RpA Z w G (rgV a b) (rgD a b) := by
  unfold rgV rgD
  induction List.range (b - a).toNat with
  | nil => exact .nil
  | cons i l ih => exact .cons (.int _) ih
/-- the ends of a range -/
def DRg (Z : Wrl K) (t : L2.St → Hp → (Int → Int → Hp → Prop) → Prop) (τ : List (SL Z.κ)) (P : Int → Int → List (SL Z.κ) → Prop) : Prop := ∀ H0 w E σ H (Q : Int → Int → Hp → Prop), Rep Z H0 w E τ σ H →
  (∀ a b τ' w' H', P a b τ' → Nxt Z w w' (Gd Z w E τ H) (Gd Z w' E τ' H') τ τ' → Rep Z H0 w' E τ' σ H' → Q a b H') → t σ H Q
theorem drg_1 {PR : Int → Int → List (SL Z.κ) → Prop} (h : DE Z ta τ fun r τ1 => ∃ n, r = .v (.int n) ∧ PR 0 n τ1) : DRg Z (tRg1 ta) τ PR := fun H0 w E σ H Q R c => by
  refine h H0 w E σ H _ R fun r1 τ1 x w1 H1 ⟨n, e, k⟩ n1 q1 => ?_
  subst e
  have ex : x = .int n := by cases q1.2; rfl
  exact ⟨n, ex, c _ _ τ1 w1 H1 k n1 q1.1⟩
theorem drg_2 {PR : Int → Int → List (SL Z.κ) → Prop} (h : DE Z ta τ fun r τ1 => ∃ a, r = .v (.int a) ∧ DE Z tb τ1 fun r2 τ2 => ∃ b, r2 = .v (.int b) ∧ PR a b τ2) : DRg Z (tRg2 ta tb) τ PR := fun H0 w E σ H Q R c => by
  refine h H0 w E σ H _ R fun r1 τ1 x w1 H1 ⟨a, e, k⟩ n1 q1 => ?_
  subst e
  have ex : x = .int a := by cases q1.2; rfl
  refine k H0 w1 E σ H1 _ q1.1 fun r2 τ2 y w2 H2 ⟨b, e, k⟩ n2 q2 => ?_
  subst e
  have ey : y = .int b := by cases q2.2; rfl
  exact ⟨a, b, ex, ey, c _ _ τ2 w2 H2 k (Nxt.trans Z n1 n2) q2.1⟩
def smallR (a b : Int) : Prop := -1000000 ≤ a ∧ a ≤ 1000000 ∧ -1000000 ≤ b ∧ b ≤ 1000000
theorem rgOk {a b : Int} (h : smallR a b) : RgOk a b := by
  obtain ⟨h1, h2, h3, h4⟩ := h
  exact ⟨by omega, by omega, by omega, by omega, by omega⟩
theorem de_lstRg {tg : L2.St → Hp → (Int → Int → Hp → Prop) → Prop} (h : DRg Z tg τ fun a b τ1 => smallR a b ∧ ∀ p, P (.n p (.lst (rgD a b))) τ1) : DE Z (tLstRg tg) τ P := fun H0 w E σ H Q R c => by
  refine h H0 w E σ H _ R fun a b τ1 w1 H1 h1 n1 R1 => ⟨rgOk h1.1, fun p hp => ?_⟩
  obtain ⟨q, s⟩ := R1.out (.lst hp (rg_rp a b))
  exact c _ τ1 _ w1 _ (h1.2 p) ⟨n1.le, n1.sm.trans s, n1.sh⟩ q
theorem de_tupRg {tg : L2.St → Hp → (Int → Int → Hp → Prop) → Prop} (h : DRg Z tg τ fun a b τ1 => smallR a b ∧ P (.v (.tup (rgD a b))) τ1) : DE Z (tTupRg tg) τ P := fun H0 w E σ H Q R c => by
  refine h H0 w E σ H _ R fun a b τ1 w1 H1 h1 n1 R1 => ⟨rgOk h1.1, fun p hp => ?_⟩
  obtain ⟨q, s⟩ := R1.out (.tup hp (rg_rp a b))
  exact c _ τ1 _ w1 _ h1.2 ⟨n1.le, n1.sm.trans s, n1.sh⟩ q
end
/-! ### isinstance -/
def tyD {κ : Type} : D κ → Option String
  | .non => some "NoneType"
  | .bl _ => some "bool"
  | .int _ => some "int"
  | .str _ => some "str"
  | .tup _ => some "tuple"
  | .lst _ => some "list"
  | .dik _ _ => some "dict"
  | .dit _ _ => some "dict"
  | _ => none
theorem vw_ty {w : Z.W} {G H : Hp} {x : V} {d : D Z.κ} {t : String} (s : Same G H) (h : Vw Z w G H x d) (e : tyD d = some t) : TyX K H x (.type t) := by
  rcases h with r | ⟨p, c, rfl, rfl, o⟩
  · cases r <;> simp [tyD] at e <;> subst e
    · exact .base .non
    · exact .base (.bl _)
    · exact .base (.int _)
    · exact .base (.str _)
    · rename_i h1 h2
      rcases sqT_mono s h1 with (h | ⟨o, h⟩) | ⟨o, its, n, h, h2, h3⟩
      · exact .base (.tup h)
      · exact .fTuple h
      · exact .kTuple h h2
    · rename_i h1 h2; exact .base (.lst (s _ _ h1))
    · rename_i h1 h2 h3; exact .base (.dK (s _ _ h1))
    · rename_i h1 h2 h3; exact .base (.dT (s _ _ h1))
  · cases c <;> simp [OC.dat, tyD] at e <;> subst e
    · obtain ⟨vs, h1, _⟩ := o; exact .base (.lst h1)
    · obtain ⟨vs, h1, _⟩ := o; exact .base (.dK h1)
    · obtain ⟨vs, h1, _⟩ := o; exact .base (.dT h1)
def semIsi {κ : Type} : SemL κ := fun ds P => ∃ d n t b, ds = [d, .ty n] ∧ tyD d = some t ∧ kitB t n = some b ∧ P (.v (.bl b))
theorem bs_isi : BSL Z (rIsi K) semIsi := fun w G H xs ds Q P s hx ⟨d, n, t, b, e, e2, e3, h⟩ k => by
  subst e
  cases hx with
  | cons h1 tl =>
    cases tl with
    | cons h2 tl =>
      cases tl
      have ey := h2.ty
      subst ey
      exact ⟨_, _, _, _, b, rfl, .ty n, vw_ty s h1 e2, kit_ty e3, k _ _ _ h (.same (.bl _))⟩
section
variable {τ : List (SL Z.κ)} {P : PE' Z.κ} {ta : TE}
/-- isinstance(x, (m, n)) -/
theorem de_isi2 {m n : String} (h : DE Z ta τ fun r τ1 => ∃ t b, tyD (vw τ1 (fz r)) = some t ∧ PySem.W.kitAny K (.type t) [.type m, .type n] = some b ∧ P (.v (.bl b)) τ1) :
    DE Z (tCB (rIsiT K) (tCons ta (tCons (tTup (tCons (tC (.ty m)) (tCons (tC (.ty n)) tNil))) tNil))) τ P := fun H0 w E σ H Q R c => by
  refine h H0 w E σ H _ R fun r1 τ1 x w1 H1 h1 n1 q1 => ?_
  obtain ⟨t, b, e1, e2, k⟩ := h1
  obtain ⟨R1, v1, s1⟩ := q1.fz
  refine ⟨small_line (by simp), fun p hp => ?_⟩
  obtain ⟨⟨R2, _⟩, s2⟩ := R1.out (.tup (vs := [.ty m, .ty n]) (ds := [.ty m, .ty n]) hp (.cons (.ty m) (.cons (.ty n) .nil)))
  have v2 := v1.nxt (τ' := τ1) (w' := w1) ⟨Z.refl w1, s2, Shp.refl τ1⟩
  refine ⟨x, p, [.ty m, .ty n], .type t, [.type m, .type n], b, rfl, upd_same, .cons (.ty m) (.cons (.ty n) .nil), vw_ty hide_le (v2.view R2) e1, e2, ?_⟩
  exact c _ τ1 _ w1 _ k ⟨n1.le, (n1.sm.trans s1).trans s2, n1.sh⟩ ⟨R2, .bl b⟩
end
end DL
set_option Elab.async false
set_option linter.all false
set_option maxRecDepth 100000
/-! DL7: dicts, methods of lists, several targets. -/
namespace DL
open PySem PySem.Spec PyProof.Rows L2
variable {K : PySem.W.Frag} {Z : Wrl K}
/-! ### dicts -/
def putA {α β : Type} [DecidableEq α] (m : List (α × β)) (k : α) (v : β) : List (α × β) :=
  if (m.any fun kv => decide (kv.1 = k)) = true then m.map (fun kv => if kv.1 = k then (kv.1, v) else kv) else m ++ [(k, v)]
def getA {α β : Type} [DecidableEq α] (m : List (α × β)) (k : α) : Option β := (m.find? fun kv => decide (kv.1 = k)).map (·.2)
def mkd {κ : Type} (m : List (Key × D κ)) : OC κ := .dik (m.map (·.1)) (m.map (·.2))
def mkt {κ : Type} (m : List (List Key × D κ)) : OC κ := .dit (m.map (·.1)) (m.map (·.2))
section
variable {w : Z.W} {G H : Hp} {α : Type} [DecidableEq α]
theorem kv_get : ∀ {kvs : List (α × V)} {m : List (α × D Z.κ)} (k : α), kvs.map (·.1) = m.map (·.1) → RpA Z w G (kvs.map (·.2)) (m.map (·.2)) →
    match getA m k with | some d => ∃ v, valV kvs k = some v ∧ Rp Z w G v d | none => valV kvs k = none
  | [], [], k, _, _ => rfl
  | [], b :: m, k, e, _ => by simp at e
  | a :: kvs, [], k, e, _ => by simp at e
  | a :: kvs, b :: m, k, e, .cons r t => by
    simp only [List.map_cons, List.cons.injEq] at e
    by_cases h : b.1 = k
    · have e1 : getA (b :: m) k = some b.2 := by simp [getA, List.find?_cons, h]
      rw [e1]
      exact ⟨a.2, valV_pos (by rw [e.1]; exact h), r⟩
    · have e1 : getA (b :: m) k = getA m k := by simp [getA, List.find?_cons, h]
      have e2 : valV (a :: kvs) k = valV kvs k := valV_neg (by rw [e.1]; exact h)
      rw [e1, e2]
      exact kv_get k e.2 t
theorem kv_any (k : α) : ∀ {kvs : List (α × V)} {m : List (α × D Z.κ)}, kvs.map (·.1) = m.map (·.1) → (kvs.any fun kv => decide (kv.1 = k)) = (m.any fun kv => decide (kv.1 = k))
  | [], [], _ => rfl
  | [], b :: m, e => by simp at e
  | a :: kvs, [], e => by simp at e
  | a :: kvs, b :: m, e => by
    simp only [List.map_cons, List.cons.injEq] at e
    rw [List.any_cons, List.any_cons, kv_any k e.2, e.1]
theorem kv_map (k : α) {v : V} {d : D Z.κ} (h : Rp Z w G v d) : ∀ {kvs : List (α × V)} {m : List (α × D Z.κ)}, kvs.map (·.1) = m.map (·.1) → RpA Z w G (kvs.map (·.2)) (m.map (·.2)) →
    (kvs.map fun kv => if kv.1 = k then (kv.1, v) else kv).map (·.1) = (m.map fun kv => if kv.1 = k then (kv.1, d) else kv).map (·.1) ∧
    RpA Z w G ((kvs.map fun kv => if kv.1 = k then (kv.1, v) else kv).map (·.2)) ((m.map fun kv => if kv.1 = k then (kv.1, d) else kv).map (·.2))
  | [], [], _, _ => ⟨rfl, .nil⟩
  | [], b :: m, e, _ => by simp at e
  | a :: kvs, [], e, _ => by simp at e
  | a :: kvs, b :: m, e, .cons r t => by
    simp only [List.map_cons, List.cons.injEq] at e
    obtain ⟨h1, h2⟩ := kv_map k h e.2 t
    by_cases c : b.1 = k
    · have c' : a.1 = k := by rw [e.1]; exact c
      simp only [List.map_cons, c, c', if_true]
      exact ⟨by rw [h1], .cons h h2⟩
    · have c' : ¬ a.1 = k := by rw [e.1]; exact c
      simp only [List.map_cons, c, c', if_false]
      exact ⟨by rw [h1, e.1], .cons r h2⟩
theorem kv_put (k : α) {v : V} {d : D Z.κ} (h : Rp Z w G v d) {kvs : List (α × V)} {m : List (α × D Z.κ)} (e : kvs.map (·.1) = m.map (·.1)) (r : RpA Z w G (kvs.map (·.2)) (m.map (·.2))) :
    (putK kvs k v).map (·.1) = (putA m k d).map (·.1) ∧ RpA Z w G ((putK kvs k v).map (·.2)) ((putA m k d).map (·.2)) := by
  unfold putK putA
  rw [kv_any k e]
  by_cases c : (m.any fun kv => decide (kv.1 = k)) = true
  · rw [if_pos c, if_pos c]
    exact kv_map k h e r
  · rw [if_neg c, if_neg c]
    simp only [List.map_append, List.map_cons, List.map_nil]
    exact ⟨by rw [e], r.app (.cons h .nil)⟩
end
def keyD {κ : Type} : D κ → Option Key
  | .int i => some (.inl i)
  | .str x => some (.inr x)
  | _ => none
def keysD {κ : Type} : List (D κ) → Option (List Key)
  | [] => some []
  | d :: ds => match keyD d, keysD ds with
    | some k, some ks => some (k :: ks)
    | _, _ => none
theorem keyD_rp {w : Z.W} {G : Hp} {v : V} {d : D Z.κ} {k : Key} (e : keyD d = some k) (r : Rp Z w G v d) : v = kV k := by
  cases r <;> simp [keyD] at e <;> subst e <;> rfl
theorem keysD_rp {w : Z.W} {G : Hp} : ∀ {ds : List (D Z.κ)} {ks : List Key} {vs : List V}, keysD ds = some ks → RpA Z w G vs ds → vs = ks.map kV
  | [], ks, vs, e, r => by
    simp [keysD] at e
    subst e
    cases r
    rfl
  | d :: ds, ks, vs, e, r => by
    cases q : keyD d with
    | none => simp [keysD, q] at e
    | some a =>
      cases q2 : keysD ds with
      | none => simp [keysD, q, q2] at e
      | some b =>
        simp [keysD, q, q2] at e
        subst e
        cases r with
        | cons r1 r2 => rw [keyD_rp q r1, keysD_rp q2 r2] <;> rfl
/-- a key of a dict -/
def semDk {κ : Type} (d e : D κ) (P : Option (D κ) → Prop) : Prop :=
  (∃ m k, d = (mkd m).dat ∧ keyD e = some k ∧ P (getA m k)) ∨ ∃ m ts k, d = (mkt m).dat ∧ e = .ktup ts ∧ keysD ts = some k ∧ P (getA m k)
theorem Vw.dik {w : Z.W} {G H : Hp} {x : V} {ks : List Key} {xs : List (D Z.κ)} (s : Same G H) (h : Vw Z w G H x (.dik ks xs)) : ∃ a kvs, x = .ref a ∧ H a = some (.dK kvs) ∧ kvs.map (·.1) = ks ∧ RpA Z w G (kvs.map (·.2)) xs := by
  rcases h with r | ⟨p, c, e1, e2, oc⟩
  · cases r with
    | dik h1 h2 h3 => exact ⟨_, _, rfl, s _ _ h1, h2, h3⟩
  · cases c with
    | dik ys zs =>
      obtain ⟨vs, e, e3, r⟩ := oc
      simp only [OC.dat, D.dik.injEq] at e2
      obtain ⟨rfl, rfl⟩ := e2
      exact ⟨_, vs, e1, e, e3, r⟩
    | lst xs => simp [OC.dat] at e2
    | dit a b => simp [OC.dat] at e2
theorem Vw.dit {w : Z.W} {G H : Hp} {x : V} {ks : List (List Key)} {xs : List (D Z.κ)} (s : Same G H) (h : Vw Z w G H x (.dit ks xs)) : ∃ a kvs, x = .ref a ∧ H a = some (.dT kvs) ∧ kvs.map (·.1) = ks ∧ RpA Z w G (kvs.map (·.2)) xs := by
  rcases h with r | ⟨p, c, e1, e2, oc⟩
  · cases r with
    | dit h1 h2 h3 => exact ⟨_, _, rfl, s _ _ h1, h2, h3⟩
  · cases c with
    | dit ys zs =>
      obtain ⟨vs, e, e3, r⟩ := oc
      simp only [OC.dat, D.dit.injEq] at e2
      obtain ⟨rfl, rfl⟩ := e2
      exact ⟨_, vs, e1, e, e3, r⟩
    | lst xs => simp [OC.dat] at e2
    | dik a b => simp [OC.dat] at e2
theorem vw_key {w : Z.W} {G H : Hp} {v : V} {d : D Z.κ} {k : Key} (e : keyD d = some k) (r : Vw Z w G H v d) : v = kV k := by
  rcases r with r | ⟨p, c, _, e2, _⟩
  · exact keyD_rp e r
  · cases c <;> simp [OC.dat] at e2 <;> subst e2 <;> simp [keyD] at e
theorem dget_vw {w : Z.W} {G H : Hp} {x y : V} {d e : D Z.κ} {P : Option (D Z.κ) → Prop} (s : Same G H) (hx : Vw Z w G H x d) (hy : Vw Z w G H y e) (h : semDk d e P) :
    ∃ a o od, x = .ref a ∧ DGet H a y o ∧ P od ∧ match od with | some d' => ∃ v, o = some v ∧ Rp Z w G v d' | none => o = none := by
  rcases h with ⟨m, k, rfl, ek, hp⟩ | ⟨m, ts, k, rfl, rfl, ek, hp⟩
  · obtain ⟨a, kvs, rfl, ha, e1, r⟩ := Vw.dik s hx
    have ey := vw_key ek hy
    subst ey
    refine ⟨a, _, getA m k, rfl, DGet.k ha, hp, ?_⟩
    exact kv_get k e1 r
  · obtain ⟨a, kvs, rfl, ha, e1, r⟩ := Vw.dit s hx
    obtain ⟨b, vs, rfl, hb, r2⟩ := hy.ktup s
    rw [keysD_rp ek r2] at hb
    refine ⟨a, _, getA m k, rfl, DGet.t ha hb, hp, ?_⟩
    exact kv_get k e1 r
section
variable {τ : List (SL Z.κ)} {P : PE' Z.κ} {td ty tv te : TE} {D1 : DEnd Z.κ}
def rDGet : R2 := fun x y H Q => ∃ a v, x = .ref a ∧ DGet H a y (some v) ∧ Q v H
def semDGet {κ : Type} : Sem2 κ := fun d e P => semDk d e fun o => ∃ y, o = some y ∧ P (.v y)
theorem bs_dget : BS2 Z rDGet semDGet := fun w G H x y dx dy Q P s hx hy h k => by
  obtain ⟨a, o, od, rfl, hg, ⟨yd, rfl, hp⟩, v, rfl, r⟩ := dget_vw s hx hy h
  exact ⟨a, v, rfl, hg, k _ _ _ hp (.same r)⟩
theorem de_dget (h : DE Z td τ fun r1 τ1 => DE Z ty τ1 fun r2 τ2 => semDGet (vw τ2 (fz r1)) (vw τ2 (fz r2)) fun e => P e τ2) : DE Z (tDGet td ty) τ P := de_op (r := rDGet) bs_dget h
def rDIn (neg : Bool) : R2 := fun y x H Q => ∃ a o, x = .ref a ∧ DGet H a y o ∧ Q (.bl (if neg then !o.isSome else o.isSome)) H
def semDIn {κ : Type} (neg : Bool) : Sem2 κ := fun e d P => semDk d e fun o => P (.v (.bl (if neg then !o.isSome else o.isSome)))
theorem bs_din (neg : Bool) : BS2 Z (rDIn neg) (semDIn neg) := fun w G H y x dy dx Q P s hy hx h k => by
  obtain ⟨a, o, od, rfl, hg, hp, e⟩ := dget_vw s hx hy h
  have : o.isSome = od.isSome := by
    cases od with
    | none => rw [show o = none from e] <;> rfl
    | some d' => obtain ⟨v, rfl, _⟩ := e; rfl
  refine ⟨a, o, rfl, hg, ?_⟩
  rw [this]
  exact k _ _ _ hp (.same (.bl _))
theorem de_din (h : DE Z ty τ fun r1 τ1 => DE Z td τ1 fun r2 τ2 => semDIn false (vw τ2 (fz r1)) (vw τ2 (fz r2)) fun e => P e τ2) : DE Z (tDIn ty td) τ P := de_op (r := rDIn false) (bs_din false) h
theorem de_dnotin (h : DE Z ty τ fun r1 τ1 => DE Z td τ1 fun r2 τ2 => semDIn true (vw τ2 (fz r1)) (vw τ2 (fz r2)) fun e => P e τ2) : DE Z (tDNotIn ty td) τ P := de_op (r := rDIn true) (bs_din true) h
/-- slot i's dict takes d at the key e -/
def semPut {κ : Type} (τ : List (SL κ)) (i : Nat) (e d : D κ) (P : List (SL κ) → Prop) : Prop :=
  (∃ p m k, τ[i]? = some (.own p (mkd m)) ∧ keyD e = some k ∧ m.length < 100000 ∧ P (τ.set i (.own p (mkd (putA m k d))))) ∨
  ∃ p m ts k, τ[i]? = some (.own p (mkt m)) ∧ e = .ktup ts ∧ keysD ts = some k ∧ m.length < 100000 ∧ P (τ.set i (.own p (mkt (putA m k d))))
theorem dx_dput {i : Nat} (h : DE Z tv τ fun r1 τ1 => ∃ d, fz r1 = .v d ∧ (∃ p c, τ1[i]? = some (.own p c)) ∧ DE Z ty τ1 fun r2 τ2 => semPut τ2 i (vw τ2 (fz r2)) d D1.nx) : DX Z (sDPut (tVar i) ty tv) τ D1 := fun H0 w σ H Dc R a b c dd => by
  refine h H0 w [] σ H _ R fun r1 τ1 x w1 H1 h1 n1 q1 => ?_
  obtain ⟨R1, v1, s1⟩ := q1.fz
  obtain ⟨d, ed, ⟨p, oc, ep⟩, h1⟩ := h1
  rw [ed] at v1
  obtain ⟨o, eo, rfl, hoc⟩ := Paired.at R1.sl ep
  refine ⟨_, eo, ?_⟩
  refine h1 H0 w1 [] σ H1 _ R1 fun r2 τ2 y w2 H2 h2 n2 q2 => ?_
  obtain ⟨R2, v2, s2⟩ := q2.fz
  have n12 : Nxt Z w1 w2 (Gd Z w1 [] τ1 H1) (Gd Z w2 [] τ2 H2) τ1 τ2 := ⟨n2.le, n2.sm.trans s2, n2.sh⟩
  obtain ⟨oc2, ep2⟩ := n12.sh i p oc ep
  obtain ⟨o2, eo2, e2, hoc2⟩ := Paired.at R2.sl ep2
  have vx : Rp Z w2 (Gd Z w2 [] τ2 H2) x d := v1.nxt n12
  have vy := v2.view R2
  rcases h2 with ⟨p', m, k, e3, ek, hl, hn⟩ | ⟨p', m, ts, k, e3, e4, ek, hl, hn⟩
  · rw [ep2] at e3
    cases e3
    obtain ⟨kvs, hk, e5, r⟩ := hoc2
    have ey := vw_key ek vy
    subst ey
    have kl : kvs.length = m.length := by have := congrArg List.length e5; simpa using this
    refine ⟨p, _, rfl, DPut.k hk (small_lt (by omega)), ?_⟩
    obtain ⟨h5, h6⟩ := kv_put k vx e5 r
    obtain ⟨R3, _⟩ := R2.mut ep2 (H' := upd H2 p (.dK (putK kvs k x))) (c' := mkd (putA m k d)) ⟨_, upd_same, h5, h6⟩ fun a ha => upd_ne ha
    exact a _ σ w2 _ hn (Z.trans n1.le n12.le) R3
  · rw [ep2] at e3
    cases e3
    obtain ⟨kvs, hk, e5, r⟩ := hoc2
    rw [e4] at vy
    obtain ⟨b', vs, rfl, hb, r2⟩ := vy.ktup hide_le
    rw [keysD_rp ek r2] at hb
    have kl : kvs.length = m.length := by have := congrArg List.length e5; simpa using this
    refine ⟨p, _, rfl, DPut.t hk hb (small_lt (by omega)), ?_⟩
    obtain ⟨h5, h6⟩ := kv_put k vx e5 r
    obtain ⟨R3, _⟩ := R2.mut ep2 (H' := upd H2 p (.dT (putK kvs k x))) (c' := mkt (putA m k d)) ⟨_, upd_same, h5, h6⟩ fun a ha => upd_ne ha
    exact a _ σ w2 _ hn (Z.trans n1.le n12.le) R3
end
/-! ### methods of a slot's list -/
/-- a method that changes the list -/
def BML (Z : Wrl K) (r : V → List V → Hp → VK → Prop) (sem : List (D Z.κ) → List (D Z.κ) → (D Z.κ → List (D Z.κ) → Prop) → Prop) : Prop :=
  ∀ (w : Z.W) (G H : Hp) (p : Addr) (vs us : List V) (xs ds : List (D Z.κ)) (Q : VK) (P : D Z.κ → List (D Z.κ) → Prop), Same G H → H p = some (.lst vs) → RpA Z w G vs xs → Paired (Vw Z w G H) us ds → sem xs ds P →
  (∀ v y xs' vs', P y xs' → Rp Z w G v y → RpA Z w G vs' xs' → Q v (upd H p (.lst vs'))) → r (.ref p) us H Q
section
variable {τ : List (SL Z.κ)} {P : PE' Z.κ} {te : TE} {tr : TA}
theorem de_ml {i : Nat} {r : V → List V → Hp → VK → Prop} {sem : List (D Z.κ) → List (D Z.κ) → (D Z.κ → List (D Z.κ) → Prop) → Prop} (hr : BML Z r sem) (h0 : ∃ p xs, τ[i]? = some (.own p (.lst xs)))
    (h : DA Z tr τ fun rs τ1 => ∃ p xs, τ1[i]? = some (.own p (.lst xs)) ∧ sem xs (rs.map (vw τ1)) fun y xs' => P (.v y) (τ1.set i (.own p (.lst xs')))) : DE Z (tBM K "list" r (tVar i) tr) τ P := fun H0 w E σ H Q R c => by
  obtain ⟨p, xs, ep⟩ := h0
  obtain ⟨o, eo, rfl, hoc⟩ := Paired.at R.sl ep
  obtain ⟨vs, hv, rv⟩ := hoc
  refine ⟨_, eo, Or.inl ⟨rfl, _, Or.inl (Or.inl hv)⟩, ?_⟩
  refine h H0 w E σ H _ R fun rs τ1 us w1 H1 h1 n1 R1 va => ?_
  obtain ⟨p', xs', ep', h1⟩ := h1
  obtain ⟨c', e'⟩ := n1.sh i p _ ep
  rw [ep'] at e'
  cases e'
  obtain ⟨o2, eo2, e2, vs2, hv2, rv2⟩ := Paired.at R1.sl ep'
  refine hr w1 (Gd Z w1 E τ1 H1) H1 p vs2 us xs' _ Q _ hide_le hv2 rv2 (RVs.views R1 va) h1 fun v y ys ws hp hy hw => ?_
  obtain ⟨R2, eg⟩ := R1.mut ep' (H' := upd H1 p (.lst ws)) (c' := .lst ys) ⟨ws, upd_same, hw⟩ fun a ha => upd_ne ha
  refine c _ _ v w1 _ hp ⟨n1.le, ?_, ?_⟩ ⟨R2, ?_⟩
  · show Same (Gd Z w E τ H) (Gd Z w1 E (τ1.set i (.own p (.lst ys))) (upd H1 p (.lst ws)))
    rw [eg]
    exact n1.sm
  · refine n1.sh.trans fun j q oc e => ?_
    by_cases z : i = j
    · subst z
      rw [ep'] at e
      cases e
      exact ⟨_, List.getElem?_set_self (List.getElem?_eq_some_iff.mp ep').1⟩
    · exact ⟨oc, by rw [List.getElem?_set_ne z]; exact e⟩
  · rw [eg]
    exact hy
end
/-- the object that goes in is data -/
theorem bm_pop : BML Z (fun x us H Q => ∃ l xs i k y, x = V.ref l ∧ us = [.int i] ∧ H l = some (.lst xs) ∧ -(2 ^ 63) ≤ i ∧ i < 2 ^ 63 ∧ seqIndex? i xs.length = some k ∧ xs[k]? = some y ∧ Q y (upd H l (.lst (xs.eraseIdx k))))
    (fun xs ds P => ∃ i k y, ds = [.int i] ∧ -(2 ^ 62) ≤ i ∧ i < 2 ^ 62 ∧ seqIndex? i xs.length = some k ∧ xs[k]? = some y ∧ P y (xs.eraseIdx k)) := fun w G H p vs us xs ds Q P s hv rv hu ⟨i, k, y, e, h1, h2, h3, h4, h5⟩ c => by
  subst e
  cases hu with
  | cons u1 t =>
    cases t
    obtain ⟨v, e1, r1⟩ := rv.getD (i := k) (d := y) h4
    exact ⟨p, vs, i, k, v, rfl, by rw [u1.int], hv, by omega, by omega, by rw [rv.length]; exact h3, e1, c v y _ _ h5 r1 (rv.erase k)⟩
section
variable {τ : List (SL Z.κ)} {P : PE' Z.κ} {te : TE} {tr : TA}
/-- slot i's list takes one item -/
theorem de_append {i : Nat} (h0 : ∃ p xs, τ[i]? = some (.own p (.lst xs))) (h : DE Z te τ fun r τ1 => ∃ p xs d, τ1[i]? = some (.own p (.lst xs)) ∧ fz r = .v d ∧ xs.length < 100000 ∧ P (.v .non) (τ1.set i (.own p (.lst (xs ++ [d]))))) :
    DE Z (tBM K "list" rAppend (tVar i) (tCons te tNil)) τ P := fun H0 w E σ H Q R c => by
  obtain ⟨p, xs, ep⟩ := h0
  obtain ⟨o, eo, rfl, hoc⟩ := Paired.at R.sl ep
  obtain ⟨vs, hv, rv⟩ := hoc
  refine ⟨_, eo, Or.inl ⟨rfl, _, Or.inl (Or.inl hv)⟩, ?_⟩
  refine h H0 w E σ H _ R fun r τ1 x w1 H1 h1 n1 q1 => ?_
  obtain ⟨R1, v1, s1⟩ := q1.fz
  obtain ⟨p', xs', d, ep', ed, hl, hp⟩ := h1
  rw [ed] at v1
  obtain ⟨c', e'⟩ := n1.sh i p _ ep
  rw [ep'] at e'
  cases e'
  obtain ⟨o2, eo2, e2, vs2, hv2, rv2⟩ := Paired.at R1.sl ep'
  have lv : vs2.length < sizeLine := small_lt (by rw [rv2.length]; exact hl)
  refine ⟨p, vs2, x, rfl, rfl, hv2, lv, ?_⟩
  obtain ⟨R2, eg⟩ := R1.mut ep' (H' := upd H1 p (.lst (vs2 ++ [x]))) (c' := .lst (xs' ++ [d])) ⟨_, upd_same, rv2.app (.cons v1 .nil)⟩ fun a ha => upd_ne ha
  refine c _ _ .non w1 _ hp ⟨n1.le, ?_, ?_⟩ ⟨R2, .non⟩
  · show Same (Gd Z w E τ H) (Gd Z w1 E (τ1.set i (.own p (.lst (xs' ++ [d])))) (upd H1 p (.lst (vs2 ++ [x]))))
    rw [eg]
    exact n1.sm.trans s1
  · refine n1.sh.trans fun j q oc e => ?_
    by_cases z : i = j
    · subst z
      rw [ep'] at e
      cases e
      exact ⟨_, List.getElem?_set_self (List.getElem?_eq_some_iff.mp ep').1⟩
    · exact ⟨oc, by rw [List.getElem?_set_ne z]; exact e⟩
/-- slot i's list takes the items of a list -/
theorem de_extend {i : Nat} (h0 : ∃ p xs, τ[i]? = some (.own p (.lst xs))) (h : DE Z te τ fun r τ1 => ∃ p xs ys, τ1[i]? = some (.own p (.lst xs)) ∧ fz r = .v (.lst ys) ∧ xs.length + ys.length ≤ 100000 ∧ P (.v .non) (τ1.set i (.own p (.lst (xs ++ ys))))) :
    DE Z (tBM K "list" rExtend (tVar i) (tCons te tNil)) τ P := fun H0 w E σ H Q R c => by
  obtain ⟨p, xs, ep⟩ := h0
  obtain ⟨o, eo, rfl, hoc⟩ := Paired.at R.sl ep
  obtain ⟨vs, hv, rv⟩ := hoc
  refine ⟨_, eo, Or.inl ⟨rfl, _, Or.inl (Or.inl hv)⟩, ?_⟩
  refine h H0 w E σ H _ R fun r τ1 x w1 H1 h1 n1 q1 => ?_
  obtain ⟨R1, v1, s1⟩ := q1.fz
  obtain ⟨p', xs', ys, ep', ed, hl, hp⟩ := h1
  rw [ed] at v1
  obtain ⟨c', e'⟩ := n1.sh i p _ ep
  rw [ep'] at e'
  cases e'
  obtain ⟨o2, eo2, e2, vs2, hv2, rv2⟩ := Paired.at R1.sl ep'
  cases v1 with
  | @lst _ us _ hb rb =>
    have lv : vs2.length + us.length ≤ sizeLine := small_line (by rw [rv2.length, rb.length]; exact hl)
    refine ⟨p, _, vs2, us, rfl, rfl, hv2, hide_le _ _ hb, lv, ?_⟩
    obtain ⟨R2, eg⟩ := R1.mut ep' (H' := upd H1 p (.lst (vs2 ++ us))) (c' := .lst (xs' ++ ys)) ⟨_, upd_same, rv2.app rb⟩ fun a ha => upd_ne ha
    refine c _ _ .non w1 _ hp ⟨n1.le, ?_, ?_⟩ ⟨R2, .non⟩
    · show Same (Gd Z w E τ H) (Gd Z w1 E (τ1.set i (.own p (.lst (xs' ++ ys)))) (upd H1 p (.lst (vs2 ++ _))))
      rw [eg]
      exact n1.sm.trans s1
    · refine n1.sh.trans fun j q oc e => ?_
      by_cases z : i = j
      · subst z
        rw [ep'] at e
        cases e
        exact ⟨_, List.getElem?_set_self (List.getElem?_eq_some_iff.mp ep').1⟩
      · exact ⟨oc, by rw [List.getElem?_set_ne z]; exact e⟩
end
section
variable {τ : List (SL Z.κ)} {P : PE' Z.κ} {te : TE} {tr : TA}
/-- slot i's list of ints loses one that is there -/
theorem de_remX {i : Nat} {W : WX} (h0 : ∃ p xs, τ[i]? = some (.own p (.lst xs))) (h : DE Z te τ fun r τ1 => ∃ (p : Addr) (ns : List Int) (k : Int), τ1[i]? = some (.own p (.lst (ns.map .int))) ∧ r = .v (.int k) ∧ k ∈ ns ∧ P (.v .non) (τ1.set i (.own p (.lst ((ns.erase k).map .int))))) :
    DE Z (tRemX K W (tVar i) te) τ P := fun H0 w E σ H Q R c => by
  obtain ⟨p, xs, ep⟩ := h0
  obtain ⟨o, eo, rfl, hoc⟩ := Paired.at R.sl ep
  obtain ⟨vs, hv, rv⟩ := hoc
  refine ⟨_, eo, Or.inl ⟨rfl, _, Or.inl (Or.inl hv)⟩, ?_⟩
  refine h H0 w E σ H _ R fun r τ1 x w1 H1 h1 n1 q1 => ?_
  obtain ⟨p', ns, k, ep', er, hk, hp⟩ := h1
  subst er
  have ex : x = .int k := by cases q1.2; rfl
  have R1 := q1.1
  obtain ⟨c', e'⟩ := n1.sh i p _ ep
  rw [ep'] at e'
  cases e'
  obtain ⟨o2, eo2, e2, vs2, hv2, rv2⟩ := Paired.at R1.sl ep'
  rw [rp_ints rv2] at hv2
  refine ⟨p, ns, k, rfl, ex, hv2, fun _ => ?_, fun z => absurd hk z⟩
  obtain ⟨R2, eg⟩ := R1.mut ep' (H' := upd H1 p (.lst ((ns.erase k).map V.int))) (c' := .lst ((ns.erase k).map .int)) ⟨_, upd_same, ints_rp⟩ fun a ha => upd_ne ha
  refine c _ _ .non w1 _ hp ⟨n1.le, ?_, ?_⟩ ⟨R2, .non⟩
  · show Same (Gd Z w E τ H) (Gd Z w1 E (τ1.set i (.own p (.lst ((ns.erase k).map .int)))) (upd H1 p (.lst ((ns.erase k).map V.int))))
    rw [eg]
    exact n1.sm
  · refine n1.sh.trans fun j q oc e => ?_
    by_cases z : i = j
    · subst z
      rw [ep'] at e
      cases e
      exact ⟨_, List.getElem?_set_self (List.getElem?_eq_some_iff.mp ep').1⟩
    · exact ⟨oc, by rw [List.getElem?_set_ne z]; exact e⟩
end
end DL
set_option Elab.async false
set_option linter.all false
set_option maxRecDepth 100000
/-! DL8: zip, enumerate, several targets at once, dict comprehensions. -/
namespace DL
open PySem PySem.Spec PyProof.Rows L2
variable {K : PySem.W.Frag} {Z : Wrl K}
/-! ### a list or a tuple, walked -/
section
variable {X : Cx} {tg l e : Expr} {tl : TE}
theorem pi_sq (hl : PE X l tl) : PI X tg l (iSq X.K tl) := by
  refine ⟨fun pins s σ H R I h => ?_⟩
  refine thn (hl.run pins s σ H _ I h) fun v s1 ⟨x, H1, I1, r1, q1⟩ => ?_
  have fp : ∀ b ∈ [s1.heap.objs.size], FpOk X pins H1 b := fun b hb => by
    rw [List.mem_singleton.mp hb]
    exact I1.fpOk (Nat.le_refl _) (I1.hok.fresh (Nat.le_refl _))
  obtain ⟨a, rfl, ⟨⟨xs, hq⟩, q⟩ | ⟨⟨xs, hq⟩, q⟩⟩ := q1 <;> cases r1
  · obtain ⟨its, rv, p, hz⟩ := I1.list hq
    exact wpAny_pyIter_list p.isList ⟨_, _, _, _, H1, rfl, I1.kept (t' := s1.toks) fun b o e => Heap.get?_push_of_some _ e, turn_list a _, ⟨_, Heap.get?_push_size _ rfl, rfl, rfl⟩, fp, q⟩
  · obtain ⟨its, rv, p, hz⟩ := I1.tuple hq
    exact wpAny_pyIter_tuple (show s1.heap.IsTuple a its.toArray from p) ⟨_, _, _, _, H1, rfl, I1.kept (t' := s1.toks) fun b o e => Heap.get?_push_of_some _ e, turn_tuple a _, ⟨_, Heap.get?_push_size _ rfl, rfl, rfl⟩, fp, q⟩
end
/-! ### enumerate of a tuple -/
theorem enum_newT (l : Addr) (items : Array Value) (n : Nat) (dct : Option Addr) (sl : Array (Option Value)) :
    Meets (Builtin.«enumerate.__new__» ⟨[.type "enumerate", .ref l], []⟩) (fun _ R s => s.heap.get? l = some { cls := .type "tuple", dict := dct, data := .seq items n, slots := sl } ∧
      R (.ok (.ret (.ref (s.heap.objs.size + 1))))
        { s with heap := (s.heap.push { cls := .type "tuple_iterator", data := .fields #[.ref l, .int 0 0] }).push { cls := .type "enumerate", data := .fields #[.none, .bool false, .ref s.heap.objs.size, rawInt 0, .none, .none] } }) :=
  .of_wp fun prog w A R s ⟨hl, h⟩ => by
    obtain ⟨hp, g, d, tk, os⟩ := s
    have hsub := sub_enumerate
    have hL : Heap.IsTuple (Shared.heap ⟨hp, g, d, tk, os⟩) l items := ⟨_, hl, rfl, n, rfl⟩
    have hz : (hp.push { cls := .type "tuple_iterator", data := .fields #[.ref l, .int 0 0] }).objs.size = hp.objs.size + 1 := Heap.size_push ..
    have h' := h
    rw [show (Shared.heap ⟨hp, g, d, tk, os⟩).objs.size + 1 = (hp.push { cls := .type "tuple_iterator", data := .fields #[.ref l, .int 0 0] }).objs.size from hz.symm] at h'
    wp_walk using AutoSeq1.wpAny_loadPart' hl
    refine wpAny_stack_any fun st => wpAny_pure ?_
    split
    · rename_i c _ _ _ _ _
      cases (c == Value.type "enumerate") <;>
        (wp_walk using AutoSeq1.wpAny_loadPart' hl, wpAny_pyIter_tuple hL; exact ⟨_, rfl, h'⟩)
    · wp_walk using AutoSeq1.wpAny_loadPart' hl, wpAny_pyIter_tuple hL
      exact ⟨_, rfl, h'⟩
section
variable {prog : Program} {w : World} {A : Around} {E : Value → Shared → Prop} {s : Shared}
theorem call_enumT {l : Addr} {items : Array Value} {Q : Value → Shared → Prop} (hL : IsTup s.heap l items)
    (h : ∀ h', IsEnum h' (s.heap.objs.size + 1) s.heap.objs.size 0 .none → h'.IsTupleIter s.heap.objs.size l 0 → (∀ b o, s.heap.get? b = some o → h'.get? b = some o) → Q (.ref (s.heap.objs.size + 1)) { s with heap := h' }) :
    wpAny (model prog w) A (call (.type "enumerate") [.ref l]) Q E s := by
  obtain ⟨⟨c, dct, dt, sl⟩, hl, hc, n, hd⟩ := hL
  simp only at hc hd
  subst hc hd
  have hz : (s.heap.push { cls := .type "tuple_iterator", data := .fields #[.ref l, .int 0 0] }).objs.size = s.heap.objs.size + 1 := Heap.size_push ..
  have he := Heap.get?_push_size (s.heap.push { cls := .type "tuple_iterator", data := .fields #[.ref l, .int 0 0] }) (o := { cls := .type "enumerate", data := .fields #[.none, .bool false, .ref s.heap.objs.size, rawInt 0, .none, .none] }) rfl
  rw [hz] at he
  exact callType_new F.called_enumerate (by decide) (F.typeCall_enumerate_1 _) (F.newCall_enumerate_1 _) (fun obj => F.args_object_init_2 obj _) F.entry_enumerate_new (enum_newT l items n dct sl)
    ⟨hl, ⟨_, he, rfl⟩, h _ he ⟨_, Heap.get?_push_of_some _ (Heap.get?_push_size _ rfl), rfl, rfl⟩ fun b o x => Heap.get?_push_of_some _ (Heap.get?_push_of_some _ x)⟩
end
/-- the tuple at a, each item in a new pair -/
def IteT (K : PySem.W.Frag) (a : Addr) : It where
  go := fun i H => ∃ (xs : List V) (x : V), SqT K H a xs ∧ xs[i]? = some x
  yld := fun i H v H' => ∃ T x, v = .ref T ∧ H T = none ∧ H' = upd H T (.tup [.int (i : Nat), x]) ∧ ∀ xs, SqT K H a xs → xs[i]? = some x
  stop := fun i H => ∃ xs : List V, SqT K H a xs ∧ xs.length ≤ i
theorem turn_enumT {P : Program} {w : World} {K : PySem.W.Frag} {elts : List Expr} {kk : Nat} {tpos : Pos} (a e it : Addr) :
    Turn P w K (.Tuple elts kk tpos) (IteT K a) [e, it] e (fun i h => (∃ old, IsEnum h e it ((i : Nat) : Int) old) ∧ h.IsTupleIter it a i ∧ e ≠ it ∧ a ≠ it ∧ a ≠ e) where
  mem := List.mem_cons_self
  obj := fun i h ⟨⟨old, he⟩, ⟨o, ho, hc, hd⟩, _⟩ b hb => by
    rcases List.mem_cons.mp hb with z | hb
    · rw [z]; exact ⟨_, he, fun v q => nomatch q⟩
    · rw [List.mem_singleton.mp hb]; exact ⟨o, ho, fun v q => by rw [hd] at q; cases q⟩
  keep := fun i h h' ⟨⟨old, he⟩, hi, hne⟩ k => ⟨⟨old, k e (by simp) _ he⟩, hi.at fun o q => k it (by simp) o q, hne⟩
  item := by
    rintro X rfl rfl rfl hc i pins s σ H E I hf ⟨⟨old, he⟩, hit, hne, h1, h2⟩ ⟨xs, x, hq, hx⟩
    obtain ⟨its, rv, p, hz⟩ := I.tuple hq
    obtain ⟨u, hu, ru⟩ := rv.get hx
    have hel : e < s.heap.objs.size := Heap.lt_size he
    have hil : it < s.heap.objs.size := by obtain ⟨_, q, _⟩ := hit; exact Heap.lt_size q
    have hil2 : i < its.toArray.size := by simpa using (List.getElem?_eq_some_iff.mp hu).1
    have D := Draws.tuple (prog := X.prog) (w := X.w) (A := X.A.in1) (I.ok.hd hc) it a h1 its.toArray
    refine wpAny_pyNext_enum_itemD D he ⟨hit, p⟩ hil2 hne (by simp [hne, Ne.symm h2]) fun u' h' tk hP ho hst hT hsz hk => ?_
    have eu : u' = u := by
      have z : its.toArray[i]? = some u := by simpa using hu
      rw [hP] at z
      exact Option.some.inj z
    subst eu
    refine ⟨_, rfl, wpAny_letOwnedTupleGo_enum (s := { s with heap := h', toks := tk + 1 }) ho fun h'' he' sb => ?_⟩
    have hT2 : h''.get? s.heap.objs.size = some { cls := .type "tuple", data := .seq #[.int i tk, u'] } := (sb.2 _ (Nat.ne_of_gt hel)).trans hT
    have I1 : Inv X pins σ (upd H s.heap.objs.size (.tup [.int (i : Nat), x])) { s with heap := h'', toks := tk + 1 } :=
      I.turnedNew (ch := [e, it]) (fun b ob hb q => (sb.2 b (fun z => hb (by simp [z]))).trans (hk b ob (fun z => hb (by simp [z])) (fun z => hb (by simp [z])) q)) hf (Nat.le_refl _)
        ⟨by show 2 ≤ sizeLine; decide, [.int i tk, u'], .cons ⟨_, rfl⟩ (.cons ru .nil), ⟨_, hT2, rfl, _, rfl⟩⟩
    have e1 : ((i + 1 : Nat) : Int) = (i : Int) + 1 := rfl
    refine ⟨.ref s.heap.objs.size, _, I1, rfl, ⟨_, x, rfl, I.hok.fresh (Nat.le_refl _), rfl, fun ys hy => by rw [I.tuple_inj hy hq]; exact hx⟩, ⟨⟨u', ?_⟩, hst.1.at fun o q => (sb.2 it (Ne.symm hne)).trans q, hne, h1, h2⟩, fun b hb => ?_⟩
    · rw [e1]; exact he'
    · have hb' : b < s.heap.objs.size := by
        rcases List.mem_cons.mp hb with z | hb
        · rw [z]; exact hel
        · rw [List.mem_singleton.mp hb]; exact hil
      rw [upd_ne (Nat.ne_of_lt hb')]
      exact (hf b hb).1
  done := by
    rintro X rfl rfl rfl hc i pins s σ H E I hf ⟨⟨old, he⟩, hit, hne, h1, h2⟩ ⟨xs, hq, hx⟩
    obtain ⟨its, rv, p, hz⟩ := I.tuple hq
    obtain ⟨f0, f1, f2, f3, f4, f5⟩ := hf it (by simp)
    have hl := rv.length
    have D := Draws.tuple (prog := X.prog) (w := X.w) (A := X.A.in1) (I.ok.hd hc) it a h1 (its.toArray)
    unfold pyNext
    refine wpAny_bind (wpAny_attempt (wpAny_callSpecial?_slot (name := Str.ofString "__next__") ⟨_, he, rfl⟩ PySem.F.slot_enumerate_next
      (wpAny_call_entry PySem.F.slot_enumerate_next ⟨_, he, rfl⟩ PySem.F.entry_enumerate_next ?_ (PySem.F.args_enumerate_next_1 _))))
    show wpAny _ _ (field (.ref e) 2 >>= _) _ _ _
    refine wpAny_bind (wpAny_field he rfl (x := .ref it) rfl ?_)
    refine wpAny_bind (wpAny_nextOf_tuple_end (A := X.A.in1) (I.ok.hd hc) hit p (by simp; omega) fun h' x he' ⟨o, ho, hcl⟩ => ?_)
    refine wpAny_bind (wpAny_isInstance (T := "StopIteration") (b := true) ⟨o, ho, hcl⟩ isSubtype_stop ?_)
    exact wpAny_pure ⟨rfl, I.turned (t' := s.toks) (fun b o hb q => he' b o hb q) f0 f1 f3 f4 f5⟩
  self := fun A i s Q E ⟨⟨_, he⟩, _⟩ h => wpAny_pyIter_enum he h
def iEnumA (K : PySem.W.Frag) (ta : TA) : TI := fun σ H R => ta σ H fun vs H1 => ∃ a xs, vs = [.ref a] ∧ ((SqL K H1 a xs ∧ R (Ite K a) H1) ∨ (SqT K H1 a xs ∧ R (IteT K a) H1))
theorem pi_enumA {X : Cx} {e : Expr} {ta : TA} {p pos tpos : Pos} {elts : List Expr} {kk : Nat} (hg : Gl X "enumerate") (hm : X.mg "enumerate" = none) (ha : PA X [e] ta) (hs : starEach [e] X.env = [(false, eval e X.env)] := by rfl) :
    PI X (.Tuple elts kk tpos) (.Call (.Name "enumerate" p) [e] [] pos) (iEnumA X.K ta) := by
  refine ⟨fun pins s σ H R I h => ?_⟩
  refine Call_ (ld_blt I hg hm boot_enumerate (PyProof.Rows.callWith_type1 (thn (ha.run pos pins s σ H _ I h) fun us s1 ⟨vs, H1, I1, r1, a, xs, ex, q1⟩ => ?_) hs rfl))
  subst ex
  cases r1 with
  | cons r rr =>
    cases rr
    cases r
    have fp : ∀ b ∈ [s1.heap.objs.size + 1, s1.heap.objs.size], FpOk X pins H1 b := fun b hb => by
      have hle : s1.heap.objs.size ≤ b := by
        rcases List.mem_cons.mp hb with z | hb
        · rw [z]; exact Nat.le_add_right _ _
        · rw [List.mem_singleton.mp hb]; exact Nat.le_refl _
      exact I1.fpOk hle (I1.hok.fresh hle)
    rcases q1 with ⟨hq, q⟩ | ⟨hq, q⟩
    · obtain ⟨its, rv, p', hz⟩ := I1.list hq
      exact call_enumerate_list p'.isList fun h' he hit hsz hk => wpAny_pyIter_enum he ⟨_, _, _, _, H1, rfl, I1.kept (t' := s1.toks) hk, turn_enum a (s1.heap.objs.size + 1) s1.heap.objs.size, ⟨⟨.none, he⟩, hit, Nat.succ_ne_self _⟩, fp, q⟩
    · obtain ⟨its, rv, p', hz⟩ := I1.tuple hq
      have hlt : a < s1.heap.objs.size := by obtain ⟨_, e, _⟩ := id p'; exact Heap.lt_size e
      exact call_enumT p' fun h' he hit hk => wpAny_pyIter_enum he ⟨_, _, _, _, H1, rfl, I1.kept (t' := s1.toks) hk, turn_enumT a (s1.heap.objs.size + 1) s1.heap.objs.size, ⟨⟨.none, he⟩, hit, Nat.succ_ne_self _, Nat.ne_of_lt hlt, Nat.ne_of_lt (Nat.lt_succ_of_lt hlt)⟩, fp, q⟩
end DL
set_option Elab.async false
set_option linter.all false
set_option maxRecDepth 100000
/-! DL9: zip and enumerate by items; several targets at once; dict comprehensions. -/
namespace DL
open PySem PySem.Spec PyProof.Rows L2 RZ
variable {K : PySem.W.Frag} {Z : Wrl K}
/-! ### sources -/
/-- what is walked: the value x, shown as r at w1, G1, τ1; while C holds it has these items -/
structure SrcOk (Z : Wrl K) (w1 : Z.W) (G1 : Hp) (isL : Bool) (a : Addr) (items : List (D Z.κ)) (C : Z.W → Hp → Hp → Prop) : Prop where
  at' : ∀ w G H, C w G H → ∃ vs, (if isL = true then H a = some (.lst vs) else SqT K H a vs) ∧ RpA Z w G vs items
def isLD {κ : Type} : D κ → Bool
  | .lst _ => true
  | _ => false
theorem src_of {H0 : Hp} {w1 : Z.W} {E : Pd Z.κ} {τ1 : List (SL Z.κ)} {σ : L2.St} {H1 : Hp} {x : V} {r : ER Z.κ} {items : List (D Z.κ)} {src : Option Nat} (R : Rep Z H0 w1 E τ1 σ H1) (v : RV Z w1 (Gd Z w1 E τ1 H1) τ1 x r) (e : its τ1 r = some (items, src)) :
    ∃ a C, x = .ref a ∧ SrcOk Z w1 (Gd Z w1 E τ1 H1) (isLD (vw τ1 r)) a items C ∧ C w1 (Gd Z w1 E τ1 H1) H1 ∧
      ∀ H0' w2 E2 τ2 σ2 H2, Rep Z H0' w2 E2 τ2 σ2 H2 → Z.le w1 w2 → Same (Gd Z w1 E τ1 H1) H0' → Stay src τ1 τ2 → C w2 (Gd Z w2 E2 τ2 H2) H2 := by
  cases r with
  | n p c => exact v.elim
  | v d =>
    cases d with
    | lst xs =>
      simp only [its, Option.some.injEq, Prod.mk.injEq] at e
      obtain ⟨rfl, rfl⟩ := e
      cases v with
      | lst hs ra => exact ⟨_, fun w G H => Z.le w1 w ∧ Same (Gd Z w1 E τ1 H1) G ∧ Same G H, rfl, ⟨fun w G H c => ⟨_, by show H _ = _; exact c.2.2 _ _ (c.2.1 _ _ hs), ra.mono c.1 c.2.1⟩⟩, ⟨Z.refl w1, Same.refl _, hide_le⟩, fun H0' w2 E2 τ2 σ2 H2 R2 l s _ => ⟨l, s.trans R2.fr, hide_le⟩⟩
    | tup xs =>
      simp only [its, Option.some.injEq, Prod.mk.injEq] at e
      obtain ⟨rfl, rfl⟩ := e
      cases v with
      | tup hs ra => exact ⟨_, fun w G H => Z.le w1 w ∧ Same (Gd Z w1 E τ1 H1) G ∧ Same G H, rfl, ⟨fun w G H c => ⟨_, by show SqT K H _ _; exact sqT_mono (c.2.1.trans c.2.2) hs, ra.mono c.1 c.2.1⟩⟩, ⟨Z.refl w1, Same.refl _, hide_le⟩, fun H0' w2 E2 τ2 σ2 H2 R2 l s _ => ⟨l, s.trans R2.fr, hide_le⟩⟩
    | _ => simp [its] at e
  | b i =>
    obtain ⟨p, oc, ep, rfl⟩ := v
    obtain ⟨o, _, rfl, hoc⟩ := Paired.at R.sl ep
    cases oc with
    | lst xs =>
      simp only [its, ep, Option.some.injEq, Prod.mk.injEq] at e
      obtain ⟨rfl, rfl⟩ := e
      have el : isLD (vw τ1 (.b i)) = true := by simp only [vw, ep, OC.dat, isLD]
      rw [el]
      refine ⟨p, fun w G H => OcAt Z w G H p (.lst xs), rfl, ⟨fun w G H c => c⟩, hoc, fun H0' w2 E2 τ2 σ2 H2 R2 l s st => ?_⟩
      have e2 : τ2[i]? = some (.own p (.lst xs)) := by
        have : τ2[i]? = τ1[i]? := st
        rw [this, ep]
      obtain ⟨_, _, _, oc2⟩ := Paired.at R2.sl e2
      exact oc2
    | _ => simp [its, ep] at e
def zipD {κ : Type} (xs ys : List (D κ)) : List (D κ) := List.zipWith (fun x y => .tup [x, y]) xs ys
def enuD {κ : Type} (xs : List (D κ)) : List (D κ) := xs.mapIdx fun i x => .tup [.int (i : Nat), x]
section
variable {τ : List (SL Z.κ)} {P : List (D Z.κ) → Option Nat → List (SL Z.κ) → Prop} {ta : TA}
theorem di_enum (h : DA Z ta τ fun rs τ1 => ∃ r z, rs = [r] ∧ its τ1 r = some z ∧ P (enuD z.1) z.2 τ1) : DI Z (iEnumA K ta) τ P := fun H0 w E σ H R rep c => by
  refine h H0 w E σ H _ rep fun rs τ1 xs w1 H1 hP n1 R1 v1 => ?_
  obtain ⟨r, ⟨items, src⟩, rfl, e, hP⟩ := hP
  cases v1 with
  | cons v t =>
    cases t
    obtain ⟨a, C, rfl, S, c1, hC⟩ := src_of R1 v e
    obtain ⟨vs, hv, rv⟩ := S.at' _ _ _ c1
    refine ⟨a, vs, rfl, ?_⟩
    have W : ∀ {J : It}, (∀ i w G H, i < items.length → C w G H → J.go i H) → (∀ w G H, C w G H → J.stop items.length H) →
        (∀ i w G H x H', C w G H → J.yld i H x H' → ∃ T v, x = .ref T ∧ H T = none ∧ H' = upd H T (.tup [.int (i : Nat), v]) ∧ ∀ vs, (if isLD (vw τ1 r) = true then H a = some (.lst vs) else SqT K H a vs) → vs[i]? = some v) → DWk Z J (enuD items) C := fun h1 h2 h3 => by
      refine ⟨fun i w G H hi c => h1 i w G H (by simpa [enuD] using hi) c, fun w G H c => by simpa [enuD] using h2 w G H c, fun i w G H x H' hi c y => ?_⟩
      obtain ⟨T, v, rfl, hT, rfl, hv⟩ := h3 i w G H x H' c y
      obtain ⟨vs, hvs, rv⟩ := S.at' _ _ _ c
      obtain ⟨d, e1, e2⟩ := rv.get (hv vs hvs)
      refine ⟨.tup [.int (i : Nat), d], by simp [enuD, e1], .tup hT (.cons (.int _) (.cons e2 .nil))⟩
    cases hl : isLD (vw τ1 r) with
    | true =>
      rw [hl] at S hv W
      simp only [if_true] at hv W
      refine .inl ⟨SqL.of hv, c _ _ src τ1 w1 H1 C hP n1 R1 (W (fun i w G H hi c => ?_) (fun w G H c => ?_) fun i w G H x H' c y => ?_) hC⟩
      · obtain ⟨us, hu, ru⟩ := S.at' _ _ _ c
        have hi' : i < us.length := by rw [ru.length]; exact hi
        exact ⟨us, us[i], SqL.of hu, List.getElem?_eq_getElem hi'⟩
      · obtain ⟨us, hu, ru⟩ := S.at' _ _ _ c
        exact ⟨us, SqL.of hu, by rw [ru.length]; exact Nat.le_refl _⟩
      · obtain ⟨T, v, e1, e2, e3, e4⟩ := y
        exact ⟨T, v, e1, e2, e3, fun us hu => e4 us (SqL.of hu)⟩
    | false =>
      rw [hl] at S hv W
      simp only [Bool.false_eq_true, if_false] at hv W
      refine .inr ⟨hv, c _ _ src τ1 w1 H1 C hP n1 R1 (W (fun i w G H hi c => ?_) (fun w G H c => ?_) fun i w G H x H' c y => ?_) hC⟩
      · obtain ⟨us, hu, ru⟩ := S.at' _ _ _ c
        have hi' : i < us.length := by rw [ru.length]; exact hi
        exact ⟨us, us[i], hu, List.getElem?_eq_getElem hi'⟩
      · obtain ⟨us, hu, ru⟩ := S.at' _ _ _ c
        exact ⟨us, hu, by rw [ru.length]; exact Nat.le_refl _⟩
      · obtain ⟨T, v, e1, e2, e3, e4⟩ := y
        exact ⟨T, v, e1, e2, e3, fun us hu => e4 us (hu)⟩
theorem stay_or {κ : Type} {a b : Option Nat} {τ τ' : List (SL κ)} (h : a = none ∨ b = none) (s : Stay (a.or b) τ τ') : Stay a τ τ' ∧ Stay b τ τ' := by
  cases a with
  | none => exact ⟨trivial, s⟩
  | some k =>
    cases b with
    | none => exact ⟨s, trivial⟩
    | some j => rcases h with h | h <;> cases h
theorem di_zip (h : DA Z ta τ fun rs τ1 => ∃ r s z y, rs = [r, s] ∧ its τ1 r = some z ∧ its τ1 s = some y ∧ isLD (vw τ1 r) = isLD (vw τ1 s) ∧ (z.2 = none ∨ y.2 = none) ∧ P (zipD z.1 y.1) (z.2.or y.2) τ1) : DI Z (iZipA K ta) τ P := fun H0 w E σ H R rep c => by
  refine h H0 w E σ H _ rep fun rs τ1 xs w1 H1 hP n1 R1 v1 => ?_
  obtain ⟨r, s, ⟨items, src⟩, ⟨items2, src2⟩, rfl, e, e2, ek, hsrc, hP⟩ := hP
  cases v1 with
  | cons v t =>
    cases t with
    | cons v' t =>
      cases t
      obtain ⟨a, C, rfl, S, c1, hC⟩ := src_of R1 v e
      obtain ⟨b, C2, rfl, S2, c2, hC2⟩ := src_of R1 v' e2
      obtain ⟨vs, hv, rv⟩ := S.at' _ _ _ c1
      obtain ⟨us, hu, ru⟩ := S2.at' _ _ _ c2
      refine ⟨a, b, vs, us, rfl, ?_⟩
      have hCC : ∀ H0' w2 E2 τ2 σ2 H2, Rep Z H0' w2 E2 τ2 σ2 H2 → Z.le w1 w2 → Same (Gd Z w1 E τ1 H1) H0' → Stay (src.or src2) τ1 τ2 → (fun w G H => C w G H ∧ C2 w G H) w2 (Gd Z w2 E2 τ2 H2) H2 := fun H0' w2 E2 τ2 σ2 H2 R2 l sm st => by
        obtain ⟨st1, st2⟩ := stay_or hsrc st
        exact ⟨hC H0' w2 E2 τ2 σ2 H2 R2 l sm st1, hC2 H0' w2 E2 τ2 σ2 H2 R2 l sm st2⟩
      have lz : (zipD items items2).length = min items.length items2.length := List.length_zipWith
      have W : ∀ {J : It}, (∀ i w G H, i < items.length → i < items2.length → C w G H ∧ C2 w G H → J.go i H) → (∀ i w G H, items.length ≤ i ∨ items2.length ≤ i → C w G H ∧ C2 w G H → J.stop i H) →
          (∀ i w G H x H', C w G H ∧ C2 w G H → J.yld i H x H' → ∃ T v u, x = .ref T ∧ H T = none ∧ H' = upd H T (.tup [v, u]) ∧ (∀ vs, (if isLD (vw τ1 s) = true then H a = some (.lst vs) else SqT K H a vs) → vs[i]? = some v) ∧
            ∀ vs, (if isLD (vw τ1 s) = true then H b = some (.lst vs) else SqT K H b vs) → vs[i]? = some u) → DWk Z J (zipD items items2) fun w G H => C w G H ∧ C2 w G H := fun h1 h2 h3 => by
        refine ⟨fun i w G H hi c => h1 i w G H (by rw [lz] at hi; omega) (by rw [lz] at hi; omega) c, fun w G H c => h2 _ w G H (by rw [lz]; omega) c, fun i w G H x H' hi c y => ?_⟩
        obtain ⟨T, v, u, rfl, hT, rfl, hv, hu⟩ := h3 i w G H x H' c y
        obtain ⟨vs, hvs, rv⟩ := S.at' _ _ _ c.1
        obtain ⟨us, hus, ru⟩ := S2.at' _ _ _ c.2
        rw [ek] at hvs
        obtain ⟨d, e1, e2⟩ := rv.get (hv vs hvs)
        obtain ⟨d', e3, e4⟩ := ru.get (hu us hus)
        exact ⟨.tup [d, d'], by simp [zipD, List.getElem?_zipWith, e1, e3], .tup hT (.cons e2 (.cons e4 .nil))⟩
      rw [ek] at S hv
      cases hl : isLD (vw τ1 s) with
      | true =>
        rw [hl] at S S2 hv hu W
        simp only [if_true] at hv hu W
        refine .inl ⟨SqL.of hv, SqL.of hu, c _ _ _ τ1 w1 H1 _ hP n1 R1 (W (fun i w G H hi hj c => ?_) (fun i w G H hi c => ?_) fun i w G H x H' c y => ?_) hCC⟩
        · obtain ⟨us, hu, ru⟩ := S.at' _ _ _ c.1
          obtain ⟨vs, hv, rv⟩ := S2.at' _ _ _ c.2
          have hi' : i < us.length := by rw [ru.length]; exact hi
          have hj' : i < vs.length := by rw [rv.length]; exact hj
          exact ⟨us, vs, us[i], vs[i], SqL.of hu, SqL.of hv, List.getElem?_eq_getElem hi', List.getElem?_eq_getElem hj'⟩
        · obtain ⟨us, hu, ru⟩ := S.at' _ _ _ c.1
          obtain ⟨vs, hv, rv⟩ := S2.at' _ _ _ c.2
          exact ⟨us, vs, SqL.of hu, SqL.of hv, by rw [ru.length, rv.length]; exact hi⟩
        · obtain ⟨T, v, u, e1, e2, e3, e4, e5⟩ := y
          exact ⟨T, v, u, e1, e2, e3, fun us hu => e4 us (SqL.of hu), fun us hu => e5 us (SqL.of hu)⟩
      | false =>
        rw [hl] at S S2 hv hu W
        simp only [Bool.false_eq_true, if_false] at hv hu W
        refine .inr ⟨hv, hu, c _ _ _ τ1 w1 H1 _ hP n1 R1 (W (fun i w G H hi hj c => ?_) (fun i w G H hi c => ?_) fun i w G H x H' c y => ?_) hCC⟩
        · obtain ⟨us, hu, ru⟩ := S.at' _ _ _ c.1
          obtain ⟨vs, hv, rv⟩ := S2.at' _ _ _ c.2
          have hi' : i < us.length := by rw [ru.length]; exact hi
          have hj' : i < vs.length := by rw [rv.length]; exact hj
          exact ⟨us, vs, us[i], vs[i], hu, hv, List.getElem?_eq_getElem hi', List.getElem?_eq_getElem hj'⟩
        · obtain ⟨us, hu, ru⟩ := S.at' _ _ _ c.1
          obtain ⟨vs, hv, rv⟩ := S2.at' _ _ _ c.2
          exact ⟨us, vs, hu, hv, by rw [ru.length, rv.length]; exact hi⟩
        · obtain ⟨T, v, u, e1, e2, e3, e4, e5⟩ := y
          exact ⟨T, v, u, e1, e2, e3, fun us hu => e4 us (hu), fun us hu => e5 us (hu)⟩
end
/-! ### several values, new objects kept -/
def pn {κ : Type} : ER κ → Pd κ
  | .n p c => [(p, c)]
  | _ => []
def pnd {κ : Type} : List (ER κ) → Pd κ
  | [] => []
  | r :: rs => pnd rs ++ pn r
def RVo (w : Z.W) (G : Hp) (x : V) : ER Z.κ → Prop
  | .v d => Rp Z w G x d
  | .n p _ => x = .ref p
  | .b _ => False
def DAo (Z : Wrl K) (t : TA) (τ : List (SL Z.κ)) (P : List (ER Z.κ) → List (SL Z.κ) → Prop) : Prop := ∀ H0 w E σ H (Q : List V → Hp → Prop), Rep Z H0 w E τ σ H →
  (∀ rs τ' xs w' H', P rs τ' → Nxt Z w w' (Gd Z w E τ H) (Gd Z w' (pnd rs ++ E) τ' H') τ τ' → Rep Z H0 w' (pnd rs ++ E) τ' σ H' → Paired (RVo w' (Gd Z w' (pnd rs ++ E) τ' H')) xs rs → Q xs H') → t σ H Q
def nob {κ : Type} : ER κ → Bool
  | .b _ => false
  | _ => true
section
variable {τ : List (SL Z.κ)} {P : List (ER Z.κ) → List (SL Z.κ) → Prop} {ta : TE} {tr : TA} {D1 : DEnd Z.κ}
theorem RVo.nxt {w w' : Z.W} {G G' : Hp} {x : V} {r : ER Z.κ} (l : Z.le w w') (s : Same G G') (h : RVo w G x r) : RVo w' G' x r := by
  cases r with
  | v d => exact Rp.mono l s h
  | n p c => exact h
  | b i => exact h
theorem dao_nil (k : P [] τ) : DAo Z tNil τ P := fun H0 w E σ H Q R c => c _ _ _ _ _ k (.refl Z) R .nil
theorem GR_pn {w : Z.W} {E : Pd Z.κ} {τ : List (SL Z.κ)} {H : Hp} (r : ER Z.κ) : GR Z r w E τ H = Gd Z w (pn r ++ E) τ H := by cases r <;> rfl
theorem dao_cons (h : DE Z ta τ fun r τ1 => nob r = true ∧ DAo Z tr τ1 fun rs τ2 => P (r :: rs) τ2) : DAo Z (tCons ta tr) τ P := fun H0 w E σ H Q R c => by
  refine h H0 w E σ H _ R fun r τ1 x w1 H1 h1 n1 q1 => ?_
  obtain ⟨nb, h1⟩ := h1
  rw [GR_pn] at n1
  have R1 : Rep Z H0 w1 (pn r ++ E) τ1 σ H1 := by
    cases r with
    | v d => exact q1.1
    | n p oc => exact q1.2
    | b i => cases nb
  have v1 : RVo w1 (Gd Z w1 (pn r ++ E) τ1 H1) x r := by
    cases r with
    | v d => exact q1.2
    | n p oc => exact q1.1
    | b i => cases nb
  refine h1 H0 w1 (pn r ++ E) σ H1 _ R1 fun rs τ2 xs w2 H2 h2 n2 R2 vs => ?_
  have e : pnd rs ++ (pn r ++ E) = pnd (r :: rs) ++ E := by
    show _ = (pnd rs ++ pn r) ++ E
    rw [List.append_assoc]
  rw [e] at n2 R2 vs
  exact c (r :: rs) τ2 (x :: xs) w2 H2 h2 (Nxt.trans Z n1 n2) R2 (.cons (v1.nxt n2.le n2.sm) vs)
/-- a slot takes one of the values at hand -/
theorem Rep.stoo {H0 : Hp} {w : Z.W} {E1 E2 : Pd Z.κ} {σ : L2.St} {H : Hp} {x : V} {r : ER Z.κ} (nb : nob r = true) (R : Rep Z H0 w (E1 ++ (pn r ++ E2)) τ σ H) (v : RVo w (Gd Z w (E1 ++ (pn r ++ E2)) τ H) x r) (i : Nat) :
    Rep Z H0 w (E1 ++ E2) (sto τ i r) (σ.set i (some x)) H ∧ Same (Gd Z w (E1 ++ (pn r ++ E2)) τ H) (Gd Z w (E1 ++ E2) (sto τ i r) H) := by
  cases r with
  | v d => exact R.store i v
  | n p oc =>
    have : x = .ref p := v
    subst this
    exact Rep.take (E1 := E1) (E2 := E2) R i
  | b j => cases nb
theorem dx_par {i j : Nat} {tr : TA} (h : DAo Z tr τ fun rs τ1 => ∃ r s, rs = [r, s] ∧ D1.nx (sto (sto τ1 i r) j s)) : DX Z (tPar i j tr) τ D1 := fun H0 w σ H Dc R a b c d => by
  refine h H0 w [] σ H _ R fun rs τ1 xs w1 H1 h1 n1 R1 vs => ?_
  obtain ⟨r, s, rfl, k⟩ := h1
  cases vs with
  | @cons x _ _ _ v1 t =>
    cases t with
    | @cons y _ _ _ v2 t =>
      cases t
      refine ⟨x, y, rfl, ?_⟩
      have n1' : nob r = true := by cases r <;> first | rfl | exact v1.elim
      have n2' : nob s = true := by cases s <;> first | rfl | exact v2.elim
      have e1 : pnd [r, s] ++ [] = pn s ++ (pn r ++ ([] : Pd Z.κ)) := by simp [pnd]
      rw [e1] at R1 v1 v2
      obtain ⟨R2, s2⟩ := Rep.stoo n1' R1 v1 i
      have e2 : pn s ++ ([] : Pd Z.κ) = [] ++ (pn s ++ []) := by simp
      have v2' := v2.nxt (Z.refl w1) s2
      rw [e2] at R2 v2'
      obtain ⟨R3, s3⟩ := Rep.stoo n2' R2 v2' j
      exact a _ _ w1 H1 k n1.le R3
theorem dx_par3 {i j l : Nat} {tr : TA} (h : DAo Z tr τ fun rs τ1 => ∃ r s u, rs = [r, s, u] ∧ D1.nx (sto (sto (sto τ1 i r) j s) l u)) : DX Z (tPar3 i j l tr) τ D1 := fun H0 w σ H Dc R a b c d => by
  refine h H0 w [] σ H _ R fun rs τ1 xs w1 H1 h1 n1 R1 vs => ?_
  obtain ⟨r, s, u, rfl, k⟩ := h1
  cases vs with
  | @cons x _ _ _ v1 t =>
    cases t with
    | @cons y _ _ _ v2 t =>
      cases t with
      | @cons z _ _ _ v3 t =>
        cases t
        refine ⟨x, y, z, rfl, ?_⟩
        have n1' : nob r = true := by cases r <;> first | rfl | exact v1.elim
        have n2' : nob s = true := by cases s <;> first | rfl | exact v2.elim
        have n3' : nob u = true := by cases u <;> first | rfl | exact v3.elim
        have e1 : pnd [r, s, u] ++ [] = (pn u ++ pn s) ++ (pn r ++ ([] : Pd Z.κ)) := by simp [pnd]
        rw [e1] at R1 v1 v2 v3
        obtain ⟨R2, s2⟩ := Rep.stoo n1' R1 v1 i
        have e2 : pn u ++ pn s ++ ([] : Pd Z.κ) = pn u ++ (pn s ++ []) := by simp
        have v2' := v2.nxt (Z.refl w1) s2
        have v3' := v3.nxt (Z.refl w1) s2
        rw [e2] at R2 v2' v3'
        obtain ⟨R3, s3⟩ := Rep.stoo n2' R2 v2' j
        have e3 : pn u ++ ([] : Pd Z.κ) = [] ++ (pn u ++ []) := by simp
        have v3'' := v3'.nxt (Z.refl w1) s3
        rw [e3] at R3 v3''
        obtain ⟨R4, s4⟩ := Rep.stoo n3' R3 v3'' l
        exact a _ _ w1 H1 k n1.le R4
end
end DL
set_option Elab.async false
set_option linter.all false
set_option maxRecDepth 100000
/-! DL10: dict comprehensions; all and any over a comprehension. -/
namespace DL
open PySem PySem.Spec PyProof.Rows L2 RZ
variable {K : PySem.W.Frag} {Z : Wrl K}
section
variable {H0 : Hp} {w2 w3 : Z.W} {E : Pd Z.κ} {τ1 τ2 : List (SL Z.κ)} {σ σ3 : L2.St} {H3 H4 : Hp}
theorem pair_of {R : SL Z.κ → Option V → Prop} : ∀ {l : List (SL Z.κ)} {m : L2.St}, l.length = m.length → (∀ (k : Nat) s o, l[k]? = some s → m[k]? = some o → R s o) → Paired R l m
  | [], [], _, _ => .nil
  | [], _ :: _, h, _ => by simp at h
  | _ :: _, [], h, _ => by simp at h
  | s :: l, o :: m, hl, h => .cons (h 0 s o rfl rfl) (pair_of (by simpa using hl) fun k s o h1 h2 => h (k + 1) s o (by simpa using h1) (by simpa using h2))
/-- back from the slots of a turn to the slots of the whole -/
theorem Rep.back {vs : List Nat} (R3 : Rep Z H0 w2 E τ1 σ H3) (eo : owns τ2 = owns τ1) (keep : ∀ k, k ∉ vs → τ2[k]? = τ1[k]?) (cl : clear τ1 vs) (l : Z.le w2 w3) (s : Same (Gd Z w2 E τ2 H3) (Gd Z w3 E τ2 H4)) (R5 : Rep Z H0 w3 E τ2 σ3 H4) :
    Rep Z H0 w3 E τ1 σ H4 := by
  have eO : OL E τ1 = OL E τ2 := by unfold OL; rw [eo]
  have eg : ∀ (w : Z.W) (H : Hp), Gd Z w E τ1 H = Gd Z w E τ2 H := fun w H => by unfold Gd HL; rw [eO]
  rw [← eg, ← eg] at s
  refine ⟨by rw [eO]; exact R5.nd, by rw [eO]; exact R5.dj, R5.ok, by rw [eg]; exact R5.fr, fun q hq => by rw [eg]; exact R5.pe q hq, pair_of (Paired.len R3.sl) fun k t o h1 h2 => ?_⟩
  obtain ⟨o', h3, h4⟩ := Paired.at R3.sl h1
  rw [h2] at h3
  cases h3
  cases t with
  | u => trivial
  | d x =>
    obtain ⟨v, e1, r⟩ := h4
    exact ⟨v, e1, r.mono l s⟩
  | own p oc =>
    obtain ⟨_, _, _, oc5⟩ := Paired.at R5.sl ((keep k fun m => cl k m p oc h1).trans h1)
    refine ⟨h4.1, ?_⟩
    rw [eg]
    exact oc5
/-- the last pending object is changed -/
theorem Rep.pmut {p : Addr} {c c' : OC Z.κ} (R : Rep Z H0 w2 ((p, c) :: E) τ1 σ H3) {o : HO} (oc : OcAt Z w2 (Gd Z w2 ((p, c) :: E) τ1 H3) (upd H3 p o) p c') : Rep Z H0 w2 ((p, c') :: E) τ1 σ (upd H3 p o) := by
  have pm : p ∈ HL Z w2 ((p, c) :: E) τ1 := mem_HL.mpr (.inr List.mem_cons_self)
  have eh : Gd Z w2 ((p, c') :: E) τ1 (upd H3 p o) = Gd Z w2 ((p, c) :: E) τ1 H3 := by
    funext a
    show hide (HL Z w2 ((p, c) :: E) τ1) (upd H3 p o) a = hide (HL Z w2 ((p, c) :: E) τ1) H3 a
    by_cases m : a ∈ HL Z w2 ((p, c) :: E) τ1
    · rw [hide_in m, hide_in m]
    · rw [hide_out m, hide_out m, upd_ne fun q => m (by rw [q]; exact pm)]
  have dn := List.nodup_cons.mp (show (p :: OL E τ1).Nodup from R.nd)
  have ne : ∀ a, a ∈ OL E τ1 → a ≠ p := fun a ha q => dn.1 (by rw [← q]; exact ha)
  obtain ⟨o0, e0, i0⟩ := (R.pe (p, c) List.mem_cons_self).mut
  refine ⟨R.nd, R.dj, Z.okm (fun a ha => upd_ne fun q => R.dj p List.mem_cons_self (by rw [← q]; exact ha)) (fun a u h => ?_) R.ok, by rw [eh]; exact R.fr, fun q hq => ?_, ?_⟩
  · obtain ⟨h1, h2⟩ := gp_some h
    obtain ⟨h3, h4⟩ := hide_some h1
    have nd : a ≠ p := fun q => by
      rw [q, e0] at h4
      cases h4
      rw [i0] at h2
      cases h2
    refine gp_of ?_ h2
    rw [hide_out h3, upd_ne nd]
    exact h4
  · rw [eh]
    rcases List.mem_cons.mp hq with z | hq
    · rw [z]; exact oc
    · exact (R.pe q (List.mem_cons_of_mem _ hq)).mono (Z.refl w2) (Same.refl _) (upd_ne (ne q.1 (List.mem_append_left _ (List.mem_map.mpr ⟨q, hq, rfl⟩))))
  · rw [eh]
    exact sl_keep (fun a ha => upd_ne ha) R.sl fun m => ne p (List.mem_append_right _ m) rfl
end
section
variable {τ : List (SL Z.κ)} {P : PE' Z.κ} {wi : TI} {g : TG} {tt : TT} {tk tv : TE} {L vs : List Nat}
/-- {tk: tv for g in wi if tt} -/
theorem de_dcI (h : DI Z wi τ fun items src τ1 => clear τ1 vs ∧ (∀ i, i ∈ L → i ∈ vs) ∧ items.length ≤ 90000 ∧ (match src with | none => True | some k => k ∉ vs) ∧ ∃ I : Nat → List (Key × D Z.κ) → Prop, I 0 [] ∧ (∀ i acc, i < items.length → I i acc → acc.length ≤ i) ∧
    (∀ i d acc, items[i]? = some d → I i acc → DG Z L g d (wipeS τ1 vs) fun τ2 => DT Z tt τ2 fun b τ3 => τ3 = τ2 ∧ if b = true then DE Z tk τ3 (fun r τ4 => τ4 = τ2 ∧ ∃ k, keyD (vw τ2 (fz r)) = some k ∧ DE Z tv τ2 fun r2 τ5 => τ5 = τ2 ∧ ∃ e, fz r2 = .v e ∧ I (i + 1) (putA acc k e)) else I (i + 1) acc) ∧
    ∀ acc p, I items.length acc → P (.n p (mkd acc)) τ1) : DE Z (tDc wi g tt tk tv vs) τ P := fun H0 w E σ H Q R c => by
  refine h H0 w E σ H _ R fun J items src τ1 w1 H1 C hP n1 R1 W hC => ?_
  obtain ⟨cl, hL, hz, hsrc, I, i0, il, ht, hd⟩ := hP
  intro Dd hD
  have ow := owns_wipeS τ1 cl
  have R1' : Rep Z (Gd Z w1 E τ1 H1) w1 E τ1 σ H1 := ⟨R1.nd, R1.dj, R1.ok, Same.refl _, R1.pe, R1.sl⟩
  obtain ⟨R0, s0⟩ := R1'.push (c := mkd []) (same_new (o := .dK []) hD) hD ⟨[], upd_same, rfl, .nil⟩
  let St : Nat → Hp → Prop := fun i H' => ∃ acc w', Z.le w1 w' ∧ I i acc ∧ Rep Z (Gd Z w1 E τ1 H1) w' ((Dd, mkd acc) :: E) τ1 σ H'
  refine ⟨fun i m H' => m = items.length - i ∧ i ≤ items.length ∧ St i H', ⟨_, rfl, Nat.zero_le _, [], w1, Z.refl w1, i0, R0⟩, ?_⟩
  rintro i m H2 ⟨rfl, hi, acc, w2, l2, i2, R2⟩
  have hc := hC _ w2 _ τ1 σ H2 R2 l2 (Same.refl _) (by cases src <;> first | trivial | rfl)
  by_cases hlt : i < items.length
  · refine .inr ⟨W.go i _ _ H2 hlt hc, St (i + 1), fun H' z => ⟨items.length - (i + 1), by omega, rfl, hlt, z⟩, fun x H3 y => ?_⟩
    obtain ⟨dd, e, o⟩ := W.yl i _ _ H2 x H3 hlt hc y
    obtain ⟨⟨R3, r3⟩, s3⟩ := R2.out o
    obtain ⟨R3w, s3w⟩ := R3.wipes vs
    refine ht i dd acc e i2 _ w2 _ (wipe σ vs) H3 x _ R3w (r3.mono (Z.refl w2) s3w) fun τ2 σ2 q2 s4 R4 wp wr => ?_
    have oz : owns τ2 = owns τ1 := (wr.own fun v hv => wipeS_clear τ1 cl v (hL v hv)).trans ow
    have keep : ∀ k, k ∉ vs → τ2[k]? = τ1[k]? := fun k hk => (wr.keep k fun m => hk (hL k m)).trans (wipeS_out τ1 hk)
    refine ⟨(wp vs hL).trans (List.ext_getElem? fun k => ?_), ?_⟩
    · rw [wipe_at, wipe_at]
      by_cases hk : k ∈ vs
      · simp only [hk, if_true]
        cases σ[k]? <;> rfl
      · simp only [hk, if_false]
    · refine q2 _ w2 _ σ2 H3 _ R4 fun b τ3 w3 H4 q3 n3 R5 => ?_
      obtain ⟨rfl, q3⟩ := q3
      have eg : ∀ (E : Pd Z.κ) (w : Z.W) (H : Hp), Gd Z w E τ3 H = Gd Z w E τ1 H := fun E w H => by unfold Gd HL OL; rw [oz]
      cases b with
      | false => exact iteF ⟨acc, w3, Z.trans l2 n3.le, by simpa using q3, R3.back oz keep cl n3.le n3.sm R5⟩
      | true =>
        refine iteT ((show DE Z tk τ3 _ from by simpa using q3) _ w3 _ σ2 H4 _ R5 fun r τ4 y w4 H5 q4 n4 R6 => ?_)
        obtain ⟨rfl, k, ek, q4⟩ := q4
        obtain ⟨R7, v7, s7⟩ := R6.fz
        have ey : y = kV k := vw_key ek (v7.view R7)
        subst ey
        refine q4 _ w4 _ σ2 H5 _ R7 fun r2 τ5 z w5 H6 q5 n5 R8 => ?_
        obtain ⟨rfl, d, ed, i3⟩ := q5
        obtain ⟨R9, v9, s9⟩ := R8.fz
        rw [ed] at v9
        have l25 := Z.trans n3.le (Z.trans n4.le n5.le)
        have s25 := n3.sm.trans ((n4.sm.trans s7).trans (n5.sm.trans s9))
        have R10 := R3.back oz keep cl l25 s25 R9
        obtain ⟨kvs, hv, e5, rv⟩ := R10.pe (Dd, mkd acc) List.mem_cons_self
        have kl : kvs.length = acc.length := by have := congrArg List.length e5; simpa [mkd] using this
        have al := il i acc hlt i2
        have vd : Rp Z w5 (Gd Z w5 ((Dd, mkd acc) :: E) τ1 H6) z d := by rw [← eg]; exact v9
        obtain ⟨h5, h6⟩ := kv_put k vd e5 rv
        exact ⟨kvs, k, rfl, hv, small_lt (by omega), putA acc k d, w5, Z.trans l2 l25, i3, R10.pmut ⟨_, upd_same, h5, h6⟩⟩
  · have e : i = items.length := by omega
    subst e
    refine .inl ⟨W.st _ _ H2 hc, c _ τ1 _ w2 H2 (hd acc Dd i2) ⟨Z.trans n1.le l2, n1.sm.trans R2.fr, n1.sh⟩ ⟨rfl, R2.frm R1.fr⟩⟩
end
end DL
set_option Elab.async false
set_option linter.all false
set_option maxRecDepth 100000
/-! DL11: rules of one's own: sorted of any row, turned tuples, tuples whose index may be asked, index. -/
namespace DL
open PySem PySem.Spec PyProof.Rows L2 PySem.SeqAt
variable {K : PySem.W.Frag} {Z : Wrl K}
section
variable {prog : Program} {w : World} {A : Around} {E : Value → Shared → Prop} {s : Shared}
/-- sorted(v), by what collect gives -/
theorem sorted_by {v : Value} {vs : List Value} {ltv : Value → Value → Bool} {Q : Value → Shared → Prop} (O : SrtO.Swo ltv) (hz : vs.length ≤ sizeLine)
    (hcol : ∀ (Q' : List Value → Shared → Prop), (∀ h' tk, (∀ b o, s.heap.get? b = some o → h'.get? b = some o) → Q' vs { s with heap := h', toks := tk }) → wpAny (model prog w) A.in1 (collect v) Q' (fun e s' => E e s') s)
    (hS : 2 ≤ vs.length → ∀ (h₁ : Heap) (tk : Nat) (a : Addr), h₁.get? a = some (seqObj "list" vs.toArray 0) → (∀ b o, s.heap.get? b = some o → b ≠ a ∧ h₁.get? b = some o) → SrtO.SortableO prog w A.in1.in1 { s with heap := h₁, toks := tk } a vs ltv)
    (h : ∀ (out : List Value) (h1 h' : Heap) (tk : Nat) (p : Addr) (e : Nat), SrtO.Srtd ltv out → SrtO.Stb ltv out vs → (∀ b o, s.heap.get? b = some o → h1.get? b = some o) → (∀ b o, h1.get? b = some o → h'.get? b = some o) → h1.objs.size ≤ p → h'.get? p = some (seqObj "list" out.toArray e) → Q (.ref p) { s with heap := h', toks := tk }) :
    wpAny (model prog w) A (call (.builtin "sorted") [v]) Q E s := by
  refine Calls.call_function_entry kind_sorted plain_sorted entry_sorted (args_sorted1 _) ?_
  unfold Builtin.«sorted»
  refine wpAny_bind (m := checkCount "sorted" 1 1 _) (wpAny_pure ?_)
  refine wpAny_bind (hcol _ fun h1 tk k1 => ?_)
  refine wpAny_bind (wpAny_newList ?_ hz)
  have hoL : (h1.push (seqObj "list" vs.toArray 0)).get? h1.objs.size = some (seqObj "list" vs.toArray 0) := Heap.get?_push_size _ rfl
  have keep : ∀ b o, h1.get? b = some o → b ≠ h1.objs.size ∧ (h1.push (seqObj "list" vs.toArray 0)).get? b = some o := fun b o q =>
    ⟨Nat.ne_of_lt (Heap.lt_size q), Heap.get?_push_of_some _ q⟩
  refine wpAny_bind (wpAny_holding (wpAny_call_entry slot_list_sort ⟨_, hoL, rfl⟩ entry_list_sort (SrtO.list_sort_ord O hoL hz (fun h2 => hS h2 _ tk _ hoL fun b o q => keep b o (k1 b o q)) fun out hs hb => ⟨_, rfl, ?_⟩) (args_list_sort _)))
  obtain ⟨e, he⟩ := sortedHeap_at (out := out.toArray) hoL
  refine wpAny_pure ⟨_, rfl, h out h1 _ tk _ e hs hb k1 (fun b o q => ?_) (Nat.le_refl _) he⟩
  rw [sortedHeap_old (keep b o q).1 (Heap.lt_size (keep b o q).2)]
  exact (keep b o q).2
end
section
variable {X : Cx}
/-- sorted(t), a tuple of ints -/
def rSortedT (K : PySem.W.Frag) : List V → Hp → VK → Prop := fun vs H Q => ∃ (a : Addr) (ns : List Int), vs = [V.ref a] ∧ SqT K H a (ns.map V.int) ∧
  ∀ (ns' : List Int) (p : Addr), ns'.Perm ns → ns'.Pairwise (· ≤ ·) → H p = none → Q (.ref p) (upd H p (.lst (ns'.map V.int)))
theorem cr_srtT : CallR X (.builtin "sorted") (rSortedT X.K) := by
  intro pins s σ H vs us Q I r h
  obtain ⟨a, ns, rfl, hs, q⟩ := h
  obtain ⟨its, rv, ht, hz⟩ := I.tuple hs
  rw [Vals.ref1 r]
  have hi := rv.ints
  obtain ⟨o, ho, hc, n, hd⟩ := ht
  have hl : its.length ≤ sizeLine := by rw [← rv.length]; exact hz
  refine sorted_by (vs := its) SrtO.swo_int hl (fun Q' k => wpAny_collect_seq a (.inr rfl) ho hc hd (fun h' kp => ?_) (by simpa using hl)) (fun h2 h₁ tk a' _ _ => SrtO.ints_sortable hi h2) fun out g1 h' tk p e h1 h2 k1' kp hp he => ?_
  · exact k h' s.toks kp
  · obtain ⟨k1, k2, k3⟩ := SrtO.ints_out hi h1 h2
    have hlen : ((out.map SrtO.iv).map V.int).length ≤ sizeLine := by
      rw [List.length_map, k2.length_eq]
      rw [List.length_map] at hz
      exact hz
    exact ⟨.ref _, upd H p (.lst ((out.map SrtO.iv).map V.int)), (I.kept (t' := s.toks) k1').laid (t' := tk) kp hp ⟨hlen, out, e, vals_of_ints k1, he⟩, rfl, q _ _ k2 k3 ((I.kept (t' := s.toks) k1').hok.fresh hp)⟩
end
/-! ### a row turned about -/
theorem rev_pick (its : List Value) : ((List.range its.length).filterMap fun (m : Nat) => its.toArray[((its.length : Int) - 1 + (m : Int) * -1).toNat]?).toArray = its.reverse.toArray := by
  have go : ∀ n, n ≤ its.length → ((List.range n).filterMap fun (m : Nat) => its.toArray[((its.length : Int) - 1 + (m : Int) * -1).toNat]?) = its.reverse.take n := by
    intro n
    induction n with
    | zero => intro _; simp
    | succ n ih =>
      intro h
      rw [List.range_succ, List.filterMap_append, ih (by omega), List.take_succ]
      congr 1
      have hlt : n < its.reverse.length := by simp; omega
      have e0 : ((its.length : Int) - 1 + (n : Int) * -1).toNat = its.length - 1 - n := by omega
      have e : its.toArray[((its.length : Int) - 1 + (n : Int) * -1).toNat]? = some (its[its.length - 1 - n]'(by omega)) := by
        rw [e0]
        simp only [List.getElem?_toArray]
        exact List.getElem?_eq_getElem (by omega)
      rw [List.filterMap_cons, e, List.getElem?_eq_getElem hlt, List.getElem_reverse]
      rfl
  rw [go its.length (Nat.le_refl _), ← List.length_reverse, List.take_length]
theorem rev_places (n : Nat) : Builtin.Slice.slicePlaces ((n : Int) - 1) (-1) (-1) = n := by
  unfold Builtin.Slice.slicePlaces
  rw [if_neg (by decide)]
  by_cases h : 0 < n
  · rw [if_pos (by omega)]
    have : ((n : Int) - 1 - -1 - 1) / (- -1) = (n : Int) - 1 := by
      rw [show (- -1 : Int) = 1 from rfl, Int.ediv_one]
      omega
    omega
  · rw [if_neg (by omega)]
    omega
def tRevT (K : PySem.W.Frag) (te : TE) : TE := fun σ H Q => te σ H fun x H1 => ∃ a xs, x = .ref a ∧ SqT K H1 a xs ∧ ∀ p, H1 p = none → Q (.ref p) (upd H1 p (.tup xs.reverse))
section
variable {prog : Program} {w : World} {A : Around} {E : Value → Shared → Prop} {s : Shared}
theorem getItem_tuple_rev {t sl : Addr} {its : List Value} {k : Tok} {Q : Value → Shared → Prop} (ht : IsTup s.heap t its.toArray) (hs : s.heap.IsSliceOf sl .none .none (.int (-1) k)) (hz : its.length ≤ sizeLine)
    (h : Q (.ref s.heap.objs.size) { s with heap := s.heap.push { cls := .type "tuple", data := .seq its.reverse.toArray } }) : wpAny (model prog w) A (getItem (.ref t) (.ref sl)) Q E s := by
  obtain ⟨os, hos, hcs, hds⟩ := id hs
  unfold getItem
  try with_reducible refine wpAny_holding ?_
  first | refine wpAny_bind (wpAny_pure ?_) | skip
  refine wpAny_bind (wpAny_sequenceKey ht.typeIs (by decide) ?_)
  refine wpAny_bind (wpAny_callSpecial?_slot (name := Str.ofString "__getitem__") ht.typeIs PyProof.Rows.slot_tuple_getitem
    (wpAny_call_entry PyProof.Rows.slot_tuple_getitem ht.typeIs entry_tuple_getitem ?_ (args_tuple_getitem _ _)))
  show wpAny _ _ (Builtin.Tuple.tupleItemsOf (.ref t) >>= _) _ _ s
  refine wpAny_bind (tupleItemsOf_ ht ?_)
  refine wpAny_bind (wpAny_typeOf (T := "slice") ⟨os, hos, hcs⟩ ?_)
  rw [if_pos (by decide)]
  unfold Builtin.Slice.sliceApplied Builtin.Slice.sliceFields
  refine wpAny_bind (wpAny_bind (wpAny_bind (wpAny_field hos hds (x := .none) rfl (wpAny_bind (wpAny_field hos hds (x := .none) rfl (wpAny_bind (wpAny_field hos hds (x := .int (-1) k) rfl (wpAny_pure ?_))))))))
  refine wpAny_bind (HT.slicePart_ (.int (-1) k) ?_)
  show wpAny _ _ (if ((-1 : Int) == 0) = true then _ else _) _ _ s
  rw [if_neg (by decide)]
  refine wpAny_bind (HT.slicePart_ .none (wpAny_bind (HT.slicePart_ .none (wpAny_bind (wpAny_pure ?_)))))
  show wpAny _ _ (pure (((its.toArray.size : Nat) : Int) - 1, (-1 : Int), Builtin.Slice.slicePlaces (((its.toArray.size : Nat) : Int) - 1) (-1) (-1))) _ _ s
  rw [rev_places]
  refine wpAny_pure ?_
  show wpAny _ _ (if (((its.toArray.size : Nat) : Int) - 1 == 0 && (-1 : Int) == 1 && its.toArray.size == its.toArray.size) = true then _ else _) _ _ s
  rw [if_neg (by simp)]
  rw [List.size_toArray, rev_pick]
  have hz' : sizeOk (.seq its.reverse.toArray) := by
    show its.reverse.toArray.size ≤ sizeLine
    rw [List.size_toArray, List.length_reverse]
    exact hz
  first
    | exact wpAny_bind (m := Builtin.Tuple.tupleExact _) (wpAny_newObj_type (wpAny_pure ⟨_, rfl, wpAny_pure h⟩) hz')
    | exact wpAny_bind (m := Builtin.Tuple.tupleExact _) (wpAny_newObj_type (wpAny_bind (wpAny_pure (wpAny_pure ⟨_, rfl, wpAny_pure h⟩))) hz')
    | exact wpAny_bind (wpAny_bind (m := Builtin.Tuple.tupleExact _) (wpAny_newObj_type (wpAny_pure (wpAny_pure ⟨_, rfl, wpAny_pure h⟩)) hz'))
    | exact wpAny_bind (wpAny_bind (m := Builtin.Tuple.tupleExact _) (wpAny_newObj_type (wpAny_pure ⟨_, rfl, wpAny_pure h⟩) hz'))
end
section
variable {X : Cx}
theorem pe_revT {e : Expr} {te : TE} {k : Nat} {p1 p2 p3 pos : Pos} (he : PE X e te) : PE X (.Subscript e (.Slice none none (some (.UnaryOp .USub (.Constant (.int 1) k p1) p2)) p3) pos) (tRevT X.K te) := by
  refine ⟨fun pins s σ H Q I h => ?_⟩
  refine Subscript_ (thn (he.run pins s σ H _ I h) fun v s1 ⟨x, H1, I1, r1, a, xs, ex, hx, q⟩ => ?_)
  subst ex
  cases r1
  have hst : PO X (some (.UnaryOp .USub (.Constant (.int 1) k p1) p2)) (tPart (tUn (rU fun i => .int (-i)) (tC (.int 1)))) := po_some (pe_un un_neg pe_int)
  refine wpAny_Slice (thn (po_none.run pins s1 σ H1 (fun o H2 => o = none ∧ H2 = H1) I1 ⟨rfl, rfl⟩) fun vl s2 ⟨l, H2, I2, pl, el, e2⟩ => ?_)
  subst el e2
  refine thn (po_none.run pins s2 σ H2 (fun o H3 => o = none ∧ H3 = H2) I2 ⟨rfl, rfl⟩) fun vu s3 ⟨u, H3, I3, pu, eu, e3⟩ => ?_
  subst eu e3
  refine thn (hst.run pins s3 σ H3 (fun o H4 => o = some (-1) ∧ H4 = H3) I3 ⟨1, rfl, -1, rfl, rfl, rfl⟩) fun vs s4 ⟨o, H4, I4, ps, eo, e4⟩ => ?_
  subst eo e4
  cases pl
  cases pu
  obtain ⟨kt, ek⟩ : ∃ kt, vs = .int (-1) kt := by cases ps; exact ⟨_, rfl⟩
  subst ek
  have I5 : L2.Inv X pins σ H4 { s4 with heap := s4.heap.push { cls := .type "slice", data := .fields #[.none, .none, .int (-1) kt] } } := I4.kept (t' := s4.toks) fun b ob q => Heap.get?_push_of_some _ q
  obtain ⟨its, r, ht, hz⟩ := I5.tuple hx
  have hl := r.length
  refine tail_any (ops := [.ref a, .ref s4.heap.objs.size]) ht.typeIs PyProof.Rows.slot_tuple_getitem.lookup ?_ (by with_unfolding_all rfl)
  refine getItem_tuple_rev ht (Heap.IsSliceOf.new ..) (by rw [← hl]; exact hz) ?_
  refine ⟨.ref _, _, I5.laid (t' := s4.toks) (o := .tup xs.reverse) (fun b ob q => Heap.get?_push_of_some _ q) (Nat.le_refl _) ?_, rfl, q _ (I5.hok.fresh (Nat.le_refl _))⟩
  exact ⟨by rw [List.length_reverse]; exact hz, _, r.reverse, IsTup.new _ _⟩
end
/-! ### tuples made whole -/
def kTupW (K : PySem.W.Frag) : V → Hp → VK → Prop := fun x H Q => ∃ p xs, x = .ref p ∧ SqL K H p xs ∧ ∀ (q : Addr) (o : Obj), H q = none → o.dict = none → Q (.ref q) (upd H q (.frz o (.tup xs)))
section
variable {X : Cx}
/-- tuple(x) of a list: its object is known -/
theorem pe_tupW {a : Expr} {ta : TE} {p pos : Pos} (hg : Gl X "tuple") (hm : X.mg "tuple" = none) (ha : PE X a ta) (na : starEach [a] X.env = (false, eval a X.env) :: starEach [] X.env := by rfl) :
    PE X (.Call (.Name "tuple" p) [a] [] pos) (tThen ta (kTupW X.K)) := by
  refine ⟨fun pins s σ H Q I h => ?_⟩
  refine Call_ (ld_blt I hg hm boot_tuple (PyProof.Rows.callWith_type1 (one_arg ha I h (fun v s2 x H2 I2 r q => ?_) na) na))
  obtain ⟨p, xs, rfl, hs, q⟩ := q
  obtain rfl : v = .ref p := r
  obtain ⟨its, rv, pl, hz⟩ := I2.list hs
  have hz' : its.toArray.size ≤ sizeLine := by rw [List.size_toArray, ← rv.length]; exact hz
  refine call_tuple_list pl.isList (fun h' hk => ?_) hz'
  have I3 := I2.kept (t' := s2.toks) hk
  refine ⟨.ref h'.objs.size, _, I3.laid (t' := s2.toks) (o := .frz _ (.tup xs)) (fun b o e => Heap.get?_push_of_some _ e) (Nat.le_refl _) ⟨Heap.get?_push_size _ rfl, hz, its, rv, IsTup.new _ _⟩, rfl, q _ _ (I3.hok.fresh (Nat.le_refl _)) rfl⟩
/-- a method of such a tuple -/
def tTM (r : V → List V → Hp → VK → Prop) (to : TE) (t : TA) : TE := fun σ H Q => to σ H fun x H1 => (∃ (a : Addr) (o : Obj) (xs : List V), x = .ref a ∧ o.dict = none ∧ H1 a = some (.frz o (.tup xs))) ∧ t σ H1 fun us H2 => r x us H2 Q
variable {o e : Expr} {es : List Expr} {to : TE} {t : TA} {name : Str} {apos cpos : Pos} {id : String} {r : V → List V → Hp → VK → Prop}
theorem pe_tm (slot : Slot "tuple" name id) (hty : typeOf (.builtin id) = pure (.type "method_descriptor")) (hm : MtR X id r) (ho : PE X o to) (ha : PA X (e :: es) t) (hbase : attributeBase o name X.env (eval o X.env) = eval o X.env := by rfl)
    (hfew : ((backTo cpos (starEach (e :: es) X.env)).all (fun x => !x.1) && (backToKw cpos (keywordEach [] X.env)).all (fun x => x.1.isSome) && decide ((e :: es).length + ([] : List Keyword).length + (if ([] : List Keyword).isEmpty then 0 else 1) < 30)) = true := by rfl)
    (hline : (apos.endLine == cpos.line) = true := by rfl) (hs : starEach (e :: es) X.env = (false, eval e X.env) :: starEach es X.env := by rfl) (hplain : (backTo cpos (starEach es X.env)).any (·.1) = false := by rfl) : PE X (.Call (.Attribute o name apos) (e :: es) [] cpos) (tTM r to t) := by
  refine ⟨fun pins s σ H Q I h => wpAny_Call_method_late hbase hfew hline rfl (thn (ho.run pins s σ H _ I h) fun v s1 ⟨x, H1, I1, r1, ⟨a, ob, xs, ex, hd, hx⟩, q1⟩ => ?_)⟩
  subst ex
  cases r1
  obtain ⟨g1, hz, its, rv, ht⟩ := (show ObjOk X.prog X.w H1 s1.heap a (.frz ob (.tup xs)) from I1.hok a _ hx)
  refine ⟨"tuple", id, PySem.F.plainAttrs_tuple, slot, hty, ht.typeIs, fun b eb => ?_, ?_⟩
  · cases eb
    exact ⟨ob, g1, hd⟩
  · have hA := ha.run cpos pins s1 σ H1 _ I1 q1
    rw [hs] at hA ⊢
    refine Calls.callWith_builtin (by show (false || (backTo cpos (starEach es X.env)).any (·.1)) = false; rw [hplain] <;> rfl) (Calls.evalArgs_plain ?_)
    exact thn hA fun us s2 ⟨vs, H2, I2, r2, q2⟩ => hm pins s2 σ H2 (.ref a) vs (.ref a) us Q I2 (show RelV (.ref a) (.ref a) from rfl) r2 q2
/-- t.index(k), ints -/
def rTIx (K : PySem.W.Frag) : V → List V → Hp → VK → Prop := fun x us H Q => ∃ (a : Addr) (ns : List Int) (k : Int), x = .ref a ∧ us = [.int k] ∧ SqT K H a (ns.map V.int) ∧ k ∈ ns ∧ Q (.int (ns.idxOf k : Nat)) H
/-- t.index(k, b), ints -/
def rTIx3 (K : PySem.W.Frag) : V → List V → Hp → VK → Prop := fun x us H Q => ∃ (a : Addr) (ns : List Int) (k : Int) (b : Nat), x = .ref a ∧ us = [.int k, .int (b : Nat)] ∧ SqT K H a (ns.map V.int) ∧ k ∈ ns.drop b ∧ Q (.int ((b + (ns.drop b).idxOf k : Nat) : Int)) H
theorem ints_eqAt {A : Around} {s : Shared} {ns : List Int} {its : List Value} {k : Int} {t : Tok} (rv : Vals (ns.map V.int) its) : ∀ j (hj : j < its.toArray.size), SeqAt.EqAt A s its.toArray[j] (.int k t) (decide (ns[j]? = some k)) := fun j hj => by
  have hl := rv.length
  rw [List.length_map] at hl
  have hj' : j < ns.length := by rw [hl]; simpa using hj
  obtain ⟨u, hu, t', eu⟩ := rv.get (i := j) (x := .int ns[j]) (by simp [hj'])
  have e1 : its.toArray[j] = .int ns[j] t' := by
    obtain ⟨h1, h2⟩ := List.getElem?_eq_some_iff.mp hu
    rw [← eu, ← h2]
    simp
  rw [e1]
  obtain ⟨e, he, hiff⟩ := HT.eqAt_int A s ns[j] t' k t
  have : e = decide (ns[j]? = some k) := by
    rw [List.getElem?_eq_getElem hj']
    cases e with
    | true => simp [hiff.mp rfl]
    | false =>
      symm
      rw [decide_eq_false_iff_not]
      intro q
      exact Bool.false_ne_true (hiff.mpr (Option.some.inj q))
  rw [← this]
  exact he
theorem idx_lt {ns : List Int} {k : Int} {m : Nat} (h : m < ns.idxOf k) : ns[m]? ≠ some k := fun q => by
  obtain ⟨h1, h2⟩ := List.getElem?_eq_some_iff.mp q
  have := List.not_of_lt_findIdx (p := fun x => x == k) (xs := ns) (i := m) h
  rw [h2] at this
  simp at this
theorem mt_tix : MtR X "tuple.index" (rTIx X.K) := by
  intro pins s σ H x xs v us Q I rx rs h
  obtain ⟨a, ns, k, rfl, rfl, hq, hk, q⟩ := h
  cases rx
  obtain ⟨u, rfl, t, rfl⟩ := vals1 rs
  obtain ⟨its, rv, ⟨⟨cls, dd, data, sl⟩, ho, hc, n, hd⟩, hz⟩ := I.tuple hq
  simp only at hc hd
  subst hc hd
  have hl := rv.length
  rw [List.length_map] at hl
  have hj : ns.idxOf k < ns.length := List.idxOf_lt_length_iff.mpr hk
  refine call_meets PySem.F.slot_tuple_index ⟨_, ho, rfl⟩ PySem.F.entry_tuple_index (PySem.F.args_tuple_index_2 _ _)
    (tuple_index2_found a its.toArray n dd sl _ (fun j => decide (ns[j]? = some k)) (ns.idxOf k) (by simp; omega) (Nat.zero_le _) (by simp; omega) ?_ ?_) ⟨ho, ints_eqAt rv, ⟨.int (ns.idxOf k : Nat), H, I.tok _, ⟨_, rfl⟩, q⟩⟩
  · rw [decide_eq_true_eq, List.getElem?_eq_getElem hj, List.getElem_idxOf hj]
  · exact fun m hm _ h2 => decide_eq_false (idx_lt h2)
theorem mt_tix3 : MtR X "tuple.index" (rTIx3 X.K) := by
  intro pins s σ H x xs v us Q I rx rs h
  obtain ⟨a, ns, k, b, rfl, rfl, hq, hk, q⟩ := h
  cases rx
  obtain ⟨u, u2, rfl, ⟨t, rfl⟩, ⟨t2, rfl⟩⟩ := vals2 rs
  obtain ⟨its, rv, ⟨⟨cls, dd, data, sl⟩, ho, hc, n, hd⟩, hz⟩ := I.tuple hq
  simp only at hc hd
  subst hc hd
  have hl := rv.length
  rw [List.length_map] at hl
  have hj : (ns.drop b).idxOf k < (ns.drop b).length := List.idxOf_lt_length_iff.mpr hk
  have hj2 := hj
  rw [List.length_drop] at hj2
  have hf : searchFrom (b : Int) its.toArray.size = b := searchFrom_nat _ _
  refine call_meets PySem.F.slot_tuple_index ⟨_, ho, rfl⟩ PySem.F.entry_tuple_index (PySem.F.args_tuple_index_3 _ _ _)
    (tuple_index3_found a its.toArray n dd sl _ (fun j => decide (ns[j]? = some k)) (b : Int) t2 (b + (ns.drop b).idxOf k) (by simp; omega) (by rw [hf]; omega) (by simp; omega) ?_ ?_) ⟨ho, ints_eqAt rv, ⟨.int ((b + (ns.drop b).idxOf k : Nat) : Int), H, I.tok _, ⟨_, rfl⟩, q⟩⟩
  · rw [decide_eq_true_eq, ← List.getElem?_drop, List.getElem?_eq_getElem hj, List.getElem_idxOf hj]
  · intro m hm h1 h2
    rw [hf] at h1
    refine decide_eq_false fun q => idx_lt (ns := ns.drop b) (k := k) (m := m - b) (by omega) ?_
    rw [List.getElem?_drop, show b + (m - b) = m by omega]
    exact q
end
end DL
set_option Elab.async false
set_option linter.all false
set_option maxRecDepth 100000
/-! DL12: one's own rules by what they do to data. -/
namespace DL
open PySem PySem.Spec PyProof.Rows L2
variable {K : PySem.W.Frag} {Z : Wrl K}
section
variable {τ : List (SL Z.κ)} {P : PE' Z.κ} {te to ta : TE} {tr : TA}
/-- less is told of the data -/
theorem de_ld (h : DE Z te τ fun r τ1 => ∃ d e, fz r = .v d ∧ LD d e ∧ P (.v e) τ1) : DE Z te τ P := fun H0 w E σ H Q R c => by
  refine h H0 w E σ H _ R fun r τ1 x w1 H1 ⟨d, e, ed, l, hp⟩ n1 q1 => ?_
  obtain ⟨R1, v1, s1⟩ := q1.fz
  rw [ed] at v1
  exact c _ τ1 x w1 H1 hp ⟨n1.le, n1.sm.trans s1, n1.sh⟩ ⟨R1, Rp.ld l v1⟩
theorem de_revT (h : DE Z ta τ fun r τ1 => ∃ xs, vw τ1 (fz r) = .tup xs ∧ P (.v (.tup xs.reverse)) τ1) : DE Z (tRevT K ta) τ P :=
  de_un (r := fun x H Q => ∃ a xs, x = V.ref a ∧ SqT K H a xs ∧ ∀ p, H p = none → Q (.ref p) (upd H p (.tup xs.reverse))) (sem := fun d P => ∃ xs, d = .tup xs ∧ P (.v (.tup xs.reverse)))
    (fun w G H x dx Q P s hx ⟨xs, e, h⟩ k => by
      subst e
      obtain ⟨a, vs, rfl, ha, r, _⟩ := hx.tup s
      exact ⟨a, vs, rfl, ha, fun p hp => k _ _ _ h (.tup hp r.rev)⟩) h
theorem de_tupW (h : DE Z ta τ fun r τ1 => ∃ xs, vw τ1 (fz r) = .lst xs ∧ P (.v (.wtup xs)) τ1) : DE Z (tThen ta (kTupW K)) τ P :=
  de_un (r := kTupW K) (sem := fun d P => ∃ xs, d = .lst xs ∧ P (.v (.wtup xs)))
    (fun w G H x dx Q P s hx ⟨xs, e, h⟩ k => by
      subst e
      obtain ⟨a, vs, rfl, ha, r⟩ := hx.lst s
      exact ⟨a, vs, rfl, SqL.of ha, fun p o hp ho => k _ _ _ h (.wtup hp ho r)⟩) h
/-- tuple(x) of a list, a key -/
theorem de_tupK (h : DE Z ta τ fun r τ1 => ∃ xs, vw τ1 (fz r) = .lst xs ∧ P (.v (.ktup xs)) τ1) : DE Z (tThen ta (kTup K)) τ P :=
  de_un (r := kTup K) (sem := fun d P => ∃ xs, d = .lst xs ∧ P (.v (.ktup xs)))
    (fun w G H x dx Q P s hx ⟨xs, e, h⟩ k => by
      subst e
      obtain ⟨a, vs, rfl, ha, r⟩ := hx.lst s
      exact .inl ⟨a, vs, rfl, SqL.of ha, fun p hp => k _ _ _ h (.ktup hp r)⟩) h
/-- a display of a tuple, a key -/
theorem de_tupDK (h : DA Z tr τ fun rs τ1 => ∃ ds : List (D Z.κ), rs = ds.map .v ∧ ds.length ≤ 100000 ∧ P (.v (.ktup ds)) τ1) : DE Z (tTup tr) τ P := fun H0 w E σ H Q R c => by
  refine h H0 w E σ H _ R fun rs τ1 xs w1 H1 h1 n1 R1 vs => ?_
  obtain ⟨ds, rfl, hl, k⟩ := h1
  have r := RVs.data vs
  refine ⟨small_line (by rw [r.length]; exact hl), fun p hp => ?_⟩
  obtain ⟨q, s⟩ := R1.out (.ktup hp r)
  exact c _ τ1 _ w1 _ k ⟨n1.le, n1.sm.trans s, n1.sh⟩ q
theorem de_tix (h : DE Z to τ fun r τ1 => ∃ ns : List Int, fz r = .v (.wtup (ns.map .int)) ∧ DE Z te τ1 fun r2 τ2 => ∃ k, r2 = .v (.int k) ∧ k ∈ ns ∧ P (.v (.int (ns.idxOf k : Nat))) τ2) : DE Z (tTM (rTIx K) to (tCons te tNil)) τ P := fun H0 w E σ H Q R c => by
  refine h H0 w E σ H _ R fun r τ1 x w1 H1 ⟨ns, er, h1⟩ n1 q1 => ?_
  obtain ⟨R1, v1, s1⟩ := q1.fz
  rw [er] at v1
  obtain ⟨a, vs, o, rfl, ho, ha, rv⟩ := (v1.view R1).wtup hide_le
  refine ⟨⟨a, o, vs, rfl, ho, ha⟩, h1 H0 w1 E σ H1 _ R1 fun r2 τ2 y w2 H2 ⟨k, e2, hk, hp⟩ n2 q2 => ?_⟩
  subst e2
  have ey : y = .int k := by cases q2.2; rfl
  obtain ⟨b, us, o2, eb, _, hb, ru⟩ := ((v1.nxt n2).view q2.1).wtup hide_le
  cases eb
  rw [rp_ints ru] at hb
  exact ⟨a, ns, k, rfl, by rw [ey], .inl (.inr ⟨_, hb⟩), hk, c _ _ _ w2 H2 hp (Nxt.trans Z ⟨n1.le, n1.sm.trans s1, n1.sh⟩ n2) ⟨q2.1, .int _⟩⟩
theorem de_tix3 {tb : TE} (h : DE Z to τ fun r τ1 => ∃ ns : List Int, fz r = .v (.wtup (ns.map .int)) ∧ DE Z te τ1 fun r2 τ2 => ∃ k, r2 = .v (.int k) ∧ DE Z tb τ2 fun r3 τ3 => ∃ b : Nat, r3 = .v (.int (b : Nat)) ∧ k ∈ ns.drop b ∧
    P (.v (.int ((b + (ns.drop b).idxOf k : Nat) : Int))) τ3) : DE Z (tTM (rTIx3 K) to (tCons te (tCons tb tNil))) τ P := fun H0 w E σ H Q R c => by
  refine h H0 w E σ H _ R fun r τ1 x w1 H1 ⟨ns, er, h1⟩ n1 q1 => ?_
  obtain ⟨R1, v1, s1⟩ := q1.fz
  rw [er] at v1
  obtain ⟨a, vs, o, rfl, ho, ha, rv⟩ := (v1.view R1).wtup hide_le
  refine ⟨⟨a, o, vs, rfl, ho, ha⟩, h1 H0 w1 E σ H1 _ R1 fun r2 τ2 y w2 H2 ⟨k, e2, h2⟩ n2 q2 => ?_⟩
  subst e2
  have ey : y = .int k := by cases q2.2; rfl
  refine h2 H0 w2 E σ H2 _ q2.1 fun r3 τ3 z w3 H3 ⟨b, e3, hk, hp⟩ n3 q3 => ?_
  subst e3
  have ez : z = .int (b : Nat) := by cases q3.2; rfl
  have n23 := Nxt.trans Z n2 n3
  obtain ⟨a', us, o2, eb, _, hb, ru⟩ := ((v1.nxt n23).view q3.1).wtup hide_le
  cases eb
  rw [rp_ints ru] at hb
  exact ⟨a, ns, k, b, rfl, by rw [ey, ez], .inl (.inr ⟨_, hb⟩), hk, c _ _ _ w3 H3 hp (Nxt.trans Z ⟨n1.le, n1.sm.trans s1, n1.sh⟩ n23) ⟨q3.1, .int _⟩⟩
end
/-! ### sorted -/
def rSrtA (K : PySem.W.Frag) : List V → Hp → VK → Prop := fun vs H Q => rSortedI K vs H Q ∨ rSortedT K vs H Q
theorem cr_srtA {X : Cx} : CallR X (.builtin "sorted") (rSrtA X.K) := fun pins s σ H vs us Q I r h => by
  rcases h with h | h
  · exact cr_sortedI pins s σ H vs us Q I r h
  · exact cr_srtT pins s σ H vs us Q I r h
def semSrt {κ : Type} : SemL κ := fun ds P => ∃ d, ∃ ns : List Int, ds = [d] ∧ seqD d = some (ns.map .int) ∧ ∀ p, P (.n p (.lst ((srt ns).map .int)))
theorem bs_srt : BSL Z (rSrtA K) semSrt := fun w G H xs ds Q P s hx ⟨d, ns, e, ed, h⟩ k => by
  subst e
  cases hx with
  | cons h1 t =>
    cases t
    obtain ⟨a, vs, rfl, r, e⟩ := h1.seq s ed
    have fin : ∀ (ns' : List Int) (p : Addr), ns'.Perm ns → ns'.Pairwise (· ≤ ·) → H p = none → Q (.ref p) (upd H p (.lst (ns'.map V.int))) := fun ns' p h1 h2 hp => by
      rw [srt_eq h1 h2]
      exact k _ _ _ (h p) (.lst hp ints_rp)
    rcases e with ⟨_, ha⟩ | ⟨_, ha, _⟩
    · rw [rp_ints r] at ha
      exact .inl ⟨a, ns, rfl, SqL.of ha, fin⟩
    · rw [rp_ints r] at ha
      exact .inr ⟨a, ns, rfl, ha, fin⟩
/-! ### xs.index(k) -/
theorem toPys_ints {κ : Type} : ∀ ns : List Int, toPys (ns.map (.int : Int → D κ)) = some (ns.map .int)
  | [] => rfl
  | n :: ns => by simp [toPys, toPy, toPys_ints ns]
theorem lays_ints {κ : Type} (n : Nat) : ∀ ns : List Int, lays n (ns.map (.int : Int → D κ)) = true
  | [] => by simp [lays]
  | k :: ns => by simp [lays, lay, lays_ints n ns]
theorem eqv_int (a b : Int) : PyData.eqv (.int a) (.int b) = decide (a = b) := by
  by_cases h : a = b
  · subst h
    simp [PyData.eqv]
  · simp [PyData.eqv, h]
section
variable {τ : List (SL Z.κ)} {P : PE' Z.κ} {te to ta : TE} {tr : TA}
theorem de_lix (h : DE Z to τ fun r τ1 => (∃ xs, vw τ1 (fz r) = .lst xs) ∧ DE Z te τ1 fun r2 τ2 => ∃ (ns : List Int) (k : Int), vw τ2 (fz r) = .lst (ns.map .int) ∧ r2 = .v (.int k) ∧ k ∈ ns ∧ P (.v (.int (ns.idxOf k : Nat))) τ2) :
    DE Z (tBM K "list" (rIndexD K) to (tCons te tNil)) τ P := fun H0 w E σ H Q R c => by
  refine h H0 w E σ H _ R fun r τ1 x w1 H1 ⟨⟨xs, er⟩, h1⟩ n1 q1 => ?_
  obtain ⟨R1, v1, s1⟩ := q1.fz
  have vx := v1.view R1
  rw [er] at vx
  obtain ⟨a, vs, rfl, ha, rv⟩ := vx.lst hide_le
  refine ⟨Or.inl ⟨rfl, _, Or.inl (Or.inl ha)⟩, h1 H0 w1 E σ H1 _ R1 fun r2 τ2 y w2 H2 ⟨ns, k, e1, e2, hk, hp⟩ n2 q2 => ?_⟩
  subst e2
  have ey : y = .int k := by cases q2.2; rfl
  subst ey
  have vx2 := (v1.nxt n2).view q2.1
  rw [e1] at vx2
  have hj : ns.idxOf k < ns.length := List.idxOf_lt_length_iff.mpr hk
  have lp : toPy (.lst (ns.map (.int : Int → D Z.κ))) = some (.list (ns.map .int)) := by simp [toPy, toPys_ints]
  obtain ⟨p, ep, cp, dp⟩ := lay_py (d := .lst (ns.map (.int : Int → D Z.κ))) (n := 60) (by simp [lay, lays_ints])
  rw [lp] at ep
  cases ep
  refine ⟨a, .int k, .int k, ns.map .int, ns.idxOf k, .int k, rfl, rfl, vw_dp hide_le vx2 lp, .int k, shaped_of cp (by omega), by rfl, ?_, by rw [eqv_int]; simp, fun m z hm hz => ?_, ?_⟩
  · rw [List.getElem?_map, List.getElem?_eq_getElem hj, List.getElem_idxOf hj] <;> rfl
  · rw [List.getElem?_map] at hz
    cases e : ns[m]? with
    | none => rw [e] at hz; cases hz
    | some i =>
      rw [e] at hz
      cases hz
      rw [eqv_int]
      exact decide_eq_false fun q => idx_lt hm (by rw [e, q])
  · exact c _ _ _ w2 H2 hp (Nxt.trans Z ⟨n1.le, n1.sm.trans s1, n1.sh⟩ n2) ⟨q2.1, .int _⟩
end
end DL
set_option Elab.async false
set_option linter.all false
set_option maxRecDepth 100000
/-! DL13: defs by name; new objects behind a tuple of targets; words for the steps of a body. -/
namespace DL
open PySem PySem.Spec PyProof.Rows L2
variable {K : PySem.W.Frag} {Z : Wrl K}
theorem hu0_of {A : Around} {k : Nat} (hr : Room k A) : A.units < cLine := by have := hr.un; omega
theorem hu65_of {A : Around} {k : Nat} (hr : Room k A) : A.units + 65 < cLine := by have := hr.un; omega
/-- the def x stands, written as st -/
def Def (K : PySem.W.Frag) (mg : Str → Option Value) (x : Str) (st : Stmt) (ps : List Str) : Prop :=
  ∃ (f : Addr) (fd : FuncData), FunD K x x (defArgs st) (defBody st) (defScope st) [] [] f fd ∧ mg x = some (.ref f) ∧ PySem.W.keepIn K (.ref f) = true ∧ Binds K fd ps []
/-- the def x keeps the promise sp -/
def Has (P : Program) (w : World) (K : PySem.W.Frag) (mg : Str → Option Value) (base : Heap) (x : Str) (k : Nat) (ps : List Str) (sp : Sp) : Prop :=
  ∃ (f : Addr) (fd : FuncData), FnOk P w K mg base CX0 k f fd ps sp ∧ mg x = some (.ref f) ∧ PySem.W.keepIn K (.ref f) = true ∧ Binds K fd ps []
section
variable {P : Program} {w : World} {mg : Str → Option Value} {base : Heap} {x : Str} {st : Stmt} {ps N : List Str} {k j : Nat} {sp : Sp} {S : FS Z.κ}
theorem Has.up (h : Has P w K mg base x j ps sp) (l : j ≤ k) : Has P w K mg base x k ps sp := by
  obtain ⟨f, fd, F, r⟩ := h
  exact ⟨f, fd, F.mono l, r⟩
theorem Def.has (D : Def K mg x st ps) (sc : FnScope N ps (defScope st)) (hl : ∀ ds Q, S ds Q → ds.length = ps.length)
    (bod : ∀ (f : Addr) (cdv : Value) (A : Around) (outer : List Env) (s : Shared) (H : Hp) (E : XK), Room k (A.deeper (envOfC x (defScope st) s.heap.objs.size f cdv)) → ∃ t, PSs (cxOf CX0 P w K mg base N x (defScope st) f cdv A outer s H E).nox (defBody st) t ∧
      ∀ ds Q, S ds Q → DX Z t (init ds N.length) { nx := fun _ => Q (.v .non), rt := fun r => okr r ∧ Q r }) : Has P w K mg base x (k + 1) ps (spD Z S) := by
  obtain ⟨f, fd, F, hm, hk, hb⟩ := D
  exact ⟨f, fd, fn_dx F sc hl fun cdv A outer s H E hr => bod f cdv A outer s H E hr, hm, hk, hb⟩
end
section
variable {X : Cx} {x : Str} {p pos : Pos} {ps : List Str} {k : Nat} {sp : Sp} {e : Expr} {es : List Expr} {t : TA}
theorem pe_callH (h : Has X.prog X.w X.K X.mg X.base x k ps sp) (hr : Room k X.A) (hg : Gl X x) (ha : PA X (e :: es) t) (hdb : (x == ("__debug__" : Str)) = false := by decide)
    (he : starEach (e :: es) X.env = (false, eval e X.env) :: starEach es X.env := by rfl) (hpl : (backTo pos (starEach es X.env)).any (·.1) = false := by rfl) : PE X (.Call (.Name x p) (e :: es) [] pos) (tCall sp [] (fun _ _ _ => False) t) := by
  obtain ⟨f, fd, F, hm, hk, hb⟩ := h
  exact pe_call F hr hg hm hk hb .nil pass0 ha hdb he hpl
theorem pe_callH0 (h : Has X.prog X.w X.K X.mg X.base x k ps sp) (hr : Room k X.A) (hg : Gl X x) (hdb : (x == ("__debug__" : Str)) = false := by decide) : PE X (.Call (.Name x p) [] [] pos) (tCall sp [] (fun _ _ _ => False) tNil) := by
  obtain ⟨f, fd, F, hm, hk, hb⟩ := h
  exact pe_call0 F hr hg hm hk hb .nil pass0 hdb
theorem pe_globI {i : Int} (hg : Gl X x) (hm : ∃ t, X.mg x = some (.int i t)) (hd : (x == ("__debug__" : Str)) = false := by decide) : PE X (.Name x pos) (tC (.int i)) := by
  obtain ⟨t, hm⟩ := hm
  exact pe_glob hg hm ⟨t, rfl⟩ hd
end
section
variable {τ : List (SL Z.κ)} {P : PE' Z.κ} {te ta tb : TE} {tr : TA} {D1 : DEnd Z.κ}
/-- a, b = new values, by way of a tuple -/
theorem dx_asgT2 {i j : Nat} (h : DAo Z tr τ fun rs τ1 => ∃ r s, rs = [r, s] ∧ D1.nx (sto (sto τ1 i r) j s)) : DX Z (tAsg (tTup tr) (gTup K 2 (gCons (gName i) (gCons (gName j) gNil)))) τ D1 := fun H0 w σ H Dc R a b c d => by
  refine h H0 w [] σ H _ R fun rs τ1 xs w1 H1 h1 n1 R1 vs => ?_
  obtain ⟨r, s, rfl, k⟩ := h1
  cases vs with
  | @cons x _ _ _ v1 t =>
    cases t with
    | @cons y _ _ _ v2 t =>
      cases t
      refine ⟨small_line (by simp), fun p hp => ?_⟩
      obtain ⟨R1', s1⟩ := R1.ext (same_new (o := .tup [x, y]) hp)
      have v1' := v1.nxt (Z.refl w1) s1
      have v2' := v2.nxt (Z.refl w1) s1
      refine ⟨p, [x, y], rfl, .inl (.inl upd_same), rfl, x, [y], rfl, y, [], rfl, rfl, ?_⟩
      have n1' : nob r = true := by cases r <;> first | rfl | exact v1.elim
      have n2' : nob s = true := by cases s <;> first | rfl | exact v2.elim
      have e1 : pnd [r, s] ++ [] = pn s ++ (pn r ++ ([] : Pd Z.κ)) := by simp [pnd]
      rw [e1] at R1' v1' v2'
      obtain ⟨R2, s2⟩ := Rep.stoo n1' R1' v1' i
      have e2 : pn s ++ ([] : Pd Z.κ) = [] ++ (pn s ++ []) := by simp
      have v3 := v2'.nxt (Z.refl w1) s2
      rw [e2] at R2 v3
      obtain ⟨R3, s3⟩ := Rep.stoo n2' R2 v3 j
      exact a _ _ w1 _ k n1.le R3
/-! ### words: one rule for one construct, values told -/
theorem de_I0 {f : Int → Int → Int} (h : DE Z ta τ fun r τ1 => ∃ i, r = .v (.int i) ∧ DE Z tb τ1 fun s τ2 => ∃ j, s = .v (.int j) ∧ P (.v (.int (f i j))) τ2) : DE Z (tOp (rI0 fun i j => .int (f i j)) ta tb) τ P :=
  de_op bs_I0 (DE.mono h fun r τ1 ⟨i, e, h⟩ => DE.mono h fun s τ2 ⟨j, e2, h⟩ => by subst e e2; exact h)
theorem de_B0 {f : Int → Int → Bool} (h : DE Z ta τ fun r τ1 => ∃ i, r = .v (.int i) ∧ DE Z tb τ1 fun s τ2 => ∃ j, s = .v (.int j) ∧ P (.v (.bl (f i j))) τ2) : DE Z (tOp (rI0 fun i j => .bl (f i j)) ta tb) τ P :=
  de_op bs_B0 (DE.mono h fun r τ1 ⟨i, e, h⟩ => DE.mono h fun s τ2 ⟨j, e2, h⟩ => by subst e e2; exact h)
theorem de_addI (h : DE Z ta τ fun r τ1 => ∃ i, r = .v (.int i) ∧ DE Z tb τ1 fun s τ2 => ∃ j, s = .v (.int j) ∧ P (.v (.int (i + j))) τ2) : DE Z (tOp (rAdd' K) ta tb) τ P :=
  de_op bs_add (DE.mono h fun r τ1 ⟨i, e, h⟩ => DE.mono h fun s τ2 ⟨j, e2, h⟩ => by subst e e2; exact h)
theorem de_addT (h : DE Z ta τ fun r τ1 => ∃ xs, r = .v (.tup xs) ∧ DE Z tb τ1 fun s τ2 => ∃ ys, s = .v (.tup ys) ∧ xs.length + ys.length ≤ 100000 ∧ P (.v (.tup (xs ++ ys))) τ2) : DE Z (tOp (rAdd' K) ta tb) τ P :=
  de_op bs_add (DE.mono h fun r τ1 ⟨i, e, h⟩ => DE.mono h fun s τ2 ⟨j, e2, h⟩ => by subst e e2; exact h)
theorem de_addL (h : DE Z ta τ fun r τ1 => DE Z tb τ1 fun s τ2 => ∃ xs ys, vw τ2 (fz r) = .lst xs ∧ vw τ2 (fz s) = .lst ys ∧ xs.length + ys.length ≤ 100000 ∧ ∀ p, P (.n p (.lst (xs ++ ys))) τ2) : DE Z (tOp (rAdd' K) ta tb) τ P :=
  de_op bs_add (DE.mono h fun r τ1 h => DE.mono h fun s τ2 ⟨xs, ys, e1, e2, h⟩ => by rw [e1, e2]; exact h)
theorem de_ltI (h : DE Z ta τ fun r τ1 => ∃ i, r = .v (.int i) ∧ DE Z tb τ1 fun s τ2 => ∃ j, s = .v (.int j) ∧ P (.v (.bl (decide (i < j)))) τ2) : DE Z (tOp (rLt' K) ta tb) τ P :=
  de_op bs_lt (DE.mono h fun r τ1 ⟨i, e, h⟩ => DE.mono h fun s τ2 ⟨j, e2, h⟩ => by subst e e2; exact h)
theorem de_eq (h : DE Z ta τ fun r τ1 => DE Z tb τ1 fun s τ2 => ∃ d e, vw τ2 (fz r) = d ∧ vw τ2 (fz s) = e ∧ lay 60 d = true ∧ lay 60 e = true ∧ P (.v (.bl (eqD d e))) τ2) : DE Z (tOp (rEqD K) ta tb) τ P :=
  de_op bs_eq (DE.mono h fun r τ1 h => DE.mono h fun s τ2 ⟨d, e, e1, e2, h⟩ => by rw [e1, e2]; exact h)
theorem de_ne (h : DE Z ta τ fun r τ1 => DE Z tb τ1 fun s τ2 => ∃ d e, vw τ2 (fz r) = d ∧ vw τ2 (fz s) = e ∧ lay 60 d = true ∧ lay 60 e = true ∧ P (.v (.bl (!eqD d e))) τ2) : DE Z (tOp (rNeD K) ta tb) τ P :=
  de_op bs_ne (DE.mono h fun r τ1 h => DE.mono h fun s τ2 ⟨d, e, e1, e2, h⟩ => by rw [e1, e2]; exact h)
theorem de_in (h : DE Z ta τ fun r τ1 => DE Z tb τ1 fun s τ2 => ∃ d e xs, vw τ2 (fz r) = d ∧ vw τ2 (fz s) = e ∧ seqD e = some xs ∧ lay 60 d = true ∧ lay 60 e = true ∧ P (.v (.bl (xs.any fun z => eqD z d))) τ2) : DE Z (tOp (rInA K) ta tb) τ P :=
  de_op bs_in (DE.mono h fun r τ1 h => DE.mono h fun s τ2 ⟨d, e, xs, e1, e2, e3, l1, l2, h⟩ => by rw [e1, e2]; exact ⟨l1, l2, xs, e3, h⟩)
theorem de_nin (h : DE Z ta τ fun r τ1 => DE Z tb τ1 fun s τ2 => ∃ d e xs, vw τ2 (fz r) = d ∧ vw τ2 (fz s) = e ∧ seqD e = some xs ∧ lay 60 d = true ∧ lay 60 e = true ∧ P (.v (.bl (!(xs.any fun z => eqD z d)))) τ2) : DE Z (tOp (rNotInA K) ta tb) τ P :=
  de_op bs_notIn (DE.mono h fun r τ1 h => DE.mono h fun s τ2 ⟨d, e, xs, e1, e2, e3, l1, l2, h⟩ => by rw [e1, e2]; exact ⟨l1, l2, xs, e3, h⟩)
theorem de_ix (h : DE Z ta τ fun r τ1 => DE Z tb τ1 fun s τ2 => ∃ xs i y, seqD (vw τ2 (fz r)) = some xs ∧ s = .v (.int i) ∧ atI xs i = some y ∧ P (.v y) τ2) : DE Z (tOp (rIxA K) ta tb) τ P :=
  de_op bs_ix (DE.mono h fun r τ1 h => DE.mono h fun s τ2 ⟨xs, i, y, e1, e2, h⟩ => by subst e2; exact ⟨xs, i, y, e1, rfl, h⟩)
theorem de_nN (h : DE Z ta τ fun r τ1 => ∃ d, vw τ1 (fz r) = d ∧ told d = true ∧ P (.v (.bl (isNon d))) τ1) : DE Z (tIsN ta) τ P :=
  de_isN (DE.mono h fun r τ1 ⟨d, e, t, h⟩ => by rw [e]; exact ⟨t, h⟩)
theorem de_nnN (h : DE Z ta τ fun r τ1 => ∃ d, vw τ1 (fz r) = d ∧ told d = true ∧ P (.v (.bl (!isNon d))) τ1) : DE Z (tNotN ta) τ P :=
  de_notN (DE.mono h fun r τ1 ⟨d, e, t, h⟩ => by rw [e]; exact ⟨t, h⟩)
theorem de_len (h : DE Z ta τ fun r τ1 => ∃ xs, seqD (vw τ1 (fz r)) = some xs ∧ P (.v (.int (xs.length : Nat))) τ1) : DE Z (tCB (fun xs H Q => ∃ p ys, xs = [V.ref p] ∧ (SqL K H p ys ∨ SqT K H p ys) ∧ Q (.int ys.length) H) (tCons ta tNil)) τ P :=
  de_cb bs_len (da_cons (DE.mono h fun r τ1 ⟨xs, e, h⟩ => da_nil ⟨_, xs, rfl, by cases r <;> exact e, h⟩))
theorem de_isi1 {n : String} (h : DE Z ta τ fun r τ1 => ∃ t b, tyD (vw τ1 (fz r)) = some t ∧ kitB t n = some b ∧ P (.v (.bl b)) τ1) : DE Z (tCB (rIsi K) (tCons ta (tCons (tC (.ty n)) tNil))) τ P :=
  de_cb bs_isi (da_cons (DE.mono h fun r τ1 ⟨t, b, e1, e2, h⟩ => da_cons (de_ty (da_nil ⟨_, n, t, b, rfl, by cases r <;> exact e1, e2, h⟩))))
theorem de_all (h : DE Z ta τ fun r τ1 => ∃ bs : List Bool, vw τ1 (fz r) = .lst (bs.map .bl) ∧ P (.v (.bl (bs.all id))) τ1) : DE Z (tCB (rAll K) (tCons ta tNil)) τ P :=
  de_cb bs_all (da_cons (DE.mono h fun r τ1 ⟨bs, e, h⟩ => da_nil ⟨bs, by rw [List.map_cons, List.map_nil, e], h⟩))
theorem de_any (h : DE Z ta τ fun r τ1 => ∃ bs : List Bool, vw τ1 (fz r) = .lst (bs.map .bl) ∧ P (.v (.bl (bs.any id))) τ1) : DE Z (tCB (rAny K) (tCons ta tNil)) τ P :=
  de_cb bs_any (da_cons (DE.mono h fun r τ1 ⟨bs, e, h⟩ => da_nil ⟨bs, by rw [List.map_cons, List.map_nil, e], h⟩))
/-! ### comprehensions over rows of one kind -/
variable {wi : TI} {g : TG} {tt : TT} {L vs : List Nat}
theorem filterMap_enc {α κ : Type} (enc : α → D κ) (f : D κ → Option (D κ)) (c : α → Bool) (e : α → D κ) : ∀ (xs : List α), (∀ a ∈ xs, f (enc a) = if c a = true then some (e a) else none) → (xs.map enc).filterMap f = (xs.filter c).map e
  | [], _ => rfl
  | a :: xs, h => by
    have h1 := h a List.mem_cons_self
    have h2 := filterMap_enc enc f c e xs fun b hb => h b (List.mem_cons_of_mem _ hb)
    by_cases q : c a = true
    · rw [if_pos q] at h1
      rw [List.map_cons, List.filterMap_cons, h1, h2, List.filter_cons, if_pos q, List.map_cons]
    · rw [if_neg q] at h1
      rw [List.map_cons, List.filterMap_cons, h1, h2, List.filter_cons, if_neg q]
/-- [e for g in wi if c]: the items are the codes of xs -/
theorem de_lcT {α : Type} (enc : α → D Z.κ) (c : α → Bool) (e : α → D Z.κ) (h : DI Z wi τ fun items src τ1 => ∃ xs : List α, items = xs.map enc ∧ clear τ1 vs ∧ (∀ i, i ∈ L → i ∈ vs) ∧ xs.length ≤ 100000 ∧ (match src with | none => True | some k => k ∉ vs) ∧
    (∀ a, a ∈ xs → DG Z L g (enc a) (wipeS τ1 vs) fun τ2 => DT Z tt τ2 fun b τ3 => τ3 = τ2 ∧ b = c a ∧ (c a = true → DE Z te τ3 fun r τ4 => τ4 = τ2 ∧ fz r = .v (e a))) ∧ ∀ p, P (.n p (.lst ((xs.filter c).map e))) τ1) : DE Z (tLc wi g tt te vs) τ P := by
  refine de_lcI (L := L) (DI.mono h ?_)
  rintro items src τ1 ⟨xs, rfl, h1, h2, h3, h4, ht, hd⟩
  refine ⟨h1, h2, by rw [List.length_map]; exact h3, h4, fun i acc => acc = ((xs.take i).filter c).map e, rfl, fun i d acc ed ha => ?_, fun acc p ha => ?_⟩
  · rw [List.getElem?_map] at ed
    cases q : xs[i]? with
    | none => rw [q] at ed; cases ed
    | some a =>
      rw [q] at ed
      cases ed
      have et : xs.take (i + 1) = xs.take i ++ [a] := by rw [List.take_add_one, q] <;> rfl
      refine DG.mono (ht a (List.mem_of_getElem? q)) fun τ2 hq => DT.mono hq fun b τ3 ⟨e1, e2, hq⟩ => ⟨e1, ?_⟩
      subst e2
      cases hc : c a with
      | true =>
        rw [if_pos rfl]
        refine DE.mono (hq hc) fun r τ4 ⟨e1, e2⟩ => ⟨e1, _, e2, ?_⟩
        show acc ++ [e a] = _
        rw [et, List.filter_append, List.map_append, ha, List.filter_cons, if_pos hc] <;> rfl
      | false =>
        rw [if_neg Bool.false_ne_true]
        show acc = _
        rw [et, List.filter_append, List.map_append, ha, List.filter_cons, if_neg (by rw [hc]; exact Bool.false_ne_true)]
        simp
  · have := ha
    rw [List.length_map, List.take_length] at this
    rw [this]
    exact hd p
end
end DL
set_option Elab.async false
set_option linter.all false
set_option maxRecDepth 100000
/-! DL14: isinstance by kinds; small words. -/
namespace DL
open PySem PySem.Spec PyProof.Rows L2
variable {K : PySem.W.Frag} {Z : Wrl K}
theorem iteT' {c : Bool} {A B : Prop} (h : c = true) (a : A) : if c = true then A else B := by rw [if_pos h]; exact a
theorem iteF' {c : Bool} {A B : Prop} (h : c = false) (b : B) : if c = true then A else B := by rw [if_neg (by rw [h]; exact Bool.false_ne_true)]; exact b
theorem iteB {c : Bool} {A B : Prop} (a : c = true → A) (b : c = false → B) : if c = true then A else B := by
  cases h : c with
  | true => exact iteT' rfl (a h)
  | false => exact iteF' rfl (b h)
def isIntD {κ : Type} : D κ → Bool
  | .int _ => true
  | .bl _ => true
  | _ => false
def isBlD {κ : Type} : D κ → Bool
  | .bl _ => true
  | _ => false
def isTupD {κ : Type} : D κ → Bool
  | .tup _ => true
  | _ => false
def isLstD {κ : Type} : D κ → Bool
  | .lst _ => true
  | _ => false
def isStrD {κ : Type} : D κ → Bool
  | .str _ => true
  | _ => false
theorem kb_all : ["NoneType", "bool", "int", "str", "tuple", "list", "dict"].all (fun t => ["bool", "int", "str", "tuple", "list"].all fun n => kitB t n == some (t == n || (t == "bool" && n == "int"))) = true := by decide +kernel
section
variable {τ : List (SL Z.κ)} {P : PE' Z.κ} {te ta tb : TE} {tr : TA} {D1 : DEnd Z.κ}
theorem ty_mem {κ : Type} {d : D κ} {t : String} (h : tyD d = some t) : t ∈ ["NoneType", "bool", "int", "str", "tuple", "list", "dict"] := by
  cases d <;> simp [tyD] at h <;> subst h <;> simp
theorem kb_of {t n : String} (ht : t ∈ ["NoneType", "bool", "int", "str", "tuple", "list", "dict"]) (hn : n ∈ ["bool", "int", "str", "tuple", "list"]) : kitB t n = some (t == n || (t == "bool" && n == "int")) := by
  have h := kb_all
  rw [List.all_eq_true] at h
  have h1 := h t ht
  rw [List.all_eq_true] at h1
  exact eq_of_beq (h1 n hn)
theorem de_isInt (h : DE Z ta τ fun r τ1 => (tyD (vw τ1 (fz r))).isSome = true ∧ P (.v (.bl (isIntD (vw τ1 (fz r))))) τ1) : DE Z (tCB (rIsi K) (tCons ta (tCons (tC (.ty "int")) tNil))) τ P :=
  de_isi1 (DE.mono h fun r τ1 ⟨e, h⟩ => by
    obtain ⟨t, e⟩ := Option.isSome_iff_exists.mp e
    refine ⟨t, _, e, kb_of (ty_mem e) (by simp), ?_⟩
    generalize vw τ1 (fz r) = d at e h
    cases d <;> simp [tyD] at e <;> subst e <;> exact h)
theorem de_isBl (h : DE Z ta τ fun r τ1 => (tyD (vw τ1 (fz r))).isSome = true ∧ P (.v (.bl (isBlD (vw τ1 (fz r))))) τ1) : DE Z (tCB (rIsi K) (tCons ta (tCons (tC (.ty "bool")) tNil))) τ P :=
  de_isi1 (DE.mono h fun r τ1 ⟨e, h⟩ => by
    obtain ⟨t, e⟩ := Option.isSome_iff_exists.mp e
    refine ⟨t, _, e, kb_of (ty_mem e) (by simp), ?_⟩
    generalize vw τ1 (fz r) = d at e h
    cases d <;> simp [tyD] at e <;> subst e <;> exact h)
theorem de_isTup (h : DE Z ta τ fun r τ1 => (tyD (vw τ1 (fz r))).isSome = true ∧ P (.v (.bl (isTupD (vw τ1 (fz r))))) τ1) : DE Z (tCB (rIsi K) (tCons ta (tCons (tC (.ty "tuple")) tNil))) τ P :=
  de_isi1 (DE.mono h fun r τ1 ⟨e, h⟩ => by
    obtain ⟨t, e⟩ := Option.isSome_iff_exists.mp e
    refine ⟨t, _, e, kb_of (ty_mem e) (by simp), ?_⟩
    generalize vw τ1 (fz r) = d at e h
    cases d <;> simp [tyD] at e <;> subst e <;> exact h)
theorem de_isStr (h : DE Z ta τ fun r τ1 => (tyD (vw τ1 (fz r))).isSome = true ∧ P (.v (.bl (isStrD (vw τ1 (fz r))))) τ1) : DE Z (tCB (rIsi K) (tCons ta (tCons (tC (.ty "str")) tNil))) τ P :=
  de_isi1 (DE.mono h fun r τ1 ⟨e, h⟩ => by
    obtain ⟨t, e⟩ := Option.isSome_iff_exists.mp e
    refine ⟨t, _, e, kb_of (ty_mem e) (by simp), ?_⟩
    generalize vw τ1 (fz r) = d at e h
    cases d <;> simp [tyD] at e <;> subst e <;> exact h)
theorem de_isRow (h : DE Z ta τ fun r τ1 => (tyD (vw τ1 (fz r))).isSome = true ∧ P (.v (.bl (isLstD (vw τ1 (fz r)) || isTupD (vw τ1 (fz r))))) τ1) : DE Z (tCB (rIsiT K) (tCons ta (tCons (tTup (tCons (tC (.ty "list")) (tCons (tC (.ty "tuple")) tNil))) tNil))) τ P :=
  de_isi2 (DE.mono h fun r τ1 ⟨e, h⟩ => by
    obtain ⟨t, e⟩ := Option.isSome_iff_exists.mp e
    have ht := ty_mem e
    refine ⟨t, (t == "list" || t == "tuple"), e, ?_, ?_⟩
    · have h1 := kb_of ht (n := "list") (by simp)
      have h2 := kb_of ht (n := "tuple") (by simp)
      have e1 : PySem.W.kitOne K (.type t) (.type "list") = some (t == "list") := by rw [kit_ty h1]; simp
      have e2 : PySem.W.kitOne K (.type t) (.type "tuple") = some (t == "tuple") := by rw [kit_ty h2]; simp
      simp only [PySem.W.kitAny, e1, e2]
      cases (t == "list") <;> cases (t == "tuple") <;> rfl
    · generalize vw τ1 (fz r) = d at e h
      cases d <;> simp [tyD] at e <;> subst e <;> exact h)
end
end DL
set_option Elab.async false
set_option linter.all false
set_option maxRecDepth 100000
/-! DL15: comprehensions in short; slices and pairs of told rows. -/
namespace DL
open PySem PySem.Spec PyProof.Rows L2
variable {K : PySem.W.Frag} {Z : Wrl K}
def clrB {κ : Type} (τ : List (SL κ)) (vs : List Nat) : Bool := vs.all fun v => match τ[v]? with
  | some (.own _ _) => false
  | _ => true
theorem clr_of {κ : Type} {τ : List (SL κ)} {vs : List Nat} (h : clrB τ vs = true) : clear τ vs := fun v hv p c e => by
  have := List.all_eq_true.mp h v hv
  rw [e] at this
  cases this
def inB (L vs : List Nat) : Bool := L.all fun i => vs.contains i
theorem in_of {L vs : List Nat} (h : inB L vs = true) : ∀ i, i ∈ L → i ∈ vs := fun i hi => by
  have := List.all_eq_true.mp h i hi
  simpa using this
def srcB (s : Option Nat) (vs : List Nat) : Bool := match s with
  | none => true
  | some k => !vs.contains k
theorem Wr.up {κ : Type} {L M : List Nat} {τ τ' : List (SL κ)} (h : ∀ i, i ∈ L → i ∈ M) (w : Wr L τ τ') : Wr M τ τ' where
  keep := fun k hk => w.keep k fun m => hk (h k m)
  own := fun c => w.own fun v hv => c v (h v hv)
  clr := w.clr
section
variable {τ : List (SL Z.κ)} {L M : List Nat} {g : TG} {gs : TGs} {d : D Z.κ} {ds : List (D Z.κ)} {Q : List (SL Z.κ) → Prop}
theorem DG.up (hl : ∀ i, i ∈ L → i ∈ M) (h : DG Z L g d τ Q) : DG Z M g d τ Q := fun H0 w E σ H x k R r c =>
  h H0 w E σ H x k R r fun τ' σ' q s R' wp wr => c τ' σ' q s R' (fun vs hv => wp vs fun i hi => hv i (hl i hi)) (wr.up hl)
theorem DGs.up (hl : ∀ i, i ∈ L → i ∈ M) (h : DGs Z L gs ds τ Q) : DGs Z M gs ds τ Q := fun H0 w E σ H x k R r c =>
  h H0 w E σ H x k R r fun τ' σ' q s R' wp wr => c τ' σ' q s R' (fun vs hv => wp vs fun i hi => hv i (hl i hi)) (wr.up hl)
theorem dg_nm {i : Nat} (hi : M.contains i = true) (h : Q (τ.set i (.d d))) : DG Z M (gName i) d τ Q := DG.up (fun j hj => by rw [List.mem_singleton.mp hj]; simpa using hi) (dg_name h)
theorem dgs_nl (h : Q τ) : DGs Z M gNil [] τ Q := DGs.up (fun j hj => by cases hj) (dgs_nil h)
theorem dgs_cn (h : DG Z M g d τ fun τ1 => DGs Z M gs ds τ1 Q) : DGs Z M (gCons g gs) (d :: ds) τ Q := DGs.up (fun j hj => (List.mem_append.mp hj).elim id id) (dgs_cons h)
theorem dg_tp {n : Nat} (hn : ds.length = n) (h : DGs Z M gs ds τ Q) : DG Z M (gTup K n gs) (.tup ds) τ Q := dg_tup hn h
end
section
variable {τ : List (SL Z.κ)} {P : PE' Z.κ} {te ta tb : TE} {tr : TA} {D1 : DEnd Z.κ} {wi : TI} {g : TG} {tt : TT} {vs : List Nat}
/-- [e for g in wi if c] -/
theorem de_lcF {α : Type} (enc : α → D Z.κ) (c : α → Bool) (e : α → D Z.κ) (h : DI Z wi τ fun items src τ1 => ∃ xs : List α, items = xs.map enc ∧
    (∀ a, a ∈ xs → DG Z vs g (enc a) (wipeS τ1 vs) fun τ2 => DT Z tt τ2 fun b τ3 => τ3 = τ2 ∧ b = c a ∧ (c a = true → DE Z te τ3 fun r τ4 => τ4 = τ2 ∧ fz r = .v (e a))) ∧
    clrB τ1 vs = true ∧ xs.length ≤ 100000 ∧ srcB src vs = true ∧ ∀ p, P (.n p (.lst ((xs.filter c).map e))) τ1) : DE Z (tLc wi g tt te vs) τ P :=
  de_lcT (L := vs) enc c e (DI.mono h fun items src τ1 ⟨xs, e1, h1, h2, h4, h5, h6⟩ => ⟨xs, e1, clr_of h2, fun _ h => h, h4, (by cases src with | none => trivial | some k => simpa [srcB] using h5), h1, h6⟩)
/-- [e for g in wi] -/
theorem de_lcM {α : Type} (enc : α → D Z.κ) (e : α → D Z.κ) (h : DI Z wi τ fun items src τ1 => ∃ xs : List α, items = xs.map enc ∧
    (∀ a, a ∈ xs → DG Z vs g (enc a) (wipeS τ1 vs) fun τ2 => DE Z te τ2 fun r τ4 => τ4 = τ2 ∧ fz r = .v (e a)) ∧
    clrB τ1 vs = true ∧ xs.length ≤ 100000 ∧ srcB src vs = true ∧ ∀ p, P (.n p (.lst (xs.map e))) τ1) : DE Z (tLc wi g tYes te vs) τ P :=
  de_lcF enc (fun _ => true) e (DI.mono h fun items src τ1 ⟨xs, e1, h1, h2, h4, h5, h6⟩ => ⟨xs, e1, fun a ha => DG.mono (h1 a ha) fun τ2 q => dt_yes ⟨rfl, rfl, fun _ => q⟩, h2, h4, h5, fun p => by
    rw [List.filter_eq_self.mpr fun _ _ => rfl]
    exact h6 p⟩)
theorem de_allC {α : Type} (enc : α → D Z.κ) (c : α → Bool) (h : DI Z wi τ fun items src τ1 => ∃ xs : List α, items = xs.map enc ∧
    (∀ a, a ∈ xs → DG Z vs g (enc a) (wipeS τ1 vs) fun τ2 => DE Z te τ2 fun r τ4 => τ4 = τ2 ∧ fz r = .v (.bl (c a))) ∧
    clrB τ1 vs = true ∧ xs.length ≤ 100000 ∧ srcB src vs = true ∧ P (.v (.bl (xs.all c))) τ1) : DE Z (tCB (rAll K) (tCons (tLc wi g tYes te vs) tNil)) τ P :=
  de_all (de_lcM enc (fun a => .bl (c a)) (DI.mono h fun items src τ1 ⟨xs, e1, h1, h2, h4, h5, h6⟩ => ⟨xs, e1, h1, h2, h4, h5, fun p => ⟨xs.map c, by simp [vw, fz, OC.dat], by
    rw [List.all_map]
    exact h6⟩⟩))
theorem de_anyC {α : Type} (enc : α → D Z.κ) (c : α → Bool) (h : DI Z wi τ fun items src τ1 => ∃ xs : List α, items = xs.map enc ∧
    (∀ a, a ∈ xs → DG Z vs g (enc a) (wipeS τ1 vs) fun τ2 => DE Z te τ2 fun r τ4 => τ4 = τ2 ∧ fz r = .v (.bl (c a))) ∧
    clrB τ1 vs = true ∧ xs.length ≤ 100000 ∧ srcB src vs = true ∧ P (.v (.bl (xs.any c))) τ1) : DE Z (tCB (rAny K) (tCons (tLc wi g tYes te vs) tNil)) τ P :=
  de_any (de_lcM enc (fun a => .bl (c a)) (DI.mono h fun items src τ1 ⟨xs, e1, h1, h2, h4, h5, h6⟩ => ⟨xs, e1, h1, h2, h4, h5, fun p => ⟨xs.map c, by simp [vw, fz, OC.dat], by
    rw [List.any_map]
    exact h6⟩⟩))
theorem de_allF {α : Type} (enc : α → D Z.κ) (t c : α → Bool) (h : DI Z wi τ fun items src τ1 => ∃ xs : List α, items = xs.map enc ∧
    (∀ a, a ∈ xs → DG Z vs g (enc a) (wipeS τ1 vs) fun τ2 => DT Z tt τ2 fun b τ3 => τ3 = τ2 ∧ b = t a ∧ (t a = true → DE Z te τ3 fun r τ4 => τ4 = τ2 ∧ fz r = .v (.bl (c a)))) ∧
    clrB τ1 vs = true ∧ xs.length ≤ 100000 ∧ srcB src vs = true ∧ P (.v (.bl ((xs.filter t).all c))) τ1) : DE Z (tCB (rAll K) (tCons (tLc wi g tt te vs) tNil)) τ P :=
  de_all (de_lcF enc t (fun a => .bl (c a)) (DI.mono h fun items src τ1 ⟨xs, e1, h1, h2, h4, h5, h6⟩ => ⟨xs, e1, h1, h2, h4, h5, fun p => ⟨(xs.filter t).map c, by simp [vw, fz, OC.dat], by
    rw [List.all_map]
    exact h6⟩⟩))
end
/-! ### slices, pairs -/
theorem cut_from {α : Type} (xs : List α) (k : Nat) : cutL xs (some (k : Int)) none = xs.drop k := by
  unfold cutL
  rw [HT.sIx_nat, HT.sIx_none]
  by_cases h : k ≤ xs.length
  · rw [Nat.min_eq_left h, ← List.length_drop, List.take_length]
  · rw [Nat.min_eq_right (by omega), List.drop_eq_nil_of_le (Nat.le_refl _), List.drop_eq_nil_of_le (by omega)]
    simp
theorem cut_to {α : Type} (xs : List α) (k : Nat) : cutL xs none (some (k : Int)) = xs.take k := by
  unfold cutL
  rw [HT.sIx_nat, HT.sIx_none, List.drop_zero, Nat.sub_zero]
  by_cases h : k ≤ xs.length
  · rw [Nat.min_eq_left h]
  · rw [Nat.min_eq_right (by omega), List.take_length, List.take_of_length_le (by omega)]
theorem cut_all {α : Type} (xs : List α) : cutL xs none none = xs := by
  unfold cutL
  rw [HT.sIx_none, HT.sIx_none, List.drop_zero, Nat.sub_zero, List.take_length]
theorem cut_mid {α : Type} (xs : List α) (i j : Nat) (h : i ≤ j) : cutL xs (some (i : Int)) (some (j : Int)) = (xs.drop i).take (j - i) := by
  unfold cutL
  rw [HT.sIx_nat, HT.sIx_nat]
  by_cases h1 : i ≤ xs.length
  · rw [Nat.min_eq_left h1]
    by_cases h2 : j ≤ xs.length
    · rw [Nat.min_eq_left h2]
    · rw [Nat.min_eq_right (by omega), List.take_of_length_le (by rw [List.length_drop]; omega), List.take_of_length_le (by rw [List.length_drop]; omega)]
  · rw [Nat.min_eq_right (by omega), Nat.min_eq_right (by omega), List.drop_eq_nil_of_le (Nat.le_refl _), List.drop_eq_nil_of_le (show xs.length ≤ i by omega)]
    simp
theorem cut_map {α β : Type} (f : α → β) (xs : List α) (lo hi : Option Int) : cutL (xs.map f) lo hi = (cutL xs lo hi).map f := by
  unfold cutL
  rw [List.length_map, List.map_take, List.map_drop]
theorem zip_map {κ α β : Type} (f : α → D κ) (g : β → D κ) : ∀ (xs : List α) (ys : List β), zipD (xs.map f) (ys.map g) = (xs.zip ys).map fun p => .tup [f p.1, g p.2]
  | [], _ => rfl
  | _ :: _, [] => rfl
  | x :: xs, y :: ys => by
    have := zip_map f g xs ys
    simp only [zipD] at this ⊢
    rw [List.map_cons, List.map_cons, List.zipWith_cons_cons, this] <;> rfl
theorem enu_map {κ α : Type} (f : α → D κ) (xs : List α) : enuD (xs.map f) = xs.zipIdx.map fun p => .tup [.int (p.2 : Nat), f p.1] := by
  unfold enuD
  apply List.ext_getElem?
  intro i
  simp only [List.getElem?_mapIdx, List.getElem?_map, List.getElem?_zipIdx, Option.map_map]
  cases xs[i]? <;> simp
theorem rg_map {κ : Type} (a b : Int) : (rgD a b : List (D κ)) = ((List.range (b - a).toNat).map fun i => a + (i : Nat)).map .int := by
  unfold rgD
  rw [List.map_map] <;> rfl
/-- 0 .. n - 1 -/
def ups (n : Nat) : List Int := (List.range n).map fun (i : Nat) => (i : Int)
theorem rg_up {κ : Type} (n : Nat) : (rgD 0 (n : Int) : List (D κ)) = (ups n).map .int := by
  rw [rg_map]
  unfold ups
  congr 1
  simp
theorem range_up {κ : Type} (n : Nat) : ((List.range (n : Int).toNat).map fun i => (.int (i : Nat) : D κ)) = (ups n).map .int := by
  unfold ups
  rw [List.map_map, Int.toNat_natCast] <;> rfl
theorem lays_map {κ α : Type} {n : Nat} (f : α → D κ) : ∀ (xs : List α), (∀ a ∈ xs, lay n (f a) = true) → lays n (xs.map f) = true
  | [], _ => by simp [lays]
  | x :: xs, h => by
    rw [List.map_cons]
    simp only [lays, Bool.and_eq_true]
    exact ⟨h x List.mem_cons_self, lays_map f xs fun a ha => h a (List.mem_cons_of_mem _ ha)⟩
theorem purs_map {κ α : Type} (f : α → D κ) : ∀ (xs : List α), (∀ a ∈ xs, (f a).pur = true) → D.purs (xs.map f) = true
  | [], _ => rfl
  | x :: xs, h => by
    rw [List.map_cons]
    simp only [D.purs, Bool.and_eq_true]
    exact ⟨h x List.mem_cons_self, purs_map f xs fun a ha => h a (List.mem_cons_of_mem _ ha)⟩
theorem purs_ints {κ : Type} (ns : List Int) : D.purs (ns.map (.int : Int → D κ)) = true := purs_map _ _ fun _ _ => rfl
theorem eqD_int {κ : Type} (a b : Int) : eqD (.int a : D κ) (.int b) = decide (a = b) := by
  show PyData.eqv (.int a) (.int b) = _
  exact eqv_int a b
theorem eqD_bl {κ : Type} (a b : Bool) : eqD (.bl a : D κ) (.bl b) = decide (a = b) := by
  show PyData.eqv (.bool a) (.bool b) = _
  cases a <;> cases b <;> simp [PyData.eqv]
theorem eqD_str {κ : Type} (a b : Str) : eqD (.str a : D κ) (.str b) = decide (a = b) := by
  show PyData.eqv (.str a) (.str b) = _
  simp [PyData.eqv]
  rw [Bool.beq_eq_decide_eq]
end DL
set_option Elab.async false
set_option linter.all false
set_option maxRecDepth 100000
/-! DL16: the rules by a written part K that is named. -/
namespace DL
open PySem PySem.Spec PyProof.Rows L2 RZ
variable {K : PySem.W.Frag} {X : Cx}
theorem kop_add (h : X.K = K) : OpR X (binaryOp .Add) (rAdd' K) := h ▸ op_add'
theorem kop_mul (h : X.K = K) : OpR X (binaryOp .Mult) (rMul' K) := h ▸ op_mul'
theorem kop_lt (h : X.K = K) (hu : X.A.units < cLine) : OpR X (compareOp .Lt) (rLt' K) := h ▸ op_lt' hu
theorem kop_eq (h : X.K = K) (hu : X.A.units + 65 < cLine) : OpR X (compareOp .Eq) (rEqD K) := h ▸ op_eqD (by omega)
theorem kop_ne (h : X.K = K) (hu : X.A.units + 65 < cLine) : OpR X (compareOp .NotEq) (rNeD K) := h ▸ op_neD (by omega)
theorem kop_in (h : X.K = K) (hu : X.A.units + 65 < cLine) : OpR X (compareOp .In) (rInA K) := h ▸ op_inA hu
theorem kop_nin (h : X.K = K) (hu : X.A.units + 65 < cLine) : OpR X (compareOp .NotIn) (rNotInA K) := h ▸ op_notInA hu
theorem kix (h : X.K = K) : IxR X (rIxA K) := h ▸ ix_seqA
theorem ksl (h : X.K = K) : SlR X (rSlAll K) := h ▸ sl_all
theorem klen (h : X.K = K) : CallR X (.builtin "len") (fun xs H Q => ∃ p ys, xs = [V.ref p] ∧ (SqL K H p ys ∨ SqT K H p ys) ∧ Q (.int ys.length) H) := h ▸ call_len_seq
theorem klist (h : X.K = K) : CallR X (.type "list") (fun xs H Q => ∃ p ys, xs = [V.ref p] ∧ (SqL K H p ys ∨ SqT K H p ys) ∧ ∀ l, H l = none → Q (.ref l) (upd H l (.lst ys))) := h ▸ call_list_of
theorem kall (h : X.K = K) (hc : X.calm = true) : CallR X (.builtin "all") (rAll K) := h ▸ cr_all hc
theorem kany (h : X.K = K) (hc : X.calm = true) : CallR X (.builtin "any") (rAny K) := h ▸ cr_any hc
theorem ksum (h : X.K = K) (hc : X.calm = true) : CallR X (.builtin "sum") (rSum K) := h ▸ cr_sum hc
theorem kmin (h : X.K = K) (hc : X.calm = true) : CallR X (.builtin "min") (rMin K) := h ▸ cr_min hc
theorem kmax (h : X.K = K) (hc : X.calm = true) : CallR X (.builtin "max") (rMax K) := h ▸ cr_max hc
theorem ksrt (h : X.K = K) : CallR X (.builtin "sorted") (rSrtA K) := h ▸ cr_srtA
theorem kisi (h : X.K = K) : CallR X (.builtin "isinstance") (rIsi K) := h ▸ call_isi
theorem kisiT (h : X.K = K) : CallR X (.builtin "isinstance") (rIsiT K) := h ▸ call_isiT
theorem kmt_index (h : X.K = K) (hu : X.A.units + 65 < cLine) : MtR X "list.index" (rIndexD K) := h ▸ mt_indexD hu
theorem kmt_tix (h : X.K = K) : MtR X "tuple.index" (rTIx K) := h ▸ mt_tix
theorem kmt_tix3 (h : X.K = K) : MtR X "tuple.index" (rTIx3 K) := h ▸ mt_tix3
section
variable {e l a : Expr} {te ta tl : TE} {t : TA} {p pos : Pos}
theorem kpi_sq {tg : Expr} (h : X.K = K) (hl : PE X l tl) : PI X tg l (iSq K tl) := h ▸ pi_sq hl
theorem kpi_enum {ta : TA} {tpos : Pos} {elts : List Expr} {kk : Nat} (h : X.K = K) (hg : Gl X "enumerate") (hm : X.mg "enumerate" = none) (ha : PA X [e] ta) (hs : starEach [e] X.env = [(false, eval e X.env)] := by rfl) :
    PI X (.Tuple elts kk tpos) (.Call (.Name "enumerate" p) [e] [] pos) (iEnumA K ta) := h ▸ pi_enumA hg hm ha hs
theorem kpi_zip {e2 : Expr} {ta : TA} {tpos : Pos} {elts : List Expr} {kk : Nat} (h : X.K = K) (hg : Gl X "zip") (hm : X.mg "zip" = none) (ha : PA X [e, e2] ta)
    (hs : starEach [e, e2] X.env = (false, eval e X.env) :: starEach [e2] X.env := by rfl) (hpl : (backTo pos (starEach [e2] X.env)).any (·.1) = false := by rfl) :
    PI X (.Tuple elts kk tpos) (.Call (.Name "zip" p) [e, e2] [] pos) (iZipA K ta) := h ▸ pi_zipA hg hm ha hs hpl
theorem kpe_tupleOf (h : X.K = K) (hg : Gl X "tuple") (hm : X.mg "tuple" = none) (ha : PE X a ta) (na : starEach [a] X.env = (false, eval a X.env) :: starEach [] X.env := by rfl) : PE X (.Call (.Name "tuple" p) [a] [] pos) (tThen ta (kTup K)) := h ▸ pe_tupleOf hg hm ha na
theorem kpe_tupW (h : X.K = K) (hg : Gl X "tuple") (hm : X.mg "tuple" = none) (ha : PE X a ta) (na : starEach [a] X.env = (false, eval a X.env) :: starEach [] X.env := by rfl) : PE X (.Call (.Name "tuple" p) [a] [] pos) (tThen ta (kTupW K)) := h ▸ pe_tupW hg hm ha na
theorem kpe_revL {k : Nat} {p1 p2 p3 : Pos} (h : X.K = K) (he : PE X e te) : PE X (.Subscript e (.Slice none none (some (.UnaryOp .USub (.Constant (.int 1) k p1) p2)) p3) pos) (tRevL K te) := h ▸ pe_revL he
theorem kpe_revT {k : Nat} {p1 p2 p3 : Pos} (h : X.K = K) (he : PE X e te) : PE X (.Subscript e (.Slice none none (some (.UnaryOp .USub (.Constant (.int 1) k p1) p2)) p3) pos) (tRevT K te) := h ▸ pe_revT he
theorem kpe_fld {f : Str} (h : X.K = K) (he : PE X e ta) (hb : attributeBase e f X.env (eval e X.env) = eval e X.env := by rfl) : PE X (.Attribute e f pos) (tFld K ta f) := h ▸ pe_fld he hb
theorem kpe_lenSetI {p2 q : Pos} (h : X.K = K) (hg : Gl X "len") (hm : X.mg "len" = none) (hg2 : Gl X "set") (hm2 : X.mg "set" = none) (ha : PE X a ta) (hc : X.calm = true := by rfl)
    (na : starEach [a] X.env = (false, eval a X.env) :: starEach [] X.env := by rfl) : PE X (.Call (.Name "len" p) [.Call (.Name "set" p2) [a] [] q] [] pos) (RZ.tLenSetI K ta) := h ▸ RZ.pe_lenSetI hg hm hg2 hm2 ha hc na
theorem kpg_tup {es : List Expr} {k n : Nat} {t : TGs} (h : X.K = K) (hc : X.calm = true) (hp : PGs X es t) (hn : (assignEach es X.env).length = n := by rfl) (hst : (assignEach es X.env).findIdx? (·.1) = none := by rfl) : PG X (.Tuple es k pos) (gTup K n t) := h ▸ pg_tup hc hp hn hst
theorem kpe_bm {o : Expr} {es : List Expr} {to : TE} {name : Str} {apos cpos : Pos} {T id : String} {r : V → List V → Hp → VK → Prop} (h : X.K = K) (pa : PlainAttrs T) (slot : Slot T name id) (hty : typeOf (.builtin id) = pure (.type "method_descriptor")) (hm : MtR X id r) (ho : PE X o to) (ha : PA X (e :: es) t)
    (hbase : attributeBase o name X.env (eval o X.env) = eval o X.env := by rfl)
    (hfew : ((backTo cpos (starEach (e :: es) X.env)).all (fun x => !x.1) && (backToKw cpos (keywordEach [] X.env)).all (fun x => x.1.isSome) && decide ((e :: es).length + ([] : List Keyword).length + (if ([] : List Keyword).isEmpty then 0 else 1) < 30)) = true := by rfl)
    (hline : (apos.endLine == cpos.line) = true := by rfl) (hs : starEach (e :: es) X.env = (false, eval e X.env) :: starEach es X.env := by rfl) (hplain : (backTo cpos (starEach es X.env)).any (·.1) = false := by rfl) :
    PE X (.Call (.Attribute o name apos) (e :: es) [] cpos) (tBM K T r to t) := h ▸ pe_bm pa slot hty hm ho ha hbase hfew hline hs hplain
theorem kpe_remX {o : Expr} {to : TE} {apos cpos : Pos} (h : X.K = K) (hc : X.calm = true) (ho : PE X o to) (he : PE X e te) (hbase : attributeBase o "remove" X.env (eval o X.env) = eval o X.env := by rfl)
    (hfew : ((backTo cpos (starEach [e] X.env)).all (fun x => !x.1) && (backToKw cpos (keywordEach [] X.env)).all (fun x => x.1.isSome) && decide (([e] : List Expr).length + ([] : List Keyword).length + (if ([] : List Keyword).isEmpty then 0 else 1) < 30)) = true := by rfl)
    (hline : (apos.endLine == cpos.line) = true := by rfl) (hs : starEach [e] X.env = (false, eval e X.env) :: starEach [] X.env := by rfl) (hplain : (backTo cpos (starEach [] X.env)).any (·.1) = false := by rfl) :
    PE X (.Call (.Attribute o "remove" apos) [e] [] cpos) (tRemX K (fun _ _ _ _ => False) to te) := h ▸ pe_remX hc takes0 ho he hbase hfew hline hs hplain
end
end DL
set_option Elab.async false
set_option linter.all false
set_option maxRecDepth 100000
/-! DL17: plain immutable data below objects; fields of instances. -/
namespace DL
open PySem PySem.Spec PyProof.Rows L2
variable {K : PySem.W.Frag}
mutual
/-- immutable plain data -/
inductive Pq (K : PySem.W.Frag) (G : Hp) : V → PyData → Prop
  | non : Pq K G .non .none
  | bl (b : Bool) : Pq K G (.bl b) (.bool b)
  | int (i : Int) : Pq K G (.int i) (.int i)
  | str (x : Str) : Pq K G (.str x) (.str x)
  | tup {a : Addr} {vs : List V} {ps : List PyData} : SqT K G a vs → PqA K G vs ps → Pq K G (.ref a) (.tuple ps)
inductive PqA (K : PySem.W.Frag) (G : Hp) : List V → List PyData → Prop
  | nil : PqA K G [] []
  | cons {v : V} {vs : List V} {p : PyData} {ps : List PyData} : Pq K G v p → PqA K G vs ps → PqA K G (v :: vs) (p :: ps)
end
section
variable {G G' : Hp}
mutual
theorem Pq.mono (s : Same (gp G) (gp G')) : ∀ {v : V} {p : PyData}, Pq K G v p → Pq K G' v p
  | _, _, .non => .non
  | _, _, .bl b => .bl b
  | _, _, .int i => .int i
  | _, _, .str x => .str x
  | _, _, .tup h r => .tup (sqT_gp s h) (PqA.mono s r)
theorem PqA.mono (s : Same (gp G) (gp G')) : ∀ {vs : List V} {ps : List PyData}, PqA K G vs ps → PqA K G' vs ps
  | _, _, .nil => .nil
  | _, _, .cons h r => .cons (Pq.mono s h) (PqA.mono s r)
end
end
mutual
/-- as data -/
def ofPy {κ : Type} : PyData → D κ
  | .none => .non
  | .bool b => .bl b
  | .int i => .int i
  | .str x => .str x
  | .tuple ps => .tup (ofPys ps)
  | _ => .any
def ofPys {κ : Type} : List PyData → List (D κ)
  | [] => []
  | p :: ps => ofPy p :: ofPys ps
end
section
variable {Z : Wrl K} {w : Z.W} {G : Hp}
mutual
theorem Pq.rp : ∀ {v : V} {p : PyData}, Pq K G v p → Rp Z w G v (ofPy p)
  | _, _, .non => by simp only [ofPy]; exact .non
  | _, _, .bl b => by simp only [ofPy]; exact .bl b
  | _, _, .int i => by simp only [ofPy]; exact .int i
  | _, _, .str x => by simp only [ofPy]; exact .str x
  | _, _, .tup h r => by simp only [ofPy]; exact .tup h (PqA.rp r)
theorem PqA.rp : ∀ {vs : List V} {ps : List PyData}, PqA K G vs ps → RpA Z w G vs (ofPys ps)
  | _, _, .nil => by simp only [ofPys]; exact .nil
  | _, _, .cons h r => by simp only [ofPys]; exact .cons (Pq.rp h) (PqA.rp r)
end
mutual
/-- data that holds nothing but such -/
theorem rp_pq : ∀ {v : V} {d : D Z.κ} {p : PyData}, Rp Z w G v d → toPy d = some p → d.pur = true → Pq K G v p
  | _, _, _, .non, e, _ => by simp [toPy] at e; subst e; exact .non
  | _, _, _, .bl b, e, _ => by simp [toPy] at e; subst e; exact .bl b
  | _, _, _, .int i, e, _ => by simp [toPy] at e; subst e; exact .int i
  | _, _, _, .str x, e, _ => by simp [toPy] at e; subst e; exact .str x
  | _, _, _, .ty n, e, _ => by simp [toPy] at e
  | _, _, _, .tup (ds := ds) h r, e, u => by
    cases q : toPys ds with
    | none => simp [toPy, q] at e
    | some ps => simp [toPy, q] at e; subst e; exact .tup h (rpA_pq r q (by simpa [D.pur] using u))
  | _, _, _, .lst _ _, e, u => by simp [D.pur] at u
  | _, _, _, .dik _ _ _, e, _ => by simp [toPy] at e
  | _, _, _, .dit _ _ _, e, _ => by simp [toPy] at e
  | _, _, _, .wtup _ _ _, e, _ => by simp [toPy] at e
  | _, _, _, .ktup _ _, e, _ => by simp [toPy] at e
  | _, _, _, .obj _, e, _ => by simp [toPy] at e
  | _, _, _, .any, e, _ => by simp [toPy] at e
theorem rpA_pq : ∀ {vs : List V} {ds : List (D Z.κ)} {ps : List PyData}, RpA Z w G vs ds → toPys ds = some ps → D.purs ds = true → PqA K G vs ps
  | _, _, _, .nil, e, _ => by simp [toPys] at e; subst e; exact .nil
  | _, _, _, .cons (d := d) (ds := ds) h r, e, u => by
    simp only [D.purs, Bool.and_eq_true] at u
    cases q : toPy d with
    | none => simp [toPys, q] at e
    | some a =>
      cases q2 : toPys ds with
      | none => simp [toPys, q, q2] at e
      | some b => simp [toPys, q, q2] at e; subst e; exact .cons (rp_pq h q u.1) (rpA_pq r q2 u.2)
end
end
theorem ofPys_map {κ α : Type} (f : α → PyData) : ∀ xs : List α, (ofPys (xs.map f) : List (D κ)) = xs.map fun a => ofPy (f a)
  | [] => by simp [ofPys]
  | x :: xs => by simp [ofPys, ofPys_map f xs]
theorem toPys_map {κ α : Type} (f : α → D κ) (g : α → PyData) : ∀ xs : List α, (∀ a ∈ xs, toPy (f a) = some (g a)) → toPys (xs.map f) = some (xs.map g)
  | [], _ => by simp [toPys]
  | x :: xs, h => by
    rw [List.map_cons, List.map_cons]
    simp only [toPys, h x List.mem_cons_self, toPys_map f g xs fun a ha => h a (List.mem_cons_of_mem _ ha)]
/-- an instance: its fields that never change -/
structure Ins where
  cl : Nat
  fs : List (Str × PyData)
  no : List Str := []
def InsAt (K : PySem.W.Frag) (Cl : Nat → Addr → Prop) (G : Hp) (v : V) (i : Ins) : Prop :=
  ∃ a C dx fs, v = .ref a ∧ G a = some (.ins C dx fs) ∧ Cl i.cl C ∧ (∀ q, q ∈ i.fs → ∃ u, fs.lookup q.1 = some u ∧ Pq K G u q.2) ∧ ∀ f, f ∈ i.no → fs.lookup f = none
theorem InsAt.mono {Cl : Nat → Addr → Prop} {G G' : Hp} {v : V} {i : Ins} (s : Same (gp G) (gp G')) (h : InsAt K Cl G v i) : InsAt K Cl G' v i := by
  obtain ⟨a, C, dx, fs, rfl, e, c, h, no⟩ := h
  exact ⟨a, C, dx, fs, rfl, (gp_some (s _ _ (gp_of e rfl))).1, c, fun q hq => by obtain ⟨u, e1, e2⟩ := h q hq; exact ⟨u, e1, e2.mono s⟩, no⟩
/-- a field of an instance is read; T: the classes' facts -/
theorem de_fldI {Z : Wrl K} {Cl : Nat → Addr → Prop} {τ : List (SL Z.κ)} {P : PE' Z.κ} {ta : TE} {f : Str} (T : ∀ n C, Cl n C → Cls K C ∧ NoAttr K C f) (enc : Ins → Z.κ) (he : ∀ w G v i, Z.rob w G v (enc i) → InsAt K Cl G v i)
    (h : DE Z ta τ fun r τ1 => ∃ i p, r = .v (.obj (enc i)) ∧ (f, p) ∈ i.fs ∧ P (.v (ofPy p)) τ1) : DE Z (tFld K ta f) τ P := fun H0 w E σ H Q R c => by
  refine h H0 w E σ H _ R fun r1 τ1 x w1 H1 h1 n1 q1 => ?_
  obtain ⟨i, p, rfl, hm, k⟩ := h1
  obtain ⟨R1, v1⟩ := q1
  cases v1 with
  | obj ho =>
    obtain ⟨a, C, dx, fs, rfl, e, cl, hf, _⟩ := he _ _ _ _ ho
    obtain ⟨u, e1, e2⟩ := hf _ hm
    obtain ⟨t1, t2⟩ := T _ _ cl
    exact ⟨a, C, dx, fs, u, rfl, hide_le _ _ e, t1, t2, e1, c _ τ1 _ w1 H1 k n1 ⟨R1, e2.rp⟩⟩
end DL
set_option Elab.async false
set_option linter.all false
set_option maxRecDepth 100000
/-! DL18: loops over told rows; permutations and places. -/
namespace DL
open PySem PySem.Spec PyProof.Rows L2
variable {K : PySem.W.Frag} {Z : Wrl K}
section
variable {τ : List (SL Z.κ)} {D1 : DEnd Z.κ} {tb : TS} {wi : TI} {g : TG}
theorem dx_forE {α : Type} (L : List Nat) (enc : α → D Z.κ) (h : DI Z wi τ fun items src τ1 => ∃ xs : List α, items = xs.map enc ∧ ∃ I : Nat → List (SL Z.κ) → Prop, I 0 τ1 ∧ (∀ i τ2, I i τ2 → Stay src τ1 τ2) ∧
    (∀ i a τ2, xs[i]? = some a → I i τ2 → DG Z L g (enc a) τ2 fun τ3 => DX Z tb τ3 { D1 with nx := I (i + 1), ct := I (i + 1), bk := D1.nx }) ∧ ∀ τ2, I xs.length τ2 → D1.nx τ2) : DX Z (tFor wi g tb) τ D1 :=
  dx_for (L := L) (DI.mono h fun items src τ1 ⟨xs, e, I, h0, h1, h2, h3⟩ => ⟨I, h0, h1, fun i d τ2 e2 hi => by
    subst e
    rw [List.getElem?_map] at e2
    cases q : xs[i]? with
    | none => rw [q] at e2; cases e2
    | some a => rw [q] at e2; cases e2; exact h2 i a τ2 q hi, fun τ2 hi => h3 τ2 (by subst e; rwa [List.length_map] at hi)⟩)
end
theorem putA_new {α β : Type} [DecidableEq α] {m : List (α × β)} {k : α} {v : β} (h : k ∉ m.map (·.1)) : putA m k v = m ++ [(k, v)] := by
  unfold putA
  rw [if_neg]
  intro q
  obtain ⟨x, hx, e⟩ := List.any_eq_true.mp q
  exact h (List.mem_map.mpr ⟨x, hx, by simpa using e⟩)
section
variable {τ : List (SL Z.κ)} {P : PE' Z.κ} {tk tv : TE} {wi : TI} {g : TG} {vs : List Nat}
/-- {k: e for g in wi}, the keys apart -/
theorem de_dcT {α : Type} (enc : α → D Z.κ) (k : α → Key) (e : α → D Z.κ) (h : DI Z wi τ fun items src τ1 => ∃ xs : List α, items = xs.map enc ∧
    (∀ a, a ∈ xs → DG Z vs g (enc a) (wipeS τ1 vs) fun τ2 => DE Z tk τ2 fun r τ4 => τ4 = τ2 ∧ keyD (vw τ2 (fz r)) = some (k a) ∧ DE Z tv τ2 fun r2 τ5 => τ5 = τ2 ∧ fz r2 = .v (e a)) ∧
    clrB τ1 vs = true ∧ (xs.map k).Nodup ∧ xs.length ≤ 90000 ∧ srcB src vs = true ∧ ∀ p, P (.n p (mkd (xs.map fun a => (k a, e a)))) τ1) : DE Z (tDc wi g tYes tk tv vs) τ P := by
  refine de_dcI (L := vs) (DI.mono h ?_)
  rintro items src τ1 ⟨xs, rfl, ht, hc, hn, hl, hs, hd⟩
  refine ⟨clr_of hc, fun _ h => h, by rw [List.length_map]; exact hl, by cases src with | none => trivial | some k => simpa [srcB] using hs, fun i acc => acc = (xs.take i).map fun a => (k a, e a), rfl, fun i acc _ ha => by rw [ha, List.length_map, List.length_take]; exact Nat.min_le_left _ _, fun i d acc ed ha => ?_, fun acc p ha => ?_⟩
  · rw [List.getElem?_map] at ed
    cases q : xs[i]? with
    | none => rw [q] at ed; cases ed
    | some a =>
      rw [q] at ed
      cases ed
      have et : xs.take (i + 1) = xs.take i ++ [a] := by rw [List.take_add_one, q] <;> rfl
      refine DG.mono (ht a (List.mem_of_getElem? q)) fun τ2 hq => dt_yes ⟨rfl, ?_⟩
      rw [if_pos rfl]
      refine DE.mono hq fun r τ4 ⟨e1, e2, hq⟩ => ⟨e1, _, e2, DE.mono hq fun r2 τ5 ⟨e3, e4⟩ => ⟨e3, _, e4, ?_⟩⟩
      show putA acc (k a) (e a) = _
      have nk : k a ∉ acc.map (·.1) := by
        rw [ha, List.map_map]
        intro m
        have hn2 : ((xs.take i).map k ++ [k a]).Nodup := by
          have : (xs.take (i + 1)).map k = (xs.take i).map k ++ [k a] := by rw [et, List.map_append] <;> rfl
          rw [← this]
          exact hn.sublist (List.Sublist.map _ (List.take_sublist _ _))
        have := (List.nodup_append.mp hn2).2.2 (k a) m (k a) (by simp)
        exact this rfl
      rw [putA_new nk, et, List.map_append, ha] <;> rfl
  · have := ha
    rw [List.length_map, List.take_length] at this
    rw [this]
    exact hd p
end
/-! ### orders -/
theorem ups_len (n : Nat) : (ups n).length = n := by simp [ups]
theorem mem_ups {n : Nat} {a : Int} : a ∈ ups n ↔ 0 ≤ a ∧ a < n := by
  simp only [ups, List.mem_map, List.mem_range]
  constructor
  · rintro ⟨i, h, rfl⟩; omega
  · rintro ⟨h1, h2⟩; exact ⟨a.toNat, by omega, by omega⟩
theorem ups_pw (n : Nat) : (ups n).Pairwise (· < ·) := by
  unfold ups
  rw [List.pairwise_map]
  exact List.pairwise_lt_range.imp fun h => by omega
theorem ups_nodup (n : Nat) : (ups n).Nodup := (ups_pw n).imp fun h => Int.ne_of_lt h
theorem srt_ups {xs : List Int} {n : Nat} : srt xs = ups n ↔ xs.Perm (ups n) := by
  constructor
  · intro h; rw [← h]; exact (srt_perm xs).symm
  · intro h; exact (srt_eq h.symm ((ups_pw n).imp fun h => Int.le_of_lt h)).symm
/-! ### a dict of places -/
def placeM {κ : Type} (xs : List Int) : List (Key × D κ) := xs.zipIdx.map fun p => (.inl p.1, .int (p.2 : Nat))
theorem getA_place {κ : Type} : ∀ (xs : List Int) (s : Nat) (a : Int), getA (xs.zipIdx s |>.map fun p => ((.inl p.1 : Key), (.int (p.2 : Nat) : D κ))) (.inl a) = if a ∈ xs then some (.int ((s + xs.idxOf a : Nat) : Int)) else none
  | [], s, a => by simp [getA]
  | x :: xs, s, a => by
    rw [List.zipIdx_cons, List.map_cons]
    by_cases h : x = a
    · subst h
      simp [getA, List.find?_cons]
    · have ih := getA_place (κ := κ) xs (s + 1) a
      have e : getA (((.inl x : Key), (.int (s : Nat) : D κ)) :: ((xs.zipIdx (s + 1)).map fun p => ((.inl p.1 : Key), (.int (p.2 : Nat) : D κ)))) (.inl a) = getA ((xs.zipIdx (s + 1)).map fun p => ((.inl p.1 : Key), (.int (p.2 : Nat) : D κ))) (.inl a) := by
        simp [getA, List.find?_cons, h]
      rw [e, ih]
      have : (a ∈ x :: xs) ↔ a ∈ xs := by simp [Ne.symm h]
      simp only [this]
      by_cases m : a ∈ xs
      · have e2 : (x :: xs).idxOf a = xs.idxOf a + 1 := by rw [List.idxOf_cons, show (x == a) = false from beq_eq_false_iff_ne.mpr h] <;> rfl
        rw [if_pos m, if_pos m, e2]
        congr 2
        omega
      · rw [if_neg m, if_neg m]
theorem get_place {κ : Type} {xs : List Int} {a : Int} (h : a ∈ xs) : getA (placeM xs : List (Key × D κ)) (.inl a) = some (.int (xs.idxOf a : Nat)) := by
  have := getA_place (κ := κ) xs 0 a
  rw [if_pos h, Nat.zero_add] at this
  exact this
section
variable {τ : List (SL Z.κ)} {P : PE' Z.κ} {td ty : TE}
theorem de_place (h : DE Z td τ fun r τ1 => DE Z ty τ1 fun s τ2 => ∃ (xs : List Int) (a : Int), vw τ2 (fz r) = (mkd (placeM xs)).dat ∧ s = .v (.int a) ∧ a ∈ xs ∧ P (.v (.int (xs.idxOf a : Nat))) τ2) : DE Z (tDGet td ty) τ P :=
  de_dget (DE.mono h fun r τ1 h => DE.mono h fun s τ2 ⟨xs, a, e1, e2, hm, h⟩ => by
    subst e2
    rw [e1]
    exact .inl ⟨placeM xs, .inl a, rfl, rfl, _, get_place hm, h⟩)
end
/-! ### equal rows -/
theorem eqvs_map {α : Type} [DecidableEq α] (f : α → PyData) (h : ∀ a b, PyData.eqv (f a) (f b) = decide (a = b)) : ∀ xs ys : List α, PyData.eqvAll (xs.map f) (ys.map f) = decide (xs = ys)
  | [], [] => by simp [PyData.eqvAll]
  | [], y :: ys => by simp [PyData.eqvAll]
  | x :: xs, [] => by simp [PyData.eqvAll]
  | x :: xs, y :: ys => by
    rw [List.map_cons, List.map_cons]
    simp only [PyData.eqvAll, h, eqvs_map f h xs ys]
    by_cases e : x = y <;> by_cases e2 : xs = ys <;> simp [e, e2]
theorem eq_ints {κ : Type} (xs ys : List Int) : eqD (.lst (xs.map .int) : D κ) (.lst (ys.map .int)) = decide (xs = ys) := by
  simp only [eqD, toPy, toPys_ints, Option.map_some, PyData.eqv]
  exact eqvs_map _ eqv_int xs ys
theorem eq_intsT {κ : Type} (xs ys : List Int) : eqD (.tup (xs.map .int) : D κ) (.tup (ys.map .int)) = decide (xs = ys) := by
  simp only [eqD, toPy, toPys_ints, Option.map_some, PyData.eqv]
  exact eqvs_map _ eqv_int xs ys
end DL
set_option Elab.async false
set_option linter.all false
set_option maxRecDepth 100000
/-! DL19: how many are in a set of a row of ints; a set of pairs in order. -/
namespace DL
open PySem PySem.Spec PyProof.Rows L2
variable {K : PySem.W.Frag} {Z : Wrl K}
theorem card_eq : ∀ {xs ys : List Int}, xs.Nodup → ys.Nodup → (∀ k, k ∈ xs ↔ k ∈ ys) → xs.length = ys.length := fun hx hy h =>
  ((List.perm_ext_iff_of_nodup hx hy).mpr h).length_eq
/-- len(set(t)), a tuple of ints that are apart -/
def tLenSetT (K : PySem.W.Frag) (ta : TE) : TE := fun σ H Q => ta σ H fun x H1 => ∃ (l : Addr) (ns : List Int), x = .ref l ∧ SqT K H1 l (ns.map V.int) ∧ ns.Nodup ∧ ns.length ≤ 4000 ∧ Q (.int (ns.length : Nat)) H1
theorem pe_lenSetT {X : Cx} {a : Expr} {ta : TE} {p p2 q pos : Pos} (hk : X.K = K) (hg : Gl X "len") (hm : X.mg "len" = none) (hg2 : Gl X "set") (hm2 : X.mg "set" = none) (ha : PE X a ta) (hc : X.calm = true := by rfl)
    (na : starEach [a] X.env = (false, eval a X.env) :: starEach [] X.env := by rfl) : PE X (.Call (.Name "len" p) [.Call (.Name "set" p2) [a] [] q] [] pos) (tLenSetT K ta) := by
  subst hk
  refine ⟨fun pins s σ H Q I h => Call_ (ld_blt I hg hm boot_len (PyProof.Rows.callWith_builtin1 (PyProof.Rows.args_cons (Call_ (ld_blt I hg2 hm2 boot_set (PyProof.Rows.callWith_type1 (PyProof.Rows.args_cons
    (thn (ha.run pins s σ H _ I h) fun v s1 ⟨x, H1, I1, r1, l, ns, ex, hq, hnd, hl, q1⟩ => PyProof.Rows.args_nil ?_) na) na rfl))) rfl) rfl rfl))⟩
  subst ex
  cases r1
  obtain ⟨its, r, pl, hz⟩ := I1.tuple hq
  refine call_set_tupI ns (I1.ok.hd hc) (show s1.heap.IsTuple l its.toArray from pl) (by simpa using r.ints) (by unfold scanBound; omega) fun h' tk c hS hc2 hk => PyProof.Rows.args_nil ?_
  obtain ⟨o, es, ep, t, ho, hex, hd, _, hn, hm, hb, hf, hsz, _⟩ := hS
  have e : es.size = ns.length := by
    have := card_eq (xs := es.toList.map keyOf) (ys := ns) hn hnd fun k => by rw [← hm k]; simp
    simpa using this
  have I2 : L2.Inv X pins σ H1 { s1 with heap := h', toks := tk } := I1.kept hk
  exact call_len_set ho hex hd hf (by rw [e]; omega) ⟨.int ns.length, H1, I2.tok _, ⟨_, by rw [e]⟩, q1⟩
section
variable {τ : List (SL Z.κ)} {P : PE' Z.κ} {ta : TE}
theorem de_lenSetT (h : DE Z ta τ fun r τ1 => ∃ ns : List Int, vw τ1 (fz r) = .tup (ns.map .int) ∧ ns.Nodup ∧ ns.length ≤ 4000 ∧ P (.v (.int (ns.length : Nat))) τ1) : DE Z (tLenSetT K ta) τ P :=
  de_un (r := fun x H Q => ∃ (l : Addr) (ns : List Int), x = V.ref l ∧ SqT K H l (ns.map V.int) ∧ ns.Nodup ∧ ns.length ≤ 4000 ∧ Q (.int (ns.length : Nat)) H) (sem := fun d P => ∃ ns : List Int, d = .tup (ns.map .int) ∧ ns.Nodup ∧ ns.length ≤ 4000 ∧ P (.v (.int (ns.length : Nat))))
    (fun w G H x dx Q P s hx ⟨ns, e, h1, h2, h⟩ k => by
      subst e
      obtain ⟨a, vs, rfl, ha, r, _⟩ := hx.tup s
      rw [rp_ints r] at ha
      exact ⟨a, ns, rfl, ha, h1, h2, k _ _ _ h (.same (.int _))⟩) h
theorem de_lenSetI (h : DE Z ta τ fun r τ1 => ∃ ns : List Int, vw τ1 (fz r) = .lst (ns.map .int) ∧ ns.Nodup ∧ ns.length ≤ 4000 ∧ P (.v (.int (ns.length : Nat))) τ1) : DE Z (RZ.tLenSetI K ta) τ P :=
  de_un (r := fun x H Q => ∃ (l : Addr) (ns : List Int), x = V.ref l ∧ SqL K H l (ns.map V.int) ∧ ns.Nodup ∧ ns.length ≤ 4000 ∧ Q (.int (ns.length : Nat)) H) (sem := fun d P => ∃ ns : List Int, d = .lst (ns.map .int) ∧ ns.Nodup ∧ ns.length ≤ 4000 ∧ P (.v (.int (ns.length : Nat))))
    (fun w G H x dx Q P s hx ⟨ns, e, h1, h2, h⟩ k => by
      subst e
      obtain ⟨a, vs, rfl, ha, r⟩ := hx.lst s
      rw [rp_ints r] at ha
      exact ⟨a, ns, rfl, SqL.of ha, h1, h2, k _ _ _ h (.same (.int _))⟩) h
end
/-! ### sorted(set(pairs)) -/
def ltPr (p q : Int × Int) : Prop := p.1 < q.1 ∨ (p.1 = q.1 ∧ p.2 < q.2)
def lePr (p q : Int × Int) : Bool := decide (p.1 < q.1) || (decide (p.1 = q.1) && decide (p.2 ≤ q.2))
/-- the pairs, each once, in order -/
def usort (ps : List (Int × Int)) : List (Int × Int) := (ps.eraseDups).mergeSort lePr
theorem lePr_trans (a b c : Int × Int) (h1 : lePr a b = true) (h2 : lePr b c = true) : lePr a c = true := by simp [lePr] at *; omega
theorem lePr_total (a b : Int × Int) : (lePr a b || lePr b a) = true := by simp [lePr]; omega
theorem eraseDups_nodup {α : Type} [BEq α] [LawfulBEq α] : ∀ (n : Nat) (l : List α), l.length ≤ n → l.eraseDups.Nodup
  | 0, [], _ => by simp [List.eraseDups]
  | n + 1, [], _ => by simp [List.eraseDups]
  | n + 1, a :: l, h => by
    rw [List.eraseDups_cons]
    refine List.nodup_cons.mpr ⟨fun m => ?_, eraseDups_nodup n _ ?_⟩
    · rw [List.mem_eraseDups] at m
      simp at m
    · have := List.length_filter_le (fun b => !b == a) l
      simp only [List.length_cons] at h
      omega
theorem eraseDups_len {α : Type} [BEq α] [LawfulBEq α] : ∀ (n : Nat) (l : List α), l.length ≤ n → l.eraseDups.length ≤ l.length
  | 0, [], _ => by simp [List.eraseDups]
  | n + 1, [], _ => by simp [List.eraseDups]
  | n + 1, a :: l, h => by
    rw [List.eraseDups_cons, List.length_cons, List.length_cons]
    have h1 := List.length_filter_le (fun b => !b == a) l
    simp only [List.length_cons] at h
    have := eraseDups_len n (l.filter fun b => !b == a) (by omega)
    omega
theorem usort_mem {ps : List (Int × Int)} {q : Int × Int} : q ∈ usort ps ↔ q ∈ ps := by
  unfold usort
  rw [(List.mergeSort_perm _ _).mem_iff, List.mem_eraseDups]
theorem usort_nodup (ps : List (Int × Int)) : (usort ps).Nodup := (List.mergeSort_perm _ _).nodup_iff.mpr (eraseDups_nodup _ _ (Nat.le_refl _))
theorem usort_pw (ps : List (Int × Int)) : (usort ps).Pairwise ltPr := by
  have h1 := List.pairwise_mergeSort (le := lePr) lePr_trans lePr_total ps.eraseDups
  have h2 := usort_nodup ps
  unfold usort at h2 ⊢
  refine (h1.and h2).imp fun {a b} ⟨h, n⟩ => ?_
  simp [lePr] at h
  unfold ltPr
  rcases h with h | ⟨h, h'⟩
  · exact .inl h
  · refine .inr ⟨h, ?_⟩
    have : a.2 ≠ b.2 := fun e => n (Prod.ext h e)
    omega
theorem ltPr_irrefl {a : Int × Int} : ¬ ltPr a a := by unfold ltPr; omega
theorem usort_eq {ps us : List (Int × Int)} (h1 : ∀ q, q ∈ us ↔ q ∈ ps) (h2 : us.Pairwise ltPr) : us = usort ps := by
  have nd : us.Nodup := h2.imp fun {a b} h e => by rw [e] at h; exact ltPr_irrefl h
  have p : us.Perm (usort ps) := (List.perm_ext_iff_of_nodup nd (usort_nodup ps)).mpr fun q => by rw [h1, usort_mem]
  exact p.eq_of_pairwise (fun a b _ _ h1 h2 => by unfold ltPr at h1 h2; omega) h2 (usort_pw ps)
theorem usort_len (ps : List (Int × Int)) : (usort ps).length ≤ ps.length := by
  unfold usort
  rw [List.length_mergeSort]
  exact eraseDups_len _ _ (Nat.le_refl _)
/-- sorted(set(e)): a list of pairs of ints, a hundred at most -/
def rSrtSet (K : PySem.W.Frag) : V → Hp → VK → Prop := fun x H1 Q => ∃ (a : Addr) (rs : List (Addr × (Int × Int))), x = V.ref a ∧ SqL K H1 a (rs.map fun r => V.ref r.1) ∧ (∀ r ∈ rs, SqT K H1 r.1 [V.int r.2.1, V.int r.2.2]) ∧ rs.length ≤ 100 ∧
  ∀ (us : List (Addr × (Int × Int))) (p : Addr), (∀ u ∈ us, u ∈ rs) → (∀ r ∈ rs, r.2 ∈ us.map (fun u => u.2)) → (us.map (fun u => u.2)).Pairwise ltPr → H1 p = none → Q (.ref p) (upd H1 p (.lst (us.map fun u => V.ref u.1)))
def tSrtSet (K : PySem.W.Frag) (te : TE) : TE := tUn (rSrtSet K) te
section
variable {τ : List (SL Z.κ)} {P : PE' Z.κ} {ta : TE} {w : Z.W} {G : Hp}
def prD {κ : Type} (p : Int × Int) : D κ := .tup [.int p.1, .int p.2]
theorem prs_rp : ∀ {ps : List (Int × Int)} {vs : List V}, RpA Z w G vs (ps.map prD) → ∃ rs : List (Addr × (Int × Int)), rs.map (·.2) = ps ∧ vs = rs.map (fun r => .ref r.1) ∧ ∀ r ∈ rs, SqT K G r.1 [.int r.2.1, .int r.2.2] ∧ Rp Z w G (.ref r.1) (prD r.2)
  | [], _, .nil => ⟨[], rfl, rfl, fun _ h => by cases h⟩
  | p :: ps, _, .cons r t => by
    obtain ⟨rs, e1, e2, h⟩ := prs_rp t
    have h0 := r
    cases r with
    | @tup a us _ hs hr =>
      have eu : us = [.int p.1, .int p.2] := by
        cases hr with
        | cons x y =>
          cases y with
          | cons z u => cases u; cases x; cases z; rfl
      subst eu
      refine ⟨(a, p) :: rs, by rw [List.map_cons, e1], by rw [List.map_cons, e2], fun q hq => ?_⟩
      rcases List.mem_cons.mp hq with e | hq
      · rw [e]; exact ⟨hs, h0⟩
      · exact h q hq
theorem rp_prs : ∀ {us : List (Addr × (Int × Int))}, (∀ u ∈ us, Rp Z w G (.ref u.1) (prD u.2)) → RpA Z w G (us.map fun u => .ref u.1) ((us.map (·.2)).map prD)
  | [], _ => .nil
  | u :: us, h => .cons (h u List.mem_cons_self) (rp_prs fun v hv => h v (List.mem_cons_of_mem _ hv))
theorem de_srtSet (h : DE Z ta τ fun r τ1 => ∃ ps : List (Int × Int), vw τ1 (fz r) = .lst (ps.map prD) ∧ ps.length ≤ 100 ∧ ∀ p, P (.n p (.lst ((usort ps).map prD))) τ1) : DE Z (tSrtSet K ta) τ P :=
  de_un (r := rSrtSet K)
    (sem := fun d P => ∃ ps : List (Int × Int), d = .lst (ps.map prD) ∧ ps.length ≤ 100 ∧ ∀ p, P (.n p (.lst ((usort ps).map prD))))
    (fun w G H x dx Q P s hx ⟨ps, e, h1, h⟩ k => by
      subst e
      obtain ⟨a, vs, rfl, ha, r⟩ := hx.lst s
      obtain ⟨rs, e1, e2, hr⟩ := prs_rp r
      subst e2
      refine ⟨a, rs, rfl, SqL.of ha, fun r hr' => sqT_mono s (hr r hr').1, by rw [← e1, List.length_map] at h1; exact h1, fun us p h2 h3 h4 hp => ?_⟩
      have eu : us.map (·.2) = usort ps := usort_eq (fun q => ⟨fun hq => by
        obtain ⟨u, hu, rfl⟩ := List.mem_map.mp hq
        rw [← e1]
        exact List.mem_map.mpr ⟨u, h2 u hu, rfl⟩, fun hq => by
        rw [← e1] at hq
        obtain ⟨r, hr, rfl⟩ := List.mem_map.mp hq
        exact h3 r hr⟩) h4
      have := rp_prs (Z := Z) (w := w) (G := G) (us := us) fun u hu => (hr u (h2 u hu)).2
      rw [eu] at this
      exact k _ _ _ (h p) (.lst hp this)) h
end
end DL
set_option Elab.async false
set_option linter.all false
set_option maxRecDepth 100000
/-! SW1: the table of a set of up to 512 slots: what is stored is found again, there is room, laid anew it is such a table. -/
namespace SW
open PySem PySem.Spec PyProof.Rows L2

/-! ### the slots where runs begin -/
def wlk : Nat → Nat → List Nat
  | 0, _ => []
  | n + 1, i => i :: wlk n ((i * 5 + 1) % 512)
theorem wlk_at : ∀ (n a k : Nat), k < n → (wlk n (lcgN 511 a))[k]? = some (lcgN 511 (a + k))
  | 0, _, k, h => absurd h (Nat.not_lt_zero _)
  | n + 1, a, 0, _ => rfl
  | n + 1, a, k + 1, h => by
    have := wlk_at n (a + 1) k (by omega)
    rw [show a + 1 + k = a + (k + 1) by omega] at this
    exact this
theorem wlk_len : ∀ n i, (wlk n i).length = n
  | 0, _ => rfl
  | n + 1, i => congrArg (· + 1) (wlk_len n _)
theorem wlk_all : ((List.range 512).all fun j => (wlk 512 0).contains j) = true := by decide +kernel
theorem round512 : lcgN 511 512 = 0 := by decide +kernel
theorem lcg512 : ∀ k, lcgN 511 (512 + k) = lcgN 511 k
  | 0 => round512
  | k + 1 => congrArg (fun x => (x * 5 + 1) % 512) (lcg512 k)
theorem met512 {j : Nat} (h : j ≤ 511) : ∃ b, b < 512 ∧ lcgN 511 b = j := by
  have h1 := List.all_eq_true.mp wlk_all j (List.mem_range.mpr (by omega))
  obtain ⟨b, hb, e⟩ := List.getElem_of_mem (List.contains_iff_mem.mp h1)
  have hb' : b < 512 := by rwa [wlk_len] at hb
  have e2 := wlk_at 512 0 b hb'
  rw [show lcgN 511 0 = 0 from rfl, List.getElem?_eq_getElem hb, Nat.zero_add, e] at e2
  exact ⟨b, hb', (Option.some.inj e2).symm⟩
theorem from512 {i j : Nat} (hi : i ≤ 511) (hj : j ≤ 511) : ∃ k, k ≤ 511 ∧ lcgI 511 i k = j := by
  obtain ⟨a, ha, rfl⟩ := met512 hi
  obtain ⟨b, hb, rfl⟩ := met512 hj
  by_cases c : a ≤ b
  · exact ⟨b - a, by omega, by rw [lcgN_add, show a + (b - a) = b by omega]⟩
  · exact ⟨512 + b - a, by omega, by rw [lcgN_add, show a + (512 + b - a) = 512 + b by omega, lcg512]⟩

/-- the masks up to 306 elements -/
def Msk (m : Nat) : Prop := MaskOk m ∨ m = 511
theorem Msk.le {m : Nat} (h : Msk m) : m ≤ 511 := by
  rcases h with (h | h | h) | h <;> omega
theorem Msk.odd {m : Nat} (h : Msk m) : m % 2 = 1 := by
  rcases h with (h | h | h) | h <;> subst h <;> rfl
theorem Msk.run {m : Nat} (hm : Msk m) (h : Int) {j : Nat} (hj : j ≤ m) : ∃ n, n ≤ m + 12 ∧ runI m (SetTable.bits h) n = j := by
  rcases hm with hm | rfl
  · exact run_meets hm h hj
  · obtain ⟨k, hk, e⟩ := from512 (runI_le 511 (SetTable.bits h) 12) hj
    exact ⟨12 + k, by omega, by rw [runI_tail (bits_lt h)]; exact e⟩
theorem Msk.met {m : Nat} (hm : Msk m) (h : Int) {j : Nat} (hj : j ≤ m) : ∃ k, k < 10 * SetTable.turns m ∧ way m h k = j := by
  obtain ⟨n, hn, e⟩ := hm.run h hj
  obtain ⟨k, hk, e2⟩ := run_nth m (SetTable.bits h) n
  exact ⟨k, by unfold SetTable.turns; omega, by show (nth m _ k).j = j; rw [e2]; exact e⟩
theorem way_in (m : Nat) (h : Int) (k : Nat) : way m h k ≤ m := by
  have hb : SetTable.bits h % (m + 1) ≤ m := Nat.le_of_lt_succ (Nat.mod_lt _ (Nat.succ_pos _))
  have he := runEnd_bd hb
  have := nth_in (m := m) k (runAt m (SetTable.bits h % (m + 1)) (SetTable.bits h)) (by show SetTable.bits h % (m + 1) + (SetTable.runEnd m (SetTable.bits h % (m + 1)) - SetTable.bits h % (m + 1)) ≤ m; omega)
  exact Nat.le_trans (Nat.le_add_right _ _) this

/-! ### the table -/
structure Tab (t : SetTable) (hs : List Int) : Prop where
  ris : Ris t.place.toList
  dm : t.dummies = #[]
  sz : t.place.toList.length = hs.length
  msk : Msk t.mask
  reach : ∀ (i : Nat) (h : Int) (j : Nat), hs[i]? = some h → t.place.toList[i]? = some j → ∃ k, way t.mask h k = j ∧ ∀ k', k' < k → way t.mask h k' ∈ t.place.toList
variable {t : SetTable} {hs : List Int}
/-- there is a first free slot on each way -/
theorem Tab.gap (T : Tab t hs) (hl : hs.length ≤ t.mask) (h : Int) : ∃ k, k < 10 * SetTable.turns t.mask ∧ way t.mask h k ∉ t.place.toList ∧ ∀ k', k' < k → way t.mask h k' ∈ t.place.toList := by
  obtain ⟨j, hj, hn⟩ := st_missing t.place.toList (t.mask + 1) (by have := T.sz; omega)
  obtain ⟨k, hk, e⟩ := T.msk.met h (Nat.le_of_lt_succ hj)
  obtain ⟨q, h1, h2, h3⟩ := st_least (p := fun k => way t.mask h k ∉ t.place.toList) k (e ▸ hn)
  exact ⟨q, by omega, h2, fun k' hk' => Classical.byContradiction fun c => h3 k' hk' c⟩
/-- and what is stored stands ahead of it -/
theorem Tab.ahead (T : Tab t hs) {h : Int} {q i j : Nat} (hq : way t.mask h q ∉ t.place.toList) (hi : hs[i]? = some h) (hj : t.place.toList[i]? = some j) : ∃ k, k < q ∧ way t.mask h k = j := by
  obtain ⟨k, e, hb⟩ := T.reach i h j hi hj
  refine ⟨k, Classical.byContradiction fun c => ?_, e⟩
  rcases Nat.lt_or_eq_of_le (Nat.le_of_not_lt c) with c | c
  · exact hq (hb q c)
  · exact hq (by rw [c, e]; exact List.mem_of_getElem? hj)
theorem Tab.put (T : Tab t hs) {h : Int} {q p : Nat} (hq : way t.mask h q ∉ t.place.toList) (hb : ∀ k, k < q → way t.mask h k ∈ t.place.toList) (hp : SetTable.below t.place (way t.mask h q) = p) :
    p ≤ hs.length ∧ Tab (t.put (way t.mask h q)).1 (hs.take p ++ h :: hs.drop p) := by
  obtain ⟨c1, _, _⟩ := below_cut T.ris (way t.mask h q)
  rw [hp] at c1
  have hz := T.sz
  have hl : p ≤ t.place.toList.length := by rw [Array.length_toList]; exact c1
  have hl2 : p ≤ hs.length := hz ▸ hl
  have pp : (t.put (way t.mask h q)).1.place.toList = t.place.toList.take p ++ way t.mask h q :: t.place.toList.drop p := by rw [put_place, hp]
  have up : ∀ {x}, x ∈ t.place.toList → x ∈ (t.put (way t.mask h q)).1.place.toList := fun hx => by rw [pp]; exact mem_ins.2 (.inr hx)
  refine ⟨hl2, ris_insert T.ris fun e => hq (List.mem_of_getElem? (by rw [Array.getElem?_toList]; exact e)), put_dm T.dm _, by rw [pp, len_ins _ hl, len_ins _ hl2, hz], T.msk, fun i h' j' h1 h2 => ?_⟩
  rw [tins_get hs hl2] at h1
  rw [pp, tins_get _ hl] at h2
  have old : ∀ i, hs[i]? = some h' → t.place.toList[i]? = some j' → ∃ k, way t.mask h' k = j' ∧ ∀ k', k' < k → way t.mask h' k' ∈ (t.put (way t.mask h q)).1.place.toList := fun i a b => by
    obtain ⟨k, e, z⟩ := T.reach i h' j' a b
    exact ⟨k, e, fun k' hk => up (z k' hk)⟩
  split at h1
  · rename_i c; rw [if_pos c] at h2; exact old i h1 h2
  · rename_i c
    rw [if_neg c] at h2
    split at h1
    · rename_i d
      rw [if_pos d] at h2
      cases h1; cases h2
      exact ⟨q, rfl, fun k' hk => up (hb k' hk)⟩
    · rename_i d; rw [if_neg d] at h2; exact old (i - 1) h1 h2

/-! ### laid anew -/
theorem free_at {m : Nat} (hm : Msk m) (owner : Array (Option Nat)) (h : Int) {j : Nat} (hj : j ≤ m) (hf : oAt owner j = none) :
    ∃ q, SetTable.layClean.free m owner (SetTable.turns m) (SetTable.bits h % (m + 1)) (SetTable.bits h) = some (way m h q) ∧ oAt owner (way m h q) = none ∧ ∀ k, k < q → oAt owner (way m h k) ≠ none := by
  obtain ⟨n, hn, e⟩ := hm.run h hj
  have hw : way m h (off m (SetTable.bits h % (m + 1)) (SetTable.bits h) n) = j := by
    show (nth m _ _).j = j
    rw [nth_off, itL_run]
    exact e
  obtain ⟨q, q1, q2, q3⟩ := st_least (p := fun k => oAt owner (way m h k) = none) _ (hw.symm ▸ hf)
  refine ⟨q, free_spec m owner _ n _ _ q (by unfold SetTable.turns; omega) q1 (fun k hk => ?_) ?_, q2, q3⟩
  · have c := q3 k hk
    show (oAt owner (way m h k)).isNone = false
    cases z : oAt owner (way m h k) with
    | none => exact absurd z c
    | some _ => rfl
  · show (oAt owner (way m h q)).isNone = true
    rw [q2] <;> rfl
theorem own_step {m : Nat} (hm : Msk m) {done : List Int} {owner : Array (Option Nat)} (W : Own m done owner) (hl : done.length ≤ m) (h : Int) :
    ∃ j, SetTable.layClean.free m owner (SetTable.turns m) (SetTable.bits h % (m + 1)) (SetTable.bits h) = some j ∧ Own m (done ++ [h]) (owner.setIfInBounds j (some done.length)) := by
  obtain ⟨ps, hps, hin⟩ := W.ps
  obtain ⟨j0, h0, hn0⟩ := st_missing ps (m + 1) (by omega)
  have hj0 : oAt owner j0 = none := Classical.byContradiction fun c => hn0 (hin j0 (Nat.le_of_lt_succ h0) c)
  obtain ⟨q, e1, e2, e3⟩ := free_at hm owner h (Nat.le_of_lt_succ h0) hj0
  have hself := oAt_set_self (owner := owner) (j := way m h q) (some done.length) (by rw [W.sz]; exact Nat.lt_succ_of_le (way_in m h q))
  have away : ∀ {i}, i ≠ way m h q → oAt (owner.setIfInBounds (way m h q) (some done.length)) i = oAt owner i := fun c => oAt_set_ne _ c
  have up : ∀ {i}, oAt owner i ≠ none → oAt (owner.setIfInBounds (way m h q) (some done.length)) i ≠ none := fun {i} hi => by
    by_cases c : i = way m h q
    · rw [c, hself]; exact Option.some_ne_none _
    · rw [away c]; exact hi
  refine ⟨_, e1, by rw [Array.size_setIfInBounds]; exact W.sz, fun j k hj e => ?_, fun k hk => ?_, way m h q :: ps, by simp [hps], fun j hj e => ?_⟩
  · by_cases c : j = way m h q
    · rw [c, hself] at e
      obtain rfl := Option.some.inj e
      exact ⟨h, q, by simp, c.symm, fun k' hk' => up (e3 k' hk')⟩
    · rw [away c] at e
      obtain ⟨h', q', a1, a2, a3⟩ := W.at_ j k hj e
      exact ⟨h', q', by rw [List.getElem?_append_left (List.getElem?_eq_some_iff.mp a1).1]; exact a1, a2, fun k' hk' => up (a3 k' hk')⟩
  · rw [List.length_append, List.length_singleton] at hk
    by_cases c : k < done.length
    · obtain ⟨j, hj, e⟩ := W.all k c
      exact ⟨j, hj, by rw [away fun z => by rw [z, e2] at e; cases e]; exact e⟩
    · obtain rfl : k = done.length := by omega
      exact ⟨_, way_in m h q, hself⟩
  · by_cases c : j = way m h q
    · rw [c]; exact List.mem_cons_self
    · rw [away c] at e
      exact List.mem_cons_of_mem _ (hin j hj e)
theorem own_all {m : Nat} (hm : Msk m) : ∀ (rest done : List Int) (owner : Array (Option Nat)), Own m done owner → done.length + rest.length ≤ m + 1 →
    ∃ owner', rest.foldl (stepF m) (some (owner, done.length)) = some (owner', done.length + rest.length) ∧ Own m (done ++ rest) owner'
  | [], done, owner, W, _ => ⟨owner, rfl, by rw [List.append_nil]; exact W⟩
  | h :: rest, done, owner, W, hl => by
    rw [List.length_cons] at hl
    obtain ⟨j, e, W'⟩ := own_step hm W (by omega) h
    obtain ⟨owner', f, W2⟩ := own_all hm rest (done ++ [h]) _ W' (by simp; omega)
    rw [List.append_assoc] at W2
    refine ⟨owner', ?_, W2⟩
    rw [List.foldl_cons, stepF_some e, List.length_cons]
    rw [List.length_append, List.length_singleton] at f
    rw [f]
    congr 2
    omega
theorem laid_again (t : SetTable) {hs : Array Int} {wanted m : Nat} (hw : SetTable.sizeAbove wanted - 1 = m) (hm : Msk m) (hn : hs.size ≤ m) :
    ∃ t' order, t.relaid hs wanted = some (t', order) ∧ order.toList.Perm (List.range hs.size) ∧ Tab t' (order.toList.map fun i => hs.getD i 0) ∧ t'.mask = m ∧ t'.led = t.led ∧ t'.plain = t.plain := by
  obtain ⟨owner, f, W⟩ := own_all hm hs.toList [] _ (Own.init m) (by simp; omega)
  have e : SetTable.layClean m hs = some owner := by
    rw [layClean_eq]
    show (hs.toList.foldl (stepF m) (some (Array.replicate (m + 1) none, ([] : List Int).length))).map (·.1) = some owner
    rw [f]
    rfl
  rw [List.nil_append] at W
  have hr : t.relaid hs wanted = some (tabOf t m owner, ((liveOf m owner).map (·.2)).toArray) := by rw [relaid_eq, hw, e] <;> rfl
  have r1 : Ris ((liveOf m owner).map (·.1)) := (ris_live (fun j => owner.getD j none) (List.range (m + 1)) (by
    unfold Ris
    first | exact List.pairwise_lt_range | exact List.pairwise_lt_range _)).1
  have all : ∀ k, k < hs.size → k ∈ (liveOf m owner).map (·.2) := fun k hk => by
    obtain ⟨j, b1, b2⟩ := W.all k (by rw [Array.length_toList]; exact hk)
    exact List.mem_map.mpr ⟨(j, k), (mem_live W.sz).2 ⟨b1, b2⟩, rfl⟩
  have hlen : (liveOf m owner).length = hs.size := by
    obtain ⟨ps, p1, p2⟩ := W.ps
    have a := nat_nodup_len ((liveOf m owner).map (·.1)) ps (by unfold Ris at r1; exact List.Pairwise.imp (fun h => Nat.ne_of_lt h) r1) fun x hx => by
      obtain ⟨⟨y, k⟩, hq, rfl⟩ := List.mem_map.mp hx
      obtain ⟨b1, b2⟩ := (mem_live W.sz).1 hq
      exact p2 y b1 (by rw [b2]; exact Option.some_ne_none _)
    have b := nat_nodup_len (List.range hs.size) ((liveOf m owner).map (·.2)) List.nodup_range fun k hk => all k (List.mem_range.mp hk)
    rw [List.length_map, p1] at a
    rw [List.length_map, List.length_range] at b
    have : hs.toList.length = hs.size := rfl
    omega
  refine ⟨_, _, hr, perm_range hs.size _ (by rw [List.length_map]; exact hlen) all, ⟨r1, rfl, by simp [tabOf], hm, fun i h j h1 h2 => ?_⟩, rfl, rfl, rfl⟩
  have h1' : (((liveOf m owner).map (·.2)).map fun i => hs.getD i 0)[i]? = some h := h1
  have h2' : ((liveOf m owner).map (·.1))[i]? = some j := h2
  rw [List.getElem?_map, List.getElem?_map] at h1'
  rw [List.getElem?_map] at h2'
  cases hq : (liveOf m owner)[i]? with
  | none => rw [hq] at h2'; cases h2'
  | some yk =>
    obtain ⟨y, k⟩ := yk
    rw [hq] at h1' h2'
    obtain rfl : y = j := Option.some.inj h2'
    have eh : hs.getD k 0 = h := Option.some.inj h1'
    obtain ⟨b1, b2⟩ := (mem_live W.sz).1 (List.mem_of_getElem? hq)
    obtain ⟨h0, q, a1, a2, a3⟩ := W.at_ y k b1 b2
    have e0 : hs.getD k 0 = h0 := by rw [Array.getD_eq_getD_getElem?, ← Array.getElem?_toList, a1] <;> rfl
    obtain rfl : h0 = h := e0.symm.trans eh
    refine ⟨q, a2, fun k' hk' => ?_⟩
    show way m h0 k' ∈ (liveOf m owner).map (·.1)
    cases z : oAt owner (way m h0 k') with
    | none => exact absurd z (a3 k' hk')
    | some k2 => exact List.mem_map.mpr ⟨(_, k2), (mem_live W.sz).2 ⟨way_in m h0 k', z⟩, rfl⟩
theorem big20 : SetTable.sizeAbove (SetTable.grown 5) = 32 := by decide +kernel
theorem big76 : SetTable.sizeAbove (SetTable.grown 19) = 128 := by decide +kernel
theorem big308 : SetTable.sizeAbove (SetTable.grown 77) = 512 := by decide +kernel
end SW
set_option Elab.async false
set_option linter.all false
set_option maxRecDepth 100000
/-! SW2: a set of up to 300 tuples of ints: the search in it, one more in it. -/
namespace SW
open PySem PySem.Spec PyProof.Rows L2
variable {P : Program} {w : World} {A : Around} {E : Value → Shared → Prop} {s : Shared}
structure Hold (P : Program) (w : World) (h : Heap) (a : Addr) (L : List (Addr × List Int)) (es : Array (Int × Value)) (ep : Nat) (t : SetTable) : Prop where
  ob : ∃ o, h.get? a = some o ∧ o.ExactSet ∧ o.data = .set es ep t
  rows : es.toList = rowsOf P w L
  tab : Tab t (L.map fun p => thash P w p.2)
  nd : (L.map (·.2)).Nodup
  tup : ∀ p ∈ L, IsT P w h p.2 p.1
  plain : t.plain = true
  led : w.params.followText "set-order" = true ∨ t.led = true
  room : L.length * 5 < t.mask * 3
  few : L.length ≤ 300
variable {a : Addr} {L : List (Addr × List Int)} {es : Array (Int × Value)} {ep : Nat} {t : SetTable}
theorem rows_len (h : es.toList = rowsOf P w L) : es.size = L.length := by
  have := congrArg List.length h
  unfold rowsOf at this
  rwa [Array.length_toList, List.length_map] at this
theorem Tab.fits {hs : List Int} (T : Tab t hs) {n : Nat} (e : n = hs.length) (hl : hs.length ≤ t.mask) : t.fits n = true := by
  have hz := T.sz
  rw [Array.length_toList] at hz
  unfold SetTable.fits SetTable.fill
  rw [T.dm, Bool.and_eq_true, beq_iff_eq, decide_eq_true_eq]
  exact ⟨by rw [hz, e], by show t.place.size + 0 ≤ t.mask; omega⟩
theorem Hold.fits (R : Hold P w s.heap a L es ep t) : t.fits es.size = true := R.tab.fits (by rw [rows_len R.rows, List.length_map]) (by have := R.room; rw [List.length_map]; omega)
theorem Hold.row (R : Hold P w s.heap a L es ep t) {i : Nat} {p : Addr × List Int} (h : L[i]? = some p) : es[i]? = some (thash P w p.2, Value.ref p.1) := by
  rw [← Array.getElem?_toList, R.rows]
  unfold rowsOf
  rw [List.getElem?_map, h] <;> rfl
abbrev at0 (m : Nat) (h : Int) : SetTable.Probe := runAt m (SetTable.bits h % (m + 1)) (SetTable.bits h)
theorem no_dummy (m : Nat) : ∀ (n : Nat) (p : SetTable.Probe), p.dummy = none → (nth m p n).dummy = none
  | 0, _, h => h
  | n + 1, p, h => no_dummy m n (adv m p) (by unfold adv; split <;> exact h)

/-- the search for x from the c-th step of its way on: q is the first free step -/
theorem seek (R : Hold P w s.heap a L es ep t) {x : Addr} {k : List Int} (hx : IsT P w s.heap k x) (hu : A.units < cLine) {q : Nat} (hf : q < 10 * SetTable.turns t.mask)
    (hq : way t.mask (thash P w k) q ∉ t.place.toList) (hb : ∀ c, c < q → way t.mask (thash P w k) c ∈ t.place.toList) {Q : SetFound → Shared → Prop}
    (hin : k ∈ L.map (·.2) → Q (.there none) s) (hout : k ∉ L.map (·.2) → Q (.free (way t.mask (thash P w k) q) false) s) :
    ∀ (f c : Nat) (stand : Option SetTable.Probe), stand.getD (t.probeStart (thash P w k)) = nth t.mask (at0 t.mask (thash P w k)) c → c ≤ q → q - c < f →
      (∀ (i : Nat) p, L[i]? = some p → p.2 = k → ∃ c', c ≤ c' ∧ c' < q ∧ t.place.toList[i]? = some (way t.mask (thash P w k) c')) →
      wpAny (model P w) A (setSearchFrom a (.ref x) (thash P w k) true f stand) Q E s
  | 0, _, _, _, _, hf, _ => absurd hf (Nat.not_lt_zero _)
  | f + 1, c, stand, hst, hc, hf, hre => by
    obtain ⟨o, ho, hex, hd⟩ := R.ob
    rw [setSearchFrom_succ]
    refine wpAny_bind (wpAny_setState_of ho hd R.fits ?_)
    dsimp only
    refine wp_if_neg (by unfold SetTable.gaveWay; rw [R.tab.msk.odd]; decide) ?_
    try refine wpAny_bind (wpAny_pure ?_)
    have on : ∀ n, (nth t.mask (nth t.mask (at0 t.mask (thash P w k)) c) n).j = way t.mask (thash P w k) (c + n) := fun n => congrArg SetTable.Probe.j (nth_add t.mask c _ n).symm
    have hashed : ∀ (i : Nat) p, L[i]? = some p → (es[i]?.map (fun z : Int × Value => z.1)).getD 0 = thash P w p.2 := fun i p hp => by rw [R.row hp] <;> rfl
    have spec := go_spec t R.tab.ris R.tab.dm (fun i => (es[i]?.map (·.1)).getD 0) (thash P w k) (10 * SetTable.turns t.mask) (q - c) (nth t.mask (at0 t.mask (thash P w k)) c) (no_dummy _ c _ rfl) (by omega)
      (fun n hn => by rw [on]; exact hb _ (by omega)) (by rw [on, show c + (q - c) = q by omega]; exact hq)
    -- what has k is not among the passed ones of its hash
    have passed : ∀ n, (∀ k' i', k' < n → t.place.toList[i']? = some (nth t.mask (nth t.mask (at0 t.mask (thash P w k)) c) k').j → (es[i']?.map (fun z : Int × Value => z.1)).getD 0 ≠ thash P w k) →
        ∀ (i : Nat) p, L[i]? = some p → p.2 = k → ∃ c', c + n ≤ c' ∧ c' < q ∧ t.place.toList[i]? = some (way t.mask (thash P w k) c') := fun n hno i p hp hk => by
      obtain ⟨c', a1, a2, a3⟩ := hre i p hp hk
      refine ⟨c', Classical.byContradiction fun z => ?_, a2, a3⟩
      refine hno (c' - c) i (by omega) (by rw [on, show c + (c' - c) = c' by omega]; exact a3) ?_
      rw [hashed i p hp, hk]
    rcases spec with ⟨n, i, hn, hi, hh, hno, hpr⟩ | ⟨hno, hpr⟩
    · rw [on] at hi
      have e : t.probe (fun i => (es[i]?.map (·.1)).getD 0) (thash P w k) (stand.getD (t.probeStart (thash P w k))) = some (.candidate (way t.mask (thash P w k) (c + n)) i (nth t.mask (at0 t.mask (thash P w k)) (c + (n + 1)))) := by
        rw [hst, ← on, nth_add t.mask c]
        exact hpr
      rw [e]
      dsimp only
      have hil : i < L.length := by
        have h1 := (List.getElem?_eq_some_iff.mp hi).1
        rwa [R.tab.sz, List.length_map] at h1
      obtain ⟨p, hp⟩ : ∃ p, L[i]? = some p := ⟨_, List.getElem?_eq_getElem hil⟩
      have hm : p ∈ L := List.mem_of_getElem? hp
      have rest : wpAny (model P w) A (searchRest a (.ref x) (thash P w k) true f es t (way t.mask (thash P w k) (c + n)) i (nth t.mask (at0 t.mask (thash P w k)) (c + (n + 1)))) Q E s := by
        unfold searchRest
        rw [R.row hp]
        dsimp only
        refine wpAny_bind (wpAny_holding (wpAny_eqBool_tuple hu (R.tup p hm) hx ?_))
        refine wpAny_bind (wpAny_setState_of ho hd R.fits ?_)
        dsimp only
        by_cases hk : p.2 = k
        · exact wp_if_pos (by simp [hk]) (wpAny_pure (hin (List.mem_map.mpr ⟨p, hm, hk⟩)))
        · refine wp_if_neg (by simp [hk]) ?_
          try refine wpAny_bind (wpAny_pure ?_)
          rw [sameMem]
          dsimp only
          simp only [if_true, slot_live R.tab.ris hi, R.row hp]
          refine wpAny_bind (wpAny_isSame_ref_self (wpAny_bind (wpAny_pure ?_)))
          simp only [if_true]
          refine wp_if_neg (by simp [hk]) ?_
          refine seek R hx hu ‹_› hq hb hin hout f (c + (n + 1)) _ rfl (by omega) (by omega) fun i0 p0 h0 hk0 => ?_
          obtain ⟨c', a1, a2, a3⟩ := passed n hno i0 p0 h0 hk0
          refine ⟨c', Classical.byContradiction fun z => ?_, a2, a3⟩
          have z' : c' = c + n := by omega
          rw [z'] at a3
          have s0 := slot_live R.tab.ris a3
          rw [slot_live R.tab.ris hi] at s0
          injection s0 with s0
          rw [← s0, hp] at h0
          cases h0
          exact hk hk0
      by_cases hl : t.led = true
      · refine wp_if_neg (by simp [hl]) ?_
        try refine wpAny_bind (wpAny_pure ?_)
        exact rest
      · refine wp_if_pos (by simp [hl]) ?_
        refine wpAny_bind (seen_tup hx (fun y hy => ?_) ?_)
        · obtain ⟨r, hr, rfl⟩ := List.mem_map.mp hy
          have hr' : r ∈ es.toList := by
            have : r ∈ es ∧ r.1 = thash P w k := by simpa using hr
            simpa using this.1
          rw [R.rows] at hr'
          obtain ⟨p2, h2, rfl⟩ := List.mem_map.mp hr'
          exact ⟨p2.2, p2.1, rfl, R.tup p2 h2⟩
        · refine wp_if_neg (by decide) ?_
          try refine wpAny_bind (wpAny_pure ?_)
          exact rest
    · have e : t.probe (fun i => (es[i]?.map (·.1)).getD 0) (thash P w k) (stand.getD (t.probeStart (thash P w k))) = some (.empty (way t.mask (thash P w k) q) none) := by
        rw [on, show c + (q - c) = q by omega] at hpr
        rw [hst]
        exact hpr
      rw [e]
      dsimp only
      refine wpAny_pure (hout fun hm => ?_)
      obtain ⟨p0, h0, hk0⟩ := List.mem_map.mp hm
      obtain ⟨i0, h00⟩ := List.mem_iff_getElem?.mp h0
      obtain ⟨c', a1, a2, _⟩ := passed (q - c) hno i0 p0 h00 hk0
      omega
theorem sought (R : Hold P w s.heap a L es ep t) {x : Addr} {k : List Int} (hx : IsT P w s.heap k x) (hu : A.units < cLine) {Q : SetFound → Shared → Prop}
    (hin : k ∈ L.map (·.2) → Q (.there none) s)
    (hout : ∀ q, k ∉ L.map (·.2) → way t.mask (thash P w k) q ∉ t.place.toList → (∀ c, c < q → way t.mask (thash P w k) c ∈ t.place.toList) → Q (.free (way t.mask (thash P w k) q) false) s) :
    wpAny (model P w) A (setSearch a (.ref x) (thash P w k) true) Q E s := by
  obtain ⟨q, hf, hq, hb⟩ := R.tab.gap (by have := R.room; rw [List.length_map]; omega) (thash P w k)
  have hle := R.tab.msk.le
  have hbig : q < 100000 := by unfold SetTable.turns at hf; omega
  unfold setSearch
  refine seek R hx hu hf hq hb hin (fun hn => hout q hn hq hb) 100000 0 none rfl (Nat.zero_le _) (by omega) fun i p hp hk => ?_
  have hi : (L.map fun p => thash P w p.2)[i]? = some (thash P w k) := by rw [List.getElem?_map, hp, ← hk] <;> rfl
  have hil : i < t.place.toList.length := by rw [R.tab.sz]; exact (List.getElem?_eq_some_iff.mp hi).1
  have hj := List.getElem?_eq_getElem hil
  obtain ⟨c, hc, e⟩ := R.tab.ahead hq hi hj
  exact ⟨c, Nat.zero_le _, hc, by rw [hj, e]⟩

/-- laid anew in a larger table -/
theorem relay {o : Obj} (ho : s.heap.get? a = some o) (hex : o.ExactSet) (hd : o.data = .set es ep t) (hrows : es.toList = rowsOf P w L) (hf : t.fits es.size = true)
    (nd : (L.map (·.2)).Nodup) (tup : ∀ p ∈ L, IsT P w s.heap p.2 p.1) (pl : t.plain = true) (ld : w.params.followText "set-order" = true ∨ t.led = true) (few : L.length ≤ 300) {wanted m : Nat}
    (hw : SetTable.sizeAbove wanted = m + 1) (hm : Msk m) (hn : L.length * 5 < m * 3) {Q : Unit → Shared → Prop}
    (hQ : ∀ h' L' es' ep' t', Heap.SameBut a s.heap h' → Hold P w h' a L' es' ep' t' → L'.Perm L → Q () { s with heap := h' }) : wpAny (model P w) A (setRelay a wanted) Q E s := by
  have hsl := rows_len hrows
  have hmle := hm.le
  obtain ⟨t', order, e, hp, T, em, el, ep'⟩ := laid_again t (hs := es.map (·.1)) (wanted := wanted) (m := m) (by omega) hm (by rw [Array.size_map, hsl]; omega)
  rw [Array.size_map, hsl] at hp
  obtain ⟨L2, r1, r2, r3⟩ := order_rows L es order hrows hp
  rw [← r3] at T
  have hs2 : (order.filterMap (es[·]?)).size = es.size := by rw [rows_len r1, r2.length_eq, hsl]
  rw [setRelay_eq]
  refine wpAny_bind (wpAny_setState_of ho hd hf ?_)
  dsimp only
  refine wp_if_neg (by rw [sizeLine_eq]; omega) ?_
  try refine wpAny_bind (wpAny_pure ?_)
  rw [e]
  dsimp only
  refine wpAny_bind ?_
  refine wp_if_neg (by rw [hs2]; simp) ?_
  try refine wpAny_bind (wpAny_pure ?_)
  refine wpAny_pure ?_
  dsimp only
  refine wpAny_storeSet_of ho hd ?_ (by rw [hs2, hsl, sizeLine_eq]; omega)
  have sb : Heap.SameBut a s.heap (s.heap.update a (Obj.putSet (order.filterMap (es[·]?)) t')) := Heap.SameBut.update ..
  refine hQ _ L2 _ (ep + 1) t' sb ⟨⟨_, store_at ho hd, ⟨hex.1, hex.2.1, hex.2.2⟩, rfl⟩, r1, T, (r2.map (·.2)).nodup_iff.mpr nd, fun p hpm => isT_same (tup p (r2.mem_iff.mp hpm)) ho hd sb, by rw [ep']; exact pl, by rw [el]; exact ld, ?_, by rw [r2.length_eq]; exact few⟩ r2
  rw [r2.length_eq, em]
  exact hn
/-- the tables that are laid when n + 1 are too many -/
theorem next_mask {m n : Nat} (hm : Msk m) (h1 : n * 5 < m * 3) (h2 : m * 3 ≤ (n + 1) * 5) (h3 : n < 300) : ∃ m', SetTable.sizeAbove (SetTable.grown (n + 1)) = m' + 1 ∧ Msk m' ∧ (n + 1) * 5 < m' * 3 := by
  rcases hm with (rfl | rfl | rfl) | rfl
  · obtain rfl : n = 4 := by omega
    exact ⟨31, big20, .inl (.inr (.inl rfl)), by decide⟩
  · obtain rfl : n = 18 := by omega
    exact ⟨127, big76, .inl (.inr (.inr rfl)), by decide⟩
  · obtain rfl : n = 76 := by omega
    exact ⟨511, big308, .inr rfl, by decide⟩
  · omega
/-- one more -/
theorem add (R : Hold P w s.heap a L es ep t) {x : Addr} {k : List Int} (hx : IsT P w s.heap k x) (hu : A.units < cLine) (hfew : L.length < 300) {Q : Bool → Shared → Prop}
    (hQ : ∀ b h' L' es' ep' t', Heap.SameBut a s.heap h' → Hold P w h' a L' es' ep' t' → (k ∈ L.map (·.2) → L' = L) → (k ∉ L.map (·.2) → L'.Perm ((x, k) :: L)) → Q b { s with heap := h' }) :
    wpAny (model P w) A (setAddHashed a (.ref x) (thash P w k)) Q E s := by
  obtain ⟨o, ho, hex, hd⟩ := R.ob
  have hsl := rows_len R.rows
  unfold setAddHashed
  refine wpAny_holding ?_
  rw [show (100000 : Nat) = 99999 + 1 from rfl, setAddHashedIn_succ]
  refine wpAny_bind (wpAny_setState_of ho hd R.fits ?_)
  dsimp only
  refine wp_if_neg (by simp [byScan, Value.scannable]) ?_
  try refine wpAny_bind (wpAny_pure ?_)
  refine wpAny_bind (sought R hx hu (fun hm => wpAny_pure (hQ false s.heap L es ep t (Heap.SameBut.refl a s.heap) R (fun _ => rfl) fun z => absurd hm z)) fun q hm hq hb => ?_)
  dsimp only
  refine wpAny_bind (wpAny_setState_of ho hd R.fits ?_)
  dsimp only
  obtain ⟨p, hp⟩ : ∃ p, SetTable.below t.place (way t.mask (thash P w k) q) = p := ⟨_, rfl⟩
  obtain ⟨t1, h1⟩ : ∃ t1, (t.put (way t.mask (thash P w k) q)).1 = t1 := ⟨_, rfl⟩
  obtain ⟨q2, q3⟩ := R.tab.put hq hb hp
  have e2 : t.put (way t.mask (thash P w k) q) = (t1, p) := by
    rw [← h1, ← hp]
    rfl
  have em : t1.mask = t.mask := by rw [← h1]; rfl
  have el : t1.led = t.led := by rw [← h1]; rfl
  have epl : t1.plain = t.plain := by rw [← h1]; rfl
  rw [h1] at q3
  rw [e2]
  dsimp only
  have hp1 : t1.plain = true := by rw [epl]; exact R.plain
  first
    | (refine wpAny_bind ?_; refine wp_if_pos hp1 ?_; refine hashBy_tup hx ?_)
    | refine wp_if_pos hp1 (wpAny_bind (hashBy_tup hx ?_))
  simp only [if_true]
  rw [List.length_map] at q2
  have pm := put_perm L p (x, k)
  have hin : (SetTable.insertAt es p (thash P w k, Value.ref x)).toList = rowsOf P w (L.take p ++ (x, k) :: L.drop p) := by rw [SetTable.toList_insertAt, rows_put, R.rows]
  have hhs : (L.map fun p => thash P w p.2).take p ++ thash P w k :: (L.map fun p => thash P w p.2).drop p = (L.take p ++ (x, k) :: L.drop p).map fun p => thash P w p.2 := by rw [List.map_append, List.map_cons, List.map_take, List.map_drop]
  rw [hhs] at q3
  obtain ⟨L1, eL⟩ : ∃ L1, L.take p ++ (x, k) :: L.drop p = L1 := ⟨_, rfl⟩
  rw [eL] at pm hin q3
  have hlen : L1.length = L.length + 1 := pm.length_eq
  have nd1 : (L1.map (·.2)).Nodup := (pm.map (·.2)).nodup_iff.mpr (by rw [List.map_cons]; exact List.nodup_cons.mpr ⟨hm, R.nd⟩)
  have hes := rows_len hin
  generalize SetTable.insertAt es p (thash P w k, Value.ref x) = es1 at hin hes ⊢
  have hroom := R.room
  have hfit : t1.fits es1.size = true := q3.fits (by rw [hes, List.length_map]) (by rw [List.length_map, em]; omega)
  have hfill : t1.fill = L.length + 1 := by
    have := q3.sz
    rw [List.length_map, hlen, Array.length_toList] at this
    unfold SetTable.fill
    rw [this, q3.dm]
    rfl
  refine wpAny_bind (wpAny_storeSet_of ho hd ?_ (by rw [hes, hlen, sizeLine_eq]; omega))
  have sb : Heap.SameBut a s.heap (s.heap.update a (Obj.putSet es1 t1)) := Heap.SameBut.update ..
  have ho1 := store_at (es' := es1) (t' := t1) ho hd
  generalize s.heap.update a (Obj.putSet es1 t1) = hp' at sb ho1 ⊢
  have tup1 : ∀ p ∈ L1, IsT P w hp' p.2 p.1 := fun p hp => by
    rcases List.mem_cons.mp (pm.mem_iff.mp hp) with e | hp
    · rw [e]; exact isT_same hx ho hd sb
    · exact isT_same (R.tup p hp) ho hd sb
  have ld1 : w.params.followText "set-order" = true ∨ t1.led = true := by rw [el]; exact R.led
  by_cases hf : t1.tooFull = true
  · have h2 := hf
    unfold SetTable.tooFull at h2
    rw [decide_eq_true_eq, hfill, em] at h2
    obtain ⟨m', w1, w2, w3⟩ := next_mask R.tab.msk hroom h2 hfew
    have go : wpAny (model P w) A (setRelay a (SetTable.grown (es.size + 1))) (fun _ s' => wpAny (model P w) A (pure true) Q E s') E { s with heap := hp' } := by
      refine relay (s := { s with heap := hp' }) ho1 ⟨hex.1, hex.2.1, hex.2.2⟩ rfl hin hfit nd1 tup1 hp1 ld1 (by omega) (by rw [hsl]; exact w1) w2 (by rw [hlen]; exact w3) fun h2 L2 es2 ep2 t2 sb2 R2 pm2 => ?_
      exact wpAny_pure (hQ true h2 L2 es2 ep2 t2 (sb.trans sb2) R2 (fun z => absurd z hm) fun _ => pm2.trans pm)
    first
      | (refine wpAny_bind ?_; refine wp_if_pos (by simp [hf]) ?_; exact go)
      | (refine wp_if_pos (by simp [hf]) ?_; refine wpAny_bind ?_; exact go)
  · have h2 := hf
    unfold SetTable.tooFull at h2
    rw [decide_eq_true_eq, hfill] at h2
    first
      | refine wp_if_neg (by simp [hf]) ?_
      | (refine wpAny_bind ?_; refine wp_if_neg (by simp [hf]) ?_; refine wpAny_pure ?_)
    exact wpAny_pure (hQ true hp' L1 es1 (ep + 1) t1 sb ⟨⟨_, ho1, ⟨hex.1, hex.2.1, hex.2.2⟩, rfl⟩, hin, q3, nd1, tup1, hp1, ld1, by omega, by omega⟩ (fun z => absurd z hm) fun _ => pm)
end SW
set_option Elab.async false
set_option linter.all false
set_option maxRecDepth 100000
/-! SW3: set(xs) of a list, item by item; sorted of such a set. -/
namespace SW
open PySem PySem.Spec PyProof.Rows L2
variable {P : Program} {w : World} {A : Around} {E : Value → Shared → Prop} {s : Shared}
/-- what is true of the set at a behind i items, and why one item more keeps it so -/
structure Filler (P : Program) (w : World) (B : Around) (a : Addr) (h0 : Heap) (items : Array Value) (S : Nat → Heap → Prop) : Prop where
  fr : ∀ i h h', S i h → (∀ o, h.get? a = some o → h'.get? a = some o) → (∀ b o, h0.get? b = some o → h'.get? b = some o) → S i h'
  step : ∀ i v (s : Shared) (Q : Bool → Shared → Prop) (E : Value → Shared → Prop), items[i]? = some v → S i s.heap → (∀ b o, h0.get? b = some o → s.heap.get? b = some o) →
    (∀ r h' tk, s.toks ≤ tk → Heap.SameBut a s.heap h' → S (i + 1) h' → Q r { s with heap := h', toks := tk }) → wpAny (model P w) B (setAdd a v) Q E s
theorem fill_on {a I : Addr} {fp wr : List Addr} {G : Array GenState → Array GenState → Prop} {items : Array Value} {Pv : Nat → Value → Prop} {St : Nat → Shared → Prop} {R : Result → Shared → Prop} {S : Nat → Heap → Prop} {h0 : Heap}
    (W : WalksS P w A.in1 I fp wr G items.size Pv St) (F0 : Filler P w A.in1 a h0 items S) (ha : a ∉ fp) (hv : ∀ i v, Pv i v → items[i]? = some v) (ha0 : h0.get? a = none) (hw0 : ∀ b ∈ wr, h0.get? b = none) :
    ∀ (k i : Nat) (s : Shared), items.size - i = k → i ≤ items.size → St i s → (∀ b o, h0.get? b = some o → s.heap.get? b = some o) → S i s.heap →
      (∀ s', Moved (a :: wr) G s s' → S items.size s'.heap → (∀ b o, h0.get? b = some o → s'.heap.get? b = some o) → R (.ok (.ret .none)) s') →
      codeAny (model P w) A (.builtin "set.update.loop" ⟨[.ref a, .ref I], []⟩) R s := by
  have haw : a ∉ wr := fun h => ha (W.sub _ h)
  have kept : ∀ {s s' : Shared}, Moved wr G s s' → (∀ b o, h0.get? b = some o → s.heap.get? b = some o) → ∀ b o, h0.get? b = some o → s'.heap.get? b = some o := fun m k b o e =>
    m.heap b o (fun hb => by rw [hw0 b hb] at e; cases e) (k b o e)
  have wide : ∀ b ∈ wr, b ∈ a :: wr := fun b hb => List.mem_cons_of_mem _ hb
  intro k
  induction k with
  | zero =>
    intro i s hk hi hst hkp hS hR
    obtain rfl : i = items.size := by omega
    refine codeAny_builtin F.entry_set_update_loop ?_
    rw [Around.under_plainId F.plain_set_update_loop _]
    show wpAny _ A.in1 (pyNext (.ref I) >>= _) _ _ s
    refine wpAny_bind (W.done s _ _ hst fun s' m => ?_)
    exact wpAny_pure (hR s' (m.mono wide) (F0.fr _ _ _ hS (fun o e => m.heap a o haw e) (kept m hkp)) (kept m hkp))
  | succ k ih =>
    intro i s hk hi hst hkp hS hR
    refine codeAny_builtin F.entry_set_update_loop ?_
    rw [Around.under_plainId F.plain_set_update_loop _]
    show wpAny _ A.in1 (pyNext (.ref I) >>= _) _ _ s
    refine wpAny_bind (W.item i s _ _ (by omega) hst fun v s' hP hst' m => ?_)
    have hkp' := kept m hkp
    show wpAny _ A.in1 (holding [v] (setAdd a v) >>= _) _ _ s'
    refine wpAny_bind (wpAny_holding (F0.step i v s' _ _ (hv i v hP) (F0.fr _ _ _ hS (fun o e => m.heap a o haw e) hkp') hkp' fun r h' tk htk sb hS2 => ?_))
    refine wpAny_pure ⟨plainId_quiet F.plain_set_update_loop _, ih (i + 1) _ (by omega) (by omega) (W.frame _ s' _ _ hst' htk fun b hb o e => ?_) (fun b o e => ?_) hS2 fun s2 m2 hS3 hkp3 => hR s2 ?_ hS3 hkp3⟩
    · exact (sb.2 b fun z => ha (z ▸ hb)).trans e
    · exact (sb.2 b fun z => by rw [z, ha0] at e; cases e).trans (hkp' b o e)
    · refine Moved.trans W.gtrans ((m.mono wide).then_heap htk fun b o hb e => ?_) m2
      exact (sb.2 b fun z => hb (by rw [z]; exact List.mem_cons_self)).trans e
abbrev newSet (w : World) : Obj := { cls := .type "set", dict := none, data := .set #[] 0 (.fresh 0 0 (!w.params.followText "set-order")) }
set_option maxHeartbeats 3200000 in
/-- set(xs) -/
theorem set_of {l : Addr} {items : Array Value} {S : Nat → Heap → Prop} {Q : Value → Shared → Prop} (hh : A.handled = none) (hl : s.heap.IsList l items) (hn : items.size ≤ 300)
    (F0 : ∀ B : Around, B.units ≤ A.units + 3 → Filler P w B s.heap.objs.size s.heap items S) (h0 : ∀ h : Heap, h.get? s.heap.objs.size = some (newSet w) → S 0 h)
    (h : ∀ (h' : Heap) (tk : Nat), S items.size h' → (∀ b o, s.heap.get? b = some o → h'.get? b = some o) → Q (.ref s.heap.objs.size) { s with heap := h', toks := tk }) :
    wpAny (model P w) A (call (.type "set") [.ref l]) Q E s := by
  obtain ⟨c, tl, hmro⟩ := F.called_set.mro
  have hmade := F.called_set.made
  have hsub := F.called_set.sub
  refine wpAny_call (codeAny_of_tree ?_)
  show wpAny _ _ (callAny (.type "set") _) _ _ _
  refine wpAny_pure ⟨Code.quiet_builtin _ (by decide +kernel), codeAny_builtin F.entry_type_call ?_⟩
  rw [Around.under_plain (weight_type_call_type "set" [.ref l] []) rfl]
  have h1 := F.called_set.notType
  have h2 := F.called_set.canCreate
  have hct := F.typeCall_set_1 (.ref l)
  repeat (any_goals (first | assumption | wp_step))
  refine codeAny_mono (code_set_led1 (.ref l) (E := E) (Q₁ := fun obj s₁ => obj = .ref s.heap.objs.size ∧ s₁ = { s with heap := s.heap.push (newSet w) }) ⟨rfl, rfl⟩) fun r s₁ hr => ?_
  cases r with
  | error e => exact hr
  | ok fl =>
    cases fl with
    | ret obj =>
      obtain ⟨rfl, rfl⟩ := hr
      have hS : (s.heap.push (newSet w)).get? s.heap.objs.size = some (newSet w) := Heap.get?_push_size _ rfl
      have hT : Shared.TypeIs { s with heap := s.heap.push (newSet w) } (.ref s.heap.objs.size) "set" := ⟨_, hS, rfl⟩
      have hli := F.called_set.init.lookup
      have hbi := F.called_set.init.bind (.ref s.heap.objs.size)
      repeat (any_goals (first | assumption | wp_step))
      refine codeAny_mono (codeAny_call_builtin (R := wants (fun r s₂ => r = .none ∧ ∃ h' tk, s₂ = { s with heap := h', toks := tk } ∧ S items.size h' ∧ (∀ b o, s.heap.get? b = some o → h'.get? b = some o)) E) F.called_set.init.plain F.entry_set_init (check_set_init_1 hT ?_)) fun r₂ s₂ hr₂ => ?_
      · obtain ⟨⟨ocls, odict, odata, oslots⟩, hol, hcl, nl, hdl⟩ := hl
        simp only at hcl hdl
        subst hcl; subst hdl
        have hol' : (s.heap.push (newSet w)).get? l = some { cls := .type "list", dict := odict, data := .seq items nl, slots := oslots } := Heap.get?_push_of_some _ hol
        have hsls := F.sub_list_set
        have hslf := F.sub_list_frozenset
        have hne : (Value.type "list" == Value.type "dict") = false := by decide
        have hl1 : (s.heap.push (newSet w)).IsList l items := ⟨_, hol', rfl, nl, rfl⟩
        unfold Builtin.«set.__init__» noKeywords Builtin.Frozenset.updateFrom
        generalize hPI : pyIter = PI
        wp_walk
        subst hPI
        refine wpAny_pyIter_list hl1 ?_
        refine wpAny_bind (wpAny_runValue ?_)
        have hlS : l < s.heap.objs.size := Heap.lt_size hol
        have hsz : (s.heap.push (newSet w)).objs.size = s.heap.objs.size + 1 := Heap.size_push ..
        have none_of : ∀ b, s.heap.objs.size ≤ b → s.heap.get? b = none := fun b hb => by
          cases q : s.heap.get? b with
          | none => rfl
          | some o => exact absurd (Nat.lt_of_lt_of_le (Heap.lt_size q) hb) (Nat.lt_irrefl _)
        refine fill_on (S := S) (h0 := s.heap) ((Walks.list (by simp [hh]) (s.heap.push (newSet w)).objs.size l (by rw [hsz]; exact Nat.ne_of_lt (Nat.lt_succ_of_lt hlS)) items).toS) (F0 _ ?hB) ?hf (fun i v e => e) (none_of _ (Nat.le_refl _)) (fun b hb => none_of b ?hb) _ 0 _ rfl (Nat.zero_le _) ⟨⟨_, Heap.get?_push_size _ rfl, rfl, rfl⟩, hl1.push _⟩ (fun b o e => Heap.get?_push_of_some _ (Heap.get?_push_of_some _ e)) (h0 _ (Heap.get?_push_of_some _ hS)) ?hR
        case hB => exact Nat.le_refl _
        case hf =>
          rw [hsz]
          simp only [List.mem_cons, List.not_mem_nil, or_false, not_or]
          exact ⟨Nat.ne_of_lt (Nat.lt_succ_self _), Nat.ne_of_gt hlS⟩
        case hb =>
          rw [List.mem_singleton.mp hb, hsz]
          exact Nat.le_succ _
        case hR =>
          intro s' m hS' hkp
          obtain ⟨h', g2, d', tk', os'⟩ := s'
          have eg : g2 = s.gens := m.gens
          have ed : d' = s.drawn := m.drawn
          have eo : os' = s.os := m.os
          subst eg; subst ed; subst eo
          refine wpAny_pure ?_
          show wpAny _ _ (ret Value.none) _ _ _
          exact wpAny_pure ⟨rfl, h', tk', rfl, hS', hkp⟩
      · cases r₂ with
        | error e => exact hr₂
        | ok fl₂ =>
          cases fl₂ with
          | ret r =>
            obtain ⟨rfl, h', tk, rfl, hS', hk'⟩ := hr₂
            repeat (any_goals (first | assumption | wp_step))
            exact h _ _ hS' hk'
          | _ => exact hr₂.elim
    | _ => exact hr.elim
end SW
set_option Elab.async false
set_option linter.all false
set_option maxRecDepth 100000
/-! SW4: sorted(set(xs)), xs a list of up to a hundred pairs of ints. -/
namespace SW
open PySem PySem.Spec PyProof.Rows L2
section
variable {P : Program} {w : World} {A : Around} {E : Value → Shared → Prop} {s : Shared}
abbrev Held (P : Program) (w : World) (a : Addr) (ks : List (Addr × List Int)) (i : Nat) (h : Heap) : Prop := ∃ L es ep t, Hold P w h a L es ep t ∧ Got ks i L
theorem filler {a : Addr} {h0 : Heap} {items : Array Value} {ks : List (Addr × List Int)} (hi : items.toList = ks.map fun p => Value.ref p.1) (hk : ∀ p ∈ ks, IsT P w h0 p.2 p.1) (hn : ks.length ≤ 300) {B : Around} (hu : B.units < cLine) :
    Filler P w B a h0 items (Held P w a ks) where
  fr := by
    rintro i h h' ⟨L, es, ep, t, R, g⟩ h1 h2
    obtain ⟨o, ho, r⟩ := R.ob
    exact ⟨L, es, ep, t, ⟨⟨o, h1 o ho, r⟩, R.rows, R.tab, R.nd, fun p hp => isT_keep (hk p (List.mem_of_mem_take (g.sub p hp))) h2, R.plain, R.led, R.room, R.few⟩, g⟩
  step := by
    rintro i v s Q E hv ⟨L, es, ep, t, R, g⟩ h2 hQ
    have hv' : items.toList[i]? = some v := by rw [Array.getElem?_toList]; exact hv
    rw [hi, List.getElem?_map] at hv'
    obtain ⟨p, hp, rfl⟩ := Option.map_eq_some_iff.mp hv'
    have hx : IsT P w s.heap p.2 p.1 := isT_keep (hk p (List.mem_of_getElem? hp)) h2
    have hlt := (List.getElem?_eq_some_iff.mp hp).1
    unfold setAdd
    refine wpAny_holding (wpAny_bind (wpAny_pyHash_tuple hu hx ?_))
    refine add (s := { s with toks := s.toks + (p.2.length + 1) }) R hx hu (by have := g.len; omega) fun b h' L' es' ep' t' sb R' c1 c2 => hQ b h' _ (Nat.le_add_right _ _) sb ⟨L', es', ep', t', R', ?_⟩
    rcases Classical.em (p.2 ∈ L.map (·.2)) with c | c
    · rw [c1 c]; exact g.same hp c
    · exact g.more hp (c2 c)
theorem held0 {a : Addr} (ks : List (Addr × List Int)) {h : Heap} (ho : h.get? a = some (newSet w)) : Held P w a ks 0 h := by
  refine ⟨[], #[], 0, _, ⟨⟨_, ho, ⟨rfl, rfl, rfl⟩, rfl⟩, rfl, ⟨List.Pairwise.nil, rfl, rfl, .inl (.inl rfl), fun i h j hi => (by simp at hi)⟩, List.nodup_nil, fun p hp => (by cases hp), rfl, ?_, ?_, Nat.zero_le _⟩, Got.zero ks⟩
  · show _ ∨ (!w.params.followText "set-order") = true
    cases w.params.followText "set-order"
    · exact .inr rfl
    · exact .inl rfl
  · show 0 * 5 < 7 * 3
    decide
/-- the two ints of what stands there -/
def two (h : Heap) (v : Value) : Int × Int := ((TS.intsOf h v).getD 0 0, (TS.intsOf h v).getD 1 0)
theorem isPair_of {h : Heap} {b : Addr} {i j : Int} (x : IsT P w h [i, j] b) : Srt.IsPair h (.ref b) i j := by
  obtain ⟨o, items, n, ho, hc, hd, hi⟩ := x
  have := ints_of_items hi
  obtain ⟨l⟩ := items
  cases this with
  | cons _ t1 r =>
    cases r with
    | cons _ t2 r => cases r; exact ⟨b, o, t1, t2, n, rfl, ho, hc, hd⟩
theorem sorted_held {a : Addr} {L : List (Addr × List Int)} {es : Array (Int × Value)} {ep : Nat} {t : SetTable} {Q : Value → Shared → Prop} (R : Hold P w s.heap a L es ep t) (hh : A.handled = none)
    (h2 : ∀ p ∈ L, ∃ i j, p.2 = [i, j])
    (hQ : ∀ s' p (out : List Value) (c : Nat), (∀ b o, s.heap.get? b = some o → s'.heap.get? b = some o) → s'.gens = s.gens → s'.os = s.os → s.heap.objs.size ≤ p →
      s'.heap.get? p = some (seqObj "list" out.toArray c) → out.Perm (L.map fun q => Value.ref q.1) → SrtO.Srtd (fun v u => SrtO.lexB (two s.heap v) (two s.heap u)) out → Q (.ref p) s') :
    wpAny (model P w) A (call (.builtin "sorted") [.ref a]) Q E s := by
  obtain ⟨o, ho, hex, hd⟩ := R.ob
  have hsz := rows_len R.rows
  have hfew := R.few
  refine Calls.call_function_entry kind_sorted plain_sorted entry_sorted (args_sorted1 _) ?_
  unfold Builtin.«sorted»
  refine wpAny_bind (m := checkCount "sorted" 1 1 _) (wpAny_pure ?_)
  refine wpAny_bind (collect_set (A := A.in1) hh ⟨o, ho, hex.1, hd⟩ R.fits (by unfold scanBound; omega) R.tab.ris R.led fun s1 vs k1 hz g1 o1 pm => ?_)
  have hes : es.toList.map (·.2) = L.map fun q => Value.ref q.1 := by
    rw [R.rows]
    unfold rowsOf
    rw [List.map_map] <;> rfl
  rw [hes] at pm
  have hvl : vs.length ≤ 300 := by rw [pm.length_eq, List.length_map]; exact hfew
  refine wpAny_bind (wpAny_newList ?_ (by rw [sizeLine_eq]; omega))
  have hoL : (s1.heap.push (seqObj "list" vs.toArray 0)).get? s1.heap.objs.size = some (seqObj "list" vs.toArray 0) := Heap.get?_push_size _ rfl
  have pr : ∀ v ∈ vs, Srt.IsPair (s1.heap.push (seqObj "list" vs.toArray 0)) v (two s.heap v).1 (two s.heap v).2 := fun v hv => by
    obtain ⟨q, hq, rfl⟩ := List.mem_map.mp (pm.mem_iff.mp hv)
    obtain ⟨i, j, e⟩ := h2 q hq
    have x := R.tup q hq
    have z := (tupInts_of x).ints
    rw [e] at x z
    have e2 : two s.heap (Value.ref q.1) = (i, j) := by unfold two; rw [z]; rfl
    rw [e2]
    exact isPair_of (P := P) (w := w) (isT_keep x fun b u e => Heap.get?_push_of_some _ (k1 b u e))
  refine wpAny_bind (wpAny_holding (wpAny_call_entry slot_list_sort ⟨_, hoL, rfl⟩ entry_list_sort (SrtO.list_sort_ord (s := { s1 with heap := s1.heap.push (seqObj "list" vs.toArray 0) }) (SrtO.swo_lex (two s.heap)) hoL (by rw [sizeLine_eq]; omega) (fun hl => SrtO.pairs_sortableO (s := { s1 with heap := s1.heap.push (seqObj "list" vs.toArray 0) }) (by omega) pr fun o e c => ?_) fun out hs hb => ⟨_, rfl, ?_⟩) (args_list_sort _)))
  · rw [show (s1.heap.push (seqObj "list" vs.toArray 0)).get? s1.heap.objs.size = some o from e] at hoL
    obtain rfl := Option.some.inj hoL
    exact absurd (Value.type.inj c) (by decide)
  obtain ⟨c, hc⟩ := sortedHeap_at (vs := vs) (out := out.toArray) hoL
  refine wpAny_pure ⟨_, rfl, hQ _ s1.heap.objs.size out c (fun b u e => ?_) g1 o1 hz hc (hb.perm.trans pm) hs⟩
  have q := k1 b u e
  have hlt := Heap.lt_size q
  show (sortedHeap (s1.heap.push (seqObj "list" vs.toArray 0)) s1.heap.objs.size vs out.toArray).get? b = some u
  rw [sortedHeap_old (Nat.ne_of_lt hlt) (by rw [size_push']; exact Nat.lt_succ_of_lt hlt)]
  exact Heap.get?_push_of_some _ q
end
end SW
set_option Elab.async false
set_option linter.all false
set_option maxRecDepth 100000
/-! DL20: sorted(set(pairs)), the rule. -/
namespace DL
open PySem PySem.Spec PyProof.Rows L2
variable {K : PySem.W.Frag}
abbrev lst2 (p : Int × Int) : List Int := [p.1, p.2]
theorem lst2_inj {p q : Int × Int} (h : lst2 p = lst2 q) : p = q := by
  injection h with h1 h2
  injection h2 with h2 _
  exact Prod.ext h1 h2
theorem pe_srtSet {X : Cx} {a : Expr} {ta : TE} {p p2 q pos : Pos} (hk : X.K = K) (hg : Gl X "sorted") (hm : X.mg "sorted" = none) (hg2 : Gl X "set") (hm2 : X.mg "set" = none) (hu : X.A.units + 65 < cLine) (ha : PE X a ta) (hc : X.calm = true := by rfl)
    (na : starEach [a] X.env = (false, eval a X.env) :: starEach [] X.env := by rfl) : PE X (.Call (.Name "sorted" p) [.Call (.Name "set" p2) [a] [] q] [] pos) (tSrtSet K ta) := by
  subst hk
  refine ⟨fun pins s σ H Q I h => Call_ (ld_blt I hg hm PyProof.Rows.boot_sorted (PyProof.Rows.callWith_builtin1 (PyProof.Rows.args_cons (Call_ (ld_blt I hg2 hm2 boot_set (PyProof.Rows.callWith_type1 (PyProof.Rows.args_cons
    (thn (ha.run pins s σ H _ I h) fun v s1 ⟨x, H1, I1, r1, l, rs, ex, hq, hr, hl, q1⟩ => PyProof.Rows.args_nil ?_) na) na rfl))) rfl) rfl rfl))⟩
  subst ex
  cases r1
  obtain ⟨its, rv, pl, hz⟩ := I1.list hq
  let ks : List (Addr × List Int) := rs.map fun r => (r.1, lst2 r.2)
  have hits : its.toArray.toList = ks.map fun p => Value.ref p.1 := by
    have rv' : Vals (ks.map fun p => V.ref p.1) its := by rw [List.map_map]; exact rv
    simpa using refs_of_vals rv'
  have hks : ∀ p ∈ ks, IsT X.prog X.w s1.heap p.2 p.1 := fun p hp => by
    obtain ⟨r, hr', rfl⟩ := List.mem_map.mp hp
    exact I1.isT (hr r hr')
  have hkl : ks.length ≤ 300 := by rw [List.length_map]; omega
  have hisz : its.toArray.size = ks.length := by
    have := congrArg List.length hits
    rwa [Array.length_toList, List.length_map] at this
  refine SW.set_of (P := X.prog) (w := X.w) (S := SW.Held X.prog X.w s1.heap.objs.size ks) (I1.ok.hd hc) pl.isList (by rw [hisz]; exact hkl) (fun B hB => SW.filler hits hks hkl (by omega)) (fun h ho => SW.held0 ks ho) fun h' tk hS kp => PyProof.Rows.args_nil ?_
  obtain ⟨L, es, ep, t, R, g⟩ := hS
  rw [hisz] at g
  have I2 : L2.Inv X pins σ H1 { s1 with heap := h', toks := tk } := I1.kept kp
  have sub : ∀ p ∈ L, ∃ r ∈ rs, p = (r.1, lst2 r.2) := fun p hp => by
    obtain ⟨r, hr', e⟩ := List.mem_map.mp (List.mem_of_mem_take (g.sub p hp))
    exact ⟨r, hr', e.symm⟩
  refine SW.sorted_held (s := { s1 with heap := h', toks := tk }) R (I2.ok.hd hc) (fun p hp => ?_) fun s' p out c k1 g1 o1 hp ho pm hs => ?_
  · obtain ⟨r, _, rfl⟩ := sub p hp
    exact ⟨_, _, rfl⟩
  have ord : ∀ vs : List Value, (∀ v ∈ vs, ∃ r ∈ rs, v = Value.ref r.1 ∧ SW.two h' v = r.2) → ∃ us : List (Addr × (Int × Int)), vs = us.map (fun u => Value.ref u.1) ∧ (∀ u ∈ us, u ∈ rs) ∧ ∀ u ∈ us, SW.two h' (Value.ref u.1) = u.2 := by
    intro vs
    induction vs with
    | nil => intro _; exact ⟨[], rfl, fun q hq => (by cases hq), fun q hq => (by cases hq)⟩
    | cons v vs ih =>
      intro hv
      obtain ⟨r, hr, e, e2⟩ := hv v List.mem_cons_self
      obtain ⟨us, e1, h1, h2⟩ := ih fun u hu => hv u (List.mem_cons_of_mem _ hu)
      refine ⟨r :: us, by rw [List.map_cons, e, e1], fun x hx => ?_, fun x hx => ?_⟩
      · rcases List.mem_cons.mp hx with z | z
        · rw [z]; exact hr
        · exact h1 x z
      · rcases List.mem_cons.mp hx with z | z
        · rw [z, ← e]; exact e2
        · exact h2 x z
  have read : ∀ p ∈ L, ∀ r : Addr × (Int × Int), p = (r.1, lst2 r.2) → SW.two h' (Value.ref r.1) = r.2 := fun p hp r e => by
    have z := (tupInts_of (R.tup p hp)).ints
    rw [e] at z
    unfold SW.two
    rw [z]
    rfl
  obtain ⟨us, eu, hu1, hu2⟩ := ord out fun v hv => by
    obtain ⟨p, hp, rfl⟩ := List.mem_map.mp (pm.mem_iff.mp hv)
    obtain ⟨r, hr, e⟩ := sub p hp
    refine ⟨r, hr, by rw [e], ?_⟩
    rw [show p.1 = r.1 by rw [e]]
    exact read p hp r e
  subst eu
  -- the pairs
  have pk : (us.map fun u => u.2).Perm (L.map fun p => SW.two h' (Value.ref p.1)) := by
    have := pm.map (SW.two h')
    rw [List.map_map, List.map_map] at this
    rw [← List.map_congr_left (f := SW.two h' ∘ fun u : Addr × (Int × Int) => Value.ref u.1) fun u hu => hu2 u hu]
    exact this
  have el : (L.map fun p => SW.two h' (Value.ref p.1)).map lst2 = L.map (·.2) := by
    rw [List.map_map]
    refine List.map_congr_left fun p hp => ?_
    obtain ⟨r, hr, e⟩ := sub p hp
    show lst2 (SW.two h' (Value.ref p.1)) = p.2
    rw [show p.1 = r.1 by rw [e], read p hp r e, e]
  have ndk : (us.map fun u => u.2).Nodup := pk.nodup_iff.mpr (nodup_of_map (f := lst2) (by rw [el]; exact R.nd))
  have hlen : us.length ≤ 300 := by
    have := pm.length_eq
    rw [List.length_map, List.length_map] at this
    have := R.few
    omega
  have hn : H1 p = none := I2.hok.fresh hp
  have hv : Vals (us.map fun u => V.ref u.1) (us.map fun u => Value.ref u.1) := by
    have := vals_of_refs (us.map fun u => (u.1, ([] : List Int)))
    rwa [List.map_map, List.map_map] at this
  have J : L2.Inv X pins σ (upd H1 p (.lst (us.map fun u => V.ref u.1))) { s1 with heap := s'.heap, gens := s'.gens, drawn := s'.drawn, toks := s'.toks } :=
    L2.Inv.call (s := { s1 with heap := h', toks := tk }) (ch := []) I2 (Un.laid k1 hp hn) (I2.hok.laid k1 hp ⟨by rw [List.length_map, sizeLine_eq]; omega, _, c, hv, ho⟩) (by rw [g1]; exact I2.bare) (fun _ z => nomatch z)
  have e : s' = { s1 with heap := s'.heap, gens := s'.gens, drawn := s'.drawn, toks := s'.toks } := by
    cases s'
    cases s1
    cases o1
    rfl
  rw [e]
  refine ⟨.ref p, _, J, rfl, q1 us p hu1 (fun r hr' => ?_) ?_ hn⟩
  · have hm : lst2 r.2 ∈ L.map (·.2) := g.all (r.1, lst2 r.2) (by rw [List.take_length]; exact List.mem_map.mpr ⟨r, hr', rfl⟩)
    rw [← el] at hm
    obtain ⟨x, hx, ex⟩ := List.mem_map.mp hm
    rw [← lst2_inj ex]
    exact pk.mem_iff.mpr hx
  · have hs' := List.pairwise_map.mp hs
    refine List.pairwise_map.mpr (List.Pairwise.imp_of_mem (fun {u v} hu hv ⟨h1, h2⟩ => ?_) (hs'.and (List.pairwise_map.mp ndk)))
    have h1 : SrtO.lexB (SW.two h' (Value.ref v.1)) (SW.two h' (Value.ref u.1)) = false := h1
    rw [hu2 u hu, hu2 v hv] at h1
    have h1 := SrtO.lexB_no.mp h1
    unfold ltPr
    have h3 : ¬ (u.2.1 = v.2.1 ∧ u.2.2 = v.2.2) := fun e => h2 (Prod.ext e.1 e.2)
    omega
end DL
set_option Elab.async false
set_option linter.all false
set_option maxRecDepth 100000
/-! DL21: attributes as targets; classes by name. -/
namespace DL
open PySem PySem.Spec PyProof.Rows L2
variable {K : PySem.W.Frag} {X : Cx}
/-- o.f = .. -/
def gFld (K : PySem.W.Frag) (to : TE) (f : Str) : TG := fun v σ H Q => to σ H fun x H1 => ∃ a C dx fs, x = .ref a ∧ H1 a = some (.ins C dx fs) ∧ Cls K C ∧ NoAttr K C f ∧ fs.length < 1000 ∧ Q σ (upd H1 a (.ins C dx (putF f v fs)))
theorem pg_fld {o : Expr} {f : Str} {pos : Pos} {to : TE} (hk : X.K = K) (ho : PE X o to) : PG X (.Attribute o f pos) (gFld K to f) := by
  subst hk
  refine ⟨fun pins s σ H v u Q I r h => ?_⟩
  rw [assign_Attribute]
  refine wpAny_bind (wpAny_holding (thn (ho.run pins s σ H _ I h) fun ov s1 ⟨x, H1, I1, r1, a, C, dx, fs, ex, ea, c, n, l, q⟩ => ?_))
  subst ex
  obtain rfl : ov = Value.ref a := r1
  refine wpAny_bind (wpAny_standAt (wpAny_bind (wpAny_holding (setattr_ok I1 ea c n l r fun s3 I3 => wpAny_release ⟨σ, _, I3, q⟩))))
theorem blk_of {X : Cx} {N : List Str} {sc scope : Scope} {own : List (Str × Nat)} (hN : X.N = N) (hs : X.env.scope = sc) (h : blkC N sc scope own = true) : BlkOk X.N X.env.scope scope own := by
  subst hN hs
  exact blkOk_by h
/-- the class x stands; its __init__ keeps sp -/
def HasMk (P : Program) (w : World) (K : PySem.W.Frag) (mg : Str → Option Value) (base : Heap) (x : Str) (C : Addr) (k : Nat) (ps : List Str) (sp : Sp) : Prop :=
  ∃ (f : Addr) (fd : FuncData), Mk K C f ∧ FnOk P w K mg base CX0 k f fd ps sp ∧ mg x = some (.ref C) ∧ Binds K fd ps []
theorem HasMk.up {P : Program} {w : World} {mg : Str → Option Value} {base : Heap} {x : Str} {C : Addr} {j k : Nat} {ps : List Str} {sp : Sp} (h : HasMk P w K mg base x C j ps sp) (l : j ≤ k) : HasMk P w K mg base x C k ps sp := by
  obtain ⟨f, fd, M, F, r⟩ := h
  exact ⟨f, fd, M, F.mono l, r⟩
theorem pe_makeH {x : Str} {p pos : Pos} {ps : List Str} {C : Addr} {k : Nat} {sp : Sp} {e : Expr} {es : List Expr} {t : TA} (h : HasMk X.prog X.w X.K X.mg X.base x C k ps sp) (hr : Room (k + 1) X.A) (hg : Gl X x) (ha : PA X (e :: es) t) (hdb : (x == ("__debug__" : Str)) = false := by decide)
    (he : starEach (e :: es) X.env = (false, eval e X.env) :: starEach es X.env := by rfl) (hpl : (backTo pos (starEach es X.env)).any (·.1) = false := by rfl) : PE X (.Call (.Name x p) (e :: es) [] pos) (tMake C sp [] (fun _ _ _ => False) t) := by
  obtain ⟨f, fd, M, F, hm, hb⟩ := h
  exact pe_make M F hr hg hm hb .nil pass0 ha hdb he hpl
/-- a method by its text -/
def DefM (K : PySem.W.Frag) (x qual : Str) (C : Addr) (st : Stmt) (ps : List Str) : Prop :=
  ∃ (f : Addr) (fd : FuncData), FunD K x qual (defArgs st) (defBody st) (defScope st) [] [] f fd ∧ Binds K fd ps [] ∧ Mk K C f
end DL
set_option Elab.async false
set_option linter.all false
set_option maxRecDepth 100000
/-! DL22: a list takes the items of a tuple. -/
namespace DL
open PySem PySem.Spec PyProof.Rows L2
/-- how the builtin takes them -/
theorem ext_tuple (l b : Addr) (mine xs : Array Value) (n : Nat) (hs : mine.size + xs.size ≤ sizeLine) :
    Meets (Builtin.«list.extend» ⟨[.ref l, .ref b], []⟩) (fun _ R s => s.heap.get? l = some { cls := .type "list", dict := none, data := .seq mine n, slots := #[] } ∧ IsTup s.heap b xs ∧ R (.ok (.ret Value.none)) { s with heap := s.heap.update l (Obj.mapSeq fun x => x ++ xs), toks := s.toks }) :=
  .of_wp fun prog w A R s h => by
    obtain ⟨hl, ⟨o, hb, hc, k, hd⟩, hR⟩ := h
    show wpAny _ _ (Builtin.List.listExtendWith (.ref l) (.ref b) .none) _ _ s
    unfold Builtin.List.listExtendWith
    refine wpAny_bind (wpAny_typeOf ⟨o, hb, hc⟩ ?_)
    have c1 : (Builtin.List.listSameRef (.ref l) (.ref b) || Value.type "tuple" == Value.type "list" || Value.type "tuple" == Value.type "tuple") = true := by simp
    rw [if_pos c1]
    unfold Builtin.List.listItems
    refine wpAny_bind (wpAny_bind (wpAny_seqItems hb hd (wpAny_pure ?_)))
    refine wpAny_bind (wpAny_bind (wpAny_seqItems hl rfl (wpAny_pure ?_)))
    have c2 : ¬ (!mine.isEmpty && Builtin.List.listTooLong (mine.size + xs.size)) = true := by
      rw [L2.notLongL hs, Bool.and_false]
      exact Bool.false_ne_true
    dsimp only
    rw [if_neg c2]
    refine wpAny_bind ?_
    unfold Builtin.List.listUpdate
    refine wpAny_updateSeq hl rfl ?_ (hz := by omega) (_hz' := by rw [Array.size_append]; omega)
    exact wpAny_pure ⟨_, rfl, hR⟩
def rExtendT (K : PySem.W.Frag) : V → List V → Hp → VK → Prop := fun x vs H Q => ∃ l b xs zs, x = .ref l ∧ vs = [.ref b] ∧ H l = some (.lst xs) ∧ SqT K H b zs ∧ xs.length + zs.length ≤ sizeLine ∧ Q .non (upd H l (.lst (xs ++ zs)))
theorem mt_extendT {X : Cx} : MtR X "list.extend" (rExtendT X.K) := by
  intro pins s σ H x vs v us Q I rx rv h
  obtain ⟨l, b, xs, zs, rfl, rfl, hH, hB, hz, q⟩ := h
  cases rx
  obtain ⟨u, rfl, ru⟩ := rv.one
  cases ru
  obtain ⟨z, its, n, r, hl, e⟩ := I.lstM hH
  obtain ⟨its2, r2, ht, z2⟩ := I.tuple hB
  refine call_meets F.slot_list_extend ⟨_, e, rfl⟩ F.entry_list_extend (F.args_list_extend_2 _ _)
    (ext_tuple l b its.toArray its2.toArray n (by have := r2.length; rw [List.size_toArray, List.size_toArray]; omega)) ⟨e, ht, ?_⟩
  refine ⟨.non, _, I.lset (its' := its ++ its2) hH e (by simp) (r.append r2) ?_, rfl, q⟩
  rw [List.length_append]
  omega
variable {K : PySem.W.Frag}
theorem kmt_extendT {X : Cx} (h : X.K = K) : MtR X "list.extend" (rExtendT K) := h ▸ mt_extendT
variable {Z : Wrl K} {τ : List (SL Z.κ)} {P : PE' Z.κ} {te : TE}
/-- slot i's list takes the items of a tuple -/
theorem de_extendT {i : Nat} (h0 : ∃ p xs, τ[i]? = some (.own p (.lst xs))) (h : DE Z te τ fun r τ1 => ∃ p xs ys, τ1[i]? = some (.own p (.lst xs)) ∧ fz r = .v (.tup ys) ∧ xs.length + ys.length ≤ 100000 ∧ P (.v .non) (τ1.set i (.own p (.lst (xs ++ ys))))) :
    DE Z (tBM K "list" (rExtendT K) (tVar i) (tCons te tNil)) τ P := fun H0 w E σ H Q R c => by
  obtain ⟨p, xs, ep⟩ := h0
  obtain ⟨o, eo, rfl, hoc⟩ := Paired.at R.sl ep
  obtain ⟨vs, hv, rv⟩ := hoc
  refine ⟨_, eo, Or.inl ⟨rfl, _, Or.inl (Or.inl hv)⟩, ?_⟩
  refine h H0 w E σ H _ R fun r τ1 x w1 H1 h1 n1 q1 => ?_
  obtain ⟨R1, v1, s1⟩ := q1.fz
  obtain ⟨p', xs', ys, ep', ed, hl, hp⟩ := h1
  rw [ed] at v1
  obtain ⟨c', e'⟩ := n1.sh i p _ ep
  rw [ep'] at e'
  cases e'
  obtain ⟨o2, eo2, e2, vs2, hv2, rv2⟩ := Paired.at R1.sl ep'
  cases v1 with
  | @tup _ us _ hb rb =>
    have lv : vs2.length + us.length ≤ sizeLine := small_line (by rw [rv2.length, rb.length]; exact hl)
    refine ⟨p, _, vs2, us, rfl, rfl, hv2, sqT_mono hide_le hb, lv, ?_⟩
    obtain ⟨R2, eg⟩ := R1.mut ep' (H' := upd H1 p (.lst (vs2 ++ us))) (c' := .lst (xs' ++ ys)) ⟨_, upd_same, rv2.app rb⟩ fun a ha => upd_ne ha
    refine c _ _ .non w1 _ hp ⟨n1.le, ?_, ?_⟩ ⟨R2, .non⟩
    · show Same (Gd Z w E τ H) (Gd Z w1 E (τ1.set i (.own p (.lst (xs' ++ ys)))) (upd H1 p (.lst (vs2 ++ _))))
      rw [eg]
      exact n1.sm.trans s1
    · refine n1.sh.trans fun j q oc e => ?_
      by_cases z : i = j
      · subst z
        rw [ep'] at e
        cases e
        exact ⟨_, List.getElem?_set_self (List.getElem?_eq_some_iff.mp ep').1⟩
      · exact ⟨oc, by rw [List.getElem?_set_ne z]; exact e⟩
end DL
set_option Elab.async false
set_option linter.all false
set_option maxRecDepth 100000
/-! DL23: {k: v} with a tuple for its key. -/
namespace DL
open PySem PySem.Spec PyProof.Rows L2
/-- {k: v}: the new dict stands empty while its pair is made -/
def tDispT1 (tk tv : TE) : TE := fun σ H Q => ∀ p, H p = none → tk σ (upd H p (.dT [])) fun x H1 => tv σ H1 fun y H2 => H2 p = some (.dT []) ∧ ∃ (k : List Key) (b : Addr), x = .ref b ∧ H2 b = some (.tup (k.map kV)) ∧ Q (.ref p) (upd H2 p (.dT [(k, y)]))
theorem pe_dispT1 {X : Cx} {pos : Pos} {ek ev : Expr} {tk tv : TE} (hu : X.A.units + 1 < cLine) (hk : PE X ek tk) (hv : PE X ev tv) : PE X (.Dict [some ek] [ev] pos) (tDispT1 tk tv) := by
  refine ⟨fun pins s σ H Q I q => ?_⟩
  have hn := I.hok.fresh (Nat.le_refl s.heap.objs.size)
  have I1 := I.laid (a := s.heap.objs.size) (o := .dT []) (h' := s.heap.push { cls := .type "dict", data := .dict #[] }) (t' := s.toks) (fun _ _ q => Heap.get?_push_of_some _ q) (Nat.le_refl _) (dt_empty s.heap I.big)
  rw [arm_eval_Dict, zip_pairTrees [some ek] [ev] X.env pos rfl rfl, dictDisplay_pairs (pairTrees [some ek] [ev] X.env pos) (List.cons_ne_nil _ _) (by simp [pairTrees])]
  refine wpAny_bind (wpAny_standAt (wpAny_bind (wpAny_subDictH (knd := tupleKind (mixKind X.prog X.w)) (show (tupleKind (mixKind X.prog X.w)).room X.A from Nat.lt_of_succ_lt hu) (by simp [pairTrees]) ?_)))
  refine pairTrees_cons_walk (thn (hk.run pins _ σ _ _ I1 (q _ hn)) fun kv s1 ⟨x, H1, I2, rx, q1⟩ => thn (hv.run pins s1 σ H1 _ I2 q1) fun vv s2 ⟨y, H2, I3, ry, e, k, b, ex, eb, q2⟩ => pairTrees_nil_walk ?_)
  subst ex
  obtain rfl : kv = Value.ref b := rx
  obtain ⟨z, hd, xs, rel, dd⟩ := dt_of I3.hok e
  cases rel
  refine ⟨[(k, b, vv)], ⟨rfl, rfl, key_of I3.hok eb, trivial⟩, dd, fun h' tk' dd' hs => wpAny_pure ⟨.ref s.heap.objs.size, _, ?_, rfl, q2⟩⟩
  obtain ⟨o, es, ep, hq, h2, h3, h4, _, h5⟩ := dd'
  refine d_write I3 (by rw [e]; exact True.intro) hs ⟨o, hq⟩ ⟨by show 1 ≤ sizeLine; rw [sizeLine_eq]; omega, hd, [(k, b, vv)], .cons ⟨rfl, ?_, ry⟩ .nil, o, es, ep, hq, h2, h3, h4, h5⟩
  rw [upd_ne (ne_of eb e (fun z => nomatch z))]
  exact eb
variable {K : PySem.W.Frag} {Z : Wrl K} {τ : List (SL Z.κ)} {P : PE' Z.κ} {tk tv : TE}
theorem de_dispT1 (h : DE Z tk τ fun r1 τ1 => ∃ ts, r1 = .v (.ktup ts) ∧ DE Z tv τ1 fun r2 τ2 => ∃ d k, fz r2 = .v d ∧ keysD ts = some k ∧ ∀ p, P (.n p (mkt [(k, d)])) τ2) : DE Z (tDispT1 tk tv) τ P := fun H0 w E σ H Q R c p hp => by
  obtain ⟨R1, s1⟩ := R.push (H' := upd H p (.dT [])) (c := .dit [] []) (same_new hp) hp ⟨[], upd_same, rfl, .nil⟩
  refine h H0 w ((p, .dit [] []) :: E) σ _ _ R1 fun r1 τ1 x w1 H1 h1 n1 q1 => ?_
  obtain ⟨ts, rfl, h1⟩ := h1
  refine h1 H0 w1 _ σ H1 _ q1.1 fun r2 τ2 y w2 H2 h2 n2 q2 => ?_
  obtain ⟨R2, v2, s2⟩ := q2.fz
  obtain ⟨d, k, ed, ek, hP⟩ := h2
  rw [ed] at v2
  have vx : Rp Z w2 (Gd Z w2 ((p, .dit [] []) :: E) τ2 H2) x (.ktup ts) := (q1.2.mono n2.le n2.sm).mono (Z.refl w2) s2
  obtain ⟨kvs, hk, e5, _⟩ := R2.pe (p, .dit [] []) List.mem_cons_self
  obtain rfl : kvs = [] := List.map_eq_nil_iff.mp e5
  cases vx with
  | @ktup b vs _ hb rb =>
    rw [keysD_rp ek rb] at hb
    refine ⟨hk, k, b, rfl, hide_le _ _ hb, ?_⟩
    have R3 := R2.pmut (o := .dT [(k, y)]) (c' := mkt [(k, d)]) ⟨[(k, y)], upd_same, rfl, .cons v2 .nil⟩
    refine c (.n p (mkt [(k, d)])) τ2 (.ref p) w2 _ (hP p) ⟨Z.trans n1.le n2.le, ?_, n1.sh.trans n2.sh⟩ ⟨rfl, R3⟩
    have pm : p ∈ HL Z w2 ((p, .dit [] []) :: E) τ2 := mem_HL.mpr (.inr List.mem_cons_self)
    have eh : Gd Z w2 ((p, mkt [(k, d)]) :: E) τ2 (upd H2 p (.dT [(k, y)])) = Gd Z w2 ((p, .dit [] []) :: E) τ2 H2 := by
      funext a
      show hide (HL Z w2 ((p, .dit [] []) :: E) τ2) (upd H2 p _) a = hide (HL Z w2 ((p, .dit [] []) :: E) τ2) H2 a
      by_cases m : a ∈ HL Z w2 ((p, .dit [] []) :: E) τ2
      · rw [hide_in m, hide_in m]
      · rw [hide_out m, hide_out m, upd_ne fun q => m (by rw [q]; exact pm)]
    show Same (Gd Z w E τ H) (Gd Z w2 ((p, mkt [(k, d)]) :: E) τ2 (upd H2 p (.dT [(k, y)])))
    rw [eh]
    exact s1.trans (n1.sm.trans (n2.sm.trans s2))
end DL
set_option Elab.async false
set_option linter.all false
set_option maxRecDepth 100000
namespace K67
open PySem PySem.Spec PyProof.Rows L2 DL RZ
variable {P : Program} {w : World} {K : PySem.W.Frag} {mg : Str → Option Value} {base : Heap} {Z : Wrl K}

def S_is_integer {κ : Type} : FS κ := fun ds P => ∃ i, ds = [.int i] ∧ P (.v (.bl true))
abbrev s_is_integer : Stmt := top 1
abbrev N_is_integer : List Str := ["thing"]
theorem sc_is_integer : FnScope N_is_integer ["thing"] (defScope s_is_integer) := ⟨rfl, rfl, rfl, by decide +kernel, rfl, by decide +kernel, by decide +kernel⟩
theorem has_is_integer {k : Nat} (D : Def K mg "is_integer" s_is_integer ["thing"]) (z_isinstance : mg "isinstance" = none) (z_int : mg "int" = none) (z_bool : mg "bool" = none) : Has P w K mg base "is_integer" (k + 1) ["thing"] (spD Z S_is_integer) := by
  refine D.has sc_is_integer ?hl fun f cdv A outer s H E hr => ?bod
  case bod =>
    have hu1 := hu_of hr
    have hu0 := hu0_of hr
    have hu65 := hu65_of hr
    refine ⟨_, (pss_one (ps_ret (pe_and (pe_callB (kisi (K := K) rfl) (by rfl) z_isinstance (by decide +kernel) (pa_cons (pv 0) (pa_cons (pe_bltn (by rfl) z_int (by decide +kernel) (show RelV (.ty "int") _ from rfl)) pa_nil))) (pe_one (pe_not (pe_callB (kisi (K := K) rfl) (by rfl) z_isinstance (by decide +kernel) (pa_cons (pv 0) (pa_cons (pe_bltn (by rfl) z_bool (by decide +kernel) (show RelV (.ty "bool") _ from rfl)) pa_nil)))))))), ?_⟩
    rintro ds Q ⟨i, rfl, h⟩
    repeat (first
    | with_reducible refine dx_seq ?_ | with_reducible refine dx_ret ?_ | with_reducible refine dx_if ?_ | with_reducible refine dx_next ?_ | with_reducible refine dx_drop ?_ | with_reducible refine dx_asg ?_ | with_reducible refine dt_or ?_ | with_reducible refine dt_and ?_ | with_reducible refine dt_not ?_ | with_reducible refine dt_test ?_ | with_reducible refine dt_val ?_ | with_reducible refine de_int ?_ | with_reducible refine de_bl ?_ | with_reducible refine de_non ?_ | with_reducible refine de_str ?_ | with_reducible refine de_andV ?_ | with_reducible refine de_orV ?_ | with_reducible refine de_notV ?_ | with_reducible refine de_chain ?_ | with_reducible refine de_I0 ?_ | with_reducible refine de_B0 ?_ | with_reducible refine de_isInt ?_ | with_reducible refine de_isBl ?_ | with_reducible refine de_isTup ?_ | with_reducible refine de_isStr ?_ | with_reducible refine de_isRow ?_ | with_reducible refine de_len ?_ | with_reducible refine de_call ?_ | with_reducible refine de_ifx ?_ | with_reducible refine da_cons ?_ | with_reducible refine da_nil ?_
    | (with_reducible refine de_d (by with_unfolding_all rfl) ?_) | (with_reducible refine de_o (by with_unfolding_all rfl) ?_) | refine ⟨_, rfl, ?_⟩ | refine ⟨rfl, _, rfl, ?_⟩ | (with_reducible refine iteT' (by with_unfolding_all rfl) ?_) | (with_reducible refine iteF' (by with_unfolding_all rfl) ?_))
    exact ⟨rfl, h⟩
  case hl =>
    rintro ds Q ⟨d, rfl, _⟩
    rfl


def within (i lo hi : Int) : Bool := decide (lo ≤ i) && decide (i ≤ hi)
def S_is_within {κ : Type} : FS κ := fun ds P => ∃ i lo hi, ds = [.int i, .int lo, .int hi] ∧ P (.v (.bl (within i lo hi)))
abbrev s_is_within : Stmt := top 2
abbrev N_is_within : List Str := ["thing", "low", "high"]
theorem sc_is_within : FnScope N_is_within ["thing", "low", "high"] (defScope s_is_within) := ⟨rfl, rfl, rfl, by decide +kernel, rfl, by decide +kernel, by decide +kernel⟩
theorem has_is_within {k : Nat} (D : Def K mg "is_within" s_is_within ["thing", "low", "high"]) (h_is_integer : Has P w K mg base "is_integer" k ["thing"] (spD Z S_is_integer)) : Has P w K mg base "is_within" (k + 1) ["thing", "low", "high"] (spD Z S_is_within) := by
  refine D.has sc_is_within ?hl fun f cdv A outer s H E hr => ?bod
  case bod =>
    have hu1 := hu_of hr
    have hu0 := hu0_of hr
    have hu65 := hu65_of hr
    refine ⟨_, (pss_one (ps_ret (pe_and (pe_callH h_is_integer hr (by rfl) (pa_cons (pv 0) pa_nil)) (pe_one (pe_chain op_le op_le (pv 1) (pv 0) (pv 2)))))), ?_⟩
    rintro ds Q ⟨i, lo, hi, rfl, h⟩
    have e : within i lo hi = (decide (lo ≤ i) && decide (i ≤ hi)) := rfl
    rw [e] at h
    repeat (first
    | with_reducible refine dx_seq ?_ | with_reducible refine dx_ret ?_ | with_reducible refine dx_if ?_ | with_reducible refine dx_next ?_ | with_reducible refine dx_drop ?_ | with_reducible refine dx_asg ?_ | with_reducible refine dt_or ?_ | with_reducible refine dt_and ?_ | with_reducible refine dt_not ?_ | with_reducible refine dt_test ?_ | with_reducible refine dt_val ?_ | with_reducible refine de_int ?_ | with_reducible refine de_bl ?_ | with_reducible refine de_non ?_ | with_reducible refine de_str ?_ | with_reducible refine de_andV ?_ | with_reducible refine de_orV ?_ | with_reducible refine de_notV ?_ | with_reducible refine de_chain ?_ | with_reducible refine de_I0 ?_ | with_reducible refine de_B0 ?_ | with_reducible refine de_isInt ?_ | with_reducible refine de_isBl ?_ | with_reducible refine de_isTup ?_ | with_reducible refine de_isStr ?_ | with_reducible refine de_isRow ?_ | with_reducible refine de_len ?_ | with_reducible refine de_call ?_ | with_reducible refine de_ifx ?_ | with_reducible refine da_cons ?_ | with_reducible refine da_nil ?_
    | (with_reducible refine de_d (by with_unfolding_all rfl) ?_) | (with_reducible refine de_o (by with_unfolding_all rfl) ?_) | refine ⟨_, rfl, ?_⟩ | refine ⟨rfl, _, rfl, ?_⟩ | (with_reducible refine iteT' (by with_unfolding_all rfl) ?_) | (with_reducible refine iteF' (by with_unfolding_all rfl) ?_))
    refine iteB (fun h1 => ?_) (fun h1 => ?_) <;> rw [h1] at h
    · repeat (first
    | with_reducible refine dx_seq ?_ | with_reducible refine dx_ret ?_ | with_reducible refine dx_if ?_ | with_reducible refine dx_next ?_ | with_reducible refine dx_drop ?_ | with_reducible refine dx_asg ?_ | with_reducible refine dt_or ?_ | with_reducible refine dt_and ?_ | with_reducible refine dt_not ?_ | with_reducible refine dt_test ?_ | with_reducible refine dt_val ?_ | with_reducible refine de_int ?_ | with_reducible refine de_bl ?_ | with_reducible refine de_non ?_ | with_reducible refine de_str ?_ | with_reducible refine de_andV ?_ | with_reducible refine de_orV ?_ | with_reducible refine de_notV ?_ | with_reducible refine de_chain ?_ | with_reducible refine de_I0 ?_ | with_reducible refine de_B0 ?_ | with_reducible refine de_isInt ?_ | with_reducible refine de_isBl ?_ | with_reducible refine de_isTup ?_ | with_reducible refine de_isStr ?_ | with_reducible refine de_isRow ?_ | with_reducible refine de_len ?_ | with_reducible refine de_call ?_ | with_reducible refine de_ifx ?_ | with_reducible refine da_cons ?_ | with_reducible refine da_nil ?_
    | (with_reducible refine de_d (by with_unfolding_all rfl) ?_) | (with_reducible refine de_o (by with_unfolding_all rfl) ?_) | refine ⟨_, rfl, ?_⟩ | refine ⟨rfl, _, rfl, ?_⟩ | (with_reducible refine iteT' (by with_unfolding_all rfl) ?_) | (with_reducible refine iteF' (by with_unfolding_all rfl) ?_))
      exact ⟨rfl, h⟩
    · exact ⟨rfl, h⟩
  case hl =>
    rintro ds Q ⟨i, lo, hi, rfl, _⟩
    rfl


def S_is_tuple {κ : Type} : FS κ := fun ds P => ∃ xs lo hi, ds = [.tup xs, .int lo, .int hi] ∧ P (.v (.bl (within (xs.length : Nat) lo hi)))
abbrev s_is_tuple : Stmt := top 3
abbrev N_is_tuple : List Str := ["thing", "least", "most"]
theorem sc_is_tuple : FnScope N_is_tuple ["thing", "least", "most"] (defScope s_is_tuple) := ⟨rfl, rfl, rfl, by decide +kernel, rfl, by decide +kernel, by decide +kernel⟩
theorem has_is_tuple {k : Nat} (D : Def K mg "is_tuple" s_is_tuple ["thing", "least", "most"]) (z_isinstance : mg "isinstance" = none) (z_tuple : mg "tuple" = none) (z_len : mg "len" = none) : Has P w K mg base "is_tuple" (k + 1) ["thing", "least", "most"] (spD Z S_is_tuple) := by
  refine D.has sc_is_tuple ?hl fun f cdv A outer s H E hr => ?bod
  case bod =>
    have hu1 := hu_of hr
    have hu0 := hu0_of hr
    have hu65 := hu65_of hr
    refine ⟨_, (pss_one (ps_ret (pe_and (pe_callB (kisi (K := K) rfl) (by rfl) z_isinstance (by decide +kernel) (pa_cons (pv 0) (pa_cons (pe_bltn (by rfl) z_tuple (by decide +kernel) (show RelV (.ty "tuple") _ from rfl)) pa_nil))) (pe_one (pe_chain op_le op_le (pv 1) (pe_callB (klen (K := K) rfl) (by rfl) z_len (by decide +kernel) (pa_cons (pv 0) pa_nil)) (pv 2)))))), ?_⟩
    rintro ds Q ⟨xs, lo, hi, rfl, h⟩
    have e : within (xs.length : Nat) lo hi = (decide (lo ≤ (xs.length : Nat)) && decide (((xs.length : Nat) : Int) ≤ hi)) := rfl
    rw [e] at h
    repeat (first
    | with_reducible refine dx_seq ?_ | with_reducible refine dx_ret ?_ | with_reducible refine dx_if ?_ | with_reducible refine dx_next ?_ | with_reducible refine dx_drop ?_ | with_reducible refine dx_asg ?_ | with_reducible refine dt_or ?_ | with_reducible refine dt_and ?_ | with_reducible refine dt_not ?_ | with_reducible refine dt_test ?_ | with_reducible refine dt_val ?_ | with_reducible refine de_int ?_ | with_reducible refine de_bl ?_ | with_reducible refine de_non ?_ | with_reducible refine de_str ?_ | with_reducible refine de_andV ?_ | with_reducible refine de_orV ?_ | with_reducible refine de_notV ?_ | with_reducible refine de_chain ?_ | with_reducible refine de_I0 ?_ | with_reducible refine de_B0 ?_ | with_reducible refine de_isInt ?_ | with_reducible refine de_isBl ?_ | with_reducible refine de_isTup ?_ | with_reducible refine de_isStr ?_ | with_reducible refine de_isRow ?_ | with_reducible refine de_len ?_ | with_reducible refine de_call ?_ | with_reducible refine de_ifx ?_ | with_reducible refine da_cons ?_ | with_reducible refine da_nil ?_
    | (with_reducible refine de_d (by with_unfolding_all rfl) ?_) | (with_reducible refine de_o (by with_unfolding_all rfl) ?_) | refine ⟨_, rfl, ?_⟩ | refine ⟨rfl, _, rfl, ?_⟩ | (with_reducible refine iteT' (by with_unfolding_all rfl) ?_) | (with_reducible refine iteF' (by with_unfolding_all rfl) ?_))
    refine iteB (fun h1 => ?_) (fun h1 => ?_) <;> rw [h1] at h
    · repeat (first
    | with_reducible refine dx_seq ?_ | with_reducible refine dx_ret ?_ | with_reducible refine dx_if ?_ | with_reducible refine dx_next ?_ | with_reducible refine dx_drop ?_ | with_reducible refine dx_asg ?_ | with_reducible refine dt_or ?_ | with_reducible refine dt_and ?_ | with_reducible refine dt_not ?_ | with_reducible refine dt_test ?_ | with_reducible refine dt_val ?_ | with_reducible refine de_int ?_ | with_reducible refine de_bl ?_ | with_reducible refine de_non ?_ | with_reducible refine de_str ?_ | with_reducible refine de_andV ?_ | with_reducible refine de_orV ?_ | with_reducible refine de_notV ?_ | with_reducible refine de_chain ?_ | with_reducible refine de_I0 ?_ | with_reducible refine de_B0 ?_ | with_reducible refine de_isInt ?_ | with_reducible refine de_isBl ?_ | with_reducible refine de_isTup ?_ | with_reducible refine de_isStr ?_ | with_reducible refine de_isRow ?_ | with_reducible refine de_len ?_ | with_reducible refine de_call ?_ | with_reducible refine de_ifx ?_ | with_reducible refine da_cons ?_ | with_reducible refine da_nil ?_
    | (with_reducible refine de_d (by with_unfolding_all rfl) ?_) | (with_reducible refine de_o (by with_unfolding_all rfl) ?_) | refine ⟨_, rfl, ?_⟩ | refine ⟨rfl, _, rfl, ?_⟩ | (with_reducible refine iteT' (by with_unfolding_all rfl) ?_) | (with_reducible refine iteF' (by with_unfolding_all rfl) ?_))
      exact ⟨rfl, h⟩
    · exact ⟨rfl, h⟩
  case hl =>
    rintro ds Q ⟨i, lo, hi, rfl, _⟩
    rfl


def S_is_row {κ : Type} : FS κ := fun ds P => ∃ d xs lo hi, ds = [d, .int lo, .int hi] ∧ seqD d = some xs ∧ P (.v (.bl (within (xs.length : Nat) lo hi)))
abbrev s_is_row : Stmt := top 4
abbrev N_is_row : List Str := ["thing", "least", "most"]
theorem sc_is_row : FnScope N_is_row ["thing", "least", "most"] (defScope s_is_row) := ⟨rfl, rfl, rfl, by decide +kernel, rfl, by decide +kernel, by decide +kernel⟩
theorem has_is_row {k : Nat} (D : Def K mg "is_row" s_is_row ["thing", "least", "most"]) (z_isinstance : mg "isinstance" = none) (z_list : mg "list" = none) (z_tuple : mg "tuple" = none) (z_len : mg "len" = none) : Has P w K mg base "is_row" (k + 1) ["thing", "least", "most"] (spD Z S_is_row) := by
  refine D.has sc_is_row ?hl fun f cdv A outer s H E hr => ?bod
  case bod =>
    have hu1 := hu_of hr
    have hu0 := hu0_of hr
    have hu65 := hu65_of hr
    refine ⟨_, (pss_one (ps_ret (pe_and (pe_callB (kisiT (K := K) rfl) (by rfl) z_isinstance (by decide +kernel) (pa_cons (pv 0) (pa_cons (pe_tup (pa_cons (pe_bltn (by rfl) z_list (by decide +kernel) (show RelV (.ty "list") _ from rfl)) (pa_cons (pe_bltn (by rfl) z_tuple (by decide +kernel) (show RelV (.ty "tuple") _ from rfl)) pa_nil))) pa_nil))) (pe_one (pe_chain op_le op_le (pv 1) (pe_callB (klen (K := K) rfl) (by rfl) z_len (by decide +kernel) (pa_cons (pv 0) pa_nil)) (pv 2)))))), ?_⟩
    rintro ds Q ⟨d, xs, lo, hi, rfl, hd, h⟩
    have e : within (xs.length : Nat) lo hi = (decide (lo ≤ (xs.length : Nat)) && decide (((xs.length : Nat) : Int) ≤ hi)) := rfl
    rw [e] at h
    cases d <;> simp [seqD] at hd <;> subst hd
    · repeat (first
    | with_reducible refine dx_seq ?_ | with_reducible refine dx_ret ?_ | with_reducible refine dx_if ?_ | with_reducible refine dx_next ?_ | with_reducible refine dx_drop ?_ | with_reducible refine dx_asg ?_ | with_reducible refine dt_or ?_ | with_reducible refine dt_and ?_ | with_reducible refine dt_not ?_ | with_reducible refine dt_test ?_ | with_reducible refine dt_val ?_ | with_reducible refine de_int ?_ | with_reducible refine de_bl ?_ | with_reducible refine de_non ?_ | with_reducible refine de_str ?_ | with_reducible refine de_andV ?_ | with_reducible refine de_orV ?_ | with_reducible refine de_notV ?_ | with_reducible refine de_chain ?_ | with_reducible refine de_I0 ?_ | with_reducible refine de_B0 ?_ | with_reducible refine de_isInt ?_ | with_reducible refine de_isBl ?_ | with_reducible refine de_isTup ?_ | with_reducible refine de_isStr ?_ | with_reducible refine de_isRow ?_ | with_reducible refine de_len ?_ | with_reducible refine de_call ?_ | with_reducible refine de_ifx ?_ | with_reducible refine da_cons ?_ | with_reducible refine da_nil ?_
    | (with_reducible refine de_d (by with_unfolding_all rfl) ?_) | (with_reducible refine de_o (by with_unfolding_all rfl) ?_) | refine ⟨_, rfl, ?_⟩ | refine ⟨rfl, _, rfl, ?_⟩ | (with_reducible refine iteT' (by with_unfolding_all rfl) ?_) | (with_reducible refine iteF' (by with_unfolding_all rfl) ?_))
      refine iteB (fun h1 => ?_) (fun h1 => ?_) <;> rw [h1] at h
      · repeat (first
    | with_reducible refine dx_seq ?_ | with_reducible refine dx_ret ?_ | with_reducible refine dx_if ?_ | with_reducible refine dx_next ?_ | with_reducible refine dx_drop ?_ | with_reducible refine dx_asg ?_ | with_reducible refine dt_or ?_ | with_reducible refine dt_and ?_ | with_reducible refine dt_not ?_ | with_reducible refine dt_test ?_ | with_reducible refine dt_val ?_ | with_reducible refine de_int ?_ | with_reducible refine de_bl ?_ | with_reducible refine de_non ?_ | with_reducible refine de_str ?_ | with_reducible refine de_andV ?_ | with_reducible refine de_orV ?_ | with_reducible refine de_notV ?_ | with_reducible refine de_chain ?_ | with_reducible refine de_I0 ?_ | with_reducible refine de_B0 ?_ | with_reducible refine de_isInt ?_ | with_reducible refine de_isBl ?_ | with_reducible refine de_isTup ?_ | with_reducible refine de_isStr ?_ | with_reducible refine de_isRow ?_ | with_reducible refine de_len ?_ | with_reducible refine de_call ?_ | with_reducible refine de_ifx ?_ | with_reducible refine da_cons ?_ | with_reducible refine da_nil ?_
    | (with_reducible refine de_d (by with_unfolding_all rfl) ?_) | (with_reducible refine de_o (by with_unfolding_all rfl) ?_) | refine ⟨_, rfl, ?_⟩ | refine ⟨rfl, _, rfl, ?_⟩ | (with_reducible refine iteT' (by with_unfolding_all rfl) ?_) | (with_reducible refine iteF' (by with_unfolding_all rfl) ?_))
        exact ⟨rfl, h⟩
      · exact ⟨rfl, h⟩
    · repeat (first
    | with_reducible refine dx_seq ?_ | with_reducible refine dx_ret ?_ | with_reducible refine dx_if ?_ | with_reducible refine dx_next ?_ | with_reducible refine dx_drop ?_ | with_reducible refine dx_asg ?_ | with_reducible refine dt_or ?_ | with_reducible refine dt_and ?_ | with_reducible refine dt_not ?_ | with_reducible refine dt_test ?_ | with_reducible refine dt_val ?_ | with_reducible refine de_int ?_ | with_reducible refine de_bl ?_ | with_reducible refine de_non ?_ | with_reducible refine de_str ?_ | with_reducible refine de_andV ?_ | with_reducible refine de_orV ?_ | with_reducible refine de_notV ?_ | with_reducible refine de_chain ?_ | with_reducible refine de_I0 ?_ | with_reducible refine de_B0 ?_ | with_reducible refine de_isInt ?_ | with_reducible refine de_isBl ?_ | with_reducible refine de_isTup ?_ | with_reducible refine de_isStr ?_ | with_reducible refine de_isRow ?_ | with_reducible refine de_len ?_ | with_reducible refine de_call ?_ | with_reducible refine de_ifx ?_ | with_reducible refine da_cons ?_ | with_reducible refine da_nil ?_
    | (with_reducible refine de_d (by with_unfolding_all rfl) ?_) | (with_reducible refine de_o (by with_unfolding_all rfl) ?_) | refine ⟨_, rfl, ?_⟩ | refine ⟨rfl, _, rfl, ?_⟩ | (with_reducible refine iteT' (by with_unfolding_all rfl) ?_) | (with_reducible refine iteF' (by with_unfolding_all rfl) ?_))
      refine iteB (fun h1 => ?_) (fun h1 => ?_) <;> rw [h1] at h
      · repeat (first
    | with_reducible refine dx_seq ?_ | with_reducible refine dx_ret ?_ | with_reducible refine dx_if ?_ | with_reducible refine dx_next ?_ | with_reducible refine dx_drop ?_ | with_reducible refine dx_asg ?_ | with_reducible refine dt_or ?_ | with_reducible refine dt_and ?_ | with_reducible refine dt_not ?_ | with_reducible refine dt_test ?_ | with_reducible refine dt_val ?_ | with_reducible refine de_int ?_ | with_reducible refine de_bl ?_ | with_reducible refine de_non ?_ | with_reducible refine de_str ?_ | with_reducible refine de_andV ?_ | with_reducible refine de_orV ?_ | with_reducible refine de_notV ?_ | with_reducible refine de_chain ?_ | with_reducible refine de_I0 ?_ | with_reducible refine de_B0 ?_ | with_reducible refine de_isInt ?_ | with_reducible refine de_isBl ?_ | with_reducible refine de_isTup ?_ | with_reducible refine de_isStr ?_ | with_reducible refine de_isRow ?_ | with_reducible refine de_len ?_ | with_reducible refine de_call ?_ | with_reducible refine de_ifx ?_ | with_reducible refine da_cons ?_ | with_reducible refine da_nil ?_
    | (with_reducible refine de_d (by with_unfolding_all rfl) ?_) | (with_reducible refine de_o (by with_unfolding_all rfl) ?_) | refine ⟨_, rfl, ?_⟩ | refine ⟨rfl, _, rfl, ?_⟩ | (with_reducible refine iteT' (by with_unfolding_all rfl) ?_) | (with_reducible refine iteF' (by with_unfolding_all rfl) ?_))
        exact ⟨rfl, h⟩
      · exact ⟨rfl, h⟩
  case hl =>
    rintro ds Q ⟨i, xs, lo, hi, rfl, _⟩
    rfl


def isLot (xs : List Int) (m : Int) : Bool := (xs.all fun a => within a 0 (m - 1)) && ((xs.zip (xs.drop 1)).all fun p => decide (p.1 < p.2))
def S_is_lot {κ : Type} : FS κ := fun ds P => ∃ xs m, ds = [.tup (xs.map .int), .int m] ∧ xs.length ≤ 1000 ∧ P (.v (.bl (isLot xs m)))
abbrev s_is_lot : Stmt := top 5
abbrev N_is_lot : List Str := ["thing", "many", "one", "other"]
theorem sc_is_lot : FnScope N_is_lot ["thing", "many"] (defScope s_is_lot) := ⟨rfl, rfl, rfl, by decide +kernel, rfl, by decide +kernel, by decide +kernel⟩
theorem has_is_lot {k : Nat} (D : Def K mg "is_lot" s_is_lot ["thing", "many"]) (z_isinstance : mg "isinstance" = none) (z_tuple : mg "tuple" = none) (z_all : mg "all" = none) (z_zip : mg "zip" = none) (h_is_within : Has P w K mg base "is_within" k ["thing", "low", "high"] (spD Z S_is_within)) : Has P w K mg base "is_lot" (k + 1) ["thing", "many"] (spD Z S_is_lot) := by
  refine D.has sc_is_lot ?hl fun f cdv A outer s H E hr => ?bod
  case bod =>
    have hu1 := hu_of hr
    have hu0 := hu0_of hr
    have hu65 := hu65_of hr
    refine ⟨_, (pss_cons (ps_if (PW.pt (pw_or (pt_not (pt_val (pe_callB (kisi (K := K) rfl) (by rfl) z_isinstance (by decide +kernel) (pa_cons (pv 0) (pa_cons (pe_bltn (by rfl) z_tuple (by decide +kernel) (show RelV (.ty "tuple") _ from rfl)) pa_nil))))) (pw_or1 (pt_not (pt_val (pe_callB (kall (K := K) rfl rfl) (by rfl) z_all (by decide +kernel) (pa_cons (pe_lc (own := [("one", 2)]) rfl sc_is_lot.nd (kpi_sq (K := K) rfl (pv 0)) (blkOk_by (N := N_is_lot) (sc := defScope s_is_lot) (by decide +kernel)) (fun _ _ _ _ _ => (pg_name (i := 2) sc_is_lot.nd rfl (by first | exact Or.inl rfl | exact Or.inr rfl))) (fun _ _ _ _ _ => pts_nil) (fun _ _ _ _ _ => (pe_callH h_is_within hr (by rfl) (pa_cons (pv 2) (pa_cons pe_int (pa_cons (pe_op op_sub (pv 1) pe_int) pa_nil)))))) pa_nil))))))) (pss_one (ps_ret pe_bl)) pss_nil)
    (pss_one (ps_ret (pe_callB (kall (K := K) rfl rfl) (by rfl) z_all (by decide +kernel) (pa_cons (pe_lc (own := [("one", 2), ("other", 3)]) rfl sc_is_lot.nd (kpi_zip (K := K) rfl (by rfl) z_zip (pa_cons (pv 0) (pa_cons (pe_slice (ksl (K := K) rfl) (pv 0) (po_some pe_int) po_none) pa_nil))) (blkOk_by (N := N_is_lot) (sc := defScope s_is_lot) (by decide +kernel)) (fun _ _ _ _ _ => (kpg_tup (K := K) (n := 2) rfl rfl (pgs_cons (pg_name (i := 2) sc_is_lot.nd rfl (by first | exact Or.inl rfl | exact Or.inr rfl)) (pgs_cons (pg_name (i := 3) sc_is_lot.nd rfl (by first | exact Or.inl rfl | exact Or.inr rfl)) pgs_nil)))) (fun _ _ _ _ _ => pts_nil) (fun _ _ _ _ _ => (pe_cmpR (kop_lt (K := K) rfl hu0) (pv 2) (pv 3) (nomark _)))) pa_nil))))), ?_⟩
    rintro ds Q ⟨xs, m, rfl, hx, h⟩
    have e : isLot xs m = ((xs.all fun a => within a 0 (m - 1)) && ((xs.zip (xs.drop 1)).all fun p => decide (p.1 < p.2))) := rfl
    rw [e] at h
    repeat (first
    | with_reducible refine dx_seq ?_ | with_reducible refine dx_ret ?_ | with_reducible refine dx_if ?_ | with_reducible refine dx_next ?_ | with_reducible refine dx_drop ?_ | with_reducible refine dx_asg ?_ | with_reducible refine dt_or ?_ | with_reducible refine dt_and ?_ | with_reducible refine dt_not ?_ | with_reducible refine dt_test ?_ | with_reducible refine dt_val ?_ | with_reducible refine de_int ?_ | with_reducible refine de_bl ?_ | with_reducible refine de_non ?_ | with_reducible refine de_str ?_ | with_reducible refine de_andV ?_ | with_reducible refine de_orV ?_ | with_reducible refine de_notV ?_ | with_reducible refine de_chain ?_ | with_reducible refine de_I0 ?_ | with_reducible refine de_B0 ?_ | with_reducible refine de_isInt ?_ | with_reducible refine de_isBl ?_ | with_reducible refine de_isTup ?_ | with_reducible refine de_isStr ?_ | with_reducible refine de_isRow ?_ | with_reducible refine de_len ?_ | with_reducible refine de_call ?_ | with_reducible refine de_ifx ?_ | with_reducible refine da_cons ?_ | with_reducible refine da_nil ?_
    | (with_reducible refine de_d (by with_unfolding_all rfl) ?_) | (with_reducible refine de_o (by with_unfolding_all rfl) ?_) | refine ⟨_, rfl, ?_⟩ | refine ⟨rfl, _, rfl, ?_⟩ | (with_reducible refine iteT' (by with_unfolding_all rfl) ?_) | (with_reducible refine iteF' (by with_unfolding_all rfl) ?_))
    refine de_allC .int (fun a => within a 0 (m - 1)) (di_sq (de_d rfl ⟨_, rfl, xs, rfl, fun a ha => dg_nm rfl ?_, rfl, by omega, rfl, ?_⟩))
    · repeat (first
    | with_reducible refine dx_seq ?_ | with_reducible refine dx_ret ?_ | with_reducible refine dx_if ?_ | with_reducible refine dx_next ?_ | with_reducible refine dx_drop ?_ | with_reducible refine dx_asg ?_ | with_reducible refine dt_or ?_ | with_reducible refine dt_and ?_ | with_reducible refine dt_not ?_ | with_reducible refine dt_test ?_ | with_reducible refine dt_val ?_ | with_reducible refine de_int ?_ | with_reducible refine de_bl ?_ | with_reducible refine de_non ?_ | with_reducible refine de_str ?_ | with_reducible refine de_andV ?_ | with_reducible refine de_orV ?_ | with_reducible refine de_notV ?_ | with_reducible refine de_chain ?_ | with_reducible refine de_I0 ?_ | with_reducible refine de_B0 ?_ | with_reducible refine de_isInt ?_ | with_reducible refine de_isBl ?_ | with_reducible refine de_isTup ?_ | with_reducible refine de_isStr ?_ | with_reducible refine de_isRow ?_ | with_reducible refine de_len ?_ | with_reducible refine de_call ?_ | with_reducible refine de_ifx ?_ | with_reducible refine da_cons ?_ | with_reducible refine da_nil ?_
    | (with_reducible refine de_d (by with_unfolding_all rfl) ?_) | (with_reducible refine de_o (by with_unfolding_all rfl) ?_) | refine ⟨_, rfl, ?_⟩ | refine ⟨rfl, _, rfl, ?_⟩ | (with_reducible refine iteT' (by with_unfolding_all rfl) ?_) | (with_reducible refine iteF' (by with_unfolding_all rfl) ?_))
      exact ⟨_, _, _, rfl, rfl, rfl⟩
    repeat (first
    | with_reducible refine dx_seq ?_ | with_reducible refine dx_ret ?_ | with_reducible refine dx_if ?_ | with_reducible refine dx_next ?_ | with_reducible refine dx_drop ?_ | with_reducible refine dx_asg ?_ | with_reducible refine dt_or ?_ | with_reducible refine dt_and ?_ | with_reducible refine dt_not ?_ | with_reducible refine dt_test ?_ | with_reducible refine dt_val ?_ | with_reducible refine de_int ?_ | with_reducible refine de_bl ?_ | with_reducible refine de_non ?_ | with_reducible refine de_str ?_ | with_reducible refine de_andV ?_ | with_reducible refine de_orV ?_ | with_reducible refine de_notV ?_ | with_reducible refine de_chain ?_ | with_reducible refine de_I0 ?_ | with_reducible refine de_B0 ?_ | with_reducible refine de_isInt ?_ | with_reducible refine de_isBl ?_ | with_reducible refine de_isTup ?_ | with_reducible refine de_isStr ?_ | with_reducible refine de_isRow ?_ | with_reducible refine de_len ?_ | with_reducible refine de_call ?_ | with_reducible refine de_ifx ?_ | with_reducible refine da_cons ?_ | with_reducible refine da_nil ?_
    | (with_reducible refine de_d (by with_unfolding_all rfl) ?_) | (with_reducible refine de_o (by with_unfolding_all rfl) ?_) | refine ⟨_, rfl, ?_⟩ | refine ⟨rfl, _, rfl, ?_⟩ | (with_reducible refine iteT' (by with_unfolding_all rfl) ?_) | (with_reducible refine iteF' (by with_unfolding_all rfl) ?_))
    refine iteB (fun h1 => ?_) (fun h1 => ?_) <;> (rw [Bool.not_eq_eq_eq_not] at h1; rw [h1] at h)
    · repeat (first
    | with_reducible refine dx_seq ?_ | with_reducible refine dx_ret ?_ | with_reducible refine dx_if ?_ | with_reducible refine dx_next ?_ | with_reducible refine dx_drop ?_ | with_reducible refine dx_asg ?_ | with_reducible refine dt_or ?_ | with_reducible refine dt_and ?_ | with_reducible refine dt_not ?_ | with_reducible refine dt_test ?_ | with_reducible refine dt_val ?_ | with_reducible refine de_int ?_ | with_reducible refine de_bl ?_ | with_reducible refine de_non ?_ | with_reducible refine de_str ?_ | with_reducible refine de_andV ?_ | with_reducible refine de_orV ?_ | with_reducible refine de_notV ?_ | with_reducible refine de_chain ?_ | with_reducible refine de_I0 ?_ | with_reducible refine de_B0 ?_ | with_reducible refine de_isInt ?_ | with_reducible refine de_isBl ?_ | with_reducible refine de_isTup ?_ | with_reducible refine de_isStr ?_ | with_reducible refine de_isRow ?_ | with_reducible refine de_len ?_ | with_reducible refine de_call ?_ | with_reducible refine de_ifx ?_ | with_reducible refine da_cons ?_ | with_reducible refine da_nil ?_
    | (with_reducible refine de_d (by with_unfolding_all rfl) ?_) | (with_reducible refine de_o (by with_unfolding_all rfl) ?_) | refine ⟨_, rfl, ?_⟩ | refine ⟨rfl, _, rfl, ?_⟩ | (with_reducible refine iteT' (by with_unfolding_all rfl) ?_) | (with_reducible refine iteF' (by with_unfolding_all rfl) ?_))
      exact ⟨rfl, h⟩
    · repeat (first
    | with_reducible refine dx_seq ?_ | with_reducible refine dx_ret ?_ | with_reducible refine dx_if ?_ | with_reducible refine dx_next ?_ | with_reducible refine dx_drop ?_ | with_reducible refine dx_asg ?_ | with_reducible refine dt_or ?_ | with_reducible refine dt_and ?_ | with_reducible refine dt_not ?_ | with_reducible refine dt_test ?_ | with_reducible refine dt_val ?_ | with_reducible refine de_int ?_ | with_reducible refine de_bl ?_ | with_reducible refine de_non ?_ | with_reducible refine de_str ?_ | with_reducible refine de_andV ?_ | with_reducible refine de_orV ?_ | with_reducible refine de_notV ?_ | with_reducible refine de_chain ?_ | with_reducible refine de_I0 ?_ | with_reducible refine de_B0 ?_ | with_reducible refine de_isInt ?_ | with_reducible refine de_isBl ?_ | with_reducible refine de_isTup ?_ | with_reducible refine de_isStr ?_ | with_reducible refine de_isRow ?_ | with_reducible refine de_len ?_ | with_reducible refine de_call ?_ | with_reducible refine de_ifx ?_ | with_reducible refine da_cons ?_ | with_reducible refine da_nil ?_
    | (with_reducible refine de_d (by with_unfolding_all rfl) ?_) | (with_reducible refine de_o (by with_unfolding_all rfl) ?_) | refine ⟨_, rfl, ?_⟩ | refine ⟨rfl, _, rfl, ?_⟩ | (with_reducible refine iteT' (by with_unfolding_all rfl) ?_) | (with_reducible refine iteF' (by with_unfolding_all rfl) ?_))
      refine de_allC (α := Int × Int) (fun p => .tup [.int p.1, .int p.2]) (fun p => decide (p.1 < p.2)) (di_zip ?_)
      repeat (first
    | with_reducible refine dx_seq ?_ | with_reducible refine dx_ret ?_ | with_reducible refine dx_if ?_ | with_reducible refine dx_next ?_ | with_reducible refine dx_drop ?_ | with_reducible refine dx_asg ?_ | with_reducible refine dt_or ?_ | with_reducible refine dt_and ?_ | with_reducible refine dt_not ?_ | with_reducible refine dt_test ?_ | with_reducible refine dt_val ?_ | with_reducible refine de_int ?_ | with_reducible refine de_bl ?_ | with_reducible refine de_non ?_ | with_reducible refine de_str ?_ | with_reducible refine de_andV ?_ | with_reducible refine de_orV ?_ | with_reducible refine de_notV ?_ | with_reducible refine de_chain ?_ | with_reducible refine de_I0 ?_ | with_reducible refine de_B0 ?_ | with_reducible refine de_isInt ?_ | with_reducible refine de_isBl ?_ | with_reducible refine de_isTup ?_ | with_reducible refine de_isStr ?_ | with_reducible refine de_isRow ?_ | with_reducible refine de_len ?_ | with_reducible refine de_call ?_ | with_reducible refine de_ifx ?_ | with_reducible refine da_cons ?_ | with_reducible refine da_nil ?_
    | (with_reducible refine de_d (by with_unfolding_all rfl) ?_) | (with_reducible refine de_o (by with_unfolding_all rfl) ?_) | refine ⟨_, rfl, ?_⟩ | refine ⟨rfl, _, rfl, ?_⟩ | (with_reducible refine iteT' (by with_unfolding_all rfl) ?_) | (with_reducible refine iteF' (by with_unfolding_all rfl) ?_))
      refine de_sl ?_
      repeat (first
    | with_reducible refine dx_seq ?_ | with_reducible refine dx_ret ?_ | with_reducible refine dx_if ?_ | with_reducible refine dx_next ?_ | with_reducible refine dx_drop ?_ | with_reducible refine dx_asg ?_ | with_reducible refine dt_or ?_ | with_reducible refine dt_and ?_ | with_reducible refine dt_not ?_ | with_reducible refine dt_test ?_ | with_reducible refine dt_val ?_ | with_reducible refine de_int ?_ | with_reducible refine de_bl ?_ | with_reducible refine de_non ?_ | with_reducible refine de_str ?_ | with_reducible refine de_andV ?_ | with_reducible refine de_orV ?_ | with_reducible refine de_notV ?_ | with_reducible refine de_chain ?_ | with_reducible refine de_I0 ?_ | with_reducible refine de_B0 ?_ | with_reducible refine de_isInt ?_ | with_reducible refine de_isBl ?_ | with_reducible refine de_isTup ?_ | with_reducible refine de_isStr ?_ | with_reducible refine de_isRow ?_ | with_reducible refine de_len ?_ | with_reducible refine de_call ?_ | with_reducible refine de_ifx ?_ | with_reducible refine da_cons ?_ | with_reducible refine da_nil ?_
    | (with_reducible refine de_d (by with_unfolding_all rfl) ?_) | (with_reducible refine de_o (by with_unfolding_all rfl) ?_) | refine ⟨_, rfl, ?_⟩ | refine ⟨rfl, _, rfl, ?_⟩ | (with_reducible refine iteT' (by with_unfolding_all rfl) ?_) | (with_reducible refine iteF' (by with_unfolding_all rfl) ?_))
      refine do_some ?_
      repeat (first
    | with_reducible refine dx_seq ?_ | with_reducible refine dx_ret ?_ | with_reducible refine dx_if ?_ | with_reducible refine dx_next ?_ | with_reducible refine dx_drop ?_ | with_reducible refine dx_asg ?_ | with_reducible refine dt_or ?_ | with_reducible refine dt_and ?_ | with_reducible refine dt_not ?_ | with_reducible refine dt_test ?_ | with_reducible refine dt_val ?_ | with_reducible refine de_int ?_ | with_reducible refine de_bl ?_ | with_reducible refine de_non ?_ | with_reducible refine de_str ?_ | with_reducible refine de_andV ?_ | with_reducible refine de_orV ?_ | with_reducible refine de_notV ?_ | with_reducible refine de_chain ?_ | with_reducible refine de_I0 ?_ | with_reducible refine de_B0 ?_ | with_reducible refine de_isInt ?_ | with_reducible refine de_isBl ?_ | with_reducible refine de_isTup ?_ | with_reducible refine de_isStr ?_ | with_reducible refine de_isRow ?_ | with_reducible refine de_len ?_ | with_reducible refine de_call ?_ | with_reducible refine de_ifx ?_ | with_reducible refine da_cons ?_ | with_reducible refine da_nil ?_
    | (with_reducible refine de_d (by with_unfolding_all rfl) ?_) | (with_reducible refine de_o (by with_unfolding_all rfl) ?_) | refine ⟨_, rfl, ?_⟩ | refine ⟨rfl, _, rfl, ?_⟩ | (with_reducible refine iteT' (by with_unfolding_all rfl) ?_) | (with_reducible refine iteF' (by with_unfolding_all rfl) ?_))
      refine do_none ?_
      refine da_nil ⟨_, _, (xs.map .int, none), ((xs.drop 1).map .int, none), rfl, rfl, ?_, rfl, .inl rfl, xs.zip (xs.drop 1), zip_map _ _ _ _, fun a ha => dg_tp rfl (dgs_cn (dg_nm rfl (dgs_cn (dg_nm rfl (dgs_nl ?_))))), rfl, ?_, rfl, rfl, h⟩
      · show some (cutL (xs.map DL.D.int) (some ((1 : Nat) : Int)) none, none) = _
        rw [cut_from, List.map_drop]
      · refine de_ltI ?_
        repeat (first
    | with_reducible refine dx_seq ?_ | with_reducible refine dx_ret ?_ | with_reducible refine dx_if ?_ | with_reducible refine dx_next ?_ | with_reducible refine dx_drop ?_ | with_reducible refine dx_asg ?_ | with_reducible refine dt_or ?_ | with_reducible refine dt_and ?_ | with_reducible refine dt_not ?_ | with_reducible refine dt_test ?_ | with_reducible refine dt_val ?_ | with_reducible refine de_int ?_ | with_reducible refine de_bl ?_ | with_reducible refine de_non ?_ | with_reducible refine de_str ?_ | with_reducible refine de_andV ?_ | with_reducible refine de_orV ?_ | with_reducible refine de_notV ?_ | with_reducible refine de_chain ?_ | with_reducible refine de_I0 ?_ | with_reducible refine de_B0 ?_ | with_reducible refine de_isInt ?_ | with_reducible refine de_isBl ?_ | with_reducible refine de_isTup ?_ | with_reducible refine de_isStr ?_ | with_reducible refine de_isRow ?_ | with_reducible refine de_len ?_ | with_reducible refine de_call ?_ | with_reducible refine de_ifx ?_ | with_reducible refine da_cons ?_ | with_reducible refine da_nil ?_
    | (with_reducible refine de_d (by with_unfolding_all rfl) ?_) | (with_reducible refine de_o (by with_unfolding_all rfl) ?_) | refine ⟨_, rfl, ?_⟩ | refine ⟨rfl, _, rfl, ?_⟩ | (with_reducible refine iteT' (by with_unfolding_all rfl) ?_) | (with_reducible refine iteF' (by with_unfolding_all rfl) ?_))
        exact ⟨rfl, rfl⟩
      · rw [List.length_zip]; omega
  case hl =>
    rintro ds Q ⟨i, lo, rfl, _⟩
    rfl


end K67
set_option Elab.async false
set_option linter.all false
set_option maxRecDepth 100000
namespace K67
open PySem PySem.Spec PyProof.Rows L2 DL RZ
/-! K2: the surroundings of this law; books; orders. -/
/-- objects: the tape, an instance -/
inductive Kp
  | tape | ins (i : Ins) | at (a : Addr)
abbrev Dk := DL.D Kp
def ClB (CB CR : Addr) : Nat → Addr → Prop := fun n C => (n = 0 ∧ C = CB) ∨ (n = 1 ∧ C = CR)
def okT (w : Addr × Addr) (H : Hp) : Prop := ∃ (seed n : Int) (cells : List Int), H w.1 = some (.lst [.int seed, .int n, .ref w.2]) ∧ H w.2 = some (.lst (cells.map .int)) ∧ w.1 ≠ w.2 ∧ 0 ≤ seed ∧ seed < 2147483648 ∧ cells.length ≤ 63
def robK (K : PySem.W.Frag) (CB CR : Addr) (w : Addr × Addr) (G : Hp) (v : V) : Kp → Prop
  | .tape => v = .ref w.1
  | .ins i => InsAt K (ClB CB CR) G v i
  | .at a => v = .ref a
/-- this law's surroundings -/
abbrev Zk (K : PySem.W.Frag) (CB CR : Addr) : Wrl K where
  κ := Kp
  W := Addr × Addr
  le := fun a b => a = b
  refl := fun _ => rfl
  trans := fun h k => h.trans k
  A := fun w => [w.1, w.2]
  Am := fun h a m => h ▸ m
  ok := okT
  rob := robK K CB CR
  okm := fun {w H H'} h _ ⟨s, n, c, h1, h2, r⟩ => ⟨s, n, c, (h w.1 (by simp)).trans h1, (h w.2 (by simp)).trans h2, r⟩
  okt := fun {w H} ⟨s, n, c, h1, h2, r⟩ a m => by
    have : a = w.1 ∨ a = w.2 := by simpa using m
    rcases this with e | e
    · rw [e, h1]; simp
    · rw [e, h2]; simp
  robm := fun {w w' G G' v k} l s h => by
    subst l
    cases k with
    | tape => exact h
    | ins i => exact InsAt.mono s h
    | «at» a => exact h
/-- what is known of the classes -/
structure Tx (K : PySem.W.Frag) (CB CR : Addr) : Prop where
  cB : Cls K CB
  cR : Cls K CR
  at' : ∀ C, C = CB ∨ C = CR → NoAttr K C "count" ∧ NoAttr K C "overs" ∧ NoAttr K C "dates" ∧ NoAttr K C "kinds" ∧ NoAttr K C "looked"
abbrev Ovs := List (Int × Int)
def pOvs (ov : Ovs) : PyData := .tuple (ov.map fun p => .tuple [.int p.1, .int p.2])
def pDts (n : Nat) : PyData := .tuple ((List.replicate n ()).map fun _ => .tuple [.none, .none])
def bookI (cl n : Nat) (ov : Ovs) : Ins := ⟨cl, [("count", .int n), ("overs", pOvs ov), ("dates", pDts n), ("kinds", .tuple [])], ["parts"]⟩
def bookD (n : Nat) (ov : Ovs) : Dk := .obj (.ins (bookI 1 n ov))
abbrev pairD (p : Int × Int) : Dk := DL.prD p
def ovsD (ov : Ovs) : Dk := .tup (ov.map pairD)
def dateD : Dk := .tup [.non, .non]
def datesD (n : Nat) : Dk := .tup ((List.replicate n ()).map fun _ => dateD)
def intsD (xs : List Int) : Dk := .tup (xs.map .int)
def isOrd (n : Nat) (xs : List Int) : Bool := decide (srt xs = ups n)
variable {P : Program} {w : World} {K : PySem.W.Frag} {mg : Str → Option Value} {base : Heap} {CB CR : Addr}
section
variable {τ : List (SL Kp)} {P' : PE' Kp} {ta : TE}
theorem fldT (T : Tx K CB CR) {f : Str} (hf : f = "count" ∨ f = "overs" ∨ f = "dates" ∨ f = "kinds") : ∀ n C, ClB CB CR n C → Cls K C ∧ NoAttr K C f := by
  intro n C h
  have c : C = CB ∨ C = CR := h.elim (fun h => .inl h.2) (fun h => .inr h.2)
  refine ⟨by rcases c with e | e <;> rw [e]; exact T.cB; exact T.cR, ?_⟩
  obtain ⟨a1, a2, a3, a4, _⟩ := T.at' C c
  rcases hf with e | e | e | e <;> rw [e] <;> assumption
theorem de_count (T : Tx K CB CR) (h : DE (Zk K CB CR) ta τ fun r τ1 => ∃ n ov, r = .v (bookD n ov) ∧ P' (.v (.int (n : Nat))) τ1) : DE (Zk K CB CR) (tFld K ta "count") τ P' :=
  de_fldI (Z := Zk K CB CR) (fldT T (.inl rfl)) Kp.ins (fun _ _ _ _ h => h) (DE.mono h fun r τ1 ⟨n, ov, e, h⟩ => ⟨_, .int n, e, by simp [bookI], by
    show P' (.v (ofPy (.int n) : Dk)) τ1
    simp only [ofPy]
    exact h⟩)
theorem de_overs (T : Tx K CB CR) (h : DE (Zk K CB CR) ta τ fun r τ1 => ∃ n ov, r = .v (bookD n ov) ∧ P' (.v (ovsD ov)) τ1) : DE (Zk K CB CR) (tFld K ta "overs") τ P' :=
  de_fldI (Z := Zk K CB CR) (fldT T (.inr (.inl rfl))) Kp.ins (fun _ _ _ _ h => h) (DE.mono h fun r τ1 ⟨n, ov, e, h⟩ => ⟨_, pOvs ov, e, by simp [bookI], by
    have : (ofPy (pOvs ov) : Dk) = ovsD ov := by simp only [pOvs, ofPy, ofPys_map, ofPys, ovsD]; rfl
    show P' (.v (ofPy (pOvs ov) : Dk)) τ1
    rw [this]
    exact h⟩)
theorem de_dates (T : Tx K CB CR) (h : DE (Zk K CB CR) ta τ fun r τ1 => ∃ n ov, r = .v (bookD n ov) ∧ P' (.v (datesD n)) τ1) : DE (Zk K CB CR) (tFld K ta "dates") τ P' :=
  de_fldI (Z := Zk K CB CR) (fldT T (.inr (.inr (.inl rfl)))) Kp.ins (fun _ _ _ _ h => h) (DE.mono h fun r τ1 ⟨n, ov, e, h⟩ => ⟨_, pDts n, e, by simp [bookI], by
    have : (ofPy (pDts n) : Dk) = datesD n := by simp only [pDts, ofPy, ofPys_map, ofPys, datesD]; rfl
    show P' (.v (ofPy (pDts n) : Dk)) τ1
    rw [this]
    exact h⟩)
theorem de_kinds (T : Tx K CB CR) (h : DE (Zk K CB CR) ta τ fun r τ1 => ∃ n ov, r = .v (bookD n ov) ∧ P' (.v (.tup [])) τ1) : DE (Zk K CB CR) (tFld K ta "kinds") τ P' :=
  de_fldI (Z := Zk K CB CR) (fldT T (.inr (.inr (.inr rfl)))) Kp.ins (fun _ _ _ _ h => h) (DE.mono h fun r τ1 ⟨n, ov, e, h⟩ => ⟨_, .tuple [], e, by simp [bookI], by
    show P' (.v (ofPy (.tuple []) : Dk)) τ1
    simp only [ofPy, ofPys]
    exact h⟩)
end

theorem ord_len {n : Nat} {xs : List Int} (h : isOrd n xs = true) : xs.Perm (ups n) := srt_ups.mp (of_decide_eq_true h)
theorem within_iff {i lo hi : Int} : within i lo hi = true ↔ lo ≤ i ∧ i ≤ hi := by simp [within]
theorem atI_of {α : Type} {xs : List α} {i : Int} {y : α} (h0 : 0 ≤ i) (h : xs[i.toNat]? = some y) : atI xs i = some y := by
  obtain ⟨j, rfl⟩ := Int.eq_ofNat_of_zero_le h0
  exact atI_nat h

def S_is_order : FS Kp := fun ds Q => ∃ n ov xs, ds = [bookD n ov, intsD xs] ∧ n ≤ 100 ∧ xs.length ≤ 1000 ∧ Q (.v (.bl (isOrd n xs)))
abbrev s_is_order : Stmt := top 29
abbrev N_is_order : List Str := ["book", "thing", "layer"]
theorem sc_is_order : FnScope N_is_order ["book", "thing"] (defScope s_is_order) := ⟨rfl, rfl, rfl, by decide +kernel, rfl, by decide +kernel, by decide +kernel⟩
theorem has_is_order {k : Nat} (D : Def K mg "is_order" s_is_order ["book", "thing"]) (z_all : mg "all" = none) (z_sorted : mg "sorted" = none) (z_range : mg "range" = none) (z_list : mg "list" = none) (h_is_tuple : Has P w K mg base "is_tuple" k ["thing", "least", "most"] (spD (Zk K CB CR) S_is_tuple)) (h_is_within : Has P w K mg base "is_within" k ["thing", "low", "high"] (spD (Zk K CB CR) S_is_within)) (T : Tx K CB CR) : Has P w K mg base "is_order" (k + 1) ["book", "thing"] (spD (Zk K CB CR) S_is_order) := by
  refine D.has sc_is_order ?hl fun f cdv A outer s H E hr => ?bod
  case bod =>
    have hu1 := hu_of hr
    have hu0 := hu0_of hr
    have hu65 := hu65_of hr
    refine ⟨_, (pss_cons (ps_if (pt_not (pt_val (pe_callH h_is_tuple hr (by rfl) (pa_cons (pv 1) (pa_cons (kpe_fld (K := K) rfl (pv 0)) (pa_cons (kpe_fld (K := K) rfl (pv 0)) pa_nil)))))) (pss_one (ps_ret pe_bl)) pss_nil)
    (pss_cons (ps_if (pt_not (pt_val (pe_callB (kall (K := K) rfl rfl) (by rfl) z_all (by decide +kernel) (pa_cons (pe_lc (own := [("layer", 2)]) rfl sc_is_order.nd (kpi_sq (K := K) rfl (pv 1)) (blkOk_by (N := N_is_order) (sc := defScope s_is_order) (by decide +kernel)) (fun _ _ _ _ _ => (pg_name (i := 2) sc_is_order.nd rfl (by first | exact Or.inl rfl | exact Or.inr rfl))) (fun _ _ _ _ _ => pts_nil) (fun _ _ _ _ _ => (pe_callH h_is_within hr (by rfl) (pa_cons (pv 2) (pa_cons pe_int (pa_cons (pe_op op_sub (kpe_fld (K := K) rfl (pv 0)) pe_int) pa_nil)))))) pa_nil)))) (pss_one (ps_ret pe_bl)) pss_nil)
    (pss_one (ps_ret (pe_cmpR (kop_eq (K := K) rfl hu65) (pe_callB (ksrt (K := K) rfl) (by rfl) z_sorted (by decide +kernel) (pa_cons (pv 1) pa_nil)) (pe_listRg rfl (by rfl) z_list (prg_1 (by rfl) z_range (kpe_fld (K := K) rfl (pv 0)))) (nomark _)))))), ?_⟩
    rintro ds Q ⟨n, ov, xs, rfl, hn, hx, h⟩
    repeat (first
    | with_reducible refine dx_seq ?_ | with_reducible refine dx_ret ?_ | with_reducible refine dx_if ?_ | with_reducible refine dx_next ?_ | with_reducible refine dx_drop ?_ | with_reducible refine dx_asg ?_ | with_reducible refine dt_or ?_ | with_reducible refine dt_and ?_ | with_reducible refine dt_not ?_ | with_reducible refine dt_test ?_ | with_reducible refine dt_val ?_ | with_reducible refine de_int ?_ | with_reducible refine de_bl ?_ | with_reducible refine de_non ?_ | with_reducible refine de_str ?_ | with_reducible refine de_andV ?_ | with_reducible refine de_orV ?_ | with_reducible refine de_notV ?_ | with_reducible refine de_chain ?_ | with_reducible refine de_I0 ?_ | with_reducible refine de_B0 ?_ | with_reducible refine de_isInt ?_ | with_reducible refine de_isBl ?_ | with_reducible refine de_isTup ?_ | with_reducible refine de_isStr ?_ | with_reducible refine de_isRow ?_ | with_reducible refine de_len ?_ | with_reducible refine de_call ?_ | with_reducible refine de_ifx ?_ | with_reducible refine da_cons ?_ | with_reducible refine da_nil ?_
    | (with_reducible refine de_d (by with_unfolding_all rfl) ?_) | (with_reducible refine de_o (by with_unfolding_all rfl) ?_) | refine ⟨_, rfl, ?_⟩ | refine ⟨rfl, _, rfl, ?_⟩ | (with_reducible refine iteT' (by with_unfolding_all rfl) ?_) | (with_reducible refine iteF' (by with_unfolding_all rfl) ?_) | with_reducible refine de_count T ?_ | with_reducible refine de_overs T ?_ | with_reducible refine de_dates T ?_ | with_reducible refine de_kinds T ?_ | with_reducible refine de_nN ?_ | with_reducible refine de_nnN ?_ | refine ⟨_, _, rfl, ?_⟩ | refine ⟨_, _, _, rfl, ?_⟩ | refine ⟨_, rfl, rfl, ?_⟩)
    refine iteB (fun h1 => ?_) (fun h1 => ?_)
    · repeat (first
    | with_reducible refine dx_seq ?_ | with_reducible refine dx_ret ?_ | with_reducible refine dx_if ?_ | with_reducible refine dx_next ?_ | with_reducible refine dx_drop ?_ | with_reducible refine dx_asg ?_ | with_reducible refine dt_or ?_ | with_reducible refine dt_and ?_ | with_reducible refine dt_not ?_ | with_reducible refine dt_test ?_ | with_reducible refine dt_val ?_ | with_reducible refine de_int ?_ | with_reducible refine de_bl ?_ | with_reducible refine de_non ?_ | with_reducible refine de_str ?_ | with_reducible refine de_andV ?_ | with_reducible refine de_orV ?_ | with_reducible refine de_notV ?_ | with_reducible refine de_chain ?_ | with_reducible refine de_I0 ?_ | with_reducible refine de_B0 ?_ | with_reducible refine de_isInt ?_ | with_reducible refine de_isBl ?_ | with_reducible refine de_isTup ?_ | with_reducible refine de_isStr ?_ | with_reducible refine de_isRow ?_ | with_reducible refine de_len ?_ | with_reducible refine de_call ?_ | with_reducible refine de_ifx ?_ | with_reducible refine da_cons ?_ | with_reducible refine da_nil ?_
    | (with_reducible refine de_d (by with_unfolding_all rfl) ?_) | (with_reducible refine de_o (by with_unfolding_all rfl) ?_) | refine ⟨_, rfl, ?_⟩ | refine ⟨rfl, _, rfl, ?_⟩ | (with_reducible refine iteT' (by with_unfolding_all rfl) ?_) | (with_reducible refine iteF' (by with_unfolding_all rfl) ?_) | with_reducible refine de_count T ?_ | with_reducible refine de_overs T ?_ | with_reducible refine de_dates T ?_ | with_reducible refine de_kinds T ?_ | with_reducible refine de_nN ?_ | with_reducible refine de_nnN ?_ | refine ⟨_, _, rfl, ?_⟩ | refine ⟨_, _, _, rfl, ?_⟩ | refine ⟨_, rfl, rfl, ?_⟩)
      have e : isOrd n xs = false := by
        cases q : isOrd n xs with
        | false => rfl
        | true =>
          have := (ord_len q).length_eq
          rw [ups_len] at this
          rw [List.length_map, this] at h1
          simp [within] at h1
      rw [e] at h
      exact ⟨rfl, h⟩
    · repeat (first
    | with_reducible refine dx_seq ?_ | with_reducible refine dx_ret ?_ | with_reducible refine dx_if ?_ | with_reducible refine dx_next ?_ | with_reducible refine dx_drop ?_ | with_reducible refine dx_asg ?_ | with_reducible refine dt_or ?_ | with_reducible refine dt_and ?_ | with_reducible refine dt_not ?_ | with_reducible refine dt_test ?_ | with_reducible refine dt_val ?_ | with_reducible refine de_int ?_ | with_reducible refine de_bl ?_ | with_reducible refine de_non ?_ | with_reducible refine de_str ?_ | with_reducible refine de_andV ?_ | with_reducible refine de_orV ?_ | with_reducible refine de_notV ?_ | with_reducible refine de_chain ?_ | with_reducible refine de_I0 ?_ | with_reducible refine de_B0 ?_ | with_reducible refine de_isInt ?_ | with_reducible refine de_isBl ?_ | with_reducible refine de_isTup ?_ | with_reducible refine de_isStr ?_ | with_reducible refine de_isRow ?_ | with_reducible refine de_len ?_ | with_reducible refine de_call ?_ | with_reducible refine de_ifx ?_ | with_reducible refine da_cons ?_ | with_reducible refine da_nil ?_
    | (with_reducible refine de_d (by with_unfolding_all rfl) ?_) | (with_reducible refine de_o (by with_unfolding_all rfl) ?_) | refine ⟨_, rfl, ?_⟩ | refine ⟨rfl, _, rfl, ?_⟩ | (with_reducible refine iteT' (by with_unfolding_all rfl) ?_) | (with_reducible refine iteF' (by with_unfolding_all rfl) ?_) | with_reducible refine de_count T ?_ | with_reducible refine de_overs T ?_ | with_reducible refine de_dates T ?_ | with_reducible refine de_kinds T ?_ | with_reducible refine de_nN ?_ | with_reducible refine de_nnN ?_ | refine ⟨_, _, rfl, ?_⟩ | refine ⟨_, _, _, rfl, ?_⟩ | refine ⟨_, rfl, rfl, ?_⟩)
      refine de_allC .int (fun a => within a 0 (n - 1)) (di_sq (de_d rfl ⟨_, rfl, xs, rfl, fun a ha => dg_nm rfl ?_, rfl, by omega, rfl, ?_⟩))
      · repeat (first
    | with_reducible refine dx_seq ?_ | with_reducible refine dx_ret ?_ | with_reducible refine dx_if ?_ | with_reducible refine dx_next ?_ | with_reducible refine dx_drop ?_ | with_reducible refine dx_asg ?_ | with_reducible refine dt_or ?_ | with_reducible refine dt_and ?_ | with_reducible refine dt_not ?_ | with_reducible refine dt_test ?_ | with_reducible refine dt_val ?_ | with_reducible refine de_int ?_ | with_reducible refine de_bl ?_ | with_reducible refine de_non ?_ | with_reducible refine de_str ?_ | with_reducible refine de_andV ?_ | with_reducible refine de_orV ?_ | with_reducible refine de_notV ?_ | with_reducible refine de_chain ?_ | with_reducible refine de_I0 ?_ | with_reducible refine de_B0 ?_ | with_reducible refine de_isInt ?_ | with_reducible refine de_isBl ?_ | with_reducible refine de_isTup ?_ | with_reducible refine de_isStr ?_ | with_reducible refine de_isRow ?_ | with_reducible refine de_len ?_ | with_reducible refine de_call ?_ | with_reducible refine de_ifx ?_ | with_reducible refine da_cons ?_ | with_reducible refine da_nil ?_
    | (with_reducible refine de_d (by with_unfolding_all rfl) ?_) | (with_reducible refine de_o (by with_unfolding_all rfl) ?_) | refine ⟨_, rfl, ?_⟩ | refine ⟨rfl, _, rfl, ?_⟩ | (with_reducible refine iteT' (by with_unfolding_all rfl) ?_) | (with_reducible refine iteF' (by with_unfolding_all rfl) ?_) | with_reducible refine de_count T ?_ | with_reducible refine de_overs T ?_ | with_reducible refine de_dates T ?_ | with_reducible refine de_kinds T ?_ | with_reducible refine de_nN ?_ | with_reducible refine de_nnN ?_ | refine ⟨_, _, rfl, ?_⟩ | refine ⟨_, _, _, rfl, ?_⟩ | refine ⟨_, rfl, rfl, ?_⟩)
        first | exact rfl | exact ⟨rfl, rfl⟩ | exact ⟨rfl, rfl, rfl⟩
      repeat (first
    | with_reducible refine dx_seq ?_ | with_reducible refine dx_ret ?_ | with_reducible refine dx_if ?_ | with_reducible refine dx_next ?_ | with_reducible refine dx_drop ?_ | with_reducible refine dx_asg ?_ | with_reducible refine dt_or ?_ | with_reducible refine dt_and ?_ | with_reducible refine dt_not ?_ | with_reducible refine dt_test ?_ | with_reducible refine dt_val ?_ | with_reducible refine de_int ?_ | with_reducible refine de_bl ?_ | with_reducible refine de_non ?_ | with_reducible refine de_str ?_ | with_reducible refine de_andV ?_ | with_reducible refine de_orV ?_ | with_reducible refine de_notV ?_ | with_reducible refine de_chain ?_ | with_reducible refine de_I0 ?_ | with_reducible refine de_B0 ?_ | with_reducible refine de_isInt ?_ | with_reducible refine de_isBl ?_ | with_reducible refine de_isTup ?_ | with_reducible refine de_isStr ?_ | with_reducible refine de_isRow ?_ | with_reducible refine de_len ?_ | with_reducible refine de_call ?_ | with_reducible refine de_ifx ?_ | with_reducible refine da_cons ?_ | with_reducible refine da_nil ?_
    | (with_reducible refine de_d (by with_unfolding_all rfl) ?_) | (with_reducible refine de_o (by with_unfolding_all rfl) ?_) | refine ⟨_, rfl, ?_⟩ | refine ⟨rfl, _, rfl, ?_⟩ | (with_reducible refine iteT' (by with_unfolding_all rfl) ?_) | (with_reducible refine iteF' (by with_unfolding_all rfl) ?_) | with_reducible refine de_count T ?_ | with_reducible refine de_overs T ?_ | with_reducible refine de_dates T ?_ | with_reducible refine de_kinds T ?_ | with_reducible refine de_nN ?_ | with_reducible refine de_nnN ?_ | refine ⟨_, _, rfl, ?_⟩ | refine ⟨_, _, _, rfl, ?_⟩ | refine ⟨_, rfl, rfl, ?_⟩)
      refine iteB (fun h2 => ?_) (fun h2 => ?_)
      · repeat (first
    | with_reducible refine dx_seq ?_ | with_reducible refine dx_ret ?_ | with_reducible refine dx_if ?_ | with_reducible refine dx_next ?_ | with_reducible refine dx_drop ?_ | with_reducible refine dx_asg ?_ | with_reducible refine dt_or ?_ | with_reducible refine dt_and ?_ | with_reducible refine dt_not ?_ | with_reducible refine dt_test ?_ | with_reducible refine dt_val ?_ | with_reducible refine de_int ?_ | with_reducible refine de_bl ?_ | with_reducible refine de_non ?_ | with_reducible refine de_str ?_ | with_reducible refine de_andV ?_ | with_reducible refine de_orV ?_ | with_reducible refine de_notV ?_ | with_reducible refine de_chain ?_ | with_reducible refine de_I0 ?_ | with_reducible refine de_B0 ?_ | with_reducible refine de_isInt ?_ | with_reducible refine de_isBl ?_ | with_reducible refine de_isTup ?_ | with_reducible refine de_isStr ?_ | with_reducible refine de_isRow ?_ | with_reducible refine de_len ?_ | with_reducible refine de_call ?_ | with_reducible refine de_ifx ?_ | with_reducible refine da_cons ?_ | with_reducible refine da_nil ?_
    | (with_reducible refine de_d (by with_unfolding_all rfl) ?_) | (with_reducible refine de_o (by with_unfolding_all rfl) ?_) | refine ⟨_, rfl, ?_⟩ | refine ⟨rfl, _, rfl, ?_⟩ | (with_reducible refine iteT' (by with_unfolding_all rfl) ?_) | (with_reducible refine iteF' (by with_unfolding_all rfl) ?_) | with_reducible refine de_count T ?_ | with_reducible refine de_overs T ?_ | with_reducible refine de_dates T ?_ | with_reducible refine de_kinds T ?_ | with_reducible refine de_nN ?_ | with_reducible refine de_nnN ?_ | refine ⟨_, _, rfl, ?_⟩ | refine ⟨_, _, _, rfl, ?_⟩ | refine ⟨_, rfl, rfl, ?_⟩)
        have e : isOrd n xs = false := by
          cases q : isOrd n xs with
          | false => rfl
          | true =>
            have hp := ord_len q
            have : (xs.all fun a => within a 0 (n - 1)) = true := by
              rw [List.all_eq_true]
              intro a ha
              have := mem_ups.mp (hp.mem_iff.mp ha)
              rw [within_iff]
              omega
            rw [this] at h2
            cases h2
        rw [e] at h
        exact ⟨rfl, h⟩
      · repeat (first
    | with_reducible refine dx_seq ?_ | with_reducible refine dx_ret ?_ | with_reducible refine dx_if ?_ | with_reducible refine dx_next ?_ | with_reducible refine dx_drop ?_ | with_reducible refine dx_asg ?_ | with_reducible refine dt_or ?_ | with_reducible refine dt_and ?_ | with_reducible refine dt_not ?_ | with_reducible refine dt_test ?_ | with_reducible refine dt_val ?_ | with_reducible refine de_int ?_ | with_reducible refine de_bl ?_ | with_reducible refine de_non ?_ | with_reducible refine de_str ?_ | with_reducible refine de_andV ?_ | with_reducible refine de_orV ?_ | with_reducible refine de_notV ?_ | with_reducible refine de_chain ?_ | with_reducible refine de_I0 ?_ | with_reducible refine de_B0 ?_ | with_reducible refine de_isInt ?_ | with_reducible refine de_isBl ?_ | with_reducible refine de_isTup ?_ | with_reducible refine de_isStr ?_ | with_reducible refine de_isRow ?_ | with_reducible refine de_len ?_ | with_reducible refine de_call ?_ | with_reducible refine de_ifx ?_ | with_reducible refine da_cons ?_ | with_reducible refine da_nil ?_
    | (with_reducible refine de_d (by with_unfolding_all rfl) ?_) | (with_reducible refine de_o (by with_unfolding_all rfl) ?_) | refine ⟨_, rfl, ?_⟩ | refine ⟨rfl, _, rfl, ?_⟩ | (with_reducible refine iteT' (by with_unfolding_all rfl) ?_) | (with_reducible refine iteF' (by with_unfolding_all rfl) ?_) | with_reducible refine de_count T ?_ | with_reducible refine de_overs T ?_ | with_reducible refine de_dates T ?_ | with_reducible refine de_kinds T ?_ | with_reducible refine de_nN ?_ | with_reducible refine de_nnN ?_ | refine ⟨_, _, rfl, ?_⟩ | refine ⟨_, _, _, rfl, ?_⟩ | refine ⟨_, rfl, rfl, ?_⟩)
        refine de_eq (de_cb bs_srt (da_cons (de_d rfl (da_nil ⟨_, xs, rfl, rfl, fun p => de_lstRg (drg_1 ?_)⟩))))
        repeat (first
    | with_reducible refine dx_seq ?_ | with_reducible refine dx_ret ?_ | with_reducible refine dx_if ?_ | with_reducible refine dx_next ?_ | with_reducible refine dx_drop ?_ | with_reducible refine dx_asg ?_ | with_reducible refine dt_or ?_ | with_reducible refine dt_and ?_ | with_reducible refine dt_not ?_ | with_reducible refine dt_test ?_ | with_reducible refine dt_val ?_ | with_reducible refine de_int ?_ | with_reducible refine de_bl ?_ | with_reducible refine de_non ?_ | with_reducible refine de_str ?_ | with_reducible refine de_andV ?_ | with_reducible refine de_orV ?_ | with_reducible refine de_notV ?_ | with_reducible refine de_chain ?_ | with_reducible refine de_I0 ?_ | with_reducible refine de_B0 ?_ | with_reducible refine de_isInt ?_ | with_reducible refine de_isBl ?_ | with_reducible refine de_isTup ?_ | with_reducible refine de_isStr ?_ | with_reducible refine de_isRow ?_ | with_reducible refine de_len ?_ | with_reducible refine de_call ?_ | with_reducible refine de_ifx ?_ | with_reducible refine da_cons ?_ | with_reducible refine da_nil ?_
    | (with_reducible refine de_d (by with_unfolding_all rfl) ?_) | (with_reducible refine de_o (by with_unfolding_all rfl) ?_) | refine ⟨_, rfl, ?_⟩ | refine ⟨rfl, _, rfl, ?_⟩ | (with_reducible refine iteT' (by with_unfolding_all rfl) ?_) | (with_reducible refine iteF' (by with_unfolding_all rfl) ?_) | with_reducible refine de_count T ?_ | with_reducible refine de_overs T ?_ | with_reducible refine de_dates T ?_ | with_reducible refine de_kinds T ?_ | with_reducible refine de_nN ?_ | with_reducible refine de_nnN ?_ | refine ⟨_, _, rfl, ?_⟩ | refine ⟨_, _, _, rfl, ?_⟩ | refine ⟨_, rfl, rfl, ?_⟩)
        refine ⟨⟨by omega, by omega, by omega, by omega⟩, fun q => ?_⟩
        rw [rg_up]
        refine ⟨.lst ((srt xs).map .int), .lst ((ups n).map .int), rfl, rfl, by simp [lay, lays_ints], by simp [lay, lays_ints], rfl, ?_⟩
        have e : eqD (.lst ((srt xs).map .int) : Dk) (.lst ((ups n).map .int)) = isOrd n xs := eq_ints _ _
        rw [e]
        exact h
  case hl =>
    rintro ds Q ⟨n, ov, xs, rfl, _⟩
    rfl


end K67
set_option Elab.async false
set_option linter.all false
set_option maxRecDepth 100000
namespace K67
open PySem PySem.Spec PyProof.Rows L2 DL RZ
/-! K3: orders -/
variable {P : Program} {w : World} {K : PySem.W.Frag} {mg : Str → Option Value} {base : Heap} {CB CR : Addr}

def S_check_order : FS Kp := fun ds Q => ∃ n ov xs, ds = [bookD n ov, intsD xs] ∧ n ≤ 100 ∧ xs.length ≤ 1000 ∧ isOrd n xs = true ∧ Q (.v .non)
abbrev s_check_order : Stmt := top 30
abbrev N_check_order : List Str := ["book", "order"]
theorem sc_check_order : FnScope N_check_order ["book", "order"] (defScope s_check_order) := ⟨rfl, rfl, rfl, by decide +kernel, rfl, by decide +kernel, by decide +kernel⟩
theorem has_check_order {k : Nat} (D : Def K mg "check_order" s_check_order ["book", "order"]) (h_is_order : Has P w K mg base "is_order" k ["book", "thing"] (spD (Zk K CB CR) S_is_order)) (T : Tx K CB CR) : Has P w K mg base "check_order" (k + 1) ["book", "order"] (spD (Zk K CB CR) S_check_order) := by
  refine D.has sc_check_order ?hl fun f cdv A outer s H E hr => ?bod
  case bod =>
    have hu1 := hu_of hr
    have hu0 := hu0_of hr
    have hu65 := hu65_of hr
    refine ⟨_, (pss_one (ps_if (pt_not (pt_val (pe_callH h_is_order hr (by rfl) (pa_cons (pv 0) (pa_cons (pv 1) pa_nil))))) pss_never pss_nil)), ?_⟩
    rintro ds Q ⟨n, ov, xs, rfl, hn, hx, ho, h⟩
    repeat (first
    | with_reducible refine dx_seq ?_ | with_reducible refine dx_ret ?_ | with_reducible refine dx_if ?_ | with_reducible refine dx_next ?_ | with_reducible refine dx_drop ?_ | with_reducible refine dx_asg ?_ | with_reducible refine dt_or ?_ | with_reducible refine dt_and ?_ | with_reducible refine dt_not ?_ | with_reducible refine dt_test ?_ | with_reducible refine dt_val ?_ | with_reducible refine de_int ?_ | with_reducible refine de_bl ?_ | with_reducible refine de_non ?_ | with_reducible refine de_str ?_ | with_reducible refine de_andV ?_ | with_reducible refine de_orV ?_ | with_reducible refine de_notV ?_ | with_reducible refine de_chain ?_ | with_reducible refine de_I0 ?_ | with_reducible refine de_B0 ?_ | with_reducible refine de_isInt ?_ | with_reducible refine de_isBl ?_ | with_reducible refine de_isTup ?_ | with_reducible refine de_isStr ?_ | with_reducible refine de_isRow ?_ | with_reducible refine de_len ?_ | with_reducible refine de_call ?_ | with_reducible refine de_ifx ?_ | with_reducible refine da_cons ?_ | with_reducible refine da_nil ?_
    | (with_reducible refine de_d (by with_unfolding_all rfl) ?_) | (with_reducible refine de_o (by with_unfolding_all rfl) ?_) | refine ⟨_, rfl, ?_⟩ | refine ⟨rfl, _, rfl, ?_⟩ | (with_reducible refine iteT' (by with_unfolding_all rfl) ?_) | (with_reducible refine iteF' (by with_unfolding_all rfl) ?_) | with_reducible refine de_count T ?_ | with_reducible refine de_overs T ?_ | with_reducible refine de_dates T ?_ | with_reducible refine de_kinds T ?_ | with_reducible refine de_nN ?_ | with_reducible refine de_nnN ?_ | refine ⟨_, _, rfl, ?_⟩ | refine ⟨_, _, _, rfl, ?_⟩ | refine ⟨_, rfl, rfl, ?_⟩)
    refine ⟨hn, hx, _, rfl, ?_⟩
    rw [ho]
    repeat (first
    | with_reducible refine dx_seq ?_ | with_reducible refine dx_ret ?_ | with_reducible refine dx_if ?_ | with_reducible refine dx_next ?_ | with_reducible refine dx_drop ?_ | with_reducible refine dx_asg ?_ | with_reducible refine dt_or ?_ | with_reducible refine dt_and ?_ | with_reducible refine dt_not ?_ | with_reducible refine dt_test ?_ | with_reducible refine dt_val ?_ | with_reducible refine de_int ?_ | with_reducible refine de_bl ?_ | with_reducible refine de_non ?_ | with_reducible refine de_str ?_ | with_reducible refine de_andV ?_ | with_reducible refine de_orV ?_ | with_reducible refine de_notV ?_ | with_reducible refine de_chain ?_ | with_reducible refine de_I0 ?_ | with_reducible refine de_B0 ?_ | with_reducible refine de_isInt ?_ | with_reducible refine de_isBl ?_ | with_reducible refine de_isTup ?_ | with_reducible refine de_isStr ?_ | with_reducible refine de_isRow ?_ | with_reducible refine de_len ?_ | with_reducible refine de_call ?_ | with_reducible refine de_ifx ?_ | with_reducible refine da_cons ?_ | with_reducible refine da_nil ?_
    | (with_reducible refine de_d (by with_unfolding_all rfl) ?_) | (with_reducible refine de_o (by with_unfolding_all rfl) ?_) | refine ⟨_, rfl, ?_⟩ | refine ⟨rfl, _, rfl, ?_⟩ | (with_reducible refine iteT' (by with_unfolding_all rfl) ?_) | (with_reducible refine iteF' (by with_unfolding_all rfl) ?_) | with_reducible refine de_count T ?_ | with_reducible refine de_overs T ?_ | with_reducible refine de_dates T ?_ | with_reducible refine de_kinds T ?_ | with_reducible refine de_nN ?_ | with_reducible refine de_nnN ?_ | refine ⟨_, _, rfl, ?_⟩ | refine ⟨_, _, _, rfl, ?_⟩ | refine ⟨_, rfl, rfl, ?_⟩)
    exact h
  case hl =>
    rintro ds Q ⟨n, ov, xs, rfl, _⟩
    rfl


def S_place_of : FS Kp := fun ds Q => ∃ xs, ds = [intsD xs] ∧ xs.length ≤ 1000 ∧ xs.Nodup ∧ ∀ p, Q (.n p (mkd (placeM xs)))
abbrev s_place_of : Stmt := top 31
abbrev N_place_of : List Str := ["order", "place", "layer"]
theorem sc_place_of : FnScope N_place_of ["order"] (defScope s_place_of) := ⟨rfl, rfl, rfl, by decide +kernel, rfl, by decide +kernel, by decide +kernel⟩
theorem has_place_of {k : Nat} (D : Def K mg "place_of" s_place_of ["order"]) (z_enumerate : mg "enumerate" = none) (T : Tx K CB CR) : Has P w K mg base "place_of" (k + 1) ["order"] (spD (Zk K CB CR) S_place_of) := by
  refine D.has sc_place_of ?hl fun f cdv A outer s H E hr => ?bod
  case bod =>
    have hu1 := hu_of hr
    have hu0 := hu0_of hr
    have hu65 := hu65_of hr
    refine ⟨_, (pss_one (ps_ret (pe_dc (own := [("place", 1), ("layer", 2)]) rfl sc_place_of.nd (kpi_enum (K := K) rfl (by rfl) z_enumerate (pa_cons (pv 0) pa_nil)) (blkOk_by (N := N_place_of) (sc := defScope s_place_of) (by decide +kernel)) (fun _ _ _ _ _ => (kpg_tup (K := K) (n := 2) rfl rfl (pgs_cons (pg_name (i := 1) sc_place_of.nd rfl (by first | exact Or.inl rfl | exact Or.inr rfl)) (pgs_cons (pg_name (i := 2) sc_place_of.nd rfl (by first | exact Or.inl rfl | exact Or.inr rfl)) pgs_nil)))) (fun _ _ _ _ _ => pts_nil) (fun _ _ _ _ _ => (pv 2)) (fun _ _ _ _ _ => (pv 1))))), ?_⟩
    rintro ds Q ⟨xs, rfl, hx, hn, h⟩
    repeat (first
    | with_reducible refine dx_seq ?_ | with_reducible refine dx_ret ?_ | with_reducible refine dx_if ?_ | with_reducible refine dx_next ?_ | with_reducible refine dx_drop ?_ | with_reducible refine dx_asg ?_ | with_reducible refine dt_or ?_ | with_reducible refine dt_and ?_ | with_reducible refine dt_not ?_ | with_reducible refine dt_test ?_ | with_reducible refine dt_val ?_ | with_reducible refine de_int ?_ | with_reducible refine de_bl ?_ | with_reducible refine de_non ?_ | with_reducible refine de_str ?_ | with_reducible refine de_andV ?_ | with_reducible refine de_orV ?_ | with_reducible refine de_notV ?_ | with_reducible refine de_chain ?_ | with_reducible refine de_I0 ?_ | with_reducible refine de_B0 ?_ | with_reducible refine de_isInt ?_ | with_reducible refine de_isBl ?_ | with_reducible refine de_isTup ?_ | with_reducible refine de_isStr ?_ | with_reducible refine de_isRow ?_ | with_reducible refine de_len ?_ | with_reducible refine de_call ?_ | with_reducible refine de_ifx ?_ | with_reducible refine da_cons ?_ | with_reducible refine da_nil ?_
    | (with_reducible refine de_d (by with_unfolding_all rfl) ?_) | (with_reducible refine de_o (by with_unfolding_all rfl) ?_) | refine ⟨_, rfl, ?_⟩ | refine ⟨rfl, _, rfl, ?_⟩ | (with_reducible refine iteT' (by with_unfolding_all rfl) ?_) | (with_reducible refine iteF' (by with_unfolding_all rfl) ?_) | with_reducible refine de_count T ?_ | with_reducible refine de_overs T ?_ | with_reducible refine de_dates T ?_ | with_reducible refine de_kinds T ?_ | with_reducible refine de_nN ?_ | with_reducible refine de_nnN ?_ | refine ⟨_, _, rfl, ?_⟩ | refine ⟨_, _, _, rfl, ?_⟩ | refine ⟨_, rfl, rfl, ?_⟩)
    refine de_dcT (α := Int × Nat) (fun p => .tup [.int (p.2 : Nat), .int p.1]) (fun p => .inl p.1) (fun p => .int (p.2 : Nat)) (di_enum (da_cons (de_d rfl (da_nil ⟨_, (xs.map .int, none), rfl, rfl, xs.zipIdx, enu_map _ _, fun a ha => dg_tp rfl (dgs_cn (dg_nm rfl (dgs_cn (dg_nm rfl (dgs_nl ?_))))), rfl, ?_, ?_, rfl, fun p => ⟨?_, h p⟩⟩))))
    · refine de_d rfl ⟨rfl, rfl, ?_⟩
      repeat (first
    | with_reducible refine dx_seq ?_ | with_reducible refine dx_ret ?_ | with_reducible refine dx_if ?_ | with_reducible refine dx_next ?_ | with_reducible refine dx_drop ?_ | with_reducible refine dx_asg ?_ | with_reducible refine dt_or ?_ | with_reducible refine dt_and ?_ | with_reducible refine dt_not ?_ | with_reducible refine dt_test ?_ | with_reducible refine dt_val ?_ | with_reducible refine de_int ?_ | with_reducible refine de_bl ?_ | with_reducible refine de_non ?_ | with_reducible refine de_str ?_ | with_reducible refine de_andV ?_ | with_reducible refine de_orV ?_ | with_reducible refine de_notV ?_ | with_reducible refine de_chain ?_ | with_reducible refine de_I0 ?_ | with_reducible refine de_B0 ?_ | with_reducible refine de_isInt ?_ | with_reducible refine de_isBl ?_ | with_reducible refine de_isTup ?_ | with_reducible refine de_isStr ?_ | with_reducible refine de_isRow ?_ | with_reducible refine de_len ?_ | with_reducible refine de_call ?_ | with_reducible refine de_ifx ?_ | with_reducible refine da_cons ?_ | with_reducible refine da_nil ?_
    | (with_reducible refine de_d (by with_unfolding_all rfl) ?_) | (with_reducible refine de_o (by with_unfolding_all rfl) ?_) | refine ⟨_, rfl, ?_⟩ | refine ⟨rfl, _, rfl, ?_⟩ | (with_reducible refine iteT' (by with_unfolding_all rfl) ?_) | (with_reducible refine iteF' (by with_unfolding_all rfl) ?_) | with_reducible refine de_count T ?_ | with_reducible refine de_overs T ?_ | with_reducible refine de_dates T ?_ | with_reducible refine de_kinds T ?_ | with_reducible refine de_nN ?_ | with_reducible refine de_nnN ?_ | refine ⟨_, _, rfl, ?_⟩ | refine ⟨_, _, _, rfl, ?_⟩ | refine ⟨_, rfl, rfl, ?_⟩)
      first | exact rfl | exact ⟨rfl, rfl⟩ | exact ⟨rfl, rfl, rfl⟩
    · have e : xs.zipIdx.map (fun p => (Sum.inl p.1 : Key)) = xs.map Sum.inl := by
        have : xs.zipIdx.map (fun p => (Sum.inl p.1 : Key)) = (xs.zipIdx.map Prod.fst).map Sum.inl := by rw [List.map_map] <;> rfl
        rw [this, List.zipIdx_map_fst]
      rw [e]
      exact List.pairwise_map.mpr (hn.imp fun h e => h (Sum.inl.inj e))
    · rw [List.length_zipIdx]; omega
    · show DL.D.purs _ = true
      simp only [mkd, List.map_map]
      exact purs_map _ _ fun _ _ => rfl
  case hl =>
    rintro ds Q ⟨xs, rfl, _⟩
    rfl


def S_is_dated : FS Kp := fun ds Q => ∃ (n : Nat) (ov : Ovs) (a b : Int), ds = [bookD n ov, .int a, .int b] ∧ 0 ≤ a ∧ a < n ∧ 0 ≤ b ∧ b < n ∧ Q (.v (.bl false))
abbrev s_is_dated : Stmt := top 27
abbrev N_is_dated : List Str := ["book", "a", "b", "late", "early"]
theorem sc_is_dated : FnScope N_is_dated ["book", "a", "b"] (defScope s_is_dated) := ⟨rfl, rfl, rfl, by decide +kernel, rfl, by decide +kernel, by decide +kernel⟩
theorem has_is_dated {k : Nat} (D : Def K mg "is_dated" s_is_dated ["book", "a", "b"]) (T : Tx K CB CR) : Has P w K mg base "is_dated" (k + 1) ["book", "a", "b"] (spD (Zk K CB CR) S_is_dated) := by
  refine D.has sc_is_dated ?hl fun f cdv A outer s H E hr => ?bod
  case bod =>
    have hu1 := hu_of hr
    have hu0 := hu0_of hr
    have hu65 := hu65_of hr
    refine ⟨_, (pss_cons (ps_par (i := 3) (j := 4) rfl sc_is_dated.nd rfl rfl (by decide) rfl rfl (pa_cons (pe_ix (kix (K := K) rfl) (pe_ix (kix (K := K) rfl) (kpe_fld (K := K) rfl (pv 0)) (pv 1) (fun _ _ => rfl)) pe_int (fun _ _ => rfl)) (pa_cons (pe_ix (kix (K := K) rfl) (pe_ix (kix (K := K) rfl) (kpe_fld (K := K) rfl (pv 0)) (pv 2) (fun _ _ => rfl)) pe_int (fun _ _ => rfl)) pa_nil)) (by rfl))
    (pss_one (ps_ret (pe_and (pe_cmp (pc_notN (pv 3))) (pe_and (pe_cmp (pc_notN (pv 4))) (pe_one (pe_cmpR (kop_lt (K := K) rfl hu0) (pv 3) (pv 4) (nomark _)))))))), ?_⟩
    rintro ds Q ⟨n, ov, a, b, rfl, ha, ha2, hb, hb2, h⟩
    have at_ : ∀ i : Int, 0 ≤ i → i < n → atI ((List.replicate n ()).map fun _ => dateD) i = some dateD := fun i h1 h2 => atI_of h1 (by
      rw [List.getElem?_map, List.getElem?_replicate, if_pos (by omega)] <;> rfl)
    repeat (first
    | with_reducible refine dx_seq ?_ | with_reducible refine dx_ret ?_ | with_reducible refine dx_if ?_ | with_reducible refine dx_next ?_ | with_reducible refine dx_drop ?_ | with_reducible refine dx_asg ?_ | with_reducible refine dt_or ?_ | with_reducible refine dt_and ?_ | with_reducible refine dt_not ?_ | with_reducible refine dt_test ?_ | with_reducible refine dt_val ?_ | with_reducible refine de_int ?_ | with_reducible refine de_bl ?_ | with_reducible refine de_non ?_ | with_reducible refine de_str ?_ | with_reducible refine de_andV ?_ | with_reducible refine de_orV ?_ | with_reducible refine de_notV ?_ | with_reducible refine de_chain ?_ | with_reducible refine de_I0 ?_ | with_reducible refine de_B0 ?_ | with_reducible refine de_isInt ?_ | with_reducible refine de_isBl ?_ | with_reducible refine de_isTup ?_ | with_reducible refine de_isStr ?_ | with_reducible refine de_isRow ?_ | with_reducible refine de_len ?_ | with_reducible refine de_call ?_ | with_reducible refine de_ifx ?_ | with_reducible refine da_cons ?_ | with_reducible refine da_nil ?_
    | (with_reducible refine de_d (by with_unfolding_all rfl) ?_) | (with_reducible refine de_o (by with_unfolding_all rfl) ?_) | refine ⟨_, rfl, ?_⟩ | refine ⟨rfl, _, rfl, ?_⟩ | (with_reducible refine iteT' (by with_unfolding_all rfl) ?_) | (with_reducible refine iteF' (by with_unfolding_all rfl) ?_) | with_reducible refine de_count T ?_ | with_reducible refine de_overs T ?_ | with_reducible refine de_dates T ?_ | with_reducible refine de_kinds T ?_ | with_reducible refine de_nN ?_ | with_reducible refine de_nnN ?_ | refine ⟨_, _, rfl, ?_⟩ | refine ⟨_, _, _, rfl, ?_⟩ | refine ⟨_, rfl, rfl, ?_⟩)
    refine dx_par ?_
    refine dao_cons (de_ix (de_ix ?_))
    repeat (first
    | with_reducible refine dx_seq ?_ | with_reducible refine dx_ret ?_ | with_reducible refine dx_if ?_ | with_reducible refine dx_next ?_ | with_reducible refine dx_drop ?_ | with_reducible refine dx_asg ?_ | with_reducible refine dt_or ?_ | with_reducible refine dt_and ?_ | with_reducible refine dt_not ?_ | with_reducible refine dt_test ?_ | with_reducible refine dt_val ?_ | with_reducible refine de_int ?_ | with_reducible refine de_bl ?_ | with_reducible refine de_non ?_ | with_reducible refine de_str ?_ | with_reducible refine de_andV ?_ | with_reducible refine de_orV ?_ | with_reducible refine de_notV ?_ | with_reducible refine de_chain ?_ | with_reducible refine de_I0 ?_ | with_reducible refine de_B0 ?_ | with_reducible refine de_isInt ?_ | with_reducible refine de_isBl ?_ | with_reducible refine de_isTup ?_ | with_reducible refine de_isStr ?_ | with_reducible refine de_isRow ?_ | with_reducible refine de_len ?_ | with_reducible refine de_call ?_ | with_reducible refine de_ifx ?_ | with_reducible refine da_cons ?_ | with_reducible refine da_nil ?_
    | (with_reducible refine de_d (by with_unfolding_all rfl) ?_) | (with_reducible refine de_o (by with_unfolding_all rfl) ?_) | refine ⟨_, rfl, ?_⟩ | refine ⟨rfl, _, rfl, ?_⟩ | (with_reducible refine iteT' (by with_unfolding_all rfl) ?_) | (with_reducible refine iteF' (by with_unfolding_all rfl) ?_) | with_reducible refine de_count T ?_ | with_reducible refine de_overs T ?_ | with_reducible refine de_dates T ?_ | with_reducible refine de_kinds T ?_ | with_reducible refine de_nN ?_ | with_reducible refine de_nnN ?_ | refine ⟨_, _, rfl, ?_⟩ | refine ⟨_, _, _, rfl, ?_⟩ | refine ⟨_, rfl, rfl, ?_⟩)
    refine ⟨_, _, _, rfl, rfl, at_ a ha ha2, ?_⟩
    repeat (first
    | with_reducible refine dx_seq ?_ | with_reducible refine dx_ret ?_ | with_reducible refine dx_if ?_ | with_reducible refine dx_next ?_ | with_reducible refine dx_drop ?_ | with_reducible refine dx_asg ?_ | with_reducible refine dt_or ?_ | with_reducible refine dt_and ?_ | with_reducible refine dt_not ?_ | with_reducible refine dt_test ?_ | with_reducible refine dt_val ?_ | with_reducible refine de_int ?_ | with_reducible refine de_bl ?_ | with_reducible refine de_non ?_ | with_reducible refine de_str ?_ | with_reducible refine de_andV ?_ | with_reducible refine de_orV ?_ | with_reducible refine de_notV ?_ | with_reducible refine de_chain ?_ | with_reducible refine de_I0 ?_ | with_reducible refine de_B0 ?_ | with_reducible refine de_isInt ?_ | with_reducible refine de_isBl ?_ | with_reducible refine de_isTup ?_ | with_reducible refine de_isStr ?_ | with_reducible refine de_isRow ?_ | with_reducible refine de_len ?_ | with_reducible refine de_call ?_ | with_reducible refine de_ifx ?_ | with_reducible refine da_cons ?_ | with_reducible refine da_nil ?_
    | (with_reducible refine de_d (by with_unfolding_all rfl) ?_) | (with_reducible refine de_o (by with_unfolding_all rfl) ?_) | refine ⟨_, rfl, ?_⟩ | refine ⟨rfl, _, rfl, ?_⟩ | (with_reducible refine iteT' (by with_unfolding_all rfl) ?_) | (with_reducible refine iteF' (by with_unfolding_all rfl) ?_) | with_reducible refine de_count T ?_ | with_reducible refine de_overs T ?_ | with_reducible refine de_dates T ?_ | with_reducible refine de_kinds T ?_ | with_reducible refine de_nN ?_ | with_reducible refine de_nnN ?_ | refine ⟨_, _, rfl, ?_⟩ | refine ⟨_, _, _, rfl, ?_⟩ | refine ⟨_, rfl, rfl, ?_⟩)
    refine ⟨_, _, .non, rfl, rfl, atI_nat (j := 1) rfl, rfl, dao_cons (de_ix (de_ix ?_))⟩
    repeat (first
    | with_reducible refine dx_seq ?_ | with_reducible refine dx_ret ?_ | with_reducible refine dx_if ?_ | with_reducible refine dx_next ?_ | with_reducible refine dx_drop ?_ | with_reducible refine dx_asg ?_ | with_reducible refine dt_or ?_ | with_reducible refine dt_and ?_ | with_reducible refine dt_not ?_ | with_reducible refine dt_test ?_ | with_reducible refine dt_val ?_ | with_reducible refine de_int ?_ | with_reducible refine de_bl ?_ | with_reducible refine de_non ?_ | with_reducible refine de_str ?_ | with_reducible refine de_andV ?_ | with_reducible refine de_orV ?_ | with_reducible refine de_notV ?_ | with_reducible refine de_chain ?_ | with_reducible refine de_I0 ?_ | with_reducible refine de_B0 ?_ | with_reducible refine de_isInt ?_ | with_reducible refine de_isBl ?_ | with_reducible refine de_isTup ?_ | with_reducible refine de_isStr ?_ | with_reducible refine de_isRow ?_ | with_reducible refine de_len ?_ | with_reducible refine de_call ?_ | with_reducible refine de_ifx ?_ | with_reducible refine da_cons ?_ | with_reducible refine da_nil ?_
    | (with_reducible refine de_d (by with_unfolding_all rfl) ?_) | (with_reducible refine de_o (by with_unfolding_all rfl) ?_) | refine ⟨_, rfl, ?_⟩ | refine ⟨rfl, _, rfl, ?_⟩ | (with_reducible refine iteT' (by with_unfolding_all rfl) ?_) | (with_reducible refine iteF' (by with_unfolding_all rfl) ?_) | with_reducible refine de_count T ?_ | with_reducible refine de_overs T ?_ | with_reducible refine de_dates T ?_ | with_reducible refine de_kinds T ?_ | with_reducible refine de_nN ?_ | with_reducible refine de_nnN ?_ | refine ⟨_, _, rfl, ?_⟩ | refine ⟨_, _, _, rfl, ?_⟩ | refine ⟨_, rfl, rfl, ?_⟩)
    refine ⟨_, _, _, rfl, rfl, at_ b hb hb2, ?_⟩
    repeat (first
    | with_reducible refine dx_seq ?_ | with_reducible refine dx_ret ?_ | with_reducible refine dx_if ?_ | with_reducible refine dx_next ?_ | with_reducible refine dx_drop ?_ | with_reducible refine dx_asg ?_ | with_reducible refine dt_or ?_ | with_reducible refine dt_and ?_ | with_reducible refine dt_not ?_ | with_reducible refine dt_test ?_ | with_reducible refine dt_val ?_ | with_reducible refine de_int ?_ | with_reducible refine de_bl ?_ | with_reducible refine de_non ?_ | with_reducible refine de_str ?_ | with_reducible refine de_andV ?_ | with_reducible refine de_orV ?_ | with_reducible refine de_notV ?_ | with_reducible refine de_chain ?_ | with_reducible refine de_I0 ?_ | with_reducible refine de_B0 ?_ | with_reducible refine de_isInt ?_ | with_reducible refine de_isBl ?_ | with_reducible refine de_isTup ?_ | with_reducible refine de_isStr ?_ | with_reducible refine de_isRow ?_ | with_reducible refine de_len ?_ | with_reducible refine de_call ?_ | with_reducible refine de_ifx ?_ | with_reducible refine da_cons ?_ | with_reducible refine da_nil ?_
    | (with_reducible refine de_d (by with_unfolding_all rfl) ?_) | (with_reducible refine de_o (by with_unfolding_all rfl) ?_) | refine ⟨_, rfl, ?_⟩ | refine ⟨rfl, _, rfl, ?_⟩ | (with_reducible refine iteT' (by with_unfolding_all rfl) ?_) | (with_reducible refine iteF' (by with_unfolding_all rfl) ?_) | with_reducible refine de_count T ?_ | with_reducible refine de_overs T ?_ | with_reducible refine de_dates T ?_ | with_reducible refine de_kinds T ?_ | with_reducible refine de_nN ?_ | with_reducible refine de_nnN ?_ | refine ⟨_, _, rfl, ?_⟩ | refine ⟨_, _, _, rfl, ?_⟩ | refine ⟨_, rfl, rfl, ?_⟩)
    refine ⟨_, _, .non, rfl, rfl, atI_nat (j := 0) rfl, rfl, dao_nil ⟨_, _, rfl, ?_⟩⟩
    repeat (first
    | with_reducible refine dx_seq ?_ | with_reducible refine dx_ret ?_ | with_reducible refine dx_if ?_ | with_reducible refine dx_next ?_ | with_reducible refine dx_drop ?_ | with_reducible refine dx_asg ?_ | with_reducible refine dt_or ?_ | with_reducible refine dt_and ?_ | with_reducible refine dt_not ?_ | with_reducible refine dt_test ?_ | with_reducible refine dt_val ?_ | with_reducible refine de_int ?_ | with_reducible refine de_bl ?_ | with_reducible refine de_non ?_ | with_reducible refine de_str ?_ | with_reducible refine de_andV ?_ | with_reducible refine de_orV ?_ | with_reducible refine de_notV ?_ | with_reducible refine de_chain ?_ | with_reducible refine de_I0 ?_ | with_reducible refine de_B0 ?_ | with_reducible refine de_isInt ?_ | with_reducible refine de_isBl ?_ | with_reducible refine de_isTup ?_ | with_reducible refine de_isStr ?_ | with_reducible refine de_isRow ?_ | with_reducible refine de_len ?_ | with_reducible refine de_call ?_ | with_reducible refine de_ifx ?_ | with_reducible refine da_cons ?_ | with_reducible refine da_nil ?_
    | (with_reducible refine de_d (by with_unfolding_all rfl) ?_) | (with_reducible refine de_o (by with_unfolding_all rfl) ?_) | refine ⟨_, rfl, ?_⟩ | refine ⟨rfl, _, rfl, ?_⟩ | (with_reducible refine iteT' (by with_unfolding_all rfl) ?_) | (with_reducible refine iteF' (by with_unfolding_all rfl) ?_) | with_reducible refine de_count T ?_ | with_reducible refine de_overs T ?_ | with_reducible refine de_dates T ?_ | with_reducible refine de_kinds T ?_ | with_reducible refine de_nN ?_ | with_reducible refine de_nnN ?_ | refine ⟨_, _, rfl, ?_⟩ | refine ⟨_, _, _, rfl, ?_⟩ | refine ⟨_, rfl, rfl, ?_⟩)
    exact ⟨rfl, h⟩
  case hl =>
    rintro ds Q ⟨n, ov, a, b, rfl, _⟩
    rfl


/-- each over goes the way of the order: its first layer behind its second -/
def fitsO (ov : Ovs) (xs : List Int) : Bool := ov.all fun p => !decide (((xs.idxOf p.1 : Nat) : Int) < ((xs.idxOf p.2 : Nat) : Int))
def inO (ov : Ovs) (xs : List Int) : Prop := ∀ p ∈ ov, p.1 ∈ xs ∧ p.2 ∈ xs
theorem all_take {α : Type} {p : α → Bool} {xs : List α} (h : ∀ a ∈ xs.take xs.length, p a = true) : xs.all p = true := by
  rw [List.take_length] at h
  exact List.all_eq_true.mpr h
theorem take_one {α : Type} {xs : List α} {i : Nat} {a : α} (e : xs[i]? = some a) : xs.take (i + 1) = xs.take i ++ [a] := by
  rw [List.take_add_one, e] <;> rfl

def S_over_amiss : FS Kp := fun ds Q => ∃ n ov xs, ds = [bookD n ov, (mkd (placeM xs)).dat] ∧ inO ov xs ∧ ov.length ≤ 1000 ∧ (fitsO ov xs = true → Q (.v .non)) ∧ (fitsO ov xs = false → ∀ a b : Int, Q (.v (.tup [.str "over", .int a, .int b])))
abbrev s_over_amiss : Stmt := top 32
abbrev N_over_amiss : List Str := ["book", "place", "a", "b"]
theorem sc_over_amiss : FnScope N_over_amiss ["book", "place"] (defScope s_over_amiss) := ⟨rfl, rfl, rfl, by decide +kernel, rfl, by decide +kernel, by decide +kernel⟩
theorem has_over_amiss {k : Nat} (D : Def K mg "over_amiss" s_over_amiss ["book", "place"]) (T : Tx K CB CR) : Has P w K mg base "over_amiss" (k + 1) ["book", "place"] (spD (Zk K CB CR) S_over_amiss) := by
  refine D.has sc_over_amiss ?hl fun f cdv A outer s H E hr => ?bod
  case bod =>
    have hu1 := hu_of hr
    have hu0 := hu0_of hr
    have hu65 := hu65_of hr
    refine ⟨_, (pss_cons (ps_for PassesOwn.never rfl (kpi_sq (K := K) rfl (kpe_fld (K := K) rfl (pv 0))) (kpg_tup (K := K) (n := 2) rfl rfl (pgs_cons (pg_name (i := 2) sc_over_amiss.nd rfl (by first | exact Or.inl rfl | exact Or.inr rfl)) (pgs_cons (pg_name (i := 3) sc_over_amiss.nd rfl (by first | exact Or.inl rfl | exact Or.inr rfl)) pgs_nil))) (pss_one (ps_if (pt_cmpR (kop_lt (K := K) rfl hu0) (pe_dget hu1 (pv 1) (pv 2) (fun _ _ => rfl)) (pe_dget hu1 (pv 1) (pv 3) (fun _ _ => rfl)) (nomark _)) (pss_one (ps_ret (pe_tup (pa_cons pe_str (pa_cons (pv 2) (pa_cons (pv 3) pa_nil)))))) pss_nil)))
    (pss_one (ps_ret pe_non))), ?_⟩
    rintro ds Q ⟨n, ov, xs, rfl, hi, hl, h1, h2⟩
    refine dx_seq (dx_forE [2, 3] pairD (di_sq (de_overs T (de_d rfl ⟨n, ov, rfl, (ov.map pairD, none), rfl, ov, rfl, fun i τ2 => (∃ x y, τ2 = [.d (bookD n ov), .d (mkd (placeM xs)).dat, x, y]) ∧ ∀ q ∈ ov.take i, (!decide (((xs.idxOf q.1 : Nat) : Int) < ((xs.idxOf q.2 : Nat) : Int))) = true, ⟨⟨_, _, rfl⟩, fun q hq => (by simp at hq)⟩, fun _ _ _ => trivial, ?_, ?_⟩))))
    · rintro i ⟨a, b⟩ τ2 hq ⟨⟨x, y, rfl⟩, hf⟩
      have hm := hi (a, b) (List.mem_of_getElem? hq)
      refine dg_tp rfl (dgs_cn (dg_nm rfl (dgs_cn (dg_nm rfl (dgs_nl ?_)))))
      refine dx_if (dt_test (de_ltI (de_place (de_d rfl (de_d rfl ⟨xs, a, rfl, rfl, hm.1, _, rfl, de_place (de_d rfl (de_d rfl ⟨xs, b, rfl, rfl, hm.2, _, rfl, _, rfl, ?_⟩))⟩)))))
      refine iteB (fun c => ?_) (fun c => ?_)
      · refine dx_ret (de_tup ?_)
        repeat (first
    | with_reducible refine dx_seq ?_ | with_reducible refine dx_ret ?_ | with_reducible refine dx_if ?_ | with_reducible refine dx_next ?_ | with_reducible refine dx_drop ?_ | with_reducible refine dx_asg ?_ | with_reducible refine dt_or ?_ | with_reducible refine dt_and ?_ | with_reducible refine dt_not ?_ | with_reducible refine dt_test ?_ | with_reducible refine dt_val ?_ | with_reducible refine de_int ?_ | with_reducible refine de_bl ?_ | with_reducible refine de_non ?_ | with_reducible refine de_str ?_ | with_reducible refine de_andV ?_ | with_reducible refine de_orV ?_ | with_reducible refine de_notV ?_ | with_reducible refine de_chain ?_ | with_reducible refine de_I0 ?_ | with_reducible refine de_B0 ?_ | with_reducible refine de_isInt ?_ | with_reducible refine de_isBl ?_ | with_reducible refine de_isTup ?_ | with_reducible refine de_isStr ?_ | with_reducible refine de_isRow ?_ | with_reducible refine de_len ?_ | with_reducible refine de_call ?_ | with_reducible refine de_ifx ?_ | with_reducible refine da_cons ?_ | with_reducible refine da_nil ?_
    | (with_reducible refine de_d (by with_unfolding_all rfl) ?_) | (with_reducible refine de_o (by with_unfolding_all rfl) ?_) | refine ⟨_, rfl, ?_⟩ | refine ⟨rfl, _, rfl, ?_⟩ | (with_reducible refine iteT' (by with_unfolding_all rfl) ?_) | (with_reducible refine iteF' (by with_unfolding_all rfl) ?_) | with_reducible refine de_count T ?_ | with_reducible refine de_overs T ?_ | with_reducible refine de_dates T ?_ | with_reducible refine de_kinds T ?_ | with_reducible refine de_nN ?_ | with_reducible refine de_nnN ?_ | refine ⟨_, _, rfl, ?_⟩ | refine ⟨_, _, _, rfl, ?_⟩ | refine ⟨_, rfl, rfl, ?_⟩)
        refine ⟨[.str "over", .int a, .int b], rfl, by simp, ?_⟩
        refine ⟨rfl, h2 ?_ a b⟩
        cases q : fitsO ov xs with
        | false => rfl
        | true =>
          have := List.all_eq_true.mp q (a, b) (List.mem_of_getElem? hq)
          simp only [c] at this
          cases this
      · refine dx_next ⟨⟨_, _, rfl⟩, fun q hq2 => ?_⟩
        rw [take_one hq] at hq2
        rcases List.mem_append.mp hq2 with m | m
        · exact hf q m
        · rw [List.mem_singleton.mp m, c] <;> rfl
    · rintro τ2 ⟨⟨x, y, rfl⟩, hf⟩
      refine dx_ret (de_non ⟨rfl, h1 (all_take hf)⟩)
  case hl =>
    rintro ds Q ⟨n, ov, xs, rfl, _⟩
    rfl


def S_kind_amiss : FS Kp := fun ds Q => ∃ n ov o p, ds = [bookD n ov, o, p] ∧ Q (.v .non)
abbrev s_kind_amiss : Stmt := top 33
abbrev N_kind_amiss : List Str := ["book", "order", "place", "number", "kind", "spots", "layer"]
theorem sc_kind_amiss : FnScope N_kind_amiss ["book", "order", "place"] (defScope s_kind_amiss) := ⟨rfl, rfl, rfl, by decide +kernel, rfl, by decide +kernel, by decide +kernel⟩
theorem has_kind_amiss {k : Nat} (D : Def K mg "kind_amiss" s_kind_amiss ["book", "order", "place"]) (z_enumerate : mg "enumerate" = none) (z_min : mg "min" = none) (z_max : mg "max" = none) (T : Tx K CB CR) : Has P w K mg base "kind_amiss" (k + 1) ["book", "order", "place"] (spD (Zk K CB CR) S_kind_amiss) := by
  refine D.has sc_kind_amiss ?hl fun f cdv A outer s H E hr => ?bod
  case bod =>
    have hu1 := hu_of hr
    have hu0 := hu0_of hr
    have hu65 := hu65_of hr
    refine ⟨_, (pss_cons (ps_for PassesOwn.never rfl (kpi_enum (K := K) rfl (by rfl) z_enumerate (pa_cons (kpe_fld (K := K) rfl (pv 0)) pa_nil)) (kpg_tup (K := K) (n := 2) rfl rfl (pgs_cons (pg_name (i := 3) sc_kind_amiss.nd rfl (by first | exact Or.inl rfl | exact Or.inr rfl)) (pgs_cons (pg_name (i := 4) sc_kind_amiss.nd rfl (by first | exact Or.inl rfl | exact Or.inr rfl)) pgs_nil))) (pss_cons (ps_setLc (i := 5) (own := [("layer", 6)]) rfl sc_kind_amiss.nd rfl rfl (sw_true rfl rfl rfl (by decide +kernel)) (kpi_sq (K := K) rfl (pv 4)) (blkOk_by (N := N_kind_amiss) (sc := defScope s_kind_amiss) (by decide +kernel)) (fun _ _ _ _ _ => (pg_name (i := 6) sc_kind_amiss.nd rfl (by first | exact Or.inl rfl | exact Or.inr rfl))) (fun _ _ _ _ _ => pts_nil) (fun _ _ _ _ _ => (pe_dget hu1 (pv 2) (pv 6) (fun _ _ => rfl))))
    (pss_one (ps_for PassesOwn.never rfl (kpi_sq (K := K) rfl (pe_slice (ksl (K := K) rfl) (pv 1) (po_some (pe_callB (kmin (K := K) rfl rfl) (by rfl) z_min (by decide +kernel) (pa_cons (pv 5) pa_nil))) (po_some (pe_callB (kmax (K := K) rfl rfl) (by rfl) z_max (by decide +kernel) (pa_cons (pv 5) pa_nil))))) (pg_name (i := 6) sc_kind_amiss.nd rfl (by first | exact Or.inl rfl | exact Or.inr rfl)) (pss_one (ps_if (pt_cmpR (kop_nin (K := K) rfl hu65) (pv 6) (pv 4) (by with_unfolding_all rfl)) (pss_one (ps_ret (pe_tup (pa_cons pe_str (pa_cons (pv 3) (pa_cons (pv 6) pa_nil)))))) pss_nil))))))
    (pss_one (ps_ret pe_non))), ?_⟩
    rintro ds Q ⟨n, ov, o, p, rfl, h⟩
    refine dx_seq (dx_forE [3, 4] (fun _ : Unit => .non) (di_enum (da_cons (de_kinds T (de_d rfl ⟨n, ov, rfl, da_nil ⟨_, ([], none), rfl, rfl, [], rfl, fun _ _ => True, trivial, fun _ _ _ => trivial, ?_, ?_⟩⟩)))))
    · intro i a τ2 hq
      simp at hq
    · intro τ2 _
      exact dx_ret (de_non ⟨rfl, h⟩)
  case hl =>
    rintro ds Q ⟨n, ov, o, p, rfl, _⟩
    rfl


def S_date_amiss : FS Kp := fun ds Q => ∃ n ov xs, ds = [bookD n ov, (mkd (placeM xs)).dat] ∧ n ≤ 100 ∧ xs.Perm (ups n) ∧ Q (.v .non)
abbrev s_date_amiss : Stmt := top 34
abbrev N_date_amiss : List Str := ["book", "place", "a", "b"]
theorem sc_date_amiss : FnScope N_date_amiss ["book", "place"] (defScope s_date_amiss) := ⟨rfl, rfl, rfl, by decide +kernel, rfl, by decide +kernel, by decide +kernel⟩
theorem has_date_amiss {k : Nat} (D : Def K mg "date_amiss" s_date_amiss ["book", "place"]) (z_range : mg "range" = none) (h_is_dated : Has P w K mg base "is_dated" k ["book", "a", "b"] (spD (Zk K CB CR) S_is_dated)) (T : Tx K CB CR) : Has P w K mg base "date_amiss" (k + 1) ["book", "place"] (spD (Zk K CB CR) S_date_amiss) := by
  refine D.has sc_date_amiss ?hl fun f cdv A outer s H E hr => ?bod
  case bod =>
    have hu1 := hu_of hr
    have hu0 := hu0_of hr
    have hu65 := hu65_of hr
    refine ⟨_, (pss_cons (ps_for PassesOwn.never rfl (pi_range1 (by rfl) z_range (pa_cons (kpe_fld (K := K) rfl (pv 0)) pa_nil)) (pg_name (i := 2) sc_date_amiss.nd rfl (by first | exact Or.inl rfl | exact Or.inr rfl)) (pss_one (ps_for PassesOwn.never rfl (pi_range1 (by rfl) z_range (pa_cons (kpe_fld (K := K) rfl (pv 0)) pa_nil)) (pg_name (i := 3) sc_date_amiss.nd rfl (by first | exact Or.inl rfl | exact Or.inr rfl)) (pss_one (ps_if (PW.pt (pw_and (pt_cmpR (kop_ne (K := K) rfl hu65) (pv 2) (pv 3) (nomark _)) (pw_and (pt_cmpR (kop_lt (K := K) rfl hu0) (pe_dget hu1 (pv 1) (pv 2) (fun _ _ => rfl)) (pe_dget hu1 (pv 1) (pv 3) (fun _ _ => rfl)) (nomark _)) (pw_and1 (pt_val (pe_callH h_is_dated hr (by rfl) (pa_cons (pv 0) (pa_cons (pv 3) (pa_cons (pv 2) pa_nil))))))))) (pss_one (ps_ret (pe_tup (pa_cons pe_str (pa_cons (pv 2) (pa_cons (pv 3) pa_nil)))))) pss_nil)))))
    (pss_one (ps_ret pe_non))), ?_⟩
    rintro ds Q ⟨n, ov, xs, rfl, hn, hp, h⟩
    have hi : ∀ a ∈ ups n, a ∈ xs := fun a ha => hp.mem_iff.mpr ha
    refine dx_seq (dx_forE [2] .int (di_rng1 (da_cons (de_count T (de_d rfl ⟨n, ov, rfl, da_nil ⟨n, rfl, by omega, by omega, ups n, range_up n, fun i τ2 => ∃ x y, τ2 = [.d (bookD n ov), .d (mkd (placeM xs)).dat, x, y], ⟨_, _, rfl⟩, fun _ _ _ => trivial, ?_, ?_⟩⟩)))))
    · rintro i a τ2 hq ⟨x, y, rfl⟩
      have ha := mem_ups.mp (List.mem_of_getElem? hq)
      have ha2 := hi a (List.mem_of_getElem? hq)
      refine dg_nm rfl (dx_forE [3] .int (di_rng1 (da_cons (de_count T (de_d rfl ⟨n, ov, rfl, da_nil ⟨n, rfl, by omega, by omega, ups n, range_up n, fun i τ2 => ∃ y, τ2 = [.d (bookD n ov), .d (mkd (placeM xs)).dat, .d (.int a), y], ⟨_, rfl⟩, fun _ _ _ => trivial, ?_, ?_⟩⟩)))))
      · rintro j b τ2 hq ⟨y, rfl⟩
        have hb := mem_ups.mp (List.mem_of_getElem? hq)
        have hb2 := hi b (List.mem_of_getElem? hq)
        have fin : ∀ {τ3 : List (SL Kp)}, τ3 = [.d (bookD n ov), .d (mkd (placeM xs)).dat, .d (.int a), .d (.int b)] → DX (Zk K CB CR) tNext τ3 { nx := fun τ2 => ∃ y, τ2 = [.d (bookD n ov), .d (mkd (placeM xs)).dat, .d (.int a), y], rt := fun _ => False } := fun e => dx_next ⟨_, e⟩
        refine dg_nm rfl (dx_if (dt_and (dt_test (de_ne (de_d rfl (de_d rfl ⟨_, _, rfl, rfl, rfl, rfl, _, rfl, ?_⟩))))))
        refine iteB (fun c => ?_) (fun c => ?_)
        · refine dt_and (dt_test (de_ltI (de_place (de_d rfl (de_d rfl ⟨xs, a, rfl, rfl, ha2, _, rfl, de_place (de_d rfl (de_d rfl ⟨xs, b, rfl, rfl, hb2, _, rfl, _, rfl, ?_⟩))⟩)))))
          refine iteB (fun c => ?_) (fun c => ?_)
          · refine dt_val (de_call ?_)
            repeat (first
    | with_reducible refine dx_seq ?_ | with_reducible refine dx_ret ?_ | with_reducible refine dx_if ?_ | with_reducible refine dx_next ?_ | with_reducible refine dx_drop ?_ | with_reducible refine dx_asg ?_ | with_reducible refine dt_or ?_ | with_reducible refine dt_and ?_ | with_reducible refine dt_not ?_ | with_reducible refine dt_test ?_ | with_reducible refine dt_val ?_ | with_reducible refine de_int ?_ | with_reducible refine de_bl ?_ | with_reducible refine de_non ?_ | with_reducible refine de_str ?_ | with_reducible refine de_andV ?_ | with_reducible refine de_orV ?_ | with_reducible refine de_notV ?_ | with_reducible refine de_chain ?_ | with_reducible refine de_I0 ?_ | with_reducible refine de_B0 ?_ | with_reducible refine de_isInt ?_ | with_reducible refine de_isBl ?_ | with_reducible refine de_isTup ?_ | with_reducible refine de_isStr ?_ | with_reducible refine de_isRow ?_ | with_reducible refine de_len ?_ | with_reducible refine de_call ?_ | with_reducible refine de_ifx ?_ | with_reducible refine da_cons ?_ | with_reducible refine da_nil ?_
    | (with_reducible refine de_d (by with_unfolding_all rfl) ?_) | (with_reducible refine de_o (by with_unfolding_all rfl) ?_) | refine ⟨_, rfl, ?_⟩ | refine ⟨rfl, _, rfl, ?_⟩ | (with_reducible refine iteT' (by with_unfolding_all rfl) ?_) | (with_reducible refine iteF' (by with_unfolding_all rfl) ?_) | with_reducible refine de_count T ?_ | with_reducible refine de_overs T ?_ | with_reducible refine de_dates T ?_ | with_reducible refine de_kinds T ?_ | with_reducible refine de_nN ?_ | with_reducible refine de_nnN ?_ | refine ⟨_, _, rfl, ?_⟩ | refine ⟨_, _, _, rfl, ?_⟩ | refine ⟨_, rfl, rfl, ?_⟩)
            exact ⟨n, ov, b, a, rfl, hb.1, hb.2, ha.1, ha.2, _, rfl, iteF' rfl (dx_next ⟨_, rfl⟩)⟩
          · exact iteF' rfl (dx_next ⟨_, rfl⟩)
        · exact iteF' rfl (dx_next ⟨_, rfl⟩)
      · rintro τ2 ⟨y, rfl⟩
        exact ⟨_, _, rfl⟩
    · rintro τ2 ⟨x, y, rfl⟩
      exact dx_ret (de_non ⟨rfl, h⟩)
  case hl =>
    rintro ds Q ⟨n, ov, xs, rfl, _⟩
    rfl


def S_amiss_in : FS Kp := fun ds Q => ∃ n ov xs, ds = [bookD n ov, intsD xs] ∧ n ≤ 100 ∧ xs.Perm (ups n) ∧ inO ov xs ∧ ov.length ≤ 1000 ∧ (fitsO ov xs = true → Q (.v .non)) ∧ (fitsO ov xs = false → ∀ a b : Int, Q (.v (.tup [.str "over", .int a, .int b])))
abbrev s_amiss_in : Stmt := top 35
abbrev N_amiss_in : List Str := ["book", "order", "place", "found"]
theorem sc_amiss_in : FnScope N_amiss_in ["book", "order"] (defScope s_amiss_in) := ⟨rfl, rfl, rfl, by decide +kernel, rfl, by decide +kernel, by decide +kernel⟩
theorem has_amiss_in {k : Nat} (D : Def K mg "amiss_in" s_amiss_in ["book", "order"]) (h_place_of : Has P w K mg base "place_of" k ["order"] (spD (Zk K CB CR) S_place_of)) (h_over_amiss : Has P w K mg base "over_amiss" k ["book", "place"] (spD (Zk K CB CR) S_over_amiss)) (h_kind_amiss : Has P w K mg base "kind_amiss" k ["book", "order", "place"] (spD (Zk K CB CR) S_kind_amiss)) (h_date_amiss : Has P w K mg base "date_amiss" k ["book", "place"] (spD (Zk K CB CR) S_date_amiss)) (T : Tx K CB CR) : Has P w K mg base "amiss_in" (k + 1) ["book", "order"] (spD (Zk K CB CR) S_amiss_in) := by
  refine D.has sc_amiss_in ?hl fun f cdv A outer s H E hr => ?bod
  case bod =>
    have hu1 := hu_of hr
    have hu0 := hu0_of hr
    have hu65 := hu65_of hr
    refine ⟨_, (pss_cons (ps_set (i := 2) sc_amiss_in.nd rfl (by first | exact Or.inl rfl | exact Or.inr rfl) (pe_callH h_place_of hr (by rfl) (pa_cons (pv 1) pa_nil)))
    (pss_cons (ps_set (i := 3) sc_amiss_in.nd rfl (by first | exact Or.inl rfl | exact Or.inr rfl) (pe_callH h_over_amiss hr (by rfl) (pa_cons (pv 0) (pa_cons (pv 2) pa_nil))))
    (pss_cons (ps_set (i := 3) sc_amiss_in.nd rfl (by first | exact Or.inl rfl | exact Or.inr rfl) (pe_ifExp (pt_cmp (pc_isN (pv 3))) (pe_callH h_kind_amiss hr (by rfl) (pa_cons (pv 0) (pa_cons (pv 1) (pa_cons (pv 2) pa_nil)))) (pv 3)))
    (pss_one (ps_ret (pe_ifExp (pt_cmp (pc_isN (pv 3))) (pe_callH h_date_amiss hr (by rfl) (pa_cons (pv 0) (pa_cons (pv 2) pa_nil))) (pv 3))))))), ?_⟩
    rintro ds Q ⟨n, ov, xs, rfl, hn, hp, hi, hl, h1, h2⟩
    have hx : xs.length = n := by rw [hp.length_eq, ups_len]
    refine dx_seq (dx_asg (de_call (da_cons (de_d rfl (da_nil ⟨xs, rfl, by omega, hp.nodup_iff.mpr (ups_nodup n), fun p => ?_⟩)))))
    refine dx_seq (dx_asg (de_call (da_cons (de_d rfl (da_cons (de_o rfl (da_nil ⟨n, ov, xs, rfl, hi, hl, fun c => ?_, fun c a b => ?_⟩)))))))
    · repeat (first
    | with_reducible refine dx_seq ?_ | with_reducible refine dx_ret ?_ | with_reducible refine dx_if ?_ | with_reducible refine dx_next ?_ | with_reducible refine dx_drop ?_ | with_reducible refine dx_asg ?_ | with_reducible refine dt_or ?_ | with_reducible refine dt_and ?_ | with_reducible refine dt_not ?_ | with_reducible refine dt_test ?_ | with_reducible refine dt_val ?_ | with_reducible refine de_int ?_ | with_reducible refine de_bl ?_ | with_reducible refine de_non ?_ | with_reducible refine de_str ?_ | with_reducible refine de_andV ?_ | with_reducible refine de_orV ?_ | with_reducible refine de_notV ?_ | with_reducible refine de_chain ?_ | with_reducible refine de_I0 ?_ | with_reducible refine de_B0 ?_ | with_reducible refine de_isInt ?_ | with_reducible refine de_isBl ?_ | with_reducible refine de_isTup ?_ | with_reducible refine de_isStr ?_ | with_reducible refine de_isRow ?_ | with_reducible refine de_len ?_ | with_reducible refine de_call ?_ | with_reducible refine de_ifx ?_ | with_reducible refine da_cons ?_ | with_reducible refine da_nil ?_
    | (with_reducible refine de_d (by with_unfolding_all rfl) ?_) | (with_reducible refine de_o (by with_unfolding_all rfl) ?_) | refine ⟨_, rfl, ?_⟩ | refine ⟨rfl, _, rfl, ?_⟩ | (with_reducible refine iteT' (by with_unfolding_all rfl) ?_) | (with_reducible refine iteF' (by with_unfolding_all rfl) ?_) | with_reducible refine de_count T ?_ | with_reducible refine de_overs T ?_ | with_reducible refine de_dates T ?_ | with_reducible refine de_kinds T ?_ | with_reducible refine de_nN ?_ | with_reducible refine de_nnN ?_ | refine ⟨_, _, rfl, ?_⟩ | refine ⟨_, _, _, rfl, ?_⟩ | refine ⟨_, rfl, rfl, ?_⟩)
      refine ⟨_, _, _, _, rfl, ?_⟩
      repeat (first
    | with_reducible refine dx_seq ?_ | with_reducible refine dx_ret ?_ | with_reducible refine dx_if ?_ | with_reducible refine dx_next ?_ | with_reducible refine dx_drop ?_ | with_reducible refine dx_asg ?_ | with_reducible refine dt_or ?_ | with_reducible refine dt_and ?_ | with_reducible refine dt_not ?_ | with_reducible refine dt_test ?_ | with_reducible refine dt_val ?_ | with_reducible refine de_int ?_ | with_reducible refine de_bl ?_ | with_reducible refine de_non ?_ | with_reducible refine de_str ?_ | with_reducible refine de_andV ?_ | with_reducible refine de_orV ?_ | with_reducible refine de_notV ?_ | with_reducible refine de_chain ?_ | with_reducible refine de_I0 ?_ | with_reducible refine de_B0 ?_ | with_reducible refine de_isInt ?_ | with_reducible refine de_isBl ?_ | with_reducible refine de_isTup ?_ | with_reducible refine de_isStr ?_ | with_reducible refine de_isRow ?_ | with_reducible refine de_len ?_ | with_reducible refine de_call ?_ | with_reducible refine de_ifx ?_ | with_reducible refine da_cons ?_ | with_reducible refine da_nil ?_
    | (with_reducible refine de_d (by with_unfolding_all rfl) ?_) | (with_reducible refine de_o (by with_unfolding_all rfl) ?_) | refine ⟨_, rfl, ?_⟩ | refine ⟨rfl, _, rfl, ?_⟩ | (with_reducible refine iteT' (by with_unfolding_all rfl) ?_) | (with_reducible refine iteF' (by with_unfolding_all rfl) ?_) | with_reducible refine de_count T ?_ | with_reducible refine de_overs T ?_ | with_reducible refine de_dates T ?_ | with_reducible refine de_kinds T ?_ | with_reducible refine de_nN ?_ | with_reducible refine de_nnN ?_ | refine ⟨_, _, rfl, ?_⟩ | refine ⟨_, _, _, rfl, ?_⟩ | refine ⟨_, rfl, rfl, ?_⟩)
      exact ⟨hn, hp, rfl, h1 c⟩
    · repeat (first
    | with_reducible refine dx_seq ?_ | with_reducible refine dx_ret ?_ | with_reducible refine dx_if ?_ | with_reducible refine dx_next ?_ | with_reducible refine dx_drop ?_ | with_reducible refine dx_asg ?_ | with_reducible refine dt_or ?_ | with_reducible refine dt_and ?_ | with_reducible refine dt_not ?_ | with_reducible refine dt_test ?_ | with_reducible refine dt_val ?_ | with_reducible refine de_int ?_ | with_reducible refine de_bl ?_ | with_reducible refine de_non ?_ | with_reducible refine de_str ?_ | with_reducible refine de_andV ?_ | with_reducible refine de_orV ?_ | with_reducible refine de_notV ?_ | with_reducible refine de_chain ?_ | with_reducible refine de_I0 ?_ | with_reducible refine de_B0 ?_ | with_reducible refine de_isInt ?_ | with_reducible refine de_isBl ?_ | with_reducible refine de_isTup ?_ | with_reducible refine de_isStr ?_ | with_reducible refine de_isRow ?_ | with_reducible refine de_len ?_ | with_reducible refine de_call ?_ | with_reducible refine de_ifx ?_ | with_reducible refine da_cons ?_ | with_reducible refine da_nil ?_
    | (with_reducible refine de_d (by with_unfolding_all rfl) ?_) | (with_reducible refine de_o (by with_unfolding_all rfl) ?_) | refine ⟨_, rfl, ?_⟩ | refine ⟨rfl, _, rfl, ?_⟩ | (with_reducible refine iteT' (by with_unfolding_all rfl) ?_) | (with_reducible refine iteF' (by with_unfolding_all rfl) ?_) | with_reducible refine de_count T ?_ | with_reducible refine de_overs T ?_ | with_reducible refine de_dates T ?_ | with_reducible refine de_kinds T ?_ | with_reducible refine de_nN ?_ | with_reducible refine de_nnN ?_ | refine ⟨_, _, rfl, ?_⟩ | refine ⟨_, _, _, rfl, ?_⟩ | refine ⟨_, rfl, rfl, ?_⟩)
      exact ⟨rfl, h2 c a b⟩
  case hl =>
    rintro ds Q ⟨n, ov, xs, rfl, _⟩
    rfl


def S_amiss : FS Kp := S_amiss_in
abbrev s_amiss : Stmt := top 36
abbrev N_amiss : List Str := ["book", "order"]
theorem sc_amiss : FnScope N_amiss ["book", "order"] (defScope s_amiss) := ⟨rfl, rfl, rfl, by decide +kernel, rfl, by decide +kernel, by decide +kernel⟩
theorem has_amiss {k : Nat} (D : Def K mg "amiss" s_amiss ["book", "order"]) (h_check_order : Has P w K mg base "check_order" k ["book", "order"] (spD (Zk K CB CR) S_check_order)) (h_amiss_in : Has P w K mg base "amiss_in" k ["book", "order"] (spD (Zk K CB CR) S_amiss_in)) (T : Tx K CB CR) : Has P w K mg base "amiss" (k + 1) ["book", "order"] (spD (Zk K CB CR) S_amiss) := by
  refine D.has sc_amiss ?hl fun f cdv A outer s H E hr => ?bod
  case bod =>
    have hu1 := hu_of hr
    have hu0 := hu0_of hr
    have hu65 := hu65_of hr
    refine ⟨_, (pss_cons (ps_expr (pe_callH h_check_order hr (by rfl) (pa_cons (pv 0) (pa_cons (pv 1) pa_nil))))
    (pss_one (ps_ret (pe_callH h_amiss_in hr (by rfl) (pa_cons (pv 0) (pa_cons (pv 1) pa_nil)))))), ?_⟩
    rintro ds Q ⟨n, ov, xs, rfl, hn, hp, hi, hl, h1, h2⟩
    have hx : xs.length = n := by rw [hp.length_eq, ups_len]
    refine dx_seq (dx_drop (de_call ?_))
    repeat (first
    | with_reducible refine dx_seq ?_ | with_reducible refine dx_ret ?_ | with_reducible refine dx_if ?_ | with_reducible refine dx_next ?_ | with_reducible refine dx_drop ?_ | with_reducible refine dx_asg ?_ | with_reducible refine dt_or ?_ | with_reducible refine dt_and ?_ | with_reducible refine dt_not ?_ | with_reducible refine dt_test ?_ | with_reducible refine dt_val ?_ | with_reducible refine de_int ?_ | with_reducible refine de_bl ?_ | with_reducible refine de_non ?_ | with_reducible refine de_str ?_ | with_reducible refine de_andV ?_ | with_reducible refine de_orV ?_ | with_reducible refine de_notV ?_ | with_reducible refine de_chain ?_ | with_reducible refine de_I0 ?_ | with_reducible refine de_B0 ?_ | with_reducible refine de_isInt ?_ | with_reducible refine de_isBl ?_ | with_reducible refine de_isTup ?_ | with_reducible refine de_isStr ?_ | with_reducible refine de_isRow ?_ | with_reducible refine de_len ?_ | with_reducible refine de_call ?_ | with_reducible refine de_ifx ?_ | with_reducible refine da_cons ?_ | with_reducible refine da_nil ?_
    | (with_reducible refine de_d (by with_unfolding_all rfl) ?_) | (with_reducible refine de_o (by with_unfolding_all rfl) ?_) | refine ⟨_, rfl, ?_⟩ | refine ⟨rfl, _, rfl, ?_⟩ | (with_reducible refine iteT' (by with_unfolding_all rfl) ?_) | (with_reducible refine iteF' (by with_unfolding_all rfl) ?_) | with_reducible refine de_count T ?_ | with_reducible refine de_overs T ?_ | with_reducible refine de_dates T ?_ | with_reducible refine de_kinds T ?_ | with_reducible refine de_nN ?_ | with_reducible refine de_nnN ?_ | refine ⟨_, _, rfl, ?_⟩ | refine ⟨_, _, _, rfl, ?_⟩ | refine ⟨_, rfl, rfl, ?_⟩)
    refine ⟨hn, by omega, decide_eq_true (srt_ups.mpr hp), ?_⟩
    refine dx_ret (de_call ?_)
    repeat (first
    | with_reducible refine dx_seq ?_ | with_reducible refine dx_ret ?_ | with_reducible refine dx_if ?_ | with_reducible refine dx_next ?_ | with_reducible refine dx_drop ?_ | with_reducible refine dx_asg ?_ | with_reducible refine dt_or ?_ | with_reducible refine dt_and ?_ | with_reducible refine dt_not ?_ | with_reducible refine dt_test ?_ | with_reducible refine dt_val ?_ | with_reducible refine de_int ?_ | with_reducible refine de_bl ?_ | with_reducible refine de_non ?_ | with_reducible refine de_str ?_ | with_reducible refine de_andV ?_ | with_reducible refine de_orV ?_ | with_reducible refine de_notV ?_ | with_reducible refine de_chain ?_ | with_reducible refine de_I0 ?_ | with_reducible refine de_B0 ?_ | with_reducible refine de_isInt ?_ | with_reducible refine de_isBl ?_ | with_reducible refine de_isTup ?_ | with_reducible refine de_isStr ?_ | with_reducible refine de_isRow ?_ | with_reducible refine de_len ?_ | with_reducible refine de_call ?_ | with_reducible refine de_ifx ?_ | with_reducible refine da_cons ?_ | with_reducible refine da_nil ?_
    | (with_reducible refine de_d (by with_unfolding_all rfl) ?_) | (with_reducible refine de_o (by with_unfolding_all rfl) ?_) | refine ⟨_, rfl, ?_⟩ | refine ⟨rfl, _, rfl, ?_⟩ | (with_reducible refine iteT' (by with_unfolding_all rfl) ?_) | (with_reducible refine iteF' (by with_unfolding_all rfl) ?_) | with_reducible refine de_count T ?_ | with_reducible refine de_overs T ?_ | with_reducible refine de_dates T ?_ | with_reducible refine de_kinds T ?_ | with_reducible refine de_nN ?_ | with_reducible refine de_nnN ?_ | refine ⟨_, _, rfl, ?_⟩ | refine ⟨_, _, _, rfl, ?_⟩ | refine ⟨_, rfl, rfl, ?_⟩)
    exact ⟨hn, hp, hi, hl, fun c => ⟨rfl, h1 c⟩, fun c a b => ⟨rfl, h2 c a b⟩⟩
  case hl =>
    rintro ds Q ⟨n, ov, xs, rfl, _⟩
    rfl


end K67
set_option Elab.async false
set_option linter.all false
set_option maxRecDepth 100000
namespace K67
open PySem PySem.Spec PyProof.Rows L2 DL RZ
/-! K4: grids -/
variable {P : Program} {w : World} {K : PySem.W.Frag} {mg : Str → Option Value} {base : Heap} {CB CR : Addr}

/-- a column of a grid of n layers -/
def okC (n : Nat) (c : List Int) : Prop := 1 ≤ c.length ∧ c.length ≤ n ∧ (∀ a ∈ c, 0 ≤ a ∧ a < n) ∧ c.Nodup
abbrev Grid := List (List Int)
def pairsOf (g : Grid) : Ovs := g.flatMap fun c => c.zip (c.drop 1)
structure okG (n : Nat) (g : Grid) : Prop where
  n2 : 2 ≤ n
  n16 : n ≤ 16
  g1 : 1 ≤ g.length
  g20 : g.length ≤ 20
  col : ∀ c ∈ g, okC n c
  few : (pairsOf g).length ≤ 100
theorem okC.all {n : Nat} {c : List Int} (h : okC n c) : (c.all fun a => within a 0 (n - 1)) = true := by
  rw [List.all_eq_true]
  intro a ha
  have := h.2.2.1 a ha
  rw [within_iff]
  omega
theorem any_ints (xs : List Int) (b : Int) : ((xs.map (.int : Int → Dk)).any fun z => eqD z (.int b)) = decide (b ∈ xs) := by
  induction xs with
  | nil => simp
  | cons x xs ih =>
    rw [List.map_cons, List.any_cons, ih, eqD_int]
    by_cases h : x = b
    · simp [h]
    · have : (b = x) = False := by simp; exact fun q => h q.symm
      simp [h, this]
theorem lay_intsL (xs : List Int) : lay 60 (.lst (xs.map (.int : Int → Dk))) = true := by simp [lay, lays_ints]
theorem lay_intsT (xs : List Int) : lay 60 (.tup (xs.map (.int : Int → Dk))) = true := by simp [lay, lays_ints]

def S_is_column : FS Kp := fun ds Q => ∃ n c, ds = [.int (n : Nat), intsD c] ∧ n ≤ 16 ∧ okC n c ∧ Q (.v (.bl true))
abbrev s_is_column : Stmt := top 39
abbrev N_is_column : List Str := ["count", "thing", "layer"]
theorem sc_is_column : FnScope N_is_column ["count", "thing"] (defScope s_is_column) := ⟨rfl, rfl, rfl, by decide +kernel, rfl, by decide +kernel, by decide +kernel⟩
theorem has_is_column {k : Nat} (D : Def K mg "is_column" s_is_column ["count", "thing"]) (z_all : mg "all" = none) (z_len : mg "len" = none) (z_set : mg "set" = none) (h_is_tuple : Has P w K mg base "is_tuple" k ["thing", "least", "most"] (spD (Zk K CB CR) S_is_tuple)) (h_is_within : Has P w K mg base "is_within" k ["thing", "low", "high"] (spD (Zk K CB CR) S_is_within)) (T : Tx K CB CR) : Has P w K mg base "is_column" (k + 1) ["count", "thing"] (spD (Zk K CB CR) S_is_column) := by
  refine D.has sc_is_column ?hl fun f cdv A outer s H E hr => ?bod
  case bod =>
    have hu1 := hu_of hr
    have hu0 := hu0_of hr
    have hu65 := hu65_of hr
    refine ⟨_, (pss_cons (ps_if (PW.pt (pw_or (pt_not (pt_val (pe_callH h_is_tuple hr (by rfl) (pa_cons (pv 1) (pa_cons pe_int (pa_cons (pv 0) pa_nil)))))) (pw_or1 (pt_not (pt_val (pe_callB (kall (K := K) rfl rfl) (by rfl) z_all (by decide +kernel) (pa_cons (pe_lc (own := [("layer", 2)]) rfl sc_is_column.nd (kpi_sq (K := K) rfl (pv 1)) (blkOk_by (N := N_is_column) (sc := defScope s_is_column) (by decide +kernel)) (fun _ _ _ _ _ => (pg_name (i := 2) sc_is_column.nd rfl (by first | exact Or.inl rfl | exact Or.inr rfl))) (fun _ _ _ _ _ => pts_nil) (fun _ _ _ _ _ => (pe_callH h_is_within hr (by rfl) (pa_cons (pv 2) (pa_cons pe_int (pa_cons (pe_op op_sub (pv 0) pe_int) pa_nil)))))) pa_nil))))))) (pss_one (ps_ret pe_bl)) pss_nil)
    (pss_one (ps_ret (pe_cmpR (kop_eq (K := K) rfl hu65) (pe_lenSetT (K := K) rfl (by rfl) z_len (by rfl) z_set (pv 1)) (pe_callB (klen (K := K) rfl) (by rfl) z_len (by decide +kernel) (pa_cons (pv 1) pa_nil)) (nomark _))))), ?_⟩
    rintro ds Q ⟨n, c, rfl, hn, hc, h⟩
    have ht : within ((c.map (.int : Int → Dk)).length : Nat) 1 (n : Nat) = true := by
      rw [List.length_map, within_iff]
      have := hc.1; have := hc.2.1
      omega
    refine dx_seq (dx_if (dt_or (dt_not (dt_val (de_call ?_)))))
    repeat (first
    | with_reducible refine dx_seq ?_ | with_reducible refine dx_ret ?_ | with_reducible refine dx_if ?_ | with_reducible refine dx_next ?_ | with_reducible refine dx_drop ?_ | with_reducible refine dx_asg ?_ | with_reducible refine dt_or ?_ | with_reducible refine dt_and ?_ | with_reducible refine dt_not ?_ | with_reducible refine dt_test ?_ | with_reducible refine dt_val ?_ | with_reducible refine de_int ?_ | with_reducible refine de_bl ?_ | with_reducible refine de_non ?_ | with_reducible refine de_str ?_ | with_reducible refine de_andV ?_ | with_reducible refine de_orV ?_ | with_reducible refine de_notV ?_ | with_reducible refine de_chain ?_ | with_reducible refine de_I0 ?_ | with_reducible refine de_B0 ?_ | with_reducible refine de_isInt ?_ | with_reducible refine de_isBl ?_ | with_reducible refine de_isTup ?_ | with_reducible refine de_isStr ?_ | with_reducible refine de_isRow ?_ | with_reducible refine de_len ?_ | with_reducible refine de_call ?_ | with_reducible refine de_ifx ?_ | with_reducible refine da_cons ?_ | with_reducible refine da_nil ?_
    | (with_reducible refine de_d (by with_unfolding_all rfl) ?_) | (with_reducible refine de_o (by with_unfolding_all rfl) ?_) | refine ⟨_, rfl, ?_⟩ | refine ⟨rfl, _, rfl, ?_⟩ | (with_reducible refine iteT' (by with_unfolding_all rfl) ?_) | (with_reducible refine iteF' (by with_unfolding_all rfl) ?_) | with_reducible refine de_count T ?_ | with_reducible refine de_overs T ?_ | with_reducible refine de_dates T ?_ | with_reducible refine de_kinds T ?_ | with_reducible refine de_nN ?_ | with_reducible refine de_nnN ?_ | refine ⟨_, _, rfl, ?_⟩ | refine ⟨_, _, _, rfl, ?_⟩ | refine ⟨_, rfl, rfl, ?_⟩)
    rw [ht]
    repeat (first
    | with_reducible refine dx_seq ?_ | with_reducible refine dx_ret ?_ | with_reducible refine dx_if ?_ | with_reducible refine dx_next ?_ | with_reducible refine dx_drop ?_ | with_reducible refine dx_asg ?_ | with_reducible refine dt_or ?_ | with_reducible refine dt_and ?_ | with_reducible refine dt_not ?_ | with_reducible refine dt_test ?_ | with_reducible refine dt_val ?_ | with_reducible refine de_int ?_ | with_reducible refine de_bl ?_ | with_reducible refine de_non ?_ | with_reducible refine de_str ?_ | with_reducible refine de_andV ?_ | with_reducible refine de_orV ?_ | with_reducible refine de_notV ?_ | with_reducible refine de_chain ?_ | with_reducible refine de_I0 ?_ | with_reducible refine de_B0 ?_ | with_reducible refine de_isInt ?_ | with_reducible refine de_isBl ?_ | with_reducible refine de_isTup ?_ | with_reducible refine de_isStr ?_ | with_reducible refine de_isRow ?_ | with_reducible refine de_len ?_ | with_reducible refine de_call ?_ | with_reducible refine de_ifx ?_ | with_reducible refine da_cons ?_ | with_reducible refine da_nil ?_
    | (with_reducible refine de_d (by with_unfolding_all rfl) ?_) | (with_reducible refine de_o (by with_unfolding_all rfl) ?_) | refine ⟨_, rfl, ?_⟩ | refine ⟨rfl, _, rfl, ?_⟩ | (with_reducible refine iteT' (by with_unfolding_all rfl) ?_) | (with_reducible refine iteF' (by with_unfolding_all rfl) ?_) | with_reducible refine de_count T ?_ | with_reducible refine de_overs T ?_ | with_reducible refine de_dates T ?_ | with_reducible refine de_kinds T ?_ | with_reducible refine de_nN ?_ | with_reducible refine de_nnN ?_ | refine ⟨_, _, rfl, ?_⟩ | refine ⟨_, _, _, rfl, ?_⟩ | refine ⟨_, rfl, rfl, ?_⟩)
    refine de_allC .int (fun a => within a 0 (n - 1)) (di_sq (de_d rfl ⟨_, rfl, c, rfl, fun a ha => dg_nm rfl ?_, rfl, by have := hc.2.1; omega, rfl, ?_⟩))
    · repeat (first
    | with_reducible refine dx_seq ?_ | with_reducible refine dx_ret ?_ | with_reducible refine dx_if ?_ | with_reducible refine dx_next ?_ | with_reducible refine dx_drop ?_ | with_reducible refine dx_asg ?_ | with_reducible refine dt_or ?_ | with_reducible refine dt_and ?_ | with_reducible refine dt_not ?_ | with_reducible refine dt_test ?_ | with_reducible refine dt_val ?_ | with_reducible refine de_int ?_ | with_reducible refine de_bl ?_ | with_reducible refine de_non ?_ | with_reducible refine de_str ?_ | with_reducible refine de_andV ?_ | with_reducible refine de_orV ?_ | with_reducible refine de_notV ?_ | with_reducible refine de_chain ?_ | with_reducible refine de_I0 ?_ | with_reducible refine de_B0 ?_ | with_reducible refine de_isInt ?_ | with_reducible refine de_isBl ?_ | with_reducible refine de_isTup ?_ | with_reducible refine de_isStr ?_ | with_reducible refine de_isRow ?_ | with_reducible refine de_len ?_ | with_reducible refine de_call ?_ | with_reducible refine de_ifx ?_ | with_reducible refine da_cons ?_ | with_reducible refine da_nil ?_
    | (with_reducible refine de_d (by with_unfolding_all rfl) ?_) | (with_reducible refine de_o (by with_unfolding_all rfl) ?_) | refine ⟨_, rfl, ?_⟩ | refine ⟨rfl, _, rfl, ?_⟩ | (with_reducible refine iteT' (by with_unfolding_all rfl) ?_) | (with_reducible refine iteF' (by with_unfolding_all rfl) ?_) | with_reducible refine de_count T ?_ | with_reducible refine de_overs T ?_ | with_reducible refine de_dates T ?_ | with_reducible refine de_kinds T ?_ | with_reducible refine de_nN ?_ | with_reducible refine de_nnN ?_ | refine ⟨_, _, rfl, ?_⟩ | refine ⟨_, _, _, rfl, ?_⟩ | refine ⟨_, rfl, rfl, ?_⟩)
      first | exact rfl | exact ⟨rfl, rfl⟩ | exact ⟨rfl, rfl, rfl⟩
    rw [hc.all]
    repeat (first
    | with_reducible refine dx_seq ?_ | with_reducible refine dx_ret ?_ | with_reducible refine dx_if ?_ | with_reducible refine dx_next ?_ | with_reducible refine dx_drop ?_ | with_reducible refine dx_asg ?_ | with_reducible refine dt_or ?_ | with_reducible refine dt_and ?_ | with_reducible refine dt_not ?_ | with_reducible refine dt_test ?_ | with_reducible refine dt_val ?_ | with_reducible refine de_int ?_ | with_reducible refine de_bl ?_ | with_reducible refine de_non ?_ | with_reducible refine de_str ?_ | with_reducible refine de_andV ?_ | with_reducible refine de_orV ?_ | with_reducible refine de_notV ?_ | with_reducible refine de_chain ?_ | with_reducible refine de_I0 ?_ | with_reducible refine de_B0 ?_ | with_reducible refine de_isInt ?_ | with_reducible refine de_isBl ?_ | with_reducible refine de_isTup ?_ | with_reducible refine de_isStr ?_ | with_reducible refine de_isRow ?_ | with_reducible refine de_len ?_ | with_reducible refine de_call ?_ | with_reducible refine de_ifx ?_ | with_reducible refine da_cons ?_ | with_reducible refine da_nil ?_
    | (with_reducible refine de_d (by with_unfolding_all rfl) ?_) | (with_reducible refine de_o (by with_unfolding_all rfl) ?_) | refine ⟨_, rfl, ?_⟩ | refine ⟨rfl, _, rfl, ?_⟩ | (with_reducible refine iteT' (by with_unfolding_all rfl) ?_) | (with_reducible refine iteF' (by with_unfolding_all rfl) ?_) | with_reducible refine de_count T ?_ | with_reducible refine de_overs T ?_ | with_reducible refine de_dates T ?_ | with_reducible refine de_kinds T ?_ | with_reducible refine de_nN ?_ | with_reducible refine de_nnN ?_ | refine ⟨_, _, rfl, ?_⟩ | refine ⟨_, _, _, rfl, ?_⟩ | refine ⟨_, rfl, rfl, ?_⟩)
    refine de_eq (de_lenSetT (de_d rfl ⟨c, rfl, hc.2.2.2, by have := hc.2.1; omega, ?_⟩))
    refine de_len (de_d rfl ⟨_, rfl, _, _, rfl, rfl, rfl, rfl, rfl, ?_⟩)
    have e : eqD (.int (c.length : Nat) : Dk) (.int ((c.map (.int : Int → Dk)).length : Nat)) = true := by rw [eqD_int, List.length_map]; simp
    show Q (.v (.bl (eqD (.int (c.length : Nat) : Dk) (.int ((c.map (.int : Int → Dk)).length : Nat)))))
    rw [e]
    exact h
  case hl =>
    rintro ds Q ⟨n, c, rfl, _⟩
    rfl


def S_check_grid : FS Kp := fun ds Q => ∃ n d g, ds = [.int (n : Nat), d] ∧ seqD d = some (g.map intsD) ∧ okG n g ∧ Q (.v .non)
abbrev s_check_grid : Stmt := top 40
abbrev N_check_grid : List Str := ["count", "grid", "column"]
theorem sc_check_grid : FnScope N_check_grid ["count", "grid"] (defScope s_check_grid) := ⟨rfl, rfl, rfl, by decide +kernel, rfl, by decide +kernel, by decide +kernel⟩
theorem has_check_grid {k : Nat} (D : Def K mg "check_grid" s_check_grid ["count", "grid"]) (c_MOST_LAYERS : ∃ t, mg "MOST_LAYERS" = some (.int 16 t)) (c_MOST_COLUMNS : ∃ t, mg "MOST_COLUMNS" = some (.int 20 t)) (z_all : mg "all" = none) (h_is_within : Has P w K mg base "is_within" k ["thing", "low", "high"] (spD (Zk K CB CR) S_is_within)) (h_is_row : Has P w K mg base "is_row" k ["thing", "least", "most"] (spD (Zk K CB CR) S_is_row)) (h_is_column : Has P w K mg base "is_column" k ["count", "thing"] (spD (Zk K CB CR) S_is_column)) (T : Tx K CB CR) : Has P w K mg base "check_grid" (k + 1) ["count", "grid"] (spD (Zk K CB CR) S_check_grid) := by
  refine D.has sc_check_grid ?hl fun f cdv A outer s H E hr => ?bod
  case bod =>
    have hu1 := hu_of hr
    have hu0 := hu0_of hr
    have hu65 := hu65_of hr
    refine ⟨_, (pss_cons (ps_if (pt_not (pt_val (pe_callH h_is_within hr (by rfl) (pa_cons (pv 0) (pa_cons pe_int (pa_cons (pe_globI (by rfl) c_MOST_LAYERS) pa_nil)))))) pss_never pss_nil)
    (pss_one (ps_if (PW.pt (pw_or (pt_not (pt_val (pe_callH h_is_row hr (by rfl) (pa_cons (pv 1) (pa_cons pe_int (pa_cons (pe_globI (by rfl) c_MOST_COLUMNS) pa_nil)))))) (pw_or1 (pt_not (pt_val (pe_callB (kall (K := K) rfl rfl) (by rfl) z_all (by decide +kernel) (pa_cons (pe_lc (own := [("column", 2)]) rfl sc_check_grid.nd (kpi_sq (K := K) rfl (pv 1)) (blkOk_by (N := N_check_grid) (sc := defScope s_check_grid) (by decide +kernel)) (fun _ _ _ _ _ => (pg_name (i := 2) sc_check_grid.nd rfl (by first | exact Or.inl rfl | exact Or.inr rfl))) (fun _ _ _ _ _ => pts_nil) (fun _ _ _ _ _ => (pe_callH h_is_column hr (by rfl) (pa_cons (pv 0) (pa_cons (pv 2) pa_nil))))) pa_nil))))))) pss_never pss_nil))), ?_⟩
    rintro ds Q ⟨n, d, g, rfl, hd, hg, h⟩
    have h2 := hg.n2; have h3 := hg.n16; have h4 := hg.g1; have h5 := hg.g20
    have w1 : within (n : Nat) 1 16 = true := by rw [within_iff]; omega
    have w2 : within ((g.map intsD).length : Nat) 1 20 = true := by rw [List.length_map, within_iff]; omega
    refine dx_seq (dx_if (dt_not (dt_val (de_call ?_))))
    repeat (first
    | with_reducible refine dx_seq ?_ | with_reducible refine dx_ret ?_ | with_reducible refine dx_if ?_ | with_reducible refine dx_next ?_ | with_reducible refine dx_drop ?_ | with_reducible refine dx_asg ?_ | with_reducible refine dt_or ?_ | with_reducible refine dt_and ?_ | with_reducible refine dt_not ?_ | with_reducible refine dt_test ?_ | with_reducible refine dt_val ?_ | with_reducible refine de_int ?_ | with_reducible refine de_bl ?_ | with_reducible refine de_non ?_ | with_reducible refine de_str ?_ | with_reducible refine de_andV ?_ | with_reducible refine de_orV ?_ | with_reducible refine de_notV ?_ | with_reducible refine de_chain ?_ | with_reducible refine de_I0 ?_ | with_reducible refine de_B0 ?_ | with_reducible refine de_isInt ?_ | with_reducible refine de_isBl ?_ | with_reducible refine de_isTup ?_ | with_reducible refine de_isStr ?_ | with_reducible refine de_isRow ?_ | with_reducible refine de_len ?_ | with_reducible refine de_call ?_ | with_reducible refine de_ifx ?_ | with_reducible refine da_cons ?_ | with_reducible refine da_nil ?_
    | (with_reducible refine de_d (by with_unfolding_all rfl) ?_) | (with_reducible refine de_o (by with_unfolding_all rfl) ?_) | refine ⟨_, rfl, ?_⟩ | refine ⟨rfl, _, rfl, ?_⟩ | (with_reducible refine iteT' (by with_unfolding_all rfl) ?_) | (with_reducible refine iteF' (by with_unfolding_all rfl) ?_) | with_reducible refine de_count T ?_ | with_reducible refine de_overs T ?_ | with_reducible refine de_dates T ?_ | with_reducible refine de_kinds T ?_ | with_reducible refine de_nN ?_ | with_reducible refine de_nnN ?_ | refine ⟨_, _, rfl, ?_⟩ | refine ⟨_, _, _, rfl, ?_⟩ | refine ⟨_, rfl, rfl, ?_⟩)
    rw [w1]
    repeat (first
    | with_reducible refine dx_seq ?_ | with_reducible refine dx_ret ?_ | with_reducible refine dx_if ?_ | with_reducible refine dx_next ?_ | with_reducible refine dx_drop ?_ | with_reducible refine dx_asg ?_ | with_reducible refine dt_or ?_ | with_reducible refine dt_and ?_ | with_reducible refine dt_not ?_ | with_reducible refine dt_test ?_ | with_reducible refine dt_val ?_ | with_reducible refine de_int ?_ | with_reducible refine de_bl ?_ | with_reducible refine de_non ?_ | with_reducible refine de_str ?_ | with_reducible refine de_andV ?_ | with_reducible refine de_orV ?_ | with_reducible refine de_notV ?_ | with_reducible refine de_chain ?_ | with_reducible refine de_I0 ?_ | with_reducible refine de_B0 ?_ | with_reducible refine de_isInt ?_ | with_reducible refine de_isBl ?_ | with_reducible refine de_isTup ?_ | with_reducible refine de_isStr ?_ | with_reducible refine de_isRow ?_ | with_reducible refine de_len ?_ | with_reducible refine de_call ?_ | with_reducible refine de_ifx ?_ | with_reducible refine da_cons ?_ | with_reducible refine da_nil ?_
    | (with_reducible refine de_d (by with_unfolding_all rfl) ?_) | (with_reducible refine de_o (by with_unfolding_all rfl) ?_) | refine ⟨_, rfl, ?_⟩ | refine ⟨rfl, _, rfl, ?_⟩ | (with_reducible refine iteT' (by with_unfolding_all rfl) ?_) | (with_reducible refine iteF' (by with_unfolding_all rfl) ?_) | with_reducible refine de_count T ?_ | with_reducible refine de_overs T ?_ | with_reducible refine de_dates T ?_ | with_reducible refine de_kinds T ?_ | with_reducible refine de_nN ?_ | with_reducible refine de_nnN ?_ | refine ⟨_, _, rfl, ?_⟩ | refine ⟨_, _, _, rfl, ?_⟩ | refine ⟨_, rfl, rfl, ?_⟩)
    refine ⟨_, _, _, _, rfl, hd, _, rfl, ?_⟩
    rw [w2]
    repeat (first
    | with_reducible refine dx_seq ?_ | with_reducible refine dx_ret ?_ | with_reducible refine dx_if ?_ | with_reducible refine dx_next ?_ | with_reducible refine dx_drop ?_ | with_reducible refine dx_asg ?_ | with_reducible refine dt_or ?_ | with_reducible refine dt_and ?_ | with_reducible refine dt_not ?_ | with_reducible refine dt_test ?_ | with_reducible refine dt_val ?_ | with_reducible refine de_int ?_ | with_reducible refine de_bl ?_ | with_reducible refine de_non ?_ | with_reducible refine de_str ?_ | with_reducible refine de_andV ?_ | with_reducible refine de_orV ?_ | with_reducible refine de_notV ?_ | with_reducible refine de_chain ?_ | with_reducible refine de_I0 ?_ | with_reducible refine de_B0 ?_ | with_reducible refine de_isInt ?_ | with_reducible refine de_isBl ?_ | with_reducible refine de_isTup ?_ | with_reducible refine de_isStr ?_ | with_reducible refine de_isRow ?_ | with_reducible refine de_len ?_ | with_reducible refine de_call ?_ | with_reducible refine de_ifx ?_ | with_reducible refine da_cons ?_ | with_reducible refine da_nil ?_
    | (with_reducible refine de_d (by with_unfolding_all rfl) ?_) | (with_reducible refine de_o (by with_unfolding_all rfl) ?_) | refine ⟨_, rfl, ?_⟩ | refine ⟨rfl, _, rfl, ?_⟩ | (with_reducible refine iteT' (by with_unfolding_all rfl) ?_) | (with_reducible refine iteF' (by with_unfolding_all rfl) ?_) | with_reducible refine de_count T ?_ | with_reducible refine de_overs T ?_ | with_reducible refine de_dates T ?_ | with_reducible refine de_kinds T ?_ | with_reducible refine de_nN ?_ | with_reducible refine de_nnN ?_ | refine ⟨_, _, rfl, ?_⟩ | refine ⟨_, _, _, rfl, ?_⟩ | refine ⟨_, rfl, rfl, ?_⟩)
    have hd' : its ([SL.d (.int (n : Nat)), .d d, .u] : List (SL Kp)) (.v d) = some (g.map intsD, none) := by cases d <;> simp [seqD] at hd <;> subst hd <;> rfl
    refine de_allC intsD (fun _ => true) (di_sq (de_d rfl ⟨_, hd', g, rfl, fun c hc => dg_nm rfl ?_, rfl, by omega, rfl, ?_⟩))
    · repeat (first
    | with_reducible refine dx_seq ?_ | with_reducible refine dx_ret ?_ | with_reducible refine dx_if ?_ | with_reducible refine dx_next ?_ | with_reducible refine dx_drop ?_ | with_reducible refine dx_asg ?_ | with_reducible refine dt_or ?_ | with_reducible refine dt_and ?_ | with_reducible refine dt_not ?_ | with_reducible refine dt_test ?_ | with_reducible refine dt_val ?_ | with_reducible refine de_int ?_ | with_reducible refine de_bl ?_ | with_reducible refine de_non ?_ | with_reducible refine de_str ?_ | with_reducible refine de_andV ?_ | with_reducible refine de_orV ?_ | with_reducible refine de_notV ?_ | with_reducible refine de_chain ?_ | with_reducible refine de_I0 ?_ | with_reducible refine de_B0 ?_ | with_reducible refine de_isInt ?_ | with_reducible refine de_isBl ?_ | with_reducible refine de_isTup ?_ | with_reducible refine de_isStr ?_ | with_reducible refine de_isRow ?_ | with_reducible refine de_len ?_ | with_reducible refine de_call ?_ | with_reducible refine de_ifx ?_ | with_reducible refine da_cons ?_ | with_reducible refine da_nil ?_
    | (with_reducible refine de_d (by with_unfolding_all rfl) ?_) | (with_reducible refine de_o (by with_unfolding_all rfl) ?_) | refine ⟨_, rfl, ?_⟩ | refine ⟨rfl, _, rfl, ?_⟩ | (with_reducible refine iteT' (by with_unfolding_all rfl) ?_) | (with_reducible refine iteF' (by with_unfolding_all rfl) ?_) | with_reducible refine de_count T ?_ | with_reducible refine de_overs T ?_ | with_reducible refine de_dates T ?_ | with_reducible refine de_kinds T ?_ | with_reducible refine de_nN ?_ | with_reducible refine de_nnN ?_ | refine ⟨_, _, rfl, ?_⟩ | refine ⟨_, _, _, rfl, ?_⟩ | refine ⟨_, rfl, rfl, ?_⟩)
      exact ⟨h3, hg.col c hc, rfl, rfl⟩
    have e : (g.all fun _ => true) = true := by simp
    rw [e]
    repeat (first
    | with_reducible refine dx_seq ?_ | with_reducible refine dx_ret ?_ | with_reducible refine dx_if ?_ | with_reducible refine dx_next ?_ | with_reducible refine dx_drop ?_ | with_reducible refine dx_asg ?_ | with_reducible refine dt_or ?_ | with_reducible refine dt_and ?_ | with_reducible refine dt_not ?_ | with_reducible refine dt_test ?_ | with_reducible refine dt_val ?_ | with_reducible refine de_int ?_ | with_reducible refine de_bl ?_ | with_reducible refine de_non ?_ | with_reducible refine de_str ?_ | with_reducible refine de_andV ?_ | with_reducible refine de_orV ?_ | with_reducible refine de_notV ?_ | with_reducible refine de_chain ?_ | with_reducible refine de_I0 ?_ | with_reducible refine de_B0 ?_ | with_reducible refine de_isInt ?_ | with_reducible refine de_isBl ?_ | with_reducible refine de_isTup ?_ | with_reducible refine de_isStr ?_ | with_reducible refine de_isRow ?_ | with_reducible refine de_len ?_ | with_reducible refine de_call ?_ | with_reducible refine de_ifx ?_ | with_reducible refine da_cons ?_ | with_reducible refine da_nil ?_
    | (with_reducible refine de_d (by with_unfolding_all rfl) ?_) | (with_reducible refine de_o (by with_unfolding_all rfl) ?_) | refine ⟨_, rfl, ?_⟩ | refine ⟨rfl, _, rfl, ?_⟩ | (with_reducible refine iteT' (by with_unfolding_all rfl) ?_) | (with_reducible refine iteF' (by with_unfolding_all rfl) ?_) | with_reducible refine de_count T ?_ | with_reducible refine de_overs T ?_ | with_reducible refine de_dates T ?_ | with_reducible refine de_kinds T ?_ | with_reducible refine de_nN ?_ | with_reducible refine de_nnN ?_ | refine ⟨_, _, rfl, ?_⟩ | refine ⟨_, _, _, rfl, ?_⟩ | refine ⟨_, rfl, rfl, ?_⟩)
    exact h
  case hl =>
    rintro ds Q ⟨n, d, g, rfl, _⟩
    rfl


/-- the places of a grid at which a layer has another one next behind it -/
def stepsOf (g : Grid) : Ovs := g.zipIdx.flatMap fun q => (List.range (q.1.length - 1)).map fun (j : Nat) => ((q.2 : Int), (j : Int))
theorem flatMap_one {α β : Type} (f : α → List β) {xs : List α} {i : Nat} {a : α} (e : xs[i]? = some a) : (xs.take (i + 1)).flatMap f = (xs.take i).flatMap f ++ f a := by
  rw [take_one e, List.flatMap_append]
  simp
theorem len_of {d : Dk} {xs : List Dk} (h : seqD d = some xs) (τ : List (SL Kp)) : its τ (.v d) = some (xs, none) := by cases d <;> simp [seqD] at h <;> subst h <;> rfl
theorem zipIdx_fst_mem {α : Type} {xs : List α} {q : α × Nat} (h : q ∈ xs.zipIdx) : xs[q.2]? = some q.1 := by
  have := List.mem_zipIdx_iff_getElem?.mp h
  exact this
theorem flat_le {α β : Type} (f : α → List β) : ∀ (xs : List α) (n : Nat), ((xs.take n).flatMap f).length ≤ (xs.flatMap f).length
  | [], n => by simp
  | x :: xs, 0 => by simp
  | x :: xs, n + 1 => by
    have := flat_le f xs n
    simp only [List.take_succ_cons, List.flatMap_cons, List.length_append]
    omega
theorem steps_len (g : Grid) : (stepsOf g).length = (pairsOf g).length := by
  unfold stepsOf pairsOf
  have go : ∀ (g : Grid) (k : Nat), ((g.zipIdx k).flatMap fun q => (List.range (q.1.length - 1)).map fun (j : Nat) => ((q.2 : Int), (j : Int))).length = (g.flatMap fun c => c.zip (c.drop 1)).length := by
    intro g
    induction g with
    | nil => intro k; rfl
    | cons c g ih =>
      intro k
      simp only [List.zipIdx_cons, List.flatMap_cons, List.length_append, ih, List.length_map, List.length_range, List.length_zip, List.length_drop]
      omega
  exact go g 0

def S_steps_of : FS Kp := fun ds Q => ∃ d g, ds = [d] ∧ seqD d = some (g.map intsD) ∧ (pairsOf g).length ≤ 1000 ∧ (∀ c ∈ g, c.length ≤ 1000) ∧ g.length ≤ 1000 ∧ ∀ p, Q (.n p (.lst ((stepsOf g).map pairD)))
abbrev s_steps_of : Stmt := top 41
abbrev N_steps_of : List Str := ["grid", "found", "number", "column", "place"]
theorem sc_steps_of : FnScope N_steps_of ["grid"] (defScope s_steps_of) := ⟨rfl, rfl, rfl, by decide +kernel, rfl, by decide +kernel, by decide +kernel⟩
theorem has_steps_of {k : Nat} (D : Def K mg "steps_of" s_steps_of ["grid"]) (z_enumerate : mg "enumerate" = none) (z_range : mg "range" = none) (z_len : mg "len" = none) (T : Tx K CB CR) : Has P w K mg base "steps_of" (k + 1) ["grid"] (spD (Zk K CB CR) S_steps_of) := by
  refine D.has sc_steps_of ?hl fun f cdv A outer s H E hr => ?bod
  case bod =>
    have hu1 := hu_of hr
    have hu0 := hu0_of hr
    have hu65 := hu65_of hr
    refine ⟨_, (pss_cons (ps_set (i := 1) sc_steps_of.nd rfl (by first | exact Or.inl rfl | exact Or.inr rfl) (pe_lst pa_nil))
    (pss_cons (ps_for PassesOwn.never rfl (kpi_enum (K := K) rfl (by rfl) z_enumerate (pa_cons (pv 0) pa_nil)) (kpg_tup (K := K) (n := 2) rfl rfl (pgs_cons (pg_name (i := 2) sc_steps_of.nd rfl (by first | exact Or.inl rfl | exact Or.inr rfl)) (pgs_cons (pg_name (i := 3) sc_steps_of.nd rfl (by first | exact Or.inl rfl | exact Or.inr rfl)) pgs_nil))) (pss_one (ps_expr (kpe_bm (K := K) rfl PySem.F.plainAttrs_list PySem.F.slot_list_extend PySem.F.type_list_extend mt_extend (pv 1) (pa_cons (pe_lc (own := [("place", 4)]) rfl sc_steps_of.nd (pi_range1 (by rfl) z_range (pa_cons (pe_op op_sub (pe_callB (klen (K := K) rfl) (by rfl) z_len (by decide +kernel) (pa_cons (pv 3) pa_nil)) pe_int) pa_nil)) (blkOk_by (N := N_steps_of) (sc := defScope s_steps_of) (by decide +kernel)) (fun _ _ _ _ _ => (pg_name (i := 4) sc_steps_of.nd rfl (by first | exact Or.inl rfl | exact Or.inr rfl))) (fun _ _ _ _ _ => pts_nil) (fun _ _ _ _ _ => (pe_tup (pa_cons (pv 2) (pa_cons (pv 4) pa_nil))))) pa_nil)))))
    (pss_one (ps_ret (pv 1))))), ?_⟩
    rintro ds Q ⟨d, g, rfl, hd, hl, hc, hg, h⟩
    rw [← steps_len] at hl
    let f : List Int × Nat → Ovs := fun q => (List.range (q.1.length - 1)).map fun (j : Nat) => ((q.2 : Int), (j : Int))
    refine dx_seq (dx_asg (de_lst (da_nil ⟨[], rfl, by simp, fun p => ?_⟩)))
    refine dx_seq (dx_forE (α := List Int × Nat) [2, 3] (fun q => .tup [.int (q.2 : Nat), intsD q.1]) (di_enum (da_cons (de_d rfl (da_nil ⟨_, (g.map intsD, none), rfl, len_of hd _, g.zipIdx, enu_map _ _,
      fun i τ2 => ∃ x y, τ2 = [.d d, .own p (.lst (((g.zipIdx.take i).flatMap f).map pairD)), x, y, .u], ⟨_, _, rfl⟩, fun _ _ _ => trivial, ?_, ?_⟩)))))
    · rintro i ⟨c, j⟩ τ2 hq ⟨x, y, rfl⟩
      have hcl : c.length ≤ 1000 := hc c (List.mem_of_getElem? (zipIdx_fst_mem (List.mem_of_getElem? hq)))
      refine dg_tp rfl (dgs_cn (dg_nm rfl (dgs_cn (dg_nm rfl (dgs_nl ?_)))))
      refine dx_drop (de_extend ⟨_, _, rfl⟩ ?_)
      refine de_lcM (α := Nat) (fun k => .int (k : Nat)) (fun k => pairD ((j : Int), (k : Int))) (di_rng1 (da_cons ?_))
      refine de_I0 (de_len (de_d rfl ⟨_, rfl, _, rfl, de_int ⟨1, rfl, da_nil ⟨_, rfl, by omega, ?_, List.range (c.length - 1), ?_, fun k hk => dg_nm rfl ?_, rfl, ?_, rfl, fun q => ⟨_, _, _, rfl, rfl, ?_, ?_⟩⟩⟩⟩))
      · rw [List.length_map]
        show (c.length : Int) - 1 < 2 ^ 62
        omega
      · rw [List.length_map]
        have : ((c.length : Int) - 1).toNat = c.length - 1 := by omega
        show (List.range ((c.length : Int) - 1).toNat).map _ = _
        rw [this]
      · refine de_tup ?_
        repeat (first
    | with_reducible refine dx_seq ?_ | with_reducible refine dx_ret ?_ | with_reducible refine dx_if ?_ | with_reducible refine dx_next ?_ | with_reducible refine dx_drop ?_ | with_reducible refine dx_asg ?_ | with_reducible refine dt_or ?_ | with_reducible refine dt_and ?_ | with_reducible refine dt_not ?_ | with_reducible refine dt_test ?_ | with_reducible refine dt_val ?_ | with_reducible refine de_int ?_ | with_reducible refine de_bl ?_ | with_reducible refine de_non ?_ | with_reducible refine de_str ?_ | with_reducible refine de_andV ?_ | with_reducible refine de_orV ?_ | with_reducible refine de_notV ?_ | with_reducible refine de_chain ?_ | with_reducible refine de_I0 ?_ | with_reducible refine de_B0 ?_ | with_reducible refine de_isInt ?_ | with_reducible refine de_isBl ?_ | with_reducible refine de_isTup ?_ | with_reducible refine de_isStr ?_ | with_reducible refine de_isRow ?_ | with_reducible refine de_len ?_ | with_reducible refine de_call ?_ | with_reducible refine de_ifx ?_ | with_reducible refine da_cons ?_ | with_reducible refine da_nil ?_
    | (with_reducible refine de_d (by with_unfolding_all rfl) ?_) | (with_reducible refine de_o (by with_unfolding_all rfl) ?_) | refine ⟨_, rfl, ?_⟩ | refine ⟨rfl, _, rfl, ?_⟩ | (with_reducible refine iteT' (by with_unfolding_all rfl) ?_) | (with_reducible refine iteF' (by with_unfolding_all rfl) ?_) | with_reducible refine de_count T ?_ | with_reducible refine de_overs T ?_ | with_reducible refine de_dates T ?_ | with_reducible refine de_kinds T ?_ | with_reducible refine de_nN ?_ | with_reducible refine de_nnN ?_ | refine ⟨_, _, rfl, ?_⟩ | refine ⟨_, _, _, rfl, ?_⟩ | refine ⟨_, rfl, rfl, ?_⟩)
        exact ⟨[.int (j : Nat), .int (k : Nat)], rfl, by simp, rfl, rfl⟩
      · rw [List.length_range]; omega
      · have e1 : (f (c, j)).length = ((List.range (c.length - 1)).map fun (k : Nat) => (pairD ((j : Int), (k : Int)) : Dk)).length := by simp [f]
        have e2 := flat_le f g.zipIdx (i + 1)
        rw [flatMap_one f hq, List.length_append] at e2
        have e3 : (g.zipIdx.flatMap f).length ≤ 1000 := hl
        rw [← e1, List.length_map]
        omega
      · refine ⟨.d (.int (j : Nat)), .d (intsD c), ?_⟩
        rw [flatMap_one f hq, List.map_append]
        have e1 : (f (c, j)).map pairD = (List.range (c.length - 1)).map fun (k : Nat) => (pairD ((j : Int), (k : Int)) : Dk) := by simp only [f, List.map_map]; rfl
        rw [e1]
        rfl
    · rintro τ2 ⟨x, y, rfl⟩
      rw [List.take_length]
      exact dx_ret (de_o rfl ⟨purs_map _ _ fun _ _ => rfl, h p⟩)
  case hl =>
    rintro ds Q ⟨d, g, rfl, _⟩
    rfl


end K67
set_option Elab.async false
set_option linter.all false
set_option maxRecDepth 100000
namespace K67
open PySem PySem.Spec PyProof.Rows L2 DL RZ
/-! K5: the pairs of a grid; laying -/
variable {P : Program} {w : World} {K : PySem.W.Frag} {mg : Str → Option Value} {base : Heap} {CB CR : Addr}

/-- the pair at a place of a grid -/
def pairAt (g : Grid) (s : Int × Int) : Int × Int := ((g.getD s.1.toNat []).getD s.2.toNat 0, (g.getD s.1.toNat []).getD (s.2.toNat + 1) 0)
/-- a place of a grid at which a pair begins -/
def stepOk (g : Grid) (s : Int × Int) : Prop := ∃ (i j : Nat) (c : List Int), s = ((i : Int), (j : Int)) ∧ g[i]? = some c ∧ j + 1 < c.length
theorem mem_steps {g : Grid} {s : Int × Int} : s ∈ stepsOf g ↔ stepOk g s := by
  unfold stepsOf stepOk
  simp only [List.mem_flatMap, List.mem_map, List.mem_range]
  constructor
  · rintro ⟨⟨c, i⟩, h1, j, h2, rfl⟩
    exact ⟨i, j, c, rfl, zipIdx_fst_mem h1, by have : j < c.length - 1 := h2; omega⟩
  · rintro ⟨i, j, c, rfl, h1, h2⟩
    exact ⟨(c, i), List.mem_zipIdx_iff_getElem?.mpr h1, j, by show j < c.length - 1; omega, rfl⟩
theorem take_two {c : List Int} {j : Nat} (h : j + 1 < c.length) : (c.drop j).take 2 = [c.getD j 0, c.getD (j + 1) 0] := by
  have h1 : c.drop j = c[j] :: c.drop (j + 1) := List.drop_eq_getElem_cons (by omega)
  have h2 : c.drop (j + 1) = c[j + 1] :: c.drop (j + 2) := List.drop_eq_getElem_cons h
  rw [h1, h2]
  simp only [List.take_succ_cons, List.take_zero]
  rw [List.getD_eq_getElem?_getD, List.getD_eq_getElem?_getD, List.getElem?_eq_getElem (by omega), List.getElem?_eq_getElem h]
  rfl
theorem pairAt_of {g : Grid} {i j : Nat} {c : List Int} (h : g[i]? = some c) : pairAt g ((i : Int), (j : Int)) = (c.getD j 0, c.getD (j + 1) 0) := by
  unfold pairAt
  simp only [Int.toNat_natCast]
  rw [List.getD_eq_getElem?_getD (l := g), h]
  rfl
theorem zip_next (c : List Int) : c.zip (c.drop 1) = (List.range (c.length - 1)).map fun j => (c.getD j 0, c.getD (j + 1) 0) := by
  have hl : (c.zip (c.drop 1)).length = ((List.range (c.length - 1)).map fun j => (c.getD j 0, c.getD (j + 1) 0)).length := by
    simp only [List.length_zip, List.length_drop, List.length_map, List.length_range]; omega
  refine List.ext_getElem hl fun j h1 h2 => ?_
  simp only [List.length_map, List.length_range] at h2
  simp only [List.getElem_zip, List.getElem_map, List.getElem_range, List.getElem_drop]
  rw [List.getD_eq_getElem?_getD, List.getD_eq_getElem?_getD, List.getElem?_eq_getElem (by omega), List.getElem?_eq_getElem (show j + 1 < c.length by omega)]
  simp only [Option.getD_some, Nat.add_comm]
theorem flatMap_eq {α β : Type} {f h : α → List β} : ∀ {xs : List α}, (∀ a ∈ xs, f a = h a) → xs.flatMap f = xs.flatMap h
  | [], _ => rfl
  | x :: xs, e => by
    rw [List.flatMap_cons, List.flatMap_cons, e x List.mem_cons_self, flatMap_eq fun a ha => e a (List.mem_cons_of_mem _ ha)]
theorem steps_pairs (g : Grid) : (stepsOf g).map (pairAt g) = pairsOf g := by
  unfold stepsOf pairsOf
  rw [List.map_flatMap]
  have e1 : (g.zipIdx.flatMap fun q => ((List.range (q.1.length - 1)).map fun (j : Nat) => ((q.2 : Int), (j : Int))).map (pairAt g)) = g.zipIdx.flatMap fun q => q.1.zip (q.1.drop 1) := by
    refine flatMap_eq fun q hq => ?_
    rw [List.map_map, zip_next]
    refine List.map_congr_left fun j _ => ?_
    exact pairAt_of (zipIdx_fst_mem hq)
  rw [e1]
  have e2 : g.flatMap (fun c => c.zip (c.drop 1)) = (g.zipIdx.map Prod.fst).flatMap fun c => c.zip (c.drop 1) := by rw [List.zipIdx_map_fst]
  rw [e2, List.flatMap_map]
/-- the overs that a grid tells -/
def ovG (g : Grid) : Ovs := usort (pairsOf g)
theorem okG.rows {n : Nat} {g : Grid} (h : okG n g) : ∀ c ∈ g, c.length ≤ 16 := fun c hc => Nat.le_trans (h.col c hc).2.1 h.n16

def S_pair_at : FS Kp := fun ds Q => ∃ (d : Dk) (g : Grid) (i j : Nat) (c : List Int), ds = [d, pairD ((i : Int), (j : Int))] ∧ seqD d = some (g.map intsD) ∧ g[i]? = some c ∧ Q (.v (intsD ((c.drop j).take 2)))
abbrev s_pair_at : Stmt := top 42
abbrev N_pair_at : List Str := ["grid", "step"]
theorem sc_pair_at : FnScope N_pair_at ["grid", "step"] (defScope s_pair_at) := ⟨rfl, rfl, rfl, by decide +kernel, rfl, by decide +kernel, by decide +kernel⟩
theorem has_pair_at {k : Nat} (D : Def K mg "pair_at" s_pair_at ["grid", "step"]) (T : Tx K CB CR) : Has P w K mg base "pair_at" (k + 1) ["grid", "step"] (spD (Zk K CB CR) S_pair_at) := by
  refine D.has sc_pair_at ?hl fun f cdv A outer s H E hr => ?bod
  case bod =>
    have hu1 := hu_of hr
    have hu0 := hu0_of hr
    have hu65 := hu65_of hr
    refine ⟨_, (pss_one (ps_ret (pe_slice (ksl (K := K) rfl) (pe_ix (kix (K := K) rfl) (pv 0) (pe_ix (kix (K := K) rfl) (pv 1) pe_int (fun _ _ => rfl)) (fun _ _ => rfl)) (po_some (pe_ix (kix (K := K) rfl) (pv 1) pe_int (fun _ _ => rfl))) (po_some (pe_op (kop_add (K := K) rfl) (pe_ix (kix (K := K) rfl) (pv 1) pe_int (fun _ _ => rfl)) pe_int))))), ?_⟩
    rintro ds Q ⟨d, g, i, j, c, rfl, hd, hc, h⟩
    have hp : (intsD ((c.drop j).take 2)).pur = true := purs_ints _
    have a0 : atI ([.int (i : Int), .int (j : Int)] : List Dk) 0 = some (.int (i : Int)) := atI_nat (j := 0) rfl
    have a1 : atI ([.int (i : Int), .int (j : Int)] : List Dk) 1 = some (.int (j : Int)) := atI_nat (j := 1) rfl
    have ac : atI (g.map intsD) (i : Int) = some (intsD c) := atI_nat (by rw [List.getElem?_map, hc] <;> rfl)
    refine dx_ret (de_sl (de_ix (de_d rfl (de_ix (de_d rfl (de_int ⟨_, _, _, rfl, rfl, a0, ?_⟩))))))
    refine ⟨_, _, _, hd, rfl, ac, do_some (de_ix (de_d rfl (de_int ⟨_, _, _, rfl, rfl, a1, _, rfl, do_some (de_addI (de_ix (de_d rfl (de_int ⟨_, _, _, rfl, rfl, a1, _, rfl, de_int ⟨2, rfl, _, rfl, ?_⟩⟩))))⟩)))⟩
    have e : cutL (c.map (.int : Int → Dk)) (some (j : Int)) (some ((j : Int) + 2)) = ((c.drop j).take 2).map .int := by
      have := cut_mid (c.map (.int : Int → Dk)) j (j + 2) (by omega)
      rw [show ((j + 2 : Nat) : Int) = (j : Int) + 2 from rfl] at this
      rw [this, show j + 2 - j = 2 by omega, List.map_take, List.map_drop]
    show okr (.v (.tup (cutL (c.map (.int : Int → Dk)) (some (j : Int)) (some ((j : Int) + 2))))) ∧ Q (.v (.tup (cutL (c.map (.int : Int → Dk)) (some (j : Int)) (some ((j : Int) + 2)))))
    rw [e]
    exact ⟨hp, h⟩
  case hl =>
    rintro ds Q ⟨d, g, i, j, c, rfl, _⟩
    rfl


def S_overs_of : FS Kp := fun ds Q => ∃ (d : Dk) (g : Grid), ds = [d] ∧ seqD d = some (g.map intsD) ∧ (pairsOf g).length ≤ 100 ∧ (∀ c ∈ g, c.length ≤ 16) ∧ g.length ≤ 20 ∧ Q (.v (ovsD (ovG g)))
abbrev s_overs_of : Stmt := top 43
abbrev N_overs_of : List Str := ["grid", "step"]
theorem sc_overs_of : FnScope N_overs_of ["grid"] (defScope s_overs_of) := ⟨rfl, rfl, rfl, by decide +kernel, rfl, by decide +kernel, by decide +kernel⟩
theorem has_overs_of {k : Nat} (D : Def K mg "overs_of" s_overs_of ["grid"]) (z_tuple : mg "tuple" = none) (z_sorted : mg "sorted" = none) (z_set : mg "set" = none) (h_steps_of : Has P w K mg base "steps_of" k ["grid"] (spD (Zk K CB CR) S_steps_of)) (h_pair_at : Has P w K mg base "pair_at" k ["grid", "step"] (spD (Zk K CB CR) S_pair_at)) (T : Tx K CB CR) : Has P w K mg base "overs_of" (k + 1) ["grid"] (spD (Zk K CB CR) S_overs_of) := by
  refine D.has sc_overs_of ?hl fun f cdv A outer s H E hr => ?bod
  case bod =>
    have hu1 := hu_of hr
    have hu0 := hu0_of hr
    have hu65 := hu65_of hr
    refine ⟨_, (pss_one (ps_ret (kpe_tupleOf (K := K) rfl (by rfl) z_tuple (pe_srtSet (K := K) rfl (by rfl) z_sorted (by rfl) z_set hu65 (pe_lc (own := [("step", 1)]) rfl sc_overs_of.nd (kpi_sq (K := K) rfl (pe_callH h_steps_of hr (by rfl) (pa_cons (pv 0) pa_nil))) (blkOk_by (N := N_overs_of) (sc := defScope s_overs_of) (by decide +kernel)) (fun _ _ _ _ _ => (pg_name (i := 1) sc_overs_of.nd rfl (by first | exact Or.inl rfl | exact Or.inr rfl))) (fun _ _ _ _ _ => pts_nil) (fun _ _ _ _ _ => (kpe_tupleOf (K := K) rfl (by rfl) z_tuple (pe_callH h_pair_at hr (by rfl) (pa_cons (pv 0) (pa_cons (pv 1) pa_nil)))))))))), ?_⟩
    rintro ds Q ⟨d, g, rfl, hd, hl, hc, hg, h⟩
    refine dx_ret (de_tupleOf (de_srtSet ?_))
    refine de_lcM (α := Int × Int) pairD (fun s => pairD (pairAt g s)) (di_sq (de_call (da_cons (de_d rfl (da_nil ⟨d, g, rfl, hd, by omega, fun c h => by have := hc c h; omega, by omega, fun p => ⟨_, rfl, stepsOf g, rfl, fun s hs => dg_nm rfl ?_, rfl, ?_, rfl, fun p => ⟨pairsOf g, ?_, hl, fun p => ⟨_, rfl, ?_, h⟩⟩⟩⟩)))))
    · obtain ⟨i, j, c, rfl, h1, h2⟩ := mem_steps.mp hs
      refine de_tupleOf (de_call (da_cons (de_d rfl (da_cons (de_d rfl (da_nil ⟨d, g, i, j, c, rfl, hd, h1, _, rfl, rfl, ?_⟩))))))
      rw [pairAt_of h1, take_two h2]
      rfl
    · rw [steps_len]; omega
    · rw [← steps_pairs, List.map_map]
      rfl
    · exact purs_map _ _ fun _ _ => rfl
  case hl =>
    rintro ds Q ⟨d, g, rfl, _⟩
    rfl


end K67
set_option Elab.async false
set_option linter.all false
set_option maxRecDepth 100000
namespace K67
open PySem PySem.Spec PyProof.Rows L2 DL RZ
/-! K6: books made -/
variable {P : Program} {w : World} {K : PySem.W.Frag} {mg : Str → Option Value} {base : Heap} {CB CR : Addr}

abbrev s_raw : Stmt := inClass (top 26) 0
abbrev s_bok : Stmt := inClass (top 25) 0
abbrev bks : List Str := ["self", "count", "overs", "dates", "kinds"]
theorem sc_raw : FnScope bks bks (defScope s_raw) := ⟨rfl, rfl, rfl, by decide +kernel, rfl, by decide +kernel, by decide +kernel⟩
/-- what an __init__ of a book leaves: the four fields, a new dict beside -/
def spBook (C : Addr) : Sp := fun vs H Q _ => ∃ (x dx : Addr) (a b c d : V), vs = [.ref x, a, b, c, d] ∧ H x = some (.ins C dx []) ∧
  ∀ (H' : Hp) (fs : List (Str × V)), (∀ y o, y ≠ x → H y = some o → H' y = some o) → H' x = some (.ins C dx fs) → fs.lookup ("count" : Str) = some a → fs.lookup ("overs" : Str) = some b → fs.lookup ("dates" : Str) = some c → fs.lookup ("kinds" : Str) = some d → fs.lookup ("parts" : Str) = none → Q .non H'
theorem mk_raw {k : Nat} (D : DefM K "__init__" "RawBook.__init__" CR s_raw bks) (hm : mg "RawBook" = some (.ref CR)) (T : Tx K CB CR) : HasMk P w K mg base "RawBook" CR (k + 1) bks (spBook CR) := by
  obtain ⟨f, fd, F, hb, M⟩ := D
  obtain ⟨n1, n2, n3, n4, n5⟩ := T.at' CR (.inr rfl)
  refine ⟨f, fd, M, F.ok sc_raw (fun vs H Q E h => ?_) (fun cdv A outer s H vs Q E hr h => ?_), hm, hb⟩
  · obtain ⟨x, dx, a, b, c, d, rfl, _⟩ := h
    rfl
  · obtain ⟨x, dx, a, b, c, d, rfl, hx, k⟩ := h
    refine ⟨_, pss_cons (ps_asg (pe_tup (pa_cons (pv 1) (pa_cons (pv 2) pa_nil))) (kpg_tup (K := K) (n := 2) rfl rfl (pgs_cons (pg_fld (K := K) rfl (pv 0)) (pgs_cons (pg_fld (K := K) rfl (pv 0)) pgs_nil))))
      (pss_cons (ps_asg (pe_tup (pa_cons (pv 3) (pa_cons (pv 4) pa_nil))) (kpg_tup (K := K) (n := 2) rfl rfl (pgs_cons (pg_fld (K := K) rfl (pv 0)) (pgs_cons (pg_fld (K := K) rfl (pv 0)) pgs_nil))))
      (pss_one (ps_fld (pv 0) pe_dnewK rfl))), ?_⟩
    refine ⟨a, rfl, b, rfl, small_line (by simp), fun p hp => ?_⟩
    have e1 : x ≠ p := ne_of_none hx hp
    refine ⟨p, [a, b], rfl, .inl (.inl upd_same), rfl, a, [b], rfl, _, rfl, x, CR, dx, [], rfl, (by rw [upd_ne e1]; exact hx), T.cR, n1, by show 0 < 1000; decide, b, [], rfl, _, rfl, x, CR, dx, _, rfl, upd_same, T.cR, n2, by show 1 < 1000; decide, rfl, ?_⟩
    refine ⟨c, rfl, d, rfl, small_line (by simp), fun q hq => ?_⟩
    have e2 : x ≠ q := fun z => by rw [← z, upd_same] at hq; cases hq
    refine ⟨q, [c, d], rfl, .inl (.inl upd_same), rfl, c, [d], rfl, _, rfl, x, CR, dx, _, rfl, (by rw [upd_ne e2]; exact upd_same), T.cR, n3, by show 2 < 1000; decide, d, [], rfl, _, rfl, x, CR, dx, _, rfl, upd_same, T.cR, n4, by show 3 < 1000; decide, rfl, ?_⟩
    intro l hl
    have e3 : x ≠ l := fun z => by rw [← z, upd_same] at hl; cases hl
    refine ⟨_, rfl, x, CR, dx, _, rfl, (by rw [upd_ne e3]; exact upd_same), T.cR, n5, by show 4 < 1000; decide, k _ _ (fun y o ny hy => ?_) upd_same rfl rfl rfl rfl rfl⟩
    have h1 : y ≠ p := ne_of_none hy hp
    have hq' : H q = none := by
      rw [upd_ne e2.symm, upd_ne e2.symm] at hq
      by_cases z : q = p
      · rw [z, upd_same] at hq; cases hq
      · rwa [upd_ne z] at hq
    have h2 : y ≠ q := ne_of_none hy hq'
    have hl' : H l = none := by
      rw [upd_ne e3.symm, upd_ne e3.symm] at hl
      by_cases z : l = q
      · rw [z, upd_same] at hl; cases hl
      rw [upd_ne z, upd_ne e3.symm, upd_ne e3.symm] at hl
      by_cases z : l = p
      · rw [z, upd_same] at hl; cases hl
      · rwa [upd_ne z] at hl
    have h3 : y ≠ l := ne_of_none hy hl'
    rw [upd_ne ny, upd_ne h3, upd_ne ny, upd_ne ny, upd_ne h2, upd_ne ny, upd_ne ny, upd_ne h1]
    exact hy

section
variable {τ : List (SL Kp)} {P' : PE' Kp} {tr : TA}
theorem py_ovs (ov : Ovs) : toPy (ovsD ov) = some (pOvs ov) := by
  have : toPys (ov.map pairD) = some (ov.map fun p => PyData.tuple [.int p.1, .int p.2]) := toPys_map _ _ _ fun a _ => by simp [pairD, DL.prD, toPy, toPys]
  simp [ovsD, toPy, this, pOvs]
theorem py_dates (n : Nat) : toPy (datesD n) = some (pDts n) := by
  have : toPys ((List.replicate n ()).map fun _ => dateD) = some ((List.replicate n ()).map fun _ => PyData.tuple [.none, .none]) := toPys_map _ _ _ fun a _ => by simp [dateD, toPy, toPys]
  simp only [datesD, toPy, this, pDts, Option.map_some]
theorem pur_ovs (ov : Ovs) : (ovsD ov).pur = true := purs_map _ _ fun _ _ => rfl
theorem pur_dates (n : Nat) : (datesD n).pur = true := purs_map _ _ fun _ _ => rfl
theorem de_mkB {cl : Nat} {C : Addr} {E0 : XK} (hC : ClB CB CR cl C) (h : DA (Zk K CB CR) tr τ fun rs τ1 => ∃ (n : Nat) (ov : Ovs), rs = [.v (.int (n : Nat)), .v (ovsD ov), .v (datesD n), .v (.tup [])] ∧ P' (.v (.obj (.ins (bookI cl n ov)))) τ1) :
    DE (Zk K CB CR) (tMake C (spBook C) [] E0 tr) τ P' := fun H0 w E σ H Q R c => by
  refine h H0 w E σ H _ R fun rs τ1 xs w1 H1 h1 n1 R1 va => ?_
  obtain ⟨n, ov, rfl, k⟩ := h1
  cases va with
  | @cons a _ _ _ r1 va =>
    cases va with
    | @cons b _ _ _ r2 va =>
      cases va with
      | @cons c' _ _ _ r3 va =>
        cases va with
        | @cons d _ _ _ r4 va =>
          cases va
          intro x dx hx hd ne
          refine ⟨x, dx, a, b, c', d, rfl, upd_same, fun H' fs s hx' l1 l2 l3 l4 l5 => ⟨rfl, ?_⟩⟩
          have sm : Same H1 H' := fun y o hy => s y o (ne_of_none hy hx) (by
            rw [upd_ne (ne_of_none hy hx), upd_ne (ne_of_none hy hd)]
            exact hy)
          obtain ⟨R2, sg⟩ := R1.ext sm
          have nf := R1.fresh hx
          refine c _ τ1 _ w1 H' k ⟨n1.le, n1.sm.trans sg, n1.sh⟩ ⟨R2, .obj ?_⟩
          refine ⟨x, C, dx, fs, rfl, (hide_out nf).trans hx', hC, fun q hq => ?_, fun f hf => ?_⟩
          · have m : ∀ {v : V} {e : Dk} {p : PyData}, Rp (Zk K CB CR) w1 (Gd (Zk K CB CR) w1 E τ1 H1) v e → toPy e = some p → e.pur = true → Pq K (Gd (Zk K CB CR) w1 E τ1 H') v p := fun r e1 e2 => (rp_pq r e1 e2).mono (gp_mono sg)
            simp only [bookI, List.mem_cons, List.not_mem_nil, or_false] at hq
            rcases hq with rfl | rfl | rfl | rfl
            · exact ⟨a, l1, m r1 rfl rfl⟩
            · exact ⟨b, l2, m r2 (py_ovs ov) (pur_ovs ov)⟩
            · exact ⟨c', l3, m r3 (py_dates n) (pur_dates n)⟩
            · exact ⟨d, l4, m r4 (by simp [toPy, toPys]) rfl⟩
          · have e : f = "parts" := by simpa [bookI] using hf
            rw [e]
            exact l5
end

end K67
set_option Elab.async false
set_option linter.all false
set_option maxRecDepth 100000
namespace K67
open PySem PySem.Spec PyProof.Rows L2 DL RZ
/-! K7: laying -/
variable {P : Program} {w : World} {K : PySem.W.Frag} {mg : Str → Option Value} {base : Heap} {CB CR : Addr}

theorem dates_flat (n : Nat) : (List.replicate n [dateD]).flatten = (List.replicate n ()).map fun _ => dateD := by
  induction n with
  | zero => rfl
  | succ n ih => rw [List.replicate_succ, List.flatten_cons, ih, List.replicate_succ, List.map_cons] <;> rfl

def S_read_off : FS Kp := fun ds Q => ∃ n d g, ds = [.int (n : Nat), d] ∧ seqD d = some (g.map intsD) ∧ okG n g ∧ Q (.v (bookD n (ovG g)))
abbrev s_read_off : Stmt := top 44
abbrev N_read_off : List Str := ["count", "grid"]
theorem sc_read_off : FnScope N_read_off ["count", "grid"] (defScope s_read_off) := ⟨rfl, rfl, rfl, by decide +kernel, rfl, by decide +kernel, by decide +kernel⟩
theorem has_read_off {k : Nat} (D : Def K mg "read_off" s_read_off ["count", "grid"]) (h_check_grid : Has P w K mg base "check_grid" (k + 1) ["count", "grid"] (spD (Zk K CB CR) S_check_grid)) (h_overs_of : Has P w K mg base "overs_of" (k + 1) ["grid"] (spD (Zk K CB CR) S_overs_of)) (m_RawBook : HasMk P w K mg base "RawBook" CR k bks (spBook CR)) (T : Tx K CB CR) : Has P w K mg base "read_off" ((k + 1) + 1) ["count", "grid"] (spD (Zk K CB CR) S_read_off) := by
  refine D.has sc_read_off ?hl fun f cdv A outer s H E hr => ?bod
  case bod =>
    have hu1 := hu_of hr
    have hu0 := hu0_of hr
    have hu65 := hu65_of hr
    refine ⟨_, (pss_cons (ps_expr (pe_callH h_check_grid hr (by rfl) (pa_cons (pv 0) (pa_cons (pv 1) pa_nil))))
    (pss_one (ps_ret (pe_makeH m_RawBook hr (by rfl) (pa_cons (pv 0) (pa_cons (pe_callH h_overs_of hr (by rfl) (pa_cons (pv 1) pa_nil)) (pa_cons (pe_op (kop_mul (K := K) rfl) (pe_tup (pa_cons (pe_tup (pa_cons pe_non (pa_cons pe_non pa_nil))) pa_nil)) (pv 0)) (pa_cons (pe_tup pa_nil) pa_nil)))))))), ?_⟩
    rintro ds Q ⟨n, d, g, rfl, hd, hg, h⟩
    have h2 := hg.n2; have h3 := hg.n16; have h4 := hg.g1; have h5 := hg.g20
    refine dx_seq (dx_drop (de_call ?_))
    repeat (first
    | with_reducible refine dx_seq ?_ | with_reducible refine dx_ret ?_ | with_reducible refine dx_if ?_ | with_reducible refine dx_next ?_ | with_reducible refine dx_drop ?_ | with_reducible refine dx_asg ?_ | with_reducible refine dt_or ?_ | with_reducible refine dt_and ?_ | with_reducible refine dt_not ?_ | with_reducible refine dt_test ?_ | with_reducible refine dt_val ?_ | with_reducible refine de_int ?_ | with_reducible refine de_bl ?_ | with_reducible refine de_non ?_ | with_reducible refine de_str ?_ | with_reducible refine de_andV ?_ | with_reducible refine de_orV ?_ | with_reducible refine de_notV ?_ | with_reducible refine de_chain ?_ | with_reducible refine de_I0 ?_ | with_reducible refine de_B0 ?_ | with_reducible refine de_isInt ?_ | with_reducible refine de_isBl ?_ | with_reducible refine de_isTup ?_ | with_reducible refine de_isStr ?_ | with_reducible refine de_isRow ?_ | with_reducible refine de_len ?_ | with_reducible refine de_call ?_ | with_reducible refine de_ifx ?_ | with_reducible refine da_cons ?_ | with_reducible refine da_nil ?_
    | (with_reducible refine de_d (by with_unfolding_all rfl) ?_) | (with_reducible refine de_o (by with_unfolding_all rfl) ?_) | refine ⟨_, rfl, ?_⟩ | refine ⟨rfl, _, rfl, ?_⟩ | (with_reducible refine iteT' (by with_unfolding_all rfl) ?_) | (with_reducible refine iteF' (by with_unfolding_all rfl) ?_) | with_reducible refine de_count T ?_ | with_reducible refine de_overs T ?_ | with_reducible refine de_dates T ?_ | with_reducible refine de_kinds T ?_ | with_reducible refine de_nN ?_ | with_reducible refine de_nnN ?_ | refine ⟨_, _, rfl, ?_⟩ | refine ⟨_, _, _, rfl, ?_⟩ | refine ⟨_, rfl, rfl, ?_⟩)
    refine ⟨n, d, g, rfl, hd, hg, ?_⟩
    refine dx_ret (de_mkB (.inr ⟨rfl, rfl⟩) (da_cons (de_d rfl (da_cons (de_call ?_)))))
    repeat (first
    | with_reducible refine dx_seq ?_ | with_reducible refine dx_ret ?_ | with_reducible refine dx_if ?_ | with_reducible refine dx_next ?_ | with_reducible refine dx_drop ?_ | with_reducible refine dx_asg ?_ | with_reducible refine dt_or ?_ | with_reducible refine dt_and ?_ | with_reducible refine dt_not ?_ | with_reducible refine dt_test ?_ | with_reducible refine dt_val ?_ | with_reducible refine de_int ?_ | with_reducible refine de_bl ?_ | with_reducible refine de_non ?_ | with_reducible refine de_str ?_ | with_reducible refine de_andV ?_ | with_reducible refine de_orV ?_ | with_reducible refine de_notV ?_ | with_reducible refine de_chain ?_ | with_reducible refine de_I0 ?_ | with_reducible refine de_B0 ?_ | with_reducible refine de_isInt ?_ | with_reducible refine de_isBl ?_ | with_reducible refine de_isTup ?_ | with_reducible refine de_isStr ?_ | with_reducible refine de_isRow ?_ | with_reducible refine de_len ?_ | with_reducible refine de_call ?_ | with_reducible refine de_ifx ?_ | with_reducible refine da_cons ?_ | with_reducible refine da_nil ?_
    | (with_reducible refine de_d (by with_unfolding_all rfl) ?_) | (with_reducible refine de_o (by with_unfolding_all rfl) ?_) | refine ⟨_, rfl, ?_⟩ | refine ⟨rfl, _, rfl, ?_⟩ | (with_reducible refine iteT' (by with_unfolding_all rfl) ?_) | (with_reducible refine iteF' (by with_unfolding_all rfl) ?_) | with_reducible refine de_count T ?_ | with_reducible refine de_overs T ?_ | with_reducible refine de_dates T ?_ | with_reducible refine de_kinds T ?_ | with_reducible refine de_nN ?_ | with_reducible refine de_nnN ?_ | refine ⟨_, _, rfl, ?_⟩ | refine ⟨_, _, _, rfl, ?_⟩ | refine ⟨_, rfl, rfl, ?_⟩)
    refine ⟨d, g, rfl, hd, hg.few, hg.rows, h5, da_cons (de_op bs_mul (de_tup (da_cons (de_tup ?_))))⟩
    repeat (first
    | with_reducible refine dx_seq ?_ | with_reducible refine dx_ret ?_ | with_reducible refine dx_if ?_ | with_reducible refine dx_next ?_ | with_reducible refine dx_drop ?_ | with_reducible refine dx_asg ?_ | with_reducible refine dt_or ?_ | with_reducible refine dt_and ?_ | with_reducible refine dt_not ?_ | with_reducible refine dt_test ?_ | with_reducible refine dt_val ?_ | with_reducible refine de_int ?_ | with_reducible refine de_bl ?_ | with_reducible refine de_non ?_ | with_reducible refine de_str ?_ | with_reducible refine de_andV ?_ | with_reducible refine de_orV ?_ | with_reducible refine de_notV ?_ | with_reducible refine de_chain ?_ | with_reducible refine de_I0 ?_ | with_reducible refine de_B0 ?_ | with_reducible refine de_isInt ?_ | with_reducible refine de_isBl ?_ | with_reducible refine de_isTup ?_ | with_reducible refine de_isStr ?_ | with_reducible refine de_isRow ?_ | with_reducible refine de_len ?_ | with_reducible refine de_call ?_ | with_reducible refine de_ifx ?_ | with_reducible refine da_cons ?_ | with_reducible refine da_nil ?_
    | (with_reducible refine de_d (by with_unfolding_all rfl) ?_) | (with_reducible refine de_o (by with_unfolding_all rfl) ?_) | refine ⟨_, rfl, ?_⟩ | refine ⟨rfl, _, rfl, ?_⟩ | (with_reducible refine iteT' (by with_unfolding_all rfl) ?_) | (with_reducible refine iteF' (by with_unfolding_all rfl) ?_) | with_reducible refine de_count T ?_ | with_reducible refine de_overs T ?_ | with_reducible refine de_dates T ?_ | with_reducible refine de_kinds T ?_ | with_reducible refine de_nN ?_ | with_reducible refine de_nnN ?_ | refine ⟨_, _, rfl, ?_⟩ | refine ⟨_, _, _, rfl, ?_⟩ | refine ⟨_, rfl, rfl, ?_⟩)
    refine ⟨[.non, .non], rfl, by simp, da_nil ⟨[dateD], rfl, by simp, de_d rfl ?_⟩⟩
    refine ⟨nofun, by omega, by omega, by simp, da_cons (de_tup (da_nil ⟨[], rfl, by simp, da_nil ⟨n, ovG g, ?_, rfl, h⟩⟩))⟩
    rw [Int.toNat_natCast, dates_flat]
    rfl
  case hl =>
    rintro ds Q ⟨n, d, g, rfl, _⟩
    rfl


/-- a may be laid: none of the layers left is to be beneath it -/
def freeL (ov : Ovs) (left : List Int) (a : Int) : Bool := !(ov.any fun p => decide (p.1 = a) && decide (p.2 ∈ left))
/-- the least first, as long as one may be laid -/
def laidF (ov : Ovs) : Nat → List Int → List Int
  | 0, _ => []
  | f + 1, left => match left.filter (freeL ov left) with
    | [] => []
    | a :: _ => a :: laidF ov f (left.erase a)
def laidL (n : Nat) (ov : Ovs) : List Int := laidF ov n (ups n)
theorem laidF_nil (ov : Ovs) : ∀ f, laidF ov f [] = []
  | 0 => rfl
  | f + 1 => rfl
theorem laidF_mem (ov : Ovs) : ∀ (f : Nat) (left : List Int) (a : Int), a ∈ laidF ov f left → a ∈ left
  | 0, _, a, h => by cases h
  | f + 1, left, a, h => by
    unfold laidF at h
    cases e : left.filter (freeL ov left) with
    | nil => rw [e] at h; cases h
    | cons b r =>
      rw [e] at h
      have hb : b ∈ left := (List.mem_filter.mp (by rw [e]; exact List.mem_cons_self)).1
      rcases List.mem_cons.mp h with q | q
      · rw [q]; exact hb
      · exact List.mem_of_mem_erase (laidF_mem ov f _ a q)

def S_laid : FS Kp := fun ds Q => ∃ n ov, ds = [.int (n : Nat), ovsD ov] ∧ n ≤ 16 ∧ ov.length ≤ 1000 ∧ Q (.v (.wtup ((laidL n ov).map .int)))
abbrev s_laid : Stmt := top 45
abbrev N_laid : List Str := ["count", "overs", "found", "left", "is_going", "lowest_now", "a", "one", "other"]
theorem sc_laid : FnScope N_laid ["count", "overs"] (defScope s_laid) := ⟨rfl, rfl, rfl, by decide +kernel, rfl, by decide +kernel, by decide +kernel⟩
theorem has_laid {k : Nat} (D : Def K mg "laid" s_laid ["count", "overs"]) (z_range : mg "range" = none) (z_list : mg "list" = none) (z_any : mg "any" = none) (z_len : mg "len" = none) (z_tuple : mg "tuple" = none) (T : Tx K CB CR) : Has P w K mg base "laid" (k + 1) ["count", "overs"] (spD (Zk K CB CR) S_laid) := by
  refine D.has sc_laid ?hl fun f cdv A outer s H E hr => ?bod
  case bod =>
    have hu1 := hu_of hr
    have hu0 := hu0_of hr
    have hu65 := hu65_of hr
    refine ⟨_, (pss_cons (ps_asg (pe_tup (pa_cons (pe_lst pa_nil) (pa_cons (pe_listRg rfl (by rfl) z_list (prg_1 (by rfl) z_range (pv 0))) pa_nil))) (kpg_tup (K := K) (n := 2) rfl rfl (pgs_cons (pg_name (i := 2) sc_laid.nd rfl (by first | exact Or.inl rfl | exact Or.inr rfl)) (pgs_cons (pg_name (i := 3) sc_laid.nd rfl (by first | exact Or.inl rfl | exact Or.inr rfl)) pgs_nil))))
    (pss_cons (ps_set (i := 4) sc_laid.nd rfl (by first | exact Or.inl rfl | exact Or.inr rfl) pe_bl)
    (pss_cons (ps_while PassesOwn.never (pt_val (pv 4)) (pss_cons (ps_setLc (i := 5) (own := [("a", 6)]) rfl sc_laid.nd rfl rfl (sw_true rfl rfl rfl (by decide +kernel)) (kpi_sq (K := K) rfl (pv 3)) (blkOk_by (N := N_laid) (sc := defScope s_laid) (by decide +kernel)) (fun _ _ _ _ _ => (pg_name (i := 6) sc_laid.nd rfl (by first | exact Or.inl rfl | exact Or.inr rfl))) (fun _ _ _ _ _ => (pts_one (pt_not (pt_val (pe_callB (kany (K := K) rfl rfl) (by rfl) z_any (by decide +kernel) (pa_cons (pe_lc (own := [("one", 7), ("other", 8)]) rfl sc_laid.nd (kpi_sq (K := K) rfl (pv 1)) (blk_of (N := N_laid) (sc := { kind := ScopeKind.function, names := [(".0", NameKind.local), ("a", NameKind.cell), ("any", NameKind.globalImplicit), ("left", NameKind.cell), ("overs", NameKind.cell)], isGenerator := false, isCoroutine := false }) rfl rfl (by decide +kernel)) (fun _ _ _ _ _ => (kpg_tup (K := K) (n := 2) rfl rfl (pgs_cons (pg_name (i := 7) sc_laid.nd rfl (by first | exact Or.inl rfl | exact Or.inr rfl)) (pgs_cons (pg_name (i := 8) sc_laid.nd rfl (by first | exact Or.inl rfl | exact Or.inr rfl)) pgs_nil)))) (fun _ _ _ _ _ => pts_nil) (fun _ _ _ _ _ => (pe_and (pe_cmpR (kop_eq (K := K) rfl hu65) (pv 7) (pv 6) (nomark _)) (pe_one (pe_cmpR (kop_in (K := K) rfl hu65) (pv 8) (pv 3) (by with_unfolding_all rfl)))))) pa_nil)))))) (fun _ _ _ _ _ => (pv 6)))
    (pss_cons (ps_set (i := 4) sc_laid.nd rfl (by first | exact Or.inl rfl | exact Or.inr rfl) (pe_cmpR op_gt (pe_callB (klen (K := K) rfl) (by rfl) z_len (by decide +kernel) (pa_cons (pv 5) pa_nil)) pe_int (nomark _)))
    (pss_one (ps_if (pt_val (pv 4)) (pss_cons (ps_expr (kpe_bm (K := K) rfl PySem.F.plainAttrs_list PySem.F.slot_list_append PySem.F.type_list_append mt_append (pv 2) (pa_cons (pe_ix (kix (K := K) rfl) (pv 5) pe_int (fun _ _ => rfl)) pa_nil)))
    (pss_one (ps_expr (kpe_remX (K := K) rfl rfl (pv 3) (pe_ix (kix (K := K) rfl) (pv 5) pe_int (fun _ _ => rfl)))))) pss_nil)))))
    (pss_one (ps_ret (kpe_tupW (K := K) rfl (by rfl) z_tuple (pv 2))))))), ?_⟩
    rintro ds Q ⟨n, ov, rfl, hn, hl, h⟩
    refine dx_seq (dx_asgT2 (dao_cons (de_lst (da_nil ⟨[], rfl, by simp, fun pf => ⟨rfl, dao_cons (de_lstRg (drg_1 (de_d rfl ⟨_, rfl, ⟨by omega, by omega, by omega, by omega⟩, fun pl => ⟨rfl, dao_nil ⟨_, _, rfl, ?_⟩⟩⟩)))⟩⟩))))
    rw [rg_up]
    refine dx_seq (dx_asg (de_bl ?_))
    let St : List Int → List Int → Bool → SL Kp → List (SL Kp) := fun found left g x => [.d (.int (n : Nat)), .d (ovsD ov), .own pf (.lst (found.map .int)), .own pl (.lst (left.map .int)), .d (.bl g), x, .u, .u, .u]
    refine dx_seq (dx_while (fun m τ2 => ∃ found left g x, τ2 = St found left g x ∧ found.length + left.length = n ∧ (if g = true then m = left.length + 1 ∧ found ++ laidF ov left.length left = laidL n ov else m = 0 ∧ found = laidL n ov)) ⟨n + 1, [], ups n, true, .u, rfl, by rw [ups_len]; exact Nat.zero_add _, by rw [if_pos rfl, ups_len]; exact ⟨rfl, rfl⟩⟩ ?_)
    rintro m τ2 ⟨found, left, g, x, rfl, hleft, hinv⟩
    refine dt_val (de_d rfl ⟨g, rfl, ?_⟩)
    cases g with
    | false =>
      rw [if_neg Bool.false_ne_true] at hinv ⊢
      rw [hinv.2]
      exact dx_ret (de_tupW (de_o rfl ⟨_, rfl, purs_ints _, h⟩))
    | true =>
      rw [if_pos rfl] at hinv ⊢
      obtain ⟨rfl, hinv⟩ := hinv
      refine dx_seq (dx_asg (de_lcF .int (freeL ov left) .int (di_sq (de_o rfl ⟨(left.map .int, some 3), rfl, left, rfl, fun a ha => dg_nm rfl ?_, rfl, by omega, rfl, fun p => ?_⟩))))
      · refine dt_not (dt_val (de_anyC (α := Int × Int) pairD (fun p => decide (p.1 = a) && decide (p.2 ∈ left)) (di_sq (de_d rfl ⟨(ov.map pairD, none), rfl, ov, rfl, fun p hp => dg_tp rfl (dgs_cn (dg_nm rfl (dgs_cn (dg_nm rfl (dgs_nl ?_))))), rfl, by omega, rfl, _, rfl, rfl, rfl, fun _ => de_d rfl ⟨rfl, rfl⟩⟩))))
        refine de_andV (de_eq (de_d rfl (de_d rfl ⟨_, _, rfl, rfl, rfl, rfl, _, rfl, ?_⟩)))
        refine iteB (fun c => ?_) (fun c => ?_)
        · refine de_in (de_d rfl (de_o rfl ⟨_, _, _, rfl, rfl, rfl, rfl, lay_intsL left, rfl, ?_⟩))
          replace c : eqD (.int p.1 : Dk) (.int a) = true := c
          rw [eqD_int] at c
          show ER.v (.bl ((left.map (.int : Int → Dk)).any fun z => eqD z (.int p.2))) = _
          rw [any_ints, c]
          rfl
        · replace c : eqD (.int p.1 : Dk) (.int a) = false := c
          rw [eqD_int] at c
          refine ⟨rfl, ?_⟩
          rw [c]
          rfl
      refine dx_seq (dx_asg (de_B0 (de_len (de_o rfl ⟨_, rfl, _, rfl, de_int ⟨0, rfl, ?_⟩⟩))))
      have el : (((left.filter (freeL ov left)).map (.int : Int → Dk)).length : Int) = ((left.filter (freeL ov left)).length : Int) := by rw [List.length_map]
      rw [el]
      cases q : left.filter (freeL ov left) with
      | nil =>
        refine dx_if (dt_val (de_d rfl ⟨false, rfl, iteF' rfl (dx_next ⟨0, by omega, found, left, false, _, rfl, hleft, ?_⟩)⟩))
        rw [if_neg Bool.false_ne_true]
        refine ⟨rfl, ?_⟩
        rw [← hinv]
        cases left with
        | nil => simp [laidF]
        | cons b r => simp only [List.length_cons, laidF, q, List.append_nil]
      | cons a r =>
        have ha : a ∈ left := (List.mem_filter.mp (by rw [q]; exact List.mem_cons_self)).1
        have at0 : atI (((a :: r).map (.int : Int → Dk))) 0 = some (.int a) := atI_nat (j := 0) rfl
        have ed : decide ((0 : Int) < (((a :: r).length : Nat) : Int)) = true := decide_eq_true (by rw [List.length_cons]; omega)
        rw [ed]
        refine dx_if (dt_val (de_d rfl ⟨true, rfl, iteT' rfl ?_⟩))
        have hlen : 0 < left.length := List.length_pos_iff.mpr fun z => by rw [z] at ha; cases ha
        have hf : found.length < 100000 := by omega
        refine dx_seq (dx_drop (de_append ⟨_, _, rfl⟩ (de_ix (de_o rfl (de_int ⟨_, 0, _, rfl, rfl, at0, _, _, _, rfl, rfl, by rw [List.length_map]; exact hf, ?_⟩)))))
        refine dx_drop (de_remX ⟨_, _, rfl⟩ (de_ix (de_o rfl (de_int ⟨_, 0, _, rfl, rfl, at0, pl, left, a, rfl, rfl, ha, ?_⟩))))
        have he : (left.erase a).length = left.length - 1 := List.length_erase_of_mem ha
        refine ⟨(left.erase a).length + 1, by omega, found ++ [a], left.erase a, true, .own p (.lst ((a :: r).map .int)), ?_, by rw [List.length_append, List.length_singleton]; omega, ?_⟩
        · simp only [St, List.map_append, List.map_cons, List.map_nil]
          rfl
        · rw [if_pos rfl]
          refine ⟨rfl, ?_⟩
          rw [← hinv, List.append_assoc]
          congr 1
          obtain ⟨f, ef⟩ : ∃ f, left.length = f + 1 := ⟨left.length - 1, by omega⟩
          rw [ef]
          simp only [laidF, q]
          rw [he, ef]
          rfl
  case hl =>
    rintro ds Q ⟨n, ov, rfl, _⟩
    rfl


end K67
set_option Elab.async false
set_option linter.all false
set_option maxRecDepth 100000
namespace K67
open PySem PySem.Spec PyProof.Rows L2 DL RZ
/-! K8: rings of a grid -/
variable {P : Program} {w : World} {K : PySem.W.Frag} {mg : Str → Option Value} {base : Heap} {CB CR : Addr}

/-! ### following till one comes again -/
/-- each goes to the next, the last to here -/
def Linked (nx : Int → Int) : List Int → Int → Prop
  | [], _ => True
  | [a], h => nx a = h
  | a :: b :: r, h => nx a = b ∧ Linked nx (b :: r) h
theorem linked_snoc {nx : Int → Int} : ∀ {l : List Int} {h : Int}, Linked nx l h → Linked nx (l ++ [h]) (nx h)
  | [], h, _ => rfl
  | [a], h, q => ⟨q, rfl⟩
  | a :: b :: r, h, q => ⟨q.1, linked_snoc (l := b :: r) q.2⟩
theorem linked_drop {nx : Int → Int} : ∀ {l : List Int} {h : Int} (k : Nat), Linked nx l h → Linked nx (l.drop k) h
  | l, h, 0, q => q
  | [], h, k + 1, _ => trivial
  | [a], h, k + 1, _ => by simp [Linked]
  | a :: b :: r, h, k + 1, q => linked_drop (l := b :: r) k q.2
theorem linked_get {nx : Int → Int} : ∀ {l : List Int} {h : Int} {i : Nat} {a : Int}, Linked nx l h → l[i]? = some a → (l ++ [h])[i + 1]? = some (nx a)
  | [b], h, 0, a, q, e => by simp at e; subst e; simp [show nx b = h from q]
  | [b], h, i + 1, a, q, e => by simp at e
  | b :: c :: r, h, 0, a, q, e => by simp at e; subst e; simp [q.1]
  | b :: c :: r, h, i + 1, a, q, e => by
    have := linked_get (l := c :: r) (i := i) (a := a) q.2 (by simpa using e)
    simpa using this
/-- round and round -/
def Cyc (nx : Int → Int) (l : List Int) : Prop := ∀ q ∈ l.zip (l.drop 1 ++ l.take 1), nx q.1 = q.2
theorem linked_cyc {nx : Int → Int} {h : Int} {l : List Int} (q : Linked nx (h :: l) h) : Cyc nx (h :: l) := by
  intro p hp
  obtain ⟨i, hi⟩ := List.getElem?_of_mem hp
  rw [List.getElem?_zip_eq_some] at hi
  obtain ⟨h1, h2⟩ := hi
  have := linked_get q h1
  simp only [List.drop_succ_cons, List.drop_zero, List.take_succ_cons, List.take_zero] at h2
  rw [List.cons_append, List.getElem?_cons_succ, h2] at this
  exact (Option.some.inj this).symm
/-- a ring of a grid: places whose pairs follow on one another, round -/
structure RingS (g : Grid) (rs : Ovs) : Prop where
  ne : rs ≠ []
  ok : ∀ s ∈ rs, stepOk g s
  cyc : ∀ q ∈ rs.zip (rs.drop 1 ++ rs.take 1), (pairAt g q.1).2 = (pairAt g q.2).1
  few : rs.length ≤ 16
theorem getA_app {α β : Type} [DecidableEq α] (m : List (α × β)) (k k' : α) (v : β) : getA (m ++ [(k, v)]) k' = (getA m k').or (if k = k' then some v else none) := by
  unfold getA
  rw [List.find?_append]
  cases m.find? fun kv => decide (kv.1 = k') with
  | some x => rfl
  | none =>
    by_cases h : k = k'
    · simp [h]
    · simp [h]
theorem getA_mem {α β : Type} [DecidableEq α] {m : List (α × β)} {k : α} (h : getA m k = none) : k ∉ m.map (·.1) := fun hm => by
  obtain ⟨x, hx, e⟩ := List.mem_map.mp hm
  unfold getA at h
  rw [Option.map_eq_none_iff] at h
  have := List.find?_eq_none.mp h x hx
  simp at this
  exact this e
theorem nodup_le : ∀ {xs ys : List Int}, xs.Nodup → (∀ a ∈ xs, a ∈ ys) → xs.length ≤ ys.length
  | [], ys, _, _ => Nat.zero_le _
  | x :: xs, ys, hn, hs => by
    have hx := hs x List.mem_cons_self
    have h1 := List.nodup_cons.mp hn
    have := nodup_le (xs := xs) (ys := ys.erase x) h1.2 fun a ha => (List.mem_erase_of_ne fun e => h1.1 (by rw [← e]; exact ha)).mpr (hs a (List.mem_cons_of_mem _ ha))
    rw [List.length_erase_of_mem hx] at this
    have : 0 < ys.length := List.length_pos_iff.mpr fun e => by rw [e] at hx; cases hx
    simp only [List.length_cons]
    omega
theorem cyc_map {α : Type} (f : Int → α) {R : α → α → Prop} {nx : Int → Int} {l : List Int} (h : Cyc nx l) (hr : ∀ a ∈ l, R (f a) (f (nx a))) : ∀ q ∈ (l.map f).zip ((l.map f).drop 1 ++ (l.map f).take 1), R q.1 q.2 := by
  intro q hq
  rw [← List.map_drop, ← List.map_take, ← List.map_append] at hq
  rw [List.zip_map, List.mem_map] at hq
  obtain ⟨⟨a, b⟩, hp, rfl⟩ := hq
  have e := h _ hp
  have := hr a (List.of_mem_zip hp).1
  rw [show nx a = b from e] at this
  exact this
/-- what stands beneath: a place and the layer behind -/
def entD (g : Grid) (left : List Int) (k : Key) (d : Dk) : Prop := ∃ (s : Int × Int), stepOk g s ∧ k = .inl (pairAt g s).1 ∧ d = .tup [pairD s, .int (pairAt g s).2] ∧ (pairAt g s).1 ∈ left ∧ (pairAt g s).2 ∈ left
/-- left is stuck: beneath each of it another one of it is to be -/
def stuckL (ov : Ovs) (left : List Int) : Prop := ∀ a ∈ left, ∃ b, (a, b) ∈ ov ∧ b ∈ left
theorem ov_step {g : Grid} {p : Int × Int} : p ∈ ovG g ↔ ∃ s, stepOk g s ∧ pairAt g s = p := by
  unfold ovG
  rw [usort_mem, ← steps_pairs, List.mem_map]
  constructor
  · rintro ⟨s, hs, e⟩; exact ⟨s, mem_steps.mp hs, e⟩
  · rintro ⟨s, hs, e⟩; exact ⟨s, mem_steps.mpr hs, e⟩

def S_ring_in : FS Kp := fun ds Q => ∃ (d : Dk) (g : Grid) (left : List Int), ds = [d, .lst (left.map .int)] ∧ seqD d = some (g.map intsD) ∧ (pairsOf g).length ≤ 100 ∧ (∀ c ∈ g, c.length ≤ 16) ∧ g.length ≤ 20 ∧ left ≠ [] ∧ left.Nodup ∧ left.length ≤ 16 ∧ stuckL (ovG g) left ∧ ∀ rs, RingS g rs → Q (.v (.tup (rs.map pairD)))
abbrev s_ring_in : Stmt := top 46
abbrev N_ring_in : List Str := ["grid", "left", "beneath", "step", "met", "here", "one", "other", "layer"]
theorem sc_ring_in : FnScope N_ring_in ["grid", "left"] (defScope s_ring_in) := ⟨rfl, rfl, rfl, by decide +kernel, rfl, by decide +kernel, by decide +kernel⟩
theorem has_ring_in {k : Nat} (D : Def K mg "ring_in" s_ring_in ["grid", "left"]) (z_tuple : mg "tuple" = none) (h_steps_of : Has P w K mg base "steps_of" k ["grid"] (spD (Zk K CB CR) S_steps_of)) (h_pair_at : Has P w K mg base "pair_at" k ["grid", "step"] (spD (Zk K CB CR) S_pair_at)) (T : Tx K CB CR) : Has P w K mg base "ring_in" (k + 1) ["grid", "left"] (spD (Zk K CB CR) S_ring_in) := by
  refine D.has sc_ring_in ?hl fun f cdv A outer s H E hr => ?bod
  case bod =>
    have hu1 := hu_of hr
    have hu0 := hu0_of hr
    have hu65 := hu65_of hr
    refine ⟨_, (pss_cons (ps_set (i := 2) sc_ring_in.nd rfl (by first | exact Or.inl rfl | exact Or.inr rfl) pe_dnewK)
    (pss_cons (ps_for PassesOwn.never rfl (kpi_sq (K := K) rfl (pe_callH h_steps_of hr (by rfl) (pa_cons (pv 0) pa_nil))) (pg_name (i := 3) sc_ring_in.nd rfl (by first | exact Or.inl rfl | exact Or.inr rfl)) (pss_cons (ps_asg (pe_callH h_pair_at hr (by rfl) (pa_cons (pv 0) (pa_cons (pv 3) pa_nil))) (kpg_tup (K := K) (n := 2) rfl rfl (pgs_cons (pg_name (i := 6) sc_ring_in.nd rfl (by first | exact Or.inl rfl | exact Or.inr rfl)) (pgs_cons (pg_name (i := 7) sc_ring_in.nd rfl (by first | exact Or.inl rfl | exact Or.inr rfl)) pgs_nil))))
    (pss_one (ps_if (PW.pt (pw_and (pt_cmpR (kop_in (K := K) rfl hu65) (pv 6) (pv 1) (by with_unfolding_all rfl)) (pw_and (pt_cmpR (kop_in (K := K) rfl hu65) (pv 7) (pv 1) (by with_unfolding_all rfl)) (pw_and1 (pt_cmp (pc_dnotin hu1 (pv 6) (pv 2)) (by with_unfolding_all rfl)))))) (pss_one (ps_dput hu1 (pv 2) (pv 6) (pe_tup (pa_cons (pv 3) (pa_cons (pv 7) pa_nil))) rfl)) pss_nil))))
    (pss_cons (ps_par (i := 4) (j := 5) rfl sc_ring_in.nd rfl rfl (by decide) rfl rfl (pa_cons (pe_lst pa_nil) (pa_cons (pe_ix (kix (K := K) rfl) (pv 1) pe_int (fun _ _ => rfl)) pa_nil)) (by rfl))
    (pss_cons (ps_while PassesOwn.never (pt_cmpR (kop_nin (K := K) rfl hu65) (pv 5) (pv 4) (by with_unfolding_all rfl)) (pss_cons (ps_expr (kpe_bm (K := K) rfl PySem.F.plainAttrs_list PySem.F.slot_list_append PySem.F.type_list_append mt_append (pv 4) (pa_cons (pv 5) pa_nil)))
    (pss_one (ps_set (i := 5) sc_ring_in.nd rfl (by first | exact Or.inl rfl | exact Or.inr rfl) (pe_ix (kix (K := K) rfl) (pe_dget hu1 (pv 2) (pv 5) (fun _ _ => rfl)) pe_int (fun _ _ => rfl))))))
    (pss_one (ps_ret (kpe_tupleOf (K := K) rfl (by rfl) z_tuple (pe_lc (own := [("layer", 8)]) rfl sc_ring_in.nd (kpi_sq (K := K) rfl (pe_slice (ksl (K := K) rfl) (pv 4) (po_some (kpe_bm (K := K) rfl PySem.F.plainAttrs_list PySem.F.slot_list_index PySem.F.type_list_index (kmt_index (K := K) rfl hu65) (pv 4) (pa_cons (pv 5) pa_nil))) po_none)) (blkOk_by (N := N_ring_in) (sc := defScope s_ring_in) (by decide +kernel)) (fun _ _ _ _ _ => (pg_name (i := 8) sc_ring_in.nd rfl (by first | exact Or.inl rfl | exact Or.inr rfl))) (fun _ _ _ _ _ => pts_nil) (fun _ _ _ _ _ => (pe_ix (kix (K := K) rfl) (pe_dget hu1 (pv 2) (pv 8) (fun _ _ => rfl)) pe_int (fun _ _ => rfl))))))))))), ?_⟩
    rintro ds Q ⟨d, g, left, rfl, hd, hl, hc, hg, hne, hnd, h16, hst, h⟩
    have slen : (stepsOf g).length ≤ 100 := by rw [steps_len]; exact hl
    refine dx_seq (dx_asg (de_dnk fun pb => ?_))
    let St : List (Key × Dk) → SL Kp → SL Kp → SL Kp → List (SL Kp) := fun m x y z => [.d d, .d (.lst (left.map .int)), .own pb (mkd m), x, .u, .u, y, z, .u]
    refine dx_seq (dx_forE (α := Int × Int) [3] pairD (di_sq (de_call (da_cons (de_d rfl (da_nil ⟨d, g, rfl, hd, by omega, fun c h => by have := hc c h; omega, by omega, fun p => ⟨_, rfl, stepsOf g, rfl, fun i τ2 => ∃ m x y z, τ2 = St m x y z ∧ m.length ≤ i ∧ (∀ k e, getA m k = some e → entD g left k e) ∧
      (∀ s ∈ (stepsOf g).take i, (pairAt g s).1 ∈ left → (pairAt g s).2 ∈ left → (getA m (.inl (pairAt g s).1)).isSome = true), ⟨[], _, _, _, rfl, Nat.le_refl _, fun k e q => by simp [getA] at q, fun s hs => by simp at hs⟩, fun _ _ _ => trivial, ?_, ?_⟩⟩))))))
    · rintro i s τ2 hq ⟨m, x, y, z, rfl, hm, hs1, hs2⟩
      have hsk : stepOk g s := mem_steps.mp (List.mem_of_getElem? hq)
      obtain ⟨ci, cj, c, es, g1, g2⟩ := id hsk
      have hi : i < 100 := by have := (List.getElem?_eq_some_iff.mp hq).1; omega
      obtain ⟨a, b, hab⟩ : ∃ a b, pairAt g s = (a, b) := ⟨_, _, rfl⟩
      have two : (intsD ((c.drop cj).take 2)) = .tup [.int a, .int b] := by
        rw [es, pairAt_of g1] at hab
        rw [take_two g2]
        cases hab
        rfl
      refine dg_nm rfl (dx_seq (dx_asgG (L := [6, 7]) (de_call ?_)))
      repeat (first
    | with_reducible refine dx_seq ?_ | with_reducible refine dx_ret ?_ | with_reducible refine dx_if ?_ | with_reducible refine dx_next ?_ | with_reducible refine dx_drop ?_ | with_reducible refine dx_asg ?_ | with_reducible refine dt_or ?_ | with_reducible refine dt_and ?_ | with_reducible refine dt_not ?_ | with_reducible refine dt_test ?_ | with_reducible refine dt_val ?_ | with_reducible refine de_int ?_ | with_reducible refine de_bl ?_ | with_reducible refine de_non ?_ | with_reducible refine de_str ?_ | with_reducible refine de_andV ?_ | with_reducible refine de_orV ?_ | with_reducible refine de_notV ?_ | with_reducible refine de_chain ?_ | with_reducible refine de_I0 ?_ | with_reducible refine de_B0 ?_ | with_reducible refine de_isInt ?_ | with_reducible refine de_isBl ?_ | with_reducible refine de_isTup ?_ | with_reducible refine de_isStr ?_ | with_reducible refine de_isRow ?_ | with_reducible refine de_len ?_ | with_reducible refine de_call ?_ | with_reducible refine de_ifx ?_ | with_reducible refine da_cons ?_ | with_reducible refine da_nil ?_
    | (with_reducible refine de_d (by with_unfolding_all rfl) ?_) | (with_reducible refine de_o (by with_unfolding_all rfl) ?_) | refine ⟨_, rfl, ?_⟩ | refine ⟨rfl, _, rfl, ?_⟩ | (with_reducible refine iteT' (by with_unfolding_all rfl) ?_) | (with_reducible refine iteF' (by with_unfolding_all rfl) ?_) | with_reducible refine de_count T ?_ | with_reducible refine de_overs T ?_ | with_reducible refine de_dates T ?_ | with_reducible refine de_kinds T ?_ | with_reducible refine de_nN ?_ | with_reducible refine de_nnN ?_ | refine ⟨_, _, rfl, ?_⟩ | refine ⟨_, _, _, rfl, ?_⟩ | refine ⟨_, rfl, rfl, ?_⟩)
      refine ⟨d, g, ci, cj, c, by rw [es] <;> rfl, hd, g1, .tup [.int a, .int b], by rw [two] <;> rfl, dg_tp rfl (dgs_cn (dg_nm rfl (dgs_cn (dg_nm rfl (dgs_nl ?_)))))⟩
      have skip : (a ∈ left → b ∈ left → (getA m (.inl a)).isSome = true) → ∃ m' x y z, ([.d d, .d (.lst (left.map .int)), .own pb (mkd m), .d (pairD s), .u, .u, .d (.int a), .d (.int b), .u] : List (SL Kp)) = St m' x y z ∧ m'.length ≤ i + 1 ∧ (∀ k e, getA m' k = some e → entD g left k e) ∧
          (∀ s ∈ (stepsOf g).take (i + 1), (pairAt g s).1 ∈ left → (pairAt g s).2 ∈ left → (getA m' (.inl (pairAt g s).1)).isSome = true) := fun hh => by
        refine ⟨m, _, _, _, rfl, by omega, hs1, fun s' hs' h1 h2 => ?_⟩
        rw [take_one hq] at hs'
        rcases List.mem_append.mp hs' with q | q
        · exact hs2 s' q h1 h2
        · rw [List.mem_singleton.mp q, hab] at h1 h2 ⊢
          exact hh h1 h2
      refine dx_if (dt_and (dt_test (de_in (de_d rfl (de_d rfl ⟨_, _, _, rfl, rfl, rfl, rfl, lay_intsL left, _, rfl, ?_⟩)))))
      show if ((left.map (.int : Int → Dk)).any fun z => eqD z (.int a)) = true then _ else _
      rw [any_ints]
      refine iteB (fun c1 => ?_) (fun c1 => iteF' rfl (dx_next (skip fun h1 => by simp [h1] at c1)))
      refine dt_and (dt_test (de_in (de_d rfl (de_d rfl ⟨_, _, _, rfl, rfl, rfl, rfl, lay_intsL left, _, rfl, ?_⟩))))
      show if ((left.map (.int : Int → Dk)).any fun z => eqD z (.int b)) = true then _ else _
      rw [any_ints]
      refine iteB (fun c2 => ?_) (fun c2 => iteF' rfl (dx_next (skip fun _ h1 => by simp [h1] at c2)))
      have ha : a ∈ left := of_decide_eq_true c1
      have hb : b ∈ left := of_decide_eq_true c2
      refine dt_val (de_dnotin (de_d rfl (de_o rfl (.inl ⟨m, .inl a, rfl, rfl, _, rfl, ?_⟩))))
      cases hg0 : getA m (.inl a) with
      | some e => exact iteF' rfl (dx_next (skip fun _ _ => by rw [hg0] <;> rfl))
      | none =>
        refine iteT' rfl (dx_dput (de_tup ?_))
        repeat (first
    | with_reducible refine dx_seq ?_ | with_reducible refine dx_ret ?_ | with_reducible refine dx_if ?_ | with_reducible refine dx_next ?_ | with_reducible refine dx_drop ?_ | with_reducible refine dx_asg ?_ | with_reducible refine dt_or ?_ | with_reducible refine dt_and ?_ | with_reducible refine dt_not ?_ | with_reducible refine dt_test ?_ | with_reducible refine dt_val ?_ | with_reducible refine de_int ?_ | with_reducible refine de_bl ?_ | with_reducible refine de_non ?_ | with_reducible refine de_str ?_ | with_reducible refine de_andV ?_ | with_reducible refine de_orV ?_ | with_reducible refine de_notV ?_ | with_reducible refine de_chain ?_ | with_reducible refine de_I0 ?_ | with_reducible refine de_B0 ?_ | with_reducible refine de_isInt ?_ | with_reducible refine de_isBl ?_ | with_reducible refine de_isTup ?_ | with_reducible refine de_isStr ?_ | with_reducible refine de_isRow ?_ | with_reducible refine de_len ?_ | with_reducible refine de_call ?_ | with_reducible refine de_ifx ?_ | with_reducible refine da_cons ?_ | with_reducible refine da_nil ?_
    | (with_reducible refine de_d (by with_unfolding_all rfl) ?_) | (with_reducible refine de_o (by with_unfolding_all rfl) ?_) | refine ⟨_, rfl, ?_⟩ | refine ⟨rfl, _, rfl, ?_⟩ | (with_reducible refine iteT' (by with_unfolding_all rfl) ?_) | (with_reducible refine iteF' (by with_unfolding_all rfl) ?_) | with_reducible refine de_count T ?_ | with_reducible refine de_overs T ?_ | with_reducible refine de_dates T ?_ | with_reducible refine de_kinds T ?_ | with_reducible refine de_nN ?_ | with_reducible refine de_nnN ?_ | refine ⟨_, _, rfl, ?_⟩ | refine ⟨_, _, _, rfl, ?_⟩ | refine ⟨_, rfl, rfl, ?_⟩)
        refine ⟨[pairD s, .int b], rfl, by simp, _, rfl, ⟨_, _, rfl⟩, de_d rfl (.inl ⟨pb, m, .inl a, rfl, rfl, by omega, ?_⟩)⟩
        rw [putA_new (getA_mem hg0)]
        refine ⟨m ++ [(.inl a, .tup [pairD s, .int b])], _, _, _, rfl, by rw [List.length_append, List.length_singleton]; omega, fun k e q => ?_, fun s' hs' h1 h2 => ?_⟩
        · rw [getA_app] at q
          cases q2 : getA m k with
          | some e2 =>
            rw [q2] at q
            cases q
            exact hs1 k e q2
          | none =>
            rw [q2] at q
            by_cases hk : (Sum.inl a : Key) = k
            · rw [if_pos hk] at q
              cases q
              exact ⟨s, hsk, by rw [hab]; exact hk.symm, by rw [hab], by rw [hab]; exact ha, by rw [hab]; exact hb⟩
            · rw [if_neg hk] at q
              cases q
        · rw [getA_app]
          rw [take_one hq] at hs'
          rcases List.mem_append.mp hs' with q | q
          · obtain ⟨e, he⟩ := Option.isSome_iff_exists.mp (hs2 s' q h1 h2)
            rw [he] <;> rfl
          · rw [List.mem_singleton.mp q, hab, if_pos rfl]
            cases getA m (.inl a) <;> rfl
    · rintro τ2 ⟨m, x, y, z, rfl, hm, hs1, hs2⟩
      rw [List.take_length] at hs2
      have hall : ∀ a : Int, ∃ s : Int × Int, a ∈ left → stepOk g s ∧ (pairAt g s).1 = a ∧ (pairAt g s).2 ∈ left ∧ getA m (.inl a) = some (.tup [pairD s, .int (pairAt g s).2]) := fun a => by
        by_cases ha : a ∈ left
        · obtain ⟨b, hab, hb⟩ := hst a ha
          obtain ⟨s, h1, h2⟩ := ov_step.mp hab
          have h3 := hs2 s (mem_steps.mpr h1) (by rw [h2]; exact ha) (by rw [h2]; exact hb)
          rw [h2] at h3
          obtain ⟨e, he⟩ := Option.isSome_iff_exists.mp h3
          obtain ⟨s', k1, k2, k3, k4, k5⟩ := hs1 _ _ he
          refine ⟨s', fun _ => ⟨k1, (Sum.inl.inj k2).symm, k5, ?_⟩⟩
          rw [he, k3]
        · exact ⟨(0, 0), fun h => absurd h ha⟩
      obtain ⟨st, hstp⟩ := Classical.skolem.mp hall
      let nx : Int → Int := fun a => (pairAt g (st a)).2
      obtain ⟨a0, r0, rfl⟩ : ∃ a0 r0, left = a0 :: r0 := by
        cases left with
        | nil => exact absurd rfl hne
        | cons a r => exact ⟨a, r, rfl⟩
      have at0 : atI (((a0 :: r0).map (.int : Int → Dk))) 0 = some (.int a0) := atI_nat (j := 0) rfl
      show DX _ _ _ _
      refine dx_seq (dx_par (dao_cons (de_lst (da_nil ⟨[], rfl, by simp, fun pm => ⟨rfl, dao_cons (de_ix (de_d rfl (de_int ⟨_, 0, _, rfl, rfl, at0, rfl, dao_nil ⟨_, _, rfl, ?_⟩⟩)))⟩⟩))))
      refine dx_seq (dx_while (fun k τ2 => ∃ met here, τ2 = [.d d, .d (.lst ((a0 :: r0).map .int)), .own pb (mkd m), x, .own pm (.lst (met.map .int)), .d (.int here), y, z, .u] ∧ met.Nodup ∧ (∀ a ∈ met, a ∈ a0 :: r0) ∧ here ∈ a0 :: r0 ∧ Linked nx met here ∧ k = 20 - met.length) ⟨20, [], a0, rfl, List.nodup_nil, nofun, List.mem_cons_self, trivial, rfl⟩ ?_)
      rintro k τ2 ⟨met, here, rfl, m1, m2, m3, m4, rfl⟩
      refine dt_test (de_nin (de_d rfl (de_o rfl ⟨_, _, _, rfl, rfl, rfl, rfl, lay_intsL met, _, rfl, ?_⟩)))
      show if (!((met.map (.int : Int → Dk)).any fun z => eqD z (.int here))) = true then _ else _
      rw [any_ints]
      have ml : met.length ≤ 16 := Nat.le_trans (nodup_le m1 m2) h16
      obtain ⟨s1, s2, s3, s4⟩ := hstp here m3
      refine iteB (fun c => ?_) (fun c => ?_)
      · have hn : here ∉ met := by simpa using c
        have nd : (met ++ [here]).Nodup := List.nodup_append.mpr ⟨m1, by simp, fun a ha b hb => by simp at hb; subst hb; exact fun e => hn (e ▸ ha)⟩
        have atb : atI ([pairD (st here), .int (pairAt g (st here)).2] : List Dk) 1 = some (.int (nx here)) := atI_nat (j := 1) rfl
        refine dx_seq (dx_drop (de_append ⟨_, _, rfl⟩ (de_d rfl ⟨_, _, _, rfl, rfl, by rw [List.length_map]; omega, ?_⟩)))
        refine dx_asg (de_ix (de_dget (de_o rfl (de_d rfl (.inl ⟨m, .inl here, rfl, rfl, _, s4, de_int ⟨_, 1, _, rfl, rfl, atb, ?_⟩⟩)))))
        refine ⟨20 - (met ++ [here]).length, by rw [List.length_append, List.length_singleton]; omega, met ++ [here], nx here, ?_, nd, fun a ha => ?_, s3, linked_snoc m4, rfl⟩
        · rw [List.map_append]
          rfl
        · rcases List.mem_append.mp ha with q | q
          · exact m2 a q
          · rw [List.mem_singleton.mp q]; exact m3
      · have hm' : here ∈ met := by simpa using c
        let l := met.drop (met.idxOf here)
        have hl' : l = here :: met.drop (met.idxOf here + 1) := by
          have hlt := List.idxOf_lt_length_iff.mpr hm'
          show met.drop (met.idxOf here) = _
          rw [List.drop_eq_getElem_cons hlt, List.getElem_idxOf hlt]
        have hcyc : Cyc nx l := by
          have := linked_drop (met.idxOf here) m4
          rw [show met.drop (met.idxOf here) = l from rfl, hl'] at this
          rw [hl']
          exact linked_cyc this
        have hsub : ∀ a ∈ l, a ∈ a0 :: r0 := fun a ha => m2 a (List.mem_of_mem_drop ha)
        have hring : RingS g (l.map st) := by
          refine ⟨by rw [hl']; simp, fun s hs => ?_, cyc_map st (R := fun s t => (pairAt g s).2 = (pairAt g t).1) hcyc fun a ha => ?_, ?_⟩
          · obtain ⟨a, ha, rfl⟩ := List.mem_map.mp hs
            exact (hstp a (hsub a ha)).1
          · have h1 := (hstp a (hsub a ha)).2.2.1
            exact (hstp (nx a) h1).2.1.symm
          · rw [List.length_map]
            have : l.length ≤ met.length := by show (met.drop _).length ≤ _; rw [List.length_drop]; omega
            omega
        refine dx_ret (de_tupleOf (de_lcM (α := Int) .int (fun a => pairD (st a)) (di_sq (de_sl (de_o rfl (do_some (de_lix ?_)))))))
        refine de_o rfl ⟨⟨_, rfl⟩, de_d rfl ⟨met, here, rfl, rfl, hm', _, rfl, do_none ?_⟩⟩
        intro q
        refine ⟨(l.map .int, none), ?_, l, rfl, fun a ha => dg_nm rfl ?_, rfl, ?_, rfl, fun p => ⟨_, rfl, ?_, ?_⟩⟩
        · show some (cutL (met.map (.int : Int → Dk)) (some ((met.idxOf here : Nat) : Int)) none, none) = _
          rw [cut_from, ← List.map_drop]
        · obtain ⟨t1, t2, t3, t4⟩ := hstp a (hsub a ha)
          have atc : atI ([pairD (st a), .int (pairAt g (st a)).2] : List Dk) 0 = some (pairD (st a)) := atI_nat (j := 0) rfl
          exact de_ix (de_dget (de_o rfl (de_d rfl (.inl ⟨m, .inl a, rfl, rfl, _, t4, de_int ⟨_, 0, _, rfl, rfl, atc, rfl, rfl⟩⟩))))
        · have : l.length ≤ met.length := by show (met.drop _).length ≤ _; rw [List.length_drop]; omega
          omega
        · exact purs_map _ _ fun _ _ => rfl
        · have := h _ hring
          rw [List.map_map] at this
          exact this
  case hl =>
    rintro ds Q ⟨d, g, left, rfl, _⟩
    rfl


end K67
set_option Elab.async false
set_option linter.all false
set_option maxRecDepth 100000
namespace K67
open PySem PySem.Spec PyProof.Rows L2 DL RZ
/-! K9: histories -/
variable {P : Program} {w : World} {K : PySem.W.Frag} {mg : Str → Option Value} {base : Heap} {CB CR : Addr}

theorem erase_filter {left : List Int} {a : Int} (hn : left.Nodup) (L : List Int) : (left.erase a).filter (fun b => decide (b ∉ L)) = left.filter (fun b => decide (b ∉ a :: L)) := by
  rw [hn.erase_eq_filter, List.filter_filter]
  refine List.filter_congr fun b _ => ?_
  by_cases e : b = a
  · simp [e]
  · simp [e]
theorem laidF_rest (ov : Ovs) : ∀ (f : Nat) (left : List Int), left.length ≤ f → left.Nodup → (laidF ov f left).length + (left.filter fun b => decide (b ∉ laidF ov f left)).length = left.length ∧ (laidF ov f left).Nodup ∧ stuckL ov (left.filter fun b => decide (b ∉ laidF ov f left))
  | 0, left, hf, hn => by
    have : left = [] := List.length_eq_zero_iff.mp (by omega)
    subst this
    exact ⟨rfl, List.nodup_nil, fun a h => by cases h⟩
  | f + 1, left, hf, hn => by
    cases e : left.filter (freeL ov left) with
    | nil =>
      have el : laidF ov (f + 1) left = [] := by simp only [laidF, e]
      rw [el]
      have er : (left.filter fun b => decide (b ∉ ([] : List Int))) = left := List.filter_eq_self.mpr fun b _ => by simp
      rw [er]
      refine ⟨by simp, List.nodup_nil, fun a ha => ?_⟩
      have h1 := List.filter_eq_nil_iff.mp e a ha
      simp only [freeL, Bool.not_eq_true, Bool.not_eq_false'] at h1
      obtain ⟨p, hp, h2⟩ := List.any_eq_true.mp h1
      simp only [Bool.and_eq_true, decide_eq_true_eq] at h2
      exact ⟨p.2, by rw [← h2.1]; exact hp, h2.2⟩
    | cons a r =>
      have ha : a ∈ left := (List.mem_filter.mp (by rw [e]; exact List.mem_cons_self)).1
      have el : laidF ov (f + 1) left = a :: laidF ov f (left.erase a) := by simp only [laidF, e]
      rw [el, ← erase_filter hn]
      have hlen := List.length_erase_of_mem ha
      have hpos : 0 < left.length := List.length_pos_iff.mpr fun z => by rw [z] at ha; cases ha
      obtain ⟨h1, h2, h3⟩ := laidF_rest ov f (left.erase a) (by omega) (hn.erase a)
      refine ⟨by rw [List.length_cons]; omega, List.nodup_cons.mpr ⟨fun m => ?_, h2⟩, h3⟩
      have := laidF_mem ov f _ a m
      exact (List.Nodup.not_mem_erase hn) this
theorem laid_rest (n : Nat) (ov : Ovs) : (laidL n ov).length + ((ups n).filter fun b => decide (b ∉ laidL n ov)).length = n ∧ (laidL n ov).Nodup ∧ stuckL ov ((ups n).filter fun b => decide (b ∉ laidL n ov)) := by
  have := laidF_rest ov n (ups n) (by rw [ups_len]; exact Nat.le_refl _) (ups_nodup n)
  rw [ups_len] at this
  exact this
theorem pur_two (x : Str) {xs : List Dk} (h : DL.D.purs xs = true) : (.tup [.str x, .wtup xs] : Dk).pur = true := by simp [DL.D.pur, DL.D.purs, h]
theorem pur_two' (x : Str) {xs : List Dk} (h : DL.D.purs xs = true) : (.tup [.str x, .tup xs] : Dk).pur = true := by simp [DL.D.pur, DL.D.purs, h]
theorem laid_mem {n : Nat} {ov : Ovs} {a : Int} (h : a ∈ laidL n ov) : a ∈ ups n := laidF_mem ov n _ a h

def S_history : FS Kp := fun ds Q => ∃ n d g, ds = [.int (n : Nat), d] ∧ seqD d = some (g.map intsD) ∧ okG n g ∧ ((laidL n (ovG g)).length = n → Q (.v (.tup [.str "laid", .wtup ((laidL n (ovG g)).map .int)]))) ∧
  ((laidL n (ovG g)).length ≠ n → ∀ rs, RingS g rs → Q (.v (.tup [.str "ring", .tup (rs.map pairD)])))
abbrev s_history : Stmt := top 47
abbrev N_history : List Str := ["count", "grid", "order", "layer"]
theorem sc_history : FnScope N_history ["count", "grid"] (defScope s_history) := ⟨rfl, rfl, rfl, by decide +kernel, rfl, by decide +kernel, by decide +kernel⟩
theorem has_history {k : Nat} (D : Def K mg "history" s_history ["count", "grid"]) (z_len : mg "len" = none) (z_range : mg "range" = none) (h_check_grid : Has P w K mg base "check_grid" k ["count", "grid"] (spD (Zk K CB CR) S_check_grid)) (h_laid : Has P w K mg base "laid" k ["count", "overs"] (spD (Zk K CB CR) S_laid)) (h_overs_of : Has P w K mg base "overs_of" k ["grid"] (spD (Zk K CB CR) S_overs_of)) (h_ring_in : Has P w K mg base "ring_in" k ["grid", "left"] (spD (Zk K CB CR) S_ring_in)) (T : Tx K CB CR) : Has P w K mg base "history" (k + 1) ["count", "grid"] (spD (Zk K CB CR) S_history) := by
  refine D.has sc_history ?hl fun f cdv A outer s H E hr => ?bod
  case bod =>
    have hu1 := hu_of hr
    have hu0 := hu0_of hr
    have hu65 := hu65_of hr
    refine ⟨_, (pss_cons (ps_expr (pe_callH h_check_grid hr (by rfl) (pa_cons (pv 0) (pa_cons (pv 1) pa_nil))))
    (pss_cons (ps_set (i := 2) sc_history.nd rfl (by first | exact Or.inl rfl | exact Or.inr rfl) (pe_callH h_laid hr (by rfl) (pa_cons (pv 0) (pa_cons (pe_callH h_overs_of hr (by rfl) (pa_cons (pv 1) pa_nil)) pa_nil))))
    (pss_cons (ps_if (pt_cmpR (kop_eq (K := K) rfl hu65) (pe_callB (klen (K := K) rfl) (by rfl) z_len (by decide +kernel) (pa_cons (pv 2) pa_nil)) (pv 0) (nomark _)) (pss_one (ps_ret (pe_tup (pa_cons pe_str (pa_cons (pv 2) pa_nil))))) pss_nil)
    (pss_one (ps_ret (pe_tup (pa_cons pe_str (pa_cons (pe_callH h_ring_in hr (by rfl) (pa_cons (pv 1) (pa_cons (pe_lc (own := [("layer", 3)]) rfl sc_history.nd (pi_range1 (by rfl) z_range (pa_cons (pv 0) pa_nil)) (blkOk_by (N := N_history) (sc := defScope s_history) (by decide +kernel)) (fun _ _ _ _ _ => (pg_name (i := 3) sc_history.nd rfl (by first | exact Or.inl rfl | exact Or.inr rfl))) (fun _ _ _ _ _ => (pts_one (pt_cmpR (kop_nin (K := K) rfl hu65) (pv 3) (pv 2) (by with_unfolding_all rfl)))) (fun _ _ _ _ _ => (pv 3))) pa_nil))) pa_nil)))))))), ?_⟩
    rintro ds Q ⟨n, d, g, rfl, hd, hg, h1, h2⟩
    have g2 := hg.n2; have g3 := hg.n16; have g4 := hg.g1; have g5 := hg.g20
    obtain ⟨r1, r2, r3⟩ := laid_rest n (ovG g)
    have hlo : (ovG g).length ≤ 100 := Nat.le_trans (usort_len _) hg.few
    refine dx_seq (dx_drop (de_call ?_))
    repeat (first
    | with_reducible refine dx_seq ?_ | with_reducible refine dx_ret ?_ | with_reducible refine dx_if ?_ | with_reducible refine dx_next ?_ | with_reducible refine dx_drop ?_ | with_reducible refine dx_asg ?_ | with_reducible refine dt_or ?_ | with_reducible refine dt_and ?_ | with_reducible refine dt_not ?_ | with_reducible refine dt_test ?_ | with_reducible refine dt_val ?_ | with_reducible refine de_int ?_ | with_reducible refine de_bl ?_ | with_reducible refine de_non ?_ | with_reducible refine de_str ?_ | with_reducible refine de_andV ?_ | with_reducible refine de_orV ?_ | with_reducible refine de_notV ?_ | with_reducible refine de_chain ?_ | with_reducible refine de_I0 ?_ | with_reducible refine de_B0 ?_ | with_reducible refine de_isInt ?_ | with_reducible refine de_isBl ?_ | with_reducible refine de_isTup ?_ | with_reducible refine de_isStr ?_ | with_reducible refine de_isRow ?_ | with_reducible refine de_len ?_ | with_reducible refine de_call ?_ | with_reducible refine de_ifx ?_ | with_reducible refine da_cons ?_ | with_reducible refine da_nil ?_
    | (with_reducible refine de_d (by with_unfolding_all rfl) ?_) | (with_reducible refine de_o (by with_unfolding_all rfl) ?_) | refine ⟨_, rfl, ?_⟩ | refine ⟨rfl, _, rfl, ?_⟩ | (with_reducible refine iteT' (by with_unfolding_all rfl) ?_) | (with_reducible refine iteF' (by with_unfolding_all rfl) ?_) | with_reducible refine de_count T ?_ | with_reducible refine de_overs T ?_ | with_reducible refine de_dates T ?_ | with_reducible refine de_kinds T ?_ | with_reducible refine de_nN ?_ | with_reducible refine de_nnN ?_ | refine ⟨_, _, rfl, ?_⟩ | refine ⟨_, _, _, rfl, ?_⟩ | refine ⟨_, rfl, rfl, ?_⟩)
    refine ⟨n, d, g, rfl, hd, hg, ?_⟩
    refine dx_seq (dx_asg (de_call (da_cons (de_d rfl (da_cons (de_call ?_))))))
    repeat (first
    | with_reducible refine dx_seq ?_ | with_reducible refine dx_ret ?_ | with_reducible refine dx_if ?_ | with_reducible refine dx_next ?_ | with_reducible refine dx_drop ?_ | with_reducible refine dx_asg ?_ | with_reducible refine dt_or ?_ | with_reducible refine dt_and ?_ | with_reducible refine dt_not ?_ | with_reducible refine dt_test ?_ | with_reducible refine dt_val ?_ | with_reducible refine de_int ?_ | with_reducible refine de_bl ?_ | with_reducible refine de_non ?_ | with_reducible refine de_str ?_ | with_reducible refine de_andV ?_ | with_reducible refine de_orV ?_ | with_reducible refine de_notV ?_ | with_reducible refine de_chain ?_ | with_reducible refine de_I0 ?_ | with_reducible refine de_B0 ?_ | with_reducible refine de_isInt ?_ | with_reducible refine de_isBl ?_ | with_reducible refine de_isTup ?_ | with_reducible refine de_isStr ?_ | with_reducible refine de_isRow ?_ | with_reducible refine de_len ?_ | with_reducible refine de_call ?_ | with_reducible refine de_ifx ?_ | with_reducible refine da_cons ?_ | with_reducible refine da_nil ?_
    | (with_reducible refine de_d (by with_unfolding_all rfl) ?_) | (with_reducible refine de_o (by with_unfolding_all rfl) ?_) | refine ⟨_, rfl, ?_⟩ | refine ⟨rfl, _, rfl, ?_⟩ | (with_reducible refine iteT' (by with_unfolding_all rfl) ?_) | (with_reducible refine iteF' (by with_unfolding_all rfl) ?_) | with_reducible refine de_count T ?_ | with_reducible refine de_overs T ?_ | with_reducible refine de_dates T ?_ | with_reducible refine de_kinds T ?_ | with_reducible refine de_nN ?_ | with_reducible refine de_nnN ?_ | refine ⟨_, _, rfl, ?_⟩ | refine ⟨_, _, _, rfl, ?_⟩ | refine ⟨_, rfl, rfl, ?_⟩)
    refine ⟨d, g, rfl, hd, hg.few, hg.rows, g5, da_nil ⟨n, ovG g, rfl, g3, by omega, ?_⟩⟩
    refine dx_seq (dx_if (dt_test (de_eq (de_len (de_ld (de_d rfl ⟨_, .tup ((laidL n (ovG g)).map .int), rfl, .wtup (LDs.refl _), _, rfl, de_d rfl ⟨_, _, rfl, rfl, rfl, rfl, _, rfl, ?_⟩⟩))))))
    have e : eqD (.int (((laidL n (ovG g)).map (.int : Int → Dk)).length : Nat) : Dk) (.int (n : Nat)) = decide ((laidL n (ovG g)).length = n) := by
      rw [eqD_int, List.length_map]
      by_cases q : (laidL n (ovG g)).length = n
      · simp [q]
      · have : ¬ ((laidL n (ovG g)).length : Int) = (n : Int) := by omega
        simpa [q] using this
    show if eqD (.int (((laidL n (ovG g)).map (.int : Int → Dk)).length : Nat) : Dk) (.int (n : Nat)) = true then _ else _
    rw [e]
    refine iteB (fun c => ?_) (fun c => ?_)
    · refine dx_ret (de_tup ?_)
      repeat (first
    | with_reducible refine dx_seq ?_ | with_reducible refine dx_ret ?_ | with_reducible refine dx_if ?_ | with_reducible refine dx_next ?_ | with_reducible refine dx_drop ?_ | with_reducible refine dx_asg ?_ | with_reducible refine dt_or ?_ | with_reducible refine dt_and ?_ | with_reducible refine dt_not ?_ | with_reducible refine dt_test ?_ | with_reducible refine dt_val ?_ | with_reducible refine de_int ?_ | with_reducible refine de_bl ?_ | with_reducible refine de_non ?_ | with_reducible refine de_str ?_ | with_reducible refine de_andV ?_ | with_reducible refine de_orV ?_ | with_reducible refine de_notV ?_ | with_reducible refine de_chain ?_ | with_reducible refine de_I0 ?_ | with_reducible refine de_B0 ?_ | with_reducible refine de_isInt ?_ | with_reducible refine de_isBl ?_ | with_reducible refine de_isTup ?_ | with_reducible refine de_isStr ?_ | with_reducible refine de_isRow ?_ | with_reducible refine de_len ?_ | with_reducible refine de_call ?_ | with_reducible refine de_ifx ?_ | with_reducible refine da_cons ?_ | with_reducible refine da_nil ?_
    | (with_reducible refine de_d (by with_unfolding_all rfl) ?_) | (with_reducible refine de_o (by with_unfolding_all rfl) ?_) | refine ⟨_, rfl, ?_⟩ | refine ⟨rfl, _, rfl, ?_⟩ | (with_reducible refine iteT' (by with_unfolding_all rfl) ?_) | (with_reducible refine iteF' (by with_unfolding_all rfl) ?_) | with_reducible refine de_count T ?_ | with_reducible refine de_overs T ?_ | with_reducible refine de_dates T ?_ | with_reducible refine de_kinds T ?_ | with_reducible refine de_nN ?_ | with_reducible refine de_nnN ?_ | refine ⟨_, _, rfl, ?_⟩ | refine ⟨_, _, _, rfl, ?_⟩ | refine ⟨_, rfl, rfl, ?_⟩)
      exact ⟨[.str "laid", .wtup ((laidL n (ovG g)).map .int)], rfl, by simp, pur_two _ (purs_ints _), h1 (of_decide_eq_true c)⟩
    · refine dx_next (dx_ret (de_tup (da_cons (de_str (da_cons (de_call (da_cons (de_d rfl ?_))))))))
      have hne : (laidL n (ovG g)).length ≠ n := of_decide_eq_false c
      refine da_cons (de_lcF .int (fun b => decide (b ∉ laidL n (ovG g))) .int (di_rng1 (da_cons (de_d rfl (da_nil ⟨n, rfl, by omega, by omega, ups n, range_up n, fun a ha => dg_nm rfl ?_, rfl, by rw [ups_len]; omega, rfl, fun p => ?_⟩)))))
      · refine dt_test (de_nin (de_d rfl (de_ld (de_d rfl ⟨_, .tup ((laidL n (ovG g)).map .int), rfl, .wtup (LDs.refl _), _, _, _, rfl, rfl, rfl, rfl, lay_intsT _, _, rfl, rfl, ?_, fun _ => de_d rfl ⟨rfl, rfl⟩⟩))))
        show (!(((laidL n (ovG g)).map (.int : Int → Dk)).any fun z => eqD z (.int a))) = _
        rw [any_ints]
        simp
      · refine da_nil ⟨d, g, (ups n).filter fun b => decide (b ∉ laidL n (ovG g)), rfl, hd, hg.few, hg.rows, g5, fun z => ?_, (ups_nodup n).filter _, ?_, r3, fun rs hrs => da_nil ⟨[.str "ring", .tup (rs.map pairD)], rfl, by simp, ?_, h2 hne rs hrs⟩⟩
        · rw [z] at r1
          simp at r1
          exact hne r1
        · omega
        · exact pur_two' _ (purs_map _ _ fun _ _ => rfl)
  case hl =>
    rintro ds Q ⟨n, d, g, rfl, _⟩
    rfl


end K67
set_option Elab.async false
set_option linter.all false
set_option maxRecDepth 100000
namespace K67
open PySem PySem.Spec PyProof.Rows L2 DL RZ
/-! K10: rings and histories judged; what is shown -/
variable {P : Program} {w : World} {K : PySem.W.Frag} {mg : Str → Option Value} {base : Heap} {CB CR : Addr}

theorem ring_all {g : Grid} {rs : Ovs} (h : RingS g rs) : (((rs.map (pairAt g)).zip ((rs.map (pairAt g)).drop 1 ++ (rs.map (pairAt g)).take 1)).all fun q => decide (q.1.2 = q.2.1)) = true := by
  rw [List.all_eq_true]
  intro q hq
  rw [← List.map_drop, ← List.map_take, ← List.map_append, List.zip_map, List.mem_map] at hq
  obtain ⟨⟨s, t⟩, hp, rfl⟩ := hq
  exact decide_eq_true (h.cyc _ hp)
theorem at0p (s : Int × Int) : atI ([.int s.1, .int s.2] : List Dk) 0 = some (.int s.1) := atI_nat (j := 0) rfl
theorem at1p (s : Int × Int) : atI ([.int s.1, .int s.2] : List Dk) 1 = some (.int s.2) := atI_nat (j := 1) rfl

def S_is_ring : FS Kp := fun ds Q => ∃ (d : Dk) (g : Grid) (rs : Ovs), ds = [d, .tup (rs.map pairD)] ∧ seqD d = some (g.map intsD) ∧ RingS g rs ∧ Q (.v (.bl true))
abbrev s_is_ring : Stmt := top 48
abbrev N_is_ring : List Str := ["grid", "thing", "pairs", "step", "one", "other"]
theorem sc_is_ring : FnScope N_is_ring ["grid", "thing"] (defScope s_is_ring) := ⟨rfl, rfl, rfl, by decide +kernel, rfl, by decide +kernel, by decide +kernel⟩
theorem has_is_ring {k : Nat} (D : Def K mg "is_ring" s_is_ring ["grid", "thing"]) (z_isinstance : mg "isinstance" = none) (z_tuple : mg "tuple" = none) (z_len : mg "len" = none) (z_all : mg "all" = none) (z_zip : mg "zip" = none) (h_is_tuple : Has P w K mg base "is_tuple" k ["thing", "least", "most"] (spD (Zk K CB CR) S_is_tuple)) (h_is_within : Has P w K mg base "is_within" k ["thing", "low", "high"] (spD (Zk K CB CR) S_is_within)) (h_pair_at : Has P w K mg base "pair_at" k ["grid", "step"] (spD (Zk K CB CR) S_pair_at)) (T : Tx K CB CR) : Has P w K mg base "is_ring" (k + 1) ["grid", "thing"] (spD (Zk K CB CR) S_is_ring) := by
  refine D.has sc_is_ring ?hl fun f cdv A outer s H E hr => ?bod
  case bod =>
    have hu1 := hu_of hr
    have hu0 := hu0_of hr
    have hu65 := hu65_of hr
    refine ⟨_, (pss_cons (ps_if (PW.pt (pw_or (pt_not (pt_val (pe_callB (kisi (K := K) rfl) (by rfl) z_isinstance (by decide +kernel) (pa_cons (pv 1) (pa_cons (pe_bltn (by rfl) z_tuple (by decide +kernel) (show RelV (.ty "tuple") _ from rfl)) pa_nil))))) (pw_or1 (pt_cmpR (kop_eq (K := K) rfl hu65) (pe_callB (klen (K := K) rfl) (by rfl) z_len (by decide +kernel) (pa_cons (pv 1) pa_nil)) pe_int (nomark _))))) (pss_one (ps_ret pe_bl)) pss_nil)
    (pss_cons (ps_if (pt_not (pt_val (pe_callB (kall (K := K) rfl rfl) (by rfl) z_all (by decide +kernel) (pa_cons (pe_lc (own := [("step", 3)]) rfl sc_is_ring.nd (kpi_sq (K := K) rfl (pv 1)) (blkOk_by (N := N_is_ring) (sc := defScope s_is_ring) (by decide +kernel)) (fun _ _ _ _ _ => (pg_name (i := 3) sc_is_ring.nd rfl (by first | exact Or.inl rfl | exact Or.inr rfl))) (fun _ _ _ _ _ => pts_nil) (fun _ _ _ _ _ => (pe_and (pe_callH h_is_tuple hr (by rfl) (pa_cons (pv 3) (pa_cons pe_int (pa_cons pe_int pa_nil)))) (pe_one (pe_callH h_is_within hr (by rfl) (pa_cons (pe_ix (kix (K := K) rfl) (pv 3) pe_int (fun _ _ => rfl)) (pa_cons pe_int (pa_cons (pe_op op_sub (pe_callB (klen (K := K) rfl) (by rfl) z_len (by decide +kernel) (pa_cons (pv 0) pa_nil)) pe_int) pa_nil)))))))) pa_nil)))) (pss_one (ps_ret pe_bl)) pss_nil)
    (pss_cons (ps_if (pt_not (pt_val (pe_callB (kall (K := K) rfl rfl) (by rfl) z_all (by decide +kernel) (pa_cons (pe_lc (own := [("step", 3)]) rfl sc_is_ring.nd (kpi_sq (K := K) rfl (pv 1)) (blkOk_by (N := N_is_ring) (sc := defScope s_is_ring) (by decide +kernel)) (fun _ _ _ _ _ => (pg_name (i := 3) sc_is_ring.nd rfl (by first | exact Or.inl rfl | exact Or.inr rfl))) (fun _ _ _ _ _ => pts_nil) (fun _ _ _ _ _ => (pe_callH h_is_within hr (by rfl) (pa_cons (pe_ix (kix (K := K) rfl) (pv 3) pe_int (fun _ _ => rfl)) (pa_cons pe_int (pa_cons (pe_op op_sub (pe_callB (klen (K := K) rfl) (by rfl) z_len (by decide +kernel) (pa_cons (pe_ix (kix (K := K) rfl) (pv 0) (pe_ix (kix (K := K) rfl) (pv 3) pe_int (fun _ _ => rfl)) (fun _ _ => rfl)) pa_nil)) pe_int) pa_nil)))))) pa_nil)))) (pss_one (ps_ret pe_bl)) pss_nil)
    (pss_cons (ps_setLc (i := 2) (own := [("step", 3)]) rfl sc_is_ring.nd rfl rfl (sw_true rfl rfl rfl (by decide +kernel)) (kpi_sq (K := K) rfl (pv 1)) (blkOk_by (N := N_is_ring) (sc := defScope s_is_ring) (by decide +kernel)) (fun _ _ _ _ _ => (pg_name (i := 3) sc_is_ring.nd rfl (by first | exact Or.inl rfl | exact Or.inr rfl))) (fun _ _ _ _ _ => pts_nil) (fun _ _ _ _ _ => (pe_callH h_pair_at hr (by rfl) (pa_cons (pv 0) (pa_cons (pv 3) pa_nil)))))
    (pss_one (ps_ret (pe_callB (kall (K := K) rfl rfl) (by rfl) z_all (by decide +kernel) (pa_cons (pe_lc (own := [("one", 4), ("other", 5)]) rfl sc_is_ring.nd (kpi_zip (K := K) rfl (by rfl) z_zip (pa_cons (pv 2) (pa_cons (pe_op (kop_add (K := K) rfl) (pe_slice (ksl (K := K) rfl) (pv 2) (po_some pe_int) po_none) (pe_slice (ksl (K := K) rfl) (pv 2) po_none (po_some pe_int))) pa_nil))) (blkOk_by (N := N_is_ring) (sc := defScope s_is_ring) (by decide +kernel)) (fun _ _ _ _ _ => (kpg_tup (K := K) (n := 2) rfl rfl (pgs_cons (pg_name (i := 4) sc_is_ring.nd rfl (by first | exact Or.inl rfl | exact Or.inr rfl)) (pgs_cons (pg_name (i := 5) sc_is_ring.nd rfl (by first | exact Or.inl rfl | exact Or.inr rfl)) pgs_nil)))) (fun _ _ _ _ _ => pts_nil) (fun _ _ _ _ _ => (pe_cmpR (kop_eq (K := K) rfl hu65) (pe_ix (kix (K := K) rfl) (pv 4) pe_int (fun _ _ => rfl)) (pe_ix (kix (K := K) rfl) (pv 5) pe_int (fun _ _ => rfl)) (nomark _)))) pa_nil)))))))), ?_⟩
    rintro ds Q ⟨d, g, rs, rfl, hd, hrs, h⟩
    have hne : 0 < rs.length := List.length_pos_iff.mpr hrs.ne
    have h16 := hrs.few
    have col : ∀ s ∈ rs, ∃ (i j : Nat) (c : List Int), s = ((i : Int), (j : Int)) ∧ g[i]? = some c ∧ j + 1 < c.length ∧ i < g.length ∧ atI (g.map intsD) (i : Int) = some (intsD c) := fun s hs => by
      obtain ⟨i, j, c, e, g1, g2⟩ := hrs.ok s hs
      exact ⟨i, j, c, e, g1, g2, (List.getElem?_eq_some_iff.mp g1).1, atI_nat (by rw [List.getElem?_map, g1] <;> rfl)⟩
    refine dx_seq (dx_if (dt_or (dt_not (dt_val (de_isTup (de_d rfl ⟨rfl, _, rfl, iteF' rfl (dt_test (de_eq (de_len (de_d rfl ⟨_, rfl, de_int ⟨_, _, rfl, rfl, rfl, rfl, _, rfl, ?_⟩⟩))))⟩))))))
    show if eqD (.int ((rs.map pairD).length : Nat) : Dk) (.int 0) = true then _ else _
    rw [eqD_int, List.length_map]
    refine iteF' (decide_eq_false (by omega)) (dx_next ?_)
    refine dx_seq (dx_if (dt_not (dt_val (de_allC (α := Int × Int) pairD (fun _ => true) (di_sq (de_d rfl ⟨(rs.map pairD, none), rfl, rs, rfl, fun s hs => dg_nm rfl ?_, rfl, by omega, rfl, _, rfl, ?_⟩))))))
    · obtain ⟨i, j, c, rfl, g1, g2, g3, g4⟩ := col s hs
      refine de_andV (de_call ?_)
      repeat (first
    | with_reducible refine dx_seq ?_ | with_reducible refine dx_ret ?_ | with_reducible refine dx_if ?_ | with_reducible refine dx_next ?_ | with_reducible refine dx_drop ?_ | with_reducible refine dx_asg ?_ | with_reducible refine dt_or ?_ | with_reducible refine dt_and ?_ | with_reducible refine dt_not ?_ | with_reducible refine dt_test ?_ | with_reducible refine dt_val ?_ | with_reducible refine de_int ?_ | with_reducible refine de_bl ?_ | with_reducible refine de_non ?_ | with_reducible refine de_str ?_ | with_reducible refine de_andV ?_ | with_reducible refine de_orV ?_ | with_reducible refine de_notV ?_ | with_reducible refine de_chain ?_ | with_reducible refine de_I0 ?_ | with_reducible refine de_B0 ?_ | with_reducible refine de_isInt ?_ | with_reducible refine de_isBl ?_ | with_reducible refine de_isTup ?_ | with_reducible refine de_isStr ?_ | with_reducible refine de_isRow ?_ | with_reducible refine de_len ?_ | with_reducible refine de_call ?_ | with_reducible refine de_ifx ?_ | with_reducible refine da_cons ?_ | with_reducible refine da_nil ?_
    | (with_reducible refine de_d (by with_unfolding_all rfl) ?_) | (with_reducible refine de_o (by with_unfolding_all rfl) ?_) | refine ⟨_, rfl, ?_⟩ | refine ⟨rfl, _, rfl, ?_⟩ | (with_reducible refine iteT' (by with_unfolding_all rfl) ?_) | (with_reducible refine iteF' (by with_unfolding_all rfl) ?_) | with_reducible refine de_count T ?_ | with_reducible refine de_overs T ?_ | with_reducible refine de_dates T ?_ | with_reducible refine de_kinds T ?_ | with_reducible refine de_nN ?_ | with_reducible refine de_nnN ?_ | refine ⟨_, _, rfl, ?_⟩ | refine ⟨_, _, _, rfl, ?_⟩ | refine ⟨_, rfl, rfl, ?_⟩)
      refine de_ix (de_d rfl (de_int ⟨_, 0, _, rfl, rfl, at0p ((i : Int), (j : Int)), ?_⟩))
      refine da_cons (de_int (da_cons (de_I0 (de_len (de_d rfl ⟨_, hd, _, rfl, de_int ⟨1, rfl, da_nil ⟨_, _, _, rfl, rfl, ?_⟩⟩⟩)))))
      have : within (i : Int) 0 (((g.map intsD).length : Nat) - 1 : Int) = true := by rw [within_iff, List.length_map]; omega
      exact congrArg (fun b => ER.v (DL.D.bl b)) this
    have e1 : (rs.all fun _ => true) = true := by simp
    rw [e1]
    refine iteF' rfl (dx_next ?_)
    refine dx_seq (dx_if (dt_not (dt_val (de_allC (α := Int × Int) pairD (fun _ => true) (di_sq (de_d rfl ⟨(rs.map pairD, none), rfl, rs, rfl, fun s hs => dg_nm rfl ?_, rfl, by omega, rfl, _, rfl, ?_⟩))))))
    · obtain ⟨i, j, c, rfl, g1, g2, g3, g4⟩ := col s hs
      refine de_call (da_cons (de_ix (de_d rfl (de_int ⟨_, 1, _, rfl, rfl, at1p ((i : Int), (j : Int)), ?_⟩))))
      refine da_cons (de_int (da_cons (de_I0 (de_len (de_ix (de_d rfl (de_ix (de_d rfl (de_int ⟨_, 0, _, rfl, rfl, at0p ((i : Int), (j : Int)), ?_⟩)))))))))
      refine ⟨_, _, _, hd, rfl, g4, _, rfl, _, rfl, de_int ⟨2, rfl, da_nil ⟨_, _, _, rfl, rfl, ?_⟩⟩⟩
      have : within (j : Int) 0 (((c.map (.int : Int → Dk)).length : Nat) - 2 : Int) = true := by rw [within_iff, List.length_map]; omega
      exact congrArg (fun b => ER.v (DL.D.bl b)) this
    rw [e1]
    refine iteF' rfl (dx_next ?_)
    refine dx_seq (dx_asg (de_lcM (α := Int × Int) pairD (fun s => pairD (pairAt g s)) (di_sq (de_d rfl ⟨(rs.map pairD, none), rfl, rs, rfl, fun s hs => dg_nm rfl ?_, rfl, by omega, rfl, fun p => ?_⟩))))
    · obtain ⟨i, j, c, rfl, g1, g2, g3, g4⟩ := col s hs
      refine de_call ?_
      repeat (first
    | with_reducible refine dx_seq ?_ | with_reducible refine dx_ret ?_ | with_reducible refine dx_if ?_ | with_reducible refine dx_next ?_ | with_reducible refine dx_drop ?_ | with_reducible refine dx_asg ?_ | with_reducible refine dt_or ?_ | with_reducible refine dt_and ?_ | with_reducible refine dt_not ?_ | with_reducible refine dt_test ?_ | with_reducible refine dt_val ?_ | with_reducible refine de_int ?_ | with_reducible refine de_bl ?_ | with_reducible refine de_non ?_ | with_reducible refine de_str ?_ | with_reducible refine de_andV ?_ | with_reducible refine de_orV ?_ | with_reducible refine de_notV ?_ | with_reducible refine de_chain ?_ | with_reducible refine de_I0 ?_ | with_reducible refine de_B0 ?_ | with_reducible refine de_isInt ?_ | with_reducible refine de_isBl ?_ | with_reducible refine de_isTup ?_ | with_reducible refine de_isStr ?_ | with_reducible refine de_isRow ?_ | with_reducible refine de_len ?_ | with_reducible refine de_call ?_ | with_reducible refine de_ifx ?_ | with_reducible refine da_cons ?_ | with_reducible refine da_nil ?_
    | (with_reducible refine de_d (by with_unfolding_all rfl) ?_) | (with_reducible refine de_o (by with_unfolding_all rfl) ?_) | refine ⟨_, rfl, ?_⟩ | refine ⟨rfl, _, rfl, ?_⟩ | (with_reducible refine iteT' (by with_unfolding_all rfl) ?_) | (with_reducible refine iteF' (by with_unfolding_all rfl) ?_) | with_reducible refine de_count T ?_ | with_reducible refine de_overs T ?_ | with_reducible refine de_dates T ?_ | with_reducible refine de_kinds T ?_ | with_reducible refine de_nN ?_ | with_reducible refine de_nnN ?_ | refine ⟨_, _, rfl, ?_⟩ | refine ⟨_, _, _, rfl, ?_⟩ | refine ⟨_, rfl, rfl, ?_⟩)
      refine ⟨d, g, i, j, c, rfl, hd, g1, rfl, ?_⟩
      rw [pairAt_of g1, take_two g2]
      rfl
    have em : (rs.map fun s => pairD (pairAt g s)) = (rs.map (pairAt g)).map pairD := by rw [List.map_map] <;> rfl
    rw [em]
    refine dx_ret (de_allC (α := (Int × Int) × (Int × Int)) (fun q => .tup [pairD q.1, pairD q.2]) (fun q => decide (q.1.2 = q.2.1)) (di_zip (da_cons (de_o rfl (da_cons (de_addL (de_sl (de_o rfl (do_some (de_int ⟨1, rfl, do_none fun q => ?_⟩))))))))))
    refine de_sl (de_o rfl (do_none (do_some (de_int ⟨1, rfl, fun q2 => ⟨_, _, rfl, rfl, ?_, fun q3 => da_nil ⟨_, _, ((rs.map (pairAt g)).map pairD, some 2), (((rs.map (pairAt g)).drop 1 ++ (rs.map (pairAt g)).take 1).map pairD, none), rfl, rfl, ?_, rfl, .inr rfl, _, zip_map _ _ _ _, fun a ha => dg_tp rfl (dgs_cn (dg_nm rfl (dgs_cn (dg_nm rfl (dgs_nl ?_))))), rfl, ?_, rfl, ?_⟩⟩⟩))))
    · show (cutL ((rs.map (pairAt g)).map pairD) (some ((1 : Nat) : Int)) none).length + (cutL ((rs.map (pairAt g)).map pairD) none (some ((1 : Nat) : Int))).length ≤ 100000
      rw [cut_from, cut_to, List.length_drop, List.length_take, List.length_map, List.length_map]
      omega
    · show some (cutL ((rs.map (pairAt g)).map pairD) (some ((1 : Nat) : Int)) none ++ cutL ((rs.map (pairAt g)).map pairD) none (some ((1 : Nat) : Int)), _) = _
      rw [cut_from, cut_to, List.map_append, List.map_drop, List.map_take]
    · refine de_eq (de_ix (de_d rfl (de_int ⟨_, 1, _, rfl, rfl, at1p a.1, de_ix (de_d rfl (de_int ⟨_, 0, _, rfl, rfl, at0p a.2, _, _, rfl, rfl, rfl, rfl, rfl, ?_⟩))⟩)))
      exact congrArg (fun b => ER.v (DL.D.bl b)) (eqD_int _ _)
    · rw [List.length_zip, List.length_append, List.length_drop, List.length_take, List.length_map]
      omega
    · rw [ring_all hrs]
      exact ⟨rfl, h⟩
  case hl =>
    rintro ds Q ⟨d, g, rs, rfl, _⟩
    rfl


end K67
set_option Elab.async false
set_option linter.all false
set_option maxRecDepth 100000
namespace K67
open PySem PySem.Spec PyProof.Rows L2 DL RZ
/-! K11: histories judged; what is shown; what is needed -/
variable {P : Program} {w : World} {K : PySem.W.Frag} {mg : Str → Option Value} {base : Heap} {CB CR : Addr}

theorem lay_ring : lay 60 (.str "ring" : Dk) = true := by decide +kernel
theorem lay_laid : lay 60 (.str "laid" : Dk) = true := by decide +kernel
theorem ov_in {n : Nat} {g : Grid} {p : Int × Int} (hg : okG n g) (h : p ∈ ovG g) : p.1 ∈ ups n ∧ p.2 ∈ ups n ∧ p.1 ≠ p.2 := by
  obtain ⟨s, ⟨i, j, c, rfl, g1, g2⟩, rfl⟩ := ov_step.mp h
  have hc := hg.col c (List.mem_of_getElem? g1)
  rw [pairAt_of g1, List.getD_eq_getElem?_getD, List.getD_eq_getElem?_getD, List.getElem?_eq_getElem (by omega), List.getElem?_eq_getElem g2]
  exact ⟨mem_ups.mpr (hc.2.2.1 _ (List.getElem_mem _)), mem_ups.mpr (hc.2.2.1 _ (List.getElem_mem _)), List.pairwise_iff_getElem.mp hc.2.2.2 j (j + 1) (by omega) g2 (Nat.lt_succ_self j)⟩
theorem at0s {a b : Dk} : atI [a, b] 0 = some a := atI_nat (j := 0) rfl
theorem at1s {a b : Dk} : atI [a, b] 1 = some b := atI_nat (j := 1) rfl

def S_is_history : FS Kp := fun ds Q => ∃ (n : Nat) (d : Dk) (g : Grid) (t : Dk), ds = [.int (n : Nat), d, t] ∧ seqD d = some (g.map intsD) ∧ okG n g ∧
  ((∃ rs : Ovs, t = .tup [.str "ring", .tup (rs.map pairD)] ∧ RingS g rs ∧ Q (.v (.bl true))) ∨
   (∃ xs : List Int, t = .tup [.str "laid", .wtup (xs.map .int)] ∧ xs.Perm (ups n) ∧ Q (.v (.bl ((ovG g).all fun p => decide (xs.idxOf p.2 < xs.idxOf p.1))))))
abbrev s_is_history : Stmt := top 49
abbrev N_is_history : List Str := ["count", "grid", "thing", "a", "b"]
theorem sc_is_history : FnScope N_is_history ["count", "grid", "thing"] (defScope s_is_history) := ⟨rfl, rfl, rfl, by decide +kernel, rfl, by decide +kernel, by decide +kernel⟩
theorem has_is_history {k : Nat} (D : Def K mg "is_history" s_is_history ["count", "grid", "thing"]) (z_isinstance : mg "isinstance" = none) (z_str : mg "str" = none) (z_all : mg "all" = none) (h_check_grid : Has P w K mg base "check_grid" k ["count", "grid"] (spD (Zk K CB CR) S_check_grid)) (h_is_tuple : Has P w K mg base "is_tuple" k ["thing", "least", "most"] (spD (Zk K CB CR) S_is_tuple)) (h_is_ring : Has P w K mg base "is_ring" k ["grid", "thing"] (spD (Zk K CB CR) S_is_ring)) (h_is_order : Has P w K mg base "is_order" k ["book", "thing"] (spD (Zk K CB CR) S_is_order)) (h_read_off : Has P w K mg base "read_off" k ["count", "grid"] (spD (Zk K CB CR) S_read_off)) (h_overs_of : Has P w K mg base "overs_of" k ["grid"] (spD (Zk K CB CR) S_overs_of)) (T : Tx K CB CR) : Has P w K mg base "is_history" (k + 1) ["count", "grid", "thing"] (spD (Zk K CB CR) S_is_history) := by
  refine D.has sc_is_history ?hl fun f cdv A outer s H E hr => ?bod
  case bod =>
    have hu1 := hu_of hr
    have hu0 := hu0_of hr
    have hu65 := hu65_of hr
    refine ⟨_, (pss_cons (ps_expr (pe_callH h_check_grid hr (by rfl) (pa_cons (pv 0) (pa_cons (pv 1) pa_nil))))
    (pss_cons (ps_if (PW.pt (pw_or (pt_not (pt_val (pe_callH h_is_tuple hr (by rfl) (pa_cons (pv 2) (pa_cons pe_int (pa_cons pe_int pa_nil)))))) (pw_or1 (pt_not (pt_val (pe_callB (kisi (K := K) rfl) (by rfl) z_isinstance (by decide +kernel) (pa_cons (pe_ix (kix (K := K) rfl) (pv 2) pe_int (fun _ _ => rfl)) (pa_cons (pe_bltn (by rfl) z_str (by decide +kernel) (show RelV (.ty "str") _ from rfl)) pa_nil)))))))) (pss_one (ps_ret pe_bl)) pss_nil)
    (pss_cons (ps_if (pt_cmpR (kop_eq (K := K) rfl hu65) (pe_ix (kix (K := K) rfl) (pv 2) pe_int (fun _ _ => rfl)) pe_str (nomark _)) (pss_one (ps_ret (pe_callH h_is_ring hr (by rfl) (pa_cons (pv 1) (pa_cons (pe_ix (kix (K := K) rfl) (pv 2) pe_int (fun _ _ => rfl)) pa_nil))))) pss_nil)
    (pss_cons (ps_if (PW.pt (pw_or (pt_cmpR (kop_ne (K := K) rfl hu65) (pe_ix (kix (K := K) rfl) (pv 2) pe_int (fun _ _ => rfl)) pe_str (nomark _)) (pw_or1 (pt_not (pt_val (pe_callH h_is_order hr (by rfl) (pa_cons (pe_callH h_read_off hr (by rfl) (pa_cons (pv 0) (pa_cons (pv 1) pa_nil))) (pa_cons (pe_ix (kix (K := K) rfl) (pv 2) pe_int (fun _ _ => rfl)) pa_nil)))))))) (pss_one (ps_ret pe_bl)) pss_nil)
    (pss_one (ps_ret (pe_callB (kall (K := K) rfl rfl) (by rfl) z_all (by decide +kernel) (pa_cons (pe_lc (own := [("a", 3), ("b", 4)]) rfl sc_is_history.nd (kpi_sq (K := K) rfl (pe_callH h_overs_of hr (by rfl) (pa_cons (pv 1) pa_nil))) (blkOk_by (N := N_is_history) (sc := defScope s_is_history) (by decide +kernel)) (fun _ _ _ _ _ => (kpg_tup (K := K) (n := 2) rfl rfl (pgs_cons (pg_name (i := 3) sc_is_history.nd rfl (by first | exact Or.inl rfl | exact Or.inr rfl)) (pgs_cons (pg_name (i := 4) sc_is_history.nd rfl (by first | exact Or.inl rfl | exact Or.inr rfl)) pgs_nil)))) (fun _ _ _ _ _ => pts_nil) (fun _ _ _ _ _ => (pe_cmpR (kop_lt (K := K) rfl hu0) (pe_tm PySem.F.slot_tuple_index PySem.F.type_tuple_index (kmt_tix (K := K) rfl) (pe_ix (kix (K := K) rfl) (pv 2) pe_int (fun _ _ => rfl)) (pa_cons (pv 4) pa_nil)) (pe_tm PySem.F.slot_tuple_index PySem.F.type_tuple_index (kmt_tix (K := K) rfl) (pe_ix (kix (K := K) rfl) (pv 2) pe_int (fun _ _ => rfl)) (pa_cons (pv 3) pa_nil)) (nomark _)))) pa_nil)))))))), ?_⟩
    rintro ds Q ⟨n, d, g, t, rfl, hd, hg, h⟩
    have g2 := hg.n2; have g3 := hg.n16; have g4 := hg.g1; have g5 := hg.g20
    repeat (first
    | with_reducible refine dx_seq ?_ | with_reducible refine dx_ret ?_ | with_reducible refine dx_if ?_ | with_reducible refine dx_next ?_ | with_reducible refine dx_drop ?_ | with_reducible refine dx_asg ?_ | with_reducible refine dt_or ?_ | with_reducible refine dt_and ?_ | with_reducible refine dt_not ?_ | with_reducible refine dt_test ?_ | with_reducible refine dt_val ?_ | with_reducible refine de_int ?_ | with_reducible refine de_bl ?_ | with_reducible refine de_non ?_ | with_reducible refine de_str ?_ | with_reducible refine de_andV ?_ | with_reducible refine de_orV ?_ | with_reducible refine de_notV ?_ | with_reducible refine de_chain ?_ | with_reducible refine de_I0 ?_ | with_reducible refine de_B0 ?_ | with_reducible refine de_isInt ?_ | with_reducible refine de_isBl ?_ | with_reducible refine de_isTup ?_ | with_reducible refine de_isStr ?_ | with_reducible refine de_isRow ?_ | with_reducible refine de_len ?_ | with_reducible refine de_call ?_ | with_reducible refine de_ifx ?_ | with_reducible refine da_cons ?_ | with_reducible refine da_nil ?_
    | (with_reducible refine de_d (by with_unfolding_all rfl) ?_) | (with_reducible refine de_o (by with_unfolding_all rfl) ?_) | refine ⟨_, rfl, ?_⟩ | refine ⟨rfl, _, rfl, ?_⟩ | (with_reducible refine iteT' (by with_unfolding_all rfl) ?_) | (with_reducible refine iteF' (by with_unfolding_all rfl) ?_) | with_reducible refine de_count T ?_ | with_reducible refine de_overs T ?_ | with_reducible refine de_dates T ?_ | with_reducible refine de_kinds T ?_ | with_reducible refine de_nN ?_ | with_reducible refine de_nnN ?_ | refine ⟨_, _, rfl, ?_⟩ | refine ⟨_, _, _, rfl, ?_⟩ | refine ⟨_, rfl, rfl, ?_⟩)
    refine ⟨n, d, g, rfl, hd, hg, ?_⟩
    rcases h with ⟨rs, rfl, hrs, h⟩ | ⟨xs, rfl, hp, h⟩
    · repeat (first
    | with_reducible refine dx_seq ?_ | with_reducible refine dx_ret ?_ | with_reducible refine dx_if ?_ | with_reducible refine dx_next ?_ | with_reducible refine dx_drop ?_ | with_reducible refine dx_asg ?_ | with_reducible refine dt_or ?_ | with_reducible refine dt_and ?_ | with_reducible refine dt_not ?_ | with_reducible refine dt_test ?_ | with_reducible refine dt_val ?_ | with_reducible refine de_int ?_ | with_reducible refine de_bl ?_ | with_reducible refine de_non ?_ | with_reducible refine de_str ?_ | with_reducible refine de_andV ?_ | with_reducible refine de_orV ?_ | with_reducible refine de_notV ?_ | with_reducible refine de_chain ?_ | with_reducible refine de_I0 ?_ | with_reducible refine de_B0 ?_ | with_reducible refine de_isInt ?_ | with_reducible refine de_isBl ?_ | with_reducible refine de_isTup ?_ | with_reducible refine de_isStr ?_ | with_reducible refine de_isRow ?_ | with_reducible refine de_len ?_ | with_reducible refine de_call ?_ | with_reducible refine de_ifx ?_ | with_reducible refine da_cons ?_ | with_reducible refine da_nil ?_
    | (with_reducible refine de_d (by with_unfolding_all rfl) ?_) | (with_reducible refine de_o (by with_unfolding_all rfl) ?_) | refine ⟨_, rfl, ?_⟩ | refine ⟨rfl, _, rfl, ?_⟩ | (with_reducible refine iteT' (by with_unfolding_all rfl) ?_) | (with_reducible refine iteF' (by with_unfolding_all rfl) ?_) | with_reducible refine de_count T ?_ | with_reducible refine de_overs T ?_ | with_reducible refine de_dates T ?_ | with_reducible refine de_kinds T ?_ | with_reducible refine de_nN ?_ | with_reducible refine de_nnN ?_ | refine ⟨_, _, rfl, ?_⟩ | refine ⟨_, _, _, rfl, ?_⟩ | refine ⟨_, rfl, rfl, ?_⟩)
      refine de_ix (de_d rfl (de_int ⟨_, 0, _, rfl, rfl, at0s, rfl, true, rfl, ?_⟩))
      refine iteF' rfl (dx_next (dx_seq (dx_if (dt_test (de_eq (de_ix (de_d rfl (de_int ⟨_, 0, _, rfl, rfl, at0s, ?_⟩))))))))
      refine de_str ⟨_, _, rfl, rfl, lay_ring, lay_ring, true, ?_, ?_⟩
      · exact congrArg (fun b => ER.v (DL.D.bl b)) ((eqD_str _ _).trans (by decide))
      refine iteT' rfl (dx_ret (de_call (da_cons (de_d rfl (da_cons (de_ix (de_d rfl (de_int ⟨_, 1, _, rfl, rfl, at1s, ?_⟩))))))))
      exact da_nil ⟨d, g, rs, rfl, hd, hrs, rfl, h⟩
    · repeat (first
    | with_reducible refine dx_seq ?_ | with_reducible refine dx_ret ?_ | with_reducible refine dx_if ?_ | with_reducible refine dx_next ?_ | with_reducible refine dx_drop ?_ | with_reducible refine dx_asg ?_ | with_reducible refine dt_or ?_ | with_reducible refine dt_and ?_ | with_reducible refine dt_not ?_ | with_reducible refine dt_test ?_ | with_reducible refine dt_val ?_ | with_reducible refine de_int ?_ | with_reducible refine de_bl ?_ | with_reducible refine de_non ?_ | with_reducible refine de_str ?_ | with_reducible refine de_andV ?_ | with_reducible refine de_orV ?_ | with_reducible refine de_notV ?_ | with_reducible refine de_chain ?_ | with_reducible refine de_I0 ?_ | with_reducible refine de_B0 ?_ | with_reducible refine de_isInt ?_ | with_reducible refine de_isBl ?_ | with_reducible refine de_isTup ?_ | with_reducible refine de_isStr ?_ | with_reducible refine de_isRow ?_ | with_reducible refine de_len ?_ | with_reducible refine de_call ?_ | with_reducible refine de_ifx ?_ | with_reducible refine da_cons ?_ | with_reducible refine da_nil ?_
    | (with_reducible refine de_d (by with_unfolding_all rfl) ?_) | (with_reducible refine de_o (by with_unfolding_all rfl) ?_) | refine ⟨_, rfl, ?_⟩ | refine ⟨rfl, _, rfl, ?_⟩ | (with_reducible refine iteT' (by with_unfolding_all rfl) ?_) | (with_reducible refine iteF' (by with_unfolding_all rfl) ?_) | with_reducible refine de_count T ?_ | with_reducible refine de_overs T ?_ | with_reducible refine de_dates T ?_ | with_reducible refine de_kinds T ?_ | with_reducible refine de_nN ?_ | with_reducible refine de_nnN ?_ | refine ⟨_, _, rfl, ?_⟩ | refine ⟨_, _, _, rfl, ?_⟩ | refine ⟨_, rfl, rfl, ?_⟩)
      refine de_ix (de_d rfl (de_int ⟨_, 0, _, rfl, rfl, at0s, rfl, true, rfl, ?_⟩))
      refine iteF' rfl (dx_next (dx_seq (dx_if (dt_test (de_eq (de_ix (de_d rfl (de_int ⟨_, 0, _, rfl, rfl, at0s, ?_⟩))))))))
      refine de_str ⟨_, _, rfl, rfl, lay_laid, lay_ring, false, ?_, ?_⟩
      · exact congrArg (fun b => ER.v (DL.D.bl b)) ((eqD_str _ _).trans (by decide))
      refine iteF' rfl (dx_next (dx_seq (dx_if (dt_or (dt_test (de_ne (de_ix (de_d rfl (de_int ⟨_, 0, _, rfl, rfl, at0s, ?_⟩)))))))))
      refine de_str ⟨_, _, rfl, rfl, lay_laid, lay_laid, false, ?_, ?_⟩
      · exact congrArg (fun b => ER.v (DL.D.bl b)) ((congrArg Bool.not (eqD_str _ _)).trans (by decide))
      refine iteF' rfl (dt_not (dt_val (de_call (da_cons (de_call (da_cons (de_d rfl (da_cons (de_d rfl (da_nil ⟨n, d, g, rfl, hd, hg, ?_⟩))))))))))
      refine da_cons (de_ld (de_ix (de_d rfl (de_int ⟨_, 1, _, rfl, rfl, at1s, _, .tup (xs.map .int), rfl, .wtup (LDs.refl _), ?_⟩))))
      refine da_nil ⟨n, ovG g, xs, rfl, by omega, by rw [hp.length_eq, ups_len]; omega, true, ?_, ?_⟩
      · have : isOrd n xs = true := decide_eq_true (srt_ups.mpr hp)
        rw [this]
      refine iteF' rfl (dx_next (dx_ret (de_allC (α := Int × Int) pairD (fun p => decide (xs.idxOf p.2 < xs.idxOf p.1)) (di_sq (de_call (da_cons (de_d rfl ?_)))))))
      refine da_nil ⟨d, g, rfl, hd, hg.few, hg.rows, g5, (List.map pairD (ovG g), none), rfl, ovG g, rfl, fun a ha => dg_tp rfl (dgs_cn (dg_nm rfl (dgs_cn (dg_nm rfl (dgs_nl ?_))))), rfl, ?_, rfl, rfl, ?_⟩
      · obtain ⟨m1, m2, _⟩ := ov_in hg ha
        refine de_ltI (de_tix (de_ix (de_d rfl (de_int ⟨_, 1, _, rfl, rfl, at1s, xs, rfl, de_d rfl ⟨a.2, rfl, hp.mem_iff.mpr m2, _, rfl, ?_⟩⟩))))
        refine de_tix (de_ix (de_d rfl (de_int ⟨_, 1, _, rfl, rfl, at1s, xs, rfl, de_d rfl ⟨a.1, rfl, hp.mem_iff.mpr m1, _, rfl, rfl, ?_⟩⟩)))
        exact congrArg (fun b => ER.v (DL.D.bl b)) (decide_eq_decide.mpr Int.ofNat_lt)
      · exact Nat.le_trans (usort_len _) (Nat.le_trans hg.few (by decide))
      · exact h
  case hl =>
    rintro ds Q ⟨n, d, g, t, rfl, _⟩
    rfl


def S_check_squares : FS Kp := fun ds Q => ∃ (n : Nat) (ov : Ovs) (d : Dk) (g : Grid), ds = [bookD n ov, d] ∧ seqD d = some (g.map intsD) ∧ 1 ≤ g.length ∧ g.length ≤ 20 ∧ n ≤ 16 ∧ (∀ s ∈ g, isLot s n = true ∧ s ≠ [] ∧ s.length ≤ 16) ∧ Q (.v .non)
abbrev s_check_squares : Stmt := top 50
abbrev N_check_squares : List Str := ["book", "squares", "square"]
theorem sc_check_squares : FnScope N_check_squares ["book", "squares"] (defScope s_check_squares) := ⟨rfl, rfl, rfl, by decide +kernel, rfl, by decide +kernel, by decide +kernel⟩
theorem has_check_squares {k : Nat} (D : Def K mg "check_squares" s_check_squares ["book", "squares"]) (c_MOST_COLUMNS : ∃ t, mg "MOST_COLUMNS" = some (.int 20 t)) (z_all : mg "all" = none) (z_len : mg "len" = none) (h_is_row : Has P w K mg base "is_row" k ["thing", "least", "most"] (spD (Zk K CB CR) S_is_row)) (h_is_lot : Has P w K mg base "is_lot" k ["thing", "many"] (spD (Zk K CB CR) S_is_lot)) (T : Tx K CB CR) : Has P w K mg base "check_squares" (k + 1) ["book", "squares"] (spD (Zk K CB CR) S_check_squares) := by
  refine D.has sc_check_squares ?hl fun f cdv A outer s H E hr => ?bod
  case bod =>
    have hu1 := hu_of hr
    have hu0 := hu0_of hr
    have hu65 := hu65_of hr
    refine ⟨_, (pss_cons (ps_if (pt_not (pt_val (pe_callH h_is_row hr (by rfl) (pa_cons (pv 1) (pa_cons pe_int (pa_cons (pe_globI (by rfl) c_MOST_COLUMNS) pa_nil)))))) pss_never pss_nil)
    (pss_one (ps_if (pt_not (pt_val (pe_callB (kall (K := K) rfl rfl) (by rfl) z_all (by decide +kernel) (pa_cons (pe_lc (own := [("square", 2)]) rfl sc_check_squares.nd (kpi_sq (K := K) rfl (pv 1)) (blkOk_by (N := N_check_squares) (sc := defScope s_check_squares) (by decide +kernel)) (fun _ _ _ _ _ => (pg_name (i := 2) sc_check_squares.nd rfl (by first | exact Or.inl rfl | exact Or.inr rfl))) (fun _ _ _ _ _ => pts_nil) (fun _ _ _ _ _ => (pe_and (pe_callH h_is_lot hr (by rfl) (pa_cons (pv 2) (pa_cons (kpe_fld (K := K) rfl (pv 0)) pa_nil))) (pe_one (pe_cmpR op_gt (pe_callB (klen (K := K) rfl) (by rfl) z_len (by decide +kernel) (pa_cons (pv 2) pa_nil)) pe_int (nomark _)))))) pa_nil)))) pss_never pss_nil))), ?_⟩
    rintro ds Q ⟨n, ov, d, g, rfl, hd, g1, g20, hn, hs, h⟩
    repeat (first
    | with_reducible refine dx_seq ?_ | with_reducible refine dx_ret ?_ | with_reducible refine dx_if ?_ | with_reducible refine dx_next ?_ | with_reducible refine dx_drop ?_ | with_reducible refine dx_asg ?_ | with_reducible refine dt_or ?_ | with_reducible refine dt_and ?_ | with_reducible refine dt_not ?_ | with_reducible refine dt_test ?_ | with_reducible refine dt_val ?_ | with_reducible refine de_int ?_ | with_reducible refine de_bl ?_ | with_reducible refine de_non ?_ | with_reducible refine de_str ?_ | with_reducible refine de_andV ?_ | with_reducible refine de_orV ?_ | with_reducible refine de_notV ?_ | with_reducible refine de_chain ?_ | with_reducible refine de_I0 ?_ | with_reducible refine de_B0 ?_ | with_reducible refine de_isInt ?_ | with_reducible refine de_isBl ?_ | with_reducible refine de_isTup ?_ | with_reducible refine de_isStr ?_ | with_reducible refine de_isRow ?_ | with_reducible refine de_len ?_ | with_reducible refine de_call ?_ | with_reducible refine de_ifx ?_ | with_reducible refine da_cons ?_ | with_reducible refine da_nil ?_
    | (with_reducible refine de_d (by with_unfolding_all rfl) ?_) | (with_reducible refine de_o (by with_unfolding_all rfl) ?_) | refine ⟨_, rfl, ?_⟩ | refine ⟨rfl, _, rfl, ?_⟩ | (with_reducible refine iteT' (by with_unfolding_all rfl) ?_) | (with_reducible refine iteF' (by with_unfolding_all rfl) ?_) | with_reducible refine de_count T ?_ | with_reducible refine de_overs T ?_ | with_reducible refine de_dates T ?_ | with_reducible refine de_kinds T ?_ | with_reducible refine de_nN ?_ | with_reducible refine de_nnN ?_ | refine ⟨_, _, rfl, ?_⟩ | refine ⟨_, _, _, rfl, ?_⟩ | refine ⟨_, rfl, rfl, ?_⟩)
    refine ⟨_, _, _, _, rfl, hd, ?_⟩
    have e : within (((g.map intsD).length : Nat) : Int) 1 20 = true := by rw [within_iff, List.length_map]; omega
    refine ⟨_, rfl, iteF' (congrArg Bool.not e) (dx_next (dx_if (dt_not (dt_val (de_allC intsD (fun _ => true) (di_sq (de_d rfl ⟨(g.map intsD, none), len_of hd _, g, rfl, fun s hs' => dg_nm rfl ?_, rfl, by omega, rfl, _, rfl, ?_⟩)))))))⟩
    · obtain ⟨h1, h2, h3⟩ := hs s hs'
      refine de_andV (de_call ?_)
      repeat (first
    | with_reducible refine dx_seq ?_ | with_reducible refine dx_ret ?_ | with_reducible refine dx_if ?_ | with_reducible refine dx_next ?_ | with_reducible refine dx_drop ?_ | with_reducible refine dx_asg ?_ | with_reducible refine dt_or ?_ | with_reducible refine dt_and ?_ | with_reducible refine dt_not ?_ | with_reducible refine dt_test ?_ | with_reducible refine dt_val ?_ | with_reducible refine de_int ?_ | with_reducible refine de_bl ?_ | with_reducible refine de_non ?_ | with_reducible refine de_str ?_ | with_reducible refine de_andV ?_ | with_reducible refine de_orV ?_ | with_reducible refine de_notV ?_ | with_reducible refine de_chain ?_ | with_reducible refine de_I0 ?_ | with_reducible refine de_B0 ?_ | with_reducible refine de_isInt ?_ | with_reducible refine de_isBl ?_ | with_reducible refine de_isTup ?_ | with_reducible refine de_isStr ?_ | with_reducible refine de_isRow ?_ | with_reducible refine de_len ?_ | with_reducible refine de_call ?_ | with_reducible refine de_ifx ?_ | with_reducible refine da_cons ?_ | with_reducible refine da_nil ?_
    | (with_reducible refine de_d (by with_unfolding_all rfl) ?_) | (with_reducible refine de_o (by with_unfolding_all rfl) ?_) | refine ⟨_, rfl, ?_⟩ | refine ⟨rfl, _, rfl, ?_⟩ | (with_reducible refine iteT' (by with_unfolding_all rfl) ?_) | (with_reducible refine iteF' (by with_unfolding_all rfl) ?_) | with_reducible refine de_count T ?_ | with_reducible refine de_overs T ?_ | with_reducible refine de_dates T ?_ | with_reducible refine de_kinds T ?_ | with_reducible refine de_nN ?_ | with_reducible refine de_nnN ?_ | refine ⟨_, _, rfl, ?_⟩ | refine ⟨_, _, _, rfl, ?_⟩ | refine ⟨_, rfl, rfl, ?_⟩)
      refine ⟨by omega, _, rfl, iteT' h1 (de_B0 (de_len (de_d rfl ⟨_, rfl, _, rfl, de_int ⟨_, rfl, rfl, ?_⟩⟩)))⟩
      have : 0 < s.length := List.length_pos_iff.mpr h2
      exact congrArg (fun b => ER.v (DL.D.bl b)) (decide_eq_true (by rw [List.length_map]; omega))
    · have e1 : (g.all fun _ => true) = true := by simp
      rw [e1]
      exact iteF' rfl (dx_next h)
  case hl =>
    rintro ds Q ⟨n, ov, d, g, rfl, _⟩
    rfl


def S_shown : FS Kp := fun ds Q => ∃ (n : Nat) (ov : Ovs) (xs : List Int) (d : Dk) (g : Grid), ds = [bookD n ov, intsD xs, d] ∧ xs.Perm (ups n) ∧ seqD d = some (g.map intsD) ∧ 1 ≤ g.length ∧ g.length ≤ 20 ∧ n ≤ 16 ∧ (∀ s ∈ g, isLot s n = true ∧ s ≠ [] ∧ s.length ≤ 16) ∧ Q (.v (.tup (g.map fun s => intsD (xs.reverse.filter fun a => decide (a ∈ s)))))
abbrev s_shown : Stmt := top 51
abbrev N_shown : List Str := ["book", "order", "squares", "down", "square", "layer"]
theorem sc_shown : FnScope N_shown ["book", "order", "squares"] (defScope s_shown) := ⟨rfl, rfl, rfl, by decide +kernel, rfl, by decide +kernel, by decide +kernel⟩
theorem has_shown {k : Nat} (D : Def K mg "shown" s_shown ["book", "order", "squares"]) (z_tuple : mg "tuple" = none) (h_check_order : Has P w K mg base "check_order" k ["book", "order"] (spD (Zk K CB CR) S_check_order)) (h_check_squares : Has P w K mg base "check_squares" k ["book", "squares"] (spD (Zk K CB CR) S_check_squares)) (T : Tx K CB CR) : Has P w K mg base "shown" (k + 1) ["book", "order", "squares"] (spD (Zk K CB CR) S_shown) := by
  refine D.has sc_shown ?hl fun f cdv A outer s H E hr => ?bod
  case bod =>
    have hu1 := hu_of hr
    have hu0 := hu0_of hr
    have hu65 := hu65_of hr
    refine ⟨_, (pss_cons (ps_expr (pe_callH h_check_order hr (by rfl) (pa_cons (pv 0) (pa_cons (pv 1) pa_nil))))
    (pss_cons (ps_expr (pe_callH h_check_squares hr (by rfl) (pa_cons (pv 0) (pa_cons (pv 2) pa_nil))))
    (pss_cons (ps_set (i := 3) sc_shown.nd rfl (by first | exact Or.inl rfl | exact Or.inr rfl) (kpe_revT (K := K) rfl (pv 1)))
    (pss_one (ps_ret (kpe_tupleOf (K := K) rfl (by rfl) z_tuple (pe_lc (own := [("square", 4)]) rfl sc_shown.nd (kpi_sq (K := K) rfl (pv 2)) (blkOk_by (N := N_shown) (sc := defScope s_shown) (by decide +kernel)) (fun _ _ _ _ _ => (pg_name (i := 4) sc_shown.nd rfl (by first | exact Or.inl rfl | exact Or.inr rfl))) (fun _ _ _ _ _ => pts_nil) (fun _ _ _ _ _ => (kpe_tupleOf (K := K) rfl (by rfl) z_tuple (pe_lc (own := [("layer", 5)]) rfl sc_shown.nd (kpi_sq (K := K) rfl (pv 3)) (blk_of (N := N_shown) (sc := { kind := ScopeKind.function, names := [(".0", NameKind.local), ("square", NameKind.cell), ("tuple", NameKind.globalImplicit), ("down", NameKind.cell)], isGenerator := false, isCoroutine := false }) rfl rfl (by decide +kernel)) (fun _ _ _ _ _ => (pg_name (i := 5) sc_shown.nd rfl (by first | exact Or.inl rfl | exact Or.inr rfl))) (fun _ _ _ _ _ => (pts_one (pt_cmpR (kop_in (K := K) rfl hu65) (pv 5) (pv 4) (by with_unfolding_all rfl)))) (fun _ _ _ _ _ => (pv 5)))))))))))), ?_⟩
    rintro ds Q ⟨n, ov, xs, d, g, rfl, hp, hd, g1, g20, hn, hs, h⟩
    repeat (first
    | with_reducible refine dx_seq ?_ | with_reducible refine dx_ret ?_ | with_reducible refine dx_if ?_ | with_reducible refine dx_next ?_ | with_reducible refine dx_drop ?_ | with_reducible refine dx_asg ?_ | with_reducible refine dt_or ?_ | with_reducible refine dt_and ?_ | with_reducible refine dt_not ?_ | with_reducible refine dt_test ?_ | with_reducible refine dt_val ?_ | with_reducible refine de_int ?_ | with_reducible refine de_bl ?_ | with_reducible refine de_non ?_ | with_reducible refine de_str ?_ | with_reducible refine de_andV ?_ | with_reducible refine de_orV ?_ | with_reducible refine de_notV ?_ | with_reducible refine de_chain ?_ | with_reducible refine de_I0 ?_ | with_reducible refine de_B0 ?_ | with_reducible refine de_isInt ?_ | with_reducible refine de_isBl ?_ | with_reducible refine de_isTup ?_ | with_reducible refine de_isStr ?_ | with_reducible refine de_isRow ?_ | with_reducible refine de_len ?_ | with_reducible refine de_call ?_ | with_reducible refine de_ifx ?_ | with_reducible refine da_cons ?_ | with_reducible refine da_nil ?_
    | (with_reducible refine de_d (by with_unfolding_all rfl) ?_) | (with_reducible refine de_o (by with_unfolding_all rfl) ?_) | refine ⟨_, rfl, ?_⟩ | refine ⟨rfl, _, rfl, ?_⟩ | (with_reducible refine iteT' (by with_unfolding_all rfl) ?_) | (with_reducible refine iteF' (by with_unfolding_all rfl) ?_) | with_reducible refine de_count T ?_ | with_reducible refine de_overs T ?_ | with_reducible refine de_dates T ?_ | with_reducible refine de_kinds T ?_ | with_reducible refine de_nN ?_ | with_reducible refine de_nnN ?_ | refine ⟨_, _, rfl, ?_⟩ | refine ⟨_, _, _, rfl, ?_⟩ | refine ⟨_, rfl, rfl, ?_⟩)
    refine ⟨by omega, by rw [hp.length_eq, ups_len]; omega, decide_eq_true (srt_ups.mpr hp), ?_⟩
    repeat (first
    | with_reducible refine dx_seq ?_ | with_reducible refine dx_ret ?_ | with_reducible refine dx_if ?_ | with_reducible refine dx_next ?_ | with_reducible refine dx_drop ?_ | with_reducible refine dx_asg ?_ | with_reducible refine dt_or ?_ | with_reducible refine dt_and ?_ | with_reducible refine dt_not ?_ | with_reducible refine dt_test ?_ | with_reducible refine dt_val ?_ | with_reducible refine de_int ?_ | with_reducible refine de_bl ?_ | with_reducible refine de_non ?_ | with_reducible refine de_str ?_ | with_reducible refine de_andV ?_ | with_reducible refine de_orV ?_ | with_reducible refine de_notV ?_ | with_reducible refine de_chain ?_ | with_reducible refine de_I0 ?_ | with_reducible refine de_B0 ?_ | with_reducible refine de_isInt ?_ | with_reducible refine de_isBl ?_ | with_reducible refine de_isTup ?_ | with_reducible refine de_isStr ?_ | with_reducible refine de_isRow ?_ | with_reducible refine de_len ?_ | with_reducible refine de_call ?_ | with_reducible refine de_ifx ?_ | with_reducible refine da_cons ?_ | with_reducible refine da_nil ?_
    | (with_reducible refine de_d (by with_unfolding_all rfl) ?_) | (with_reducible refine de_o (by with_unfolding_all rfl) ?_) | refine ⟨_, rfl, ?_⟩ | refine ⟨rfl, _, rfl, ?_⟩ | (with_reducible refine iteT' (by with_unfolding_all rfl) ?_) | (with_reducible refine iteF' (by with_unfolding_all rfl) ?_) | with_reducible refine de_count T ?_ | with_reducible refine de_overs T ?_ | with_reducible refine de_dates T ?_ | with_reducible refine de_kinds T ?_ | with_reducible refine de_nN ?_ | with_reducible refine de_nnN ?_ | refine ⟨_, _, rfl, ?_⟩ | refine ⟨_, _, _, rfl, ?_⟩ | refine ⟨_, rfl, rfl, ?_⟩)
    refine ⟨n, ov, d, g, rfl, hd, g1, g20, hn, hs, ?_⟩
    repeat (first
    | with_reducible refine dx_seq ?_ | with_reducible refine dx_ret ?_ | with_reducible refine dx_if ?_ | with_reducible refine dx_next ?_ | with_reducible refine dx_drop ?_ | with_reducible refine dx_asg ?_ | with_reducible refine dt_or ?_ | with_reducible refine dt_and ?_ | with_reducible refine dt_not ?_ | with_reducible refine dt_test ?_ | with_reducible refine dt_val ?_ | with_reducible refine de_int ?_ | with_reducible refine de_bl ?_ | with_reducible refine de_non ?_ | with_reducible refine de_str ?_ | with_reducible refine de_andV ?_ | with_reducible refine de_orV ?_ | with_reducible refine de_notV ?_ | with_reducible refine de_chain ?_ | with_reducible refine de_I0 ?_ | with_reducible refine de_B0 ?_ | with_reducible refine de_isInt ?_ | with_reducible refine de_isBl ?_ | with_reducible refine de_isTup ?_ | with_reducible refine de_isStr ?_ | with_reducible refine de_isRow ?_ | with_reducible refine de_len ?_ | with_reducible refine de_call ?_ | with_reducible refine de_ifx ?_ | with_reducible refine da_cons ?_ | with_reducible refine da_nil ?_
    | (with_reducible refine de_d (by with_unfolding_all rfl) ?_) | (with_reducible refine de_o (by with_unfolding_all rfl) ?_) | refine ⟨_, rfl, ?_⟩ | refine ⟨rfl, _, rfl, ?_⟩ | (with_reducible refine iteT' (by with_unfolding_all rfl) ?_) | (with_reducible refine iteF' (by with_unfolding_all rfl) ?_) | with_reducible refine de_count T ?_ | with_reducible refine de_overs T ?_ | with_reducible refine de_dates T ?_ | with_reducible refine de_kinds T ?_ | with_reducible refine de_nN ?_ | with_reducible refine de_nnN ?_ | refine ⟨_, _, rfl, ?_⟩ | refine ⟨_, _, _, rfl, ?_⟩ | refine ⟨_, rfl, rfl, ?_⟩)
    refine de_revT (de_d rfl ⟨xs.map .int, rfl, ?_⟩)
    repeat (first
    | with_reducible refine dx_seq ?_ | with_reducible refine dx_ret ?_ | with_reducible refine dx_if ?_ | with_reducible refine dx_next ?_ | with_reducible refine dx_drop ?_ | with_reducible refine dx_asg ?_ | with_reducible refine dt_or ?_ | with_reducible refine dt_and ?_ | with_reducible refine dt_not ?_ | with_reducible refine dt_test ?_ | with_reducible refine dt_val ?_ | with_reducible refine de_int ?_ | with_reducible refine de_bl ?_ | with_reducible refine de_non ?_ | with_reducible refine de_str ?_ | with_reducible refine de_andV ?_ | with_reducible refine de_orV ?_ | with_reducible refine de_notV ?_ | with_reducible refine de_chain ?_ | with_reducible refine de_I0 ?_ | with_reducible refine de_B0 ?_ | with_reducible refine de_isInt ?_ | with_reducible refine de_isBl ?_ | with_reducible refine de_isTup ?_ | with_reducible refine de_isStr ?_ | with_reducible refine de_isRow ?_ | with_reducible refine de_len ?_ | with_reducible refine de_call ?_ | with_reducible refine de_ifx ?_ | with_reducible refine da_cons ?_ | with_reducible refine da_nil ?_
    | (with_reducible refine de_d (by with_unfolding_all rfl) ?_) | (with_reducible refine de_o (by with_unfolding_all rfl) ?_) | refine ⟨_, rfl, ?_⟩ | refine ⟨rfl, _, rfl, ?_⟩ | (with_reducible refine iteT' (by with_unfolding_all rfl) ?_) | (with_reducible refine iteF' (by with_unfolding_all rfl) ?_) | with_reducible refine de_count T ?_ | with_reducible refine de_overs T ?_ | with_reducible refine de_dates T ?_ | with_reducible refine de_kinds T ?_ | with_reducible refine de_nN ?_ | with_reducible refine de_nnN ?_ | refine ⟨_, _, rfl, ?_⟩ | refine ⟨_, _, _, rfl, ?_⟩ | refine ⟨_, rfl, rfl, ?_⟩)
    refine de_tupleOf (de_lcM (α := List Int) intsD (fun s => intsD (xs.reverse.filter fun a => decide (a ∈ s))) (di_sq (de_d rfl ⟨(g.map intsD, none), len_of hd _, g, rfl, fun s hs' => dg_nm rfl ?_, rfl, by omega, rfl, fun p => ?_⟩)))
    · refine de_tupleOf (de_lcF .int (fun a => decide (a ∈ s)) .int (di_sq (de_d rfl ⟨((xs.map .int).reverse, none), rfl, xs.reverse, List.map_reverse.symm, fun a ha => dg_nm rfl ?_, rfl, ?_, rfl, fun p => ⟨_, rfl, rfl, rfl⟩⟩)))
      · refine dt_test (de_in (de_d rfl (de_d rfl ⟨_, _, _, rfl, rfl, rfl, rfl, lay_intsT _, _, rfl, rfl, ?_, fun _ => de_d rfl ⟨rfl, rfl⟩⟩)))
        exact any_ints _ _
      · rw [List.length_reverse, hp.length_eq, ups_len]; omega
    · exact ⟨_, rfl, (show DL.D.purs (g.map fun s => intsD (xs.reverse.filter fun a => decide (a ∈ s))) = true from purs_map _ _ fun _ _ => (show DL.D.purs _ = true from purs_ints _)), h⟩
  case hl =>
    rintro ds Q ⟨n, ov, xs, d, g, rfl, _⟩
    rfl


end K67
set_option Elab.async false
set_option linter.all false
set_option maxRecDepth 100000
namespace K67
open PySem PySem.Spec PyProof.Rows L2 DL RZ
/-! K12: what is needed; rows -/
variable {P : Program} {w : World} {K : PySem.W.Frag} {mg : Str → Option Value} {base : Heap} {CB CR : Addr}

theorem isLot_of {n : Nat} {xs : List Int} (h1 : ∀ a ∈ xs, 0 ≤ a ∧ a < n) (h2 : xs.Pairwise (· < ·)) : isLot xs n = true := by
  unfold isLot
  rw [Bool.and_eq_true, List.all_eq_true, List.all_eq_true]
  refine ⟨fun a ha => ?_, fun q hq => ?_⟩
  · have := h1 a ha
    rw [within_iff]
    omega
  · refine decide_eq_true ?_
    rw [zip_next] at hq
    obtain ⟨j, hj, rfl⟩ := List.mem_map.mp hq
    have hj := List.mem_range.mp hj
    rw [List.getD_eq_getElem?_getD, List.getD_eq_getElem?_getD, List.getElem?_eq_getElem (by omega), List.getElem?_eq_getElem (by omega)]
    exact List.pairwise_iff_getElem.mp h2 j (j + 1) (by omega) (by omega) (Nat.lt_succ_self j)
theorem ups_lot (n : Nat) : isLot (ups n) n = true := isLot_of (fun a ha => mem_ups.mp ha) (ups_pw n)
/-- the two changed about -/
def swp (ov : Ovs) : Ovs := ov.map fun p => (p.2, p.1)
def rowL (n : Nat) (ov : Ovs) : List Int := laidL n (swp ov)
theorem free_swp (ov : Ovs) (left : List Int) (a : Int) : freeL (swp ov) left a = !(ov.any fun p => decide (p.2 = a) && decide (p.1 ∈ left)) := by
  unfold freeL swp
  rw [List.any_map] <;> rfl

def S_check_set : FS Kp := fun ds Q => ∃ (n : Nat) (ov : Ovs), ds = [bookD n ov, intsD (ups n)] ∧ n ≤ 16 ∧ Q (.v .non)
abbrev s_check_set : Stmt := top 55
abbrev N_check_set : List Str := ["book", "wanted"]
theorem sc_check_set : FnScope N_check_set ["book", "wanted"] (defScope s_check_set) := ⟨rfl, rfl, rfl, by decide +kernel, rfl, by decide +kernel, by decide +kernel⟩
theorem has_check_set {k : Nat} (D : Def K mg "check_set" s_check_set ["book", "wanted"]) (h_is_lot : Has P w K mg base "is_lot" k ["thing", "many"] (spD (Zk K CB CR) S_is_lot)) (T : Tx K CB CR) : Has P w K mg base "check_set" (k + 1) ["book", "wanted"] (spD (Zk K CB CR) S_check_set) := by
  refine D.has sc_check_set ?hl fun f cdv A outer s H E hr => ?bod
  case bod =>
    have hu1 := hu_of hr
    have hu0 := hu0_of hr
    have hu65 := hu65_of hr
    refine ⟨_, (pss_one (ps_if (pt_not (pt_val (pe_callH h_is_lot hr (by rfl) (pa_cons (pv 1) (pa_cons (kpe_fld (K := K) rfl (pv 0)) pa_nil))))) pss_never pss_nil)), ?_⟩
    rintro ds Q ⟨n, ov, rfl, hn, h⟩
    repeat (first
    | with_reducible refine dx_seq ?_ | with_reducible refine dx_ret ?_ | with_reducible refine dx_if ?_ | with_reducible refine dx_next ?_ | with_reducible refine dx_drop ?_ | with_reducible refine dx_asg ?_ | with_reducible refine dt_or ?_ | with_reducible refine dt_and ?_ | with_reducible refine dt_not ?_ | with_reducible refine dt_test ?_ | with_reducible refine dt_val ?_ | with_reducible refine de_int ?_ | with_reducible refine de_bl ?_ | with_reducible refine de_non ?_ | with_reducible refine de_str ?_ | with_reducible refine de_andV ?_ | with_reducible refine de_orV ?_ | with_reducible refine de_notV ?_ | with_reducible refine de_chain ?_ | with_reducible refine de_I0 ?_ | with_reducible refine de_B0 ?_ | with_reducible refine de_isInt ?_ | with_reducible refine de_isBl ?_ | with_reducible refine de_isTup ?_ | with_reducible refine de_isStr ?_ | with_reducible refine de_isRow ?_ | with_reducible refine de_len ?_ | with_reducible refine de_call ?_ | with_reducible refine de_ifx ?_ | with_reducible refine da_cons ?_ | with_reducible refine da_nil ?_
    | (with_reducible refine de_d (by with_unfolding_all rfl) ?_) | (with_reducible refine de_o (by with_unfolding_all rfl) ?_) | refine ⟨_, rfl, ?_⟩ | refine ⟨rfl, _, rfl, ?_⟩ | (with_reducible refine iteT' (by with_unfolding_all rfl) ?_) | (with_reducible refine iteF' (by with_unfolding_all rfl) ?_) | with_reducible refine de_count T ?_ | with_reducible refine de_overs T ?_ | with_reducible refine de_dates T ?_ | with_reducible refine de_kinds T ?_ | with_reducible refine de_nN ?_ | with_reducible refine de_nnN ?_ | refine ⟨_, _, rfl, ?_⟩ | refine ⟨_, _, _, rfl, ?_⟩ | refine ⟨_, rfl, rfl, ?_⟩)
    refine ⟨by rw [ups_len]; omega, _, rfl, ?_⟩
    rw [ups_lot]
    repeat (first
    | with_reducible refine dx_seq ?_ | with_reducible refine dx_ret ?_ | with_reducible refine dx_if ?_ | with_reducible refine dx_next ?_ | with_reducible refine dx_drop ?_ | with_reducible refine dx_asg ?_ | with_reducible refine dt_or ?_ | with_reducible refine dt_and ?_ | with_reducible refine dt_not ?_ | with_reducible refine dt_test ?_ | with_reducible refine dt_val ?_ | with_reducible refine de_int ?_ | with_reducible refine de_bl ?_ | with_reducible refine de_non ?_ | with_reducible refine de_str ?_ | with_reducible refine de_andV ?_ | with_reducible refine de_orV ?_ | with_reducible refine de_notV ?_ | with_reducible refine de_chain ?_ | with_reducible refine de_I0 ?_ | with_reducible refine de_B0 ?_ | with_reducible refine de_isInt ?_ | with_reducible refine de_isBl ?_ | with_reducible refine de_isTup ?_ | with_reducible refine de_isStr ?_ | with_reducible refine de_isRow ?_ | with_reducible refine de_len ?_ | with_reducible refine de_call ?_ | with_reducible refine de_ifx ?_ | with_reducible refine da_cons ?_ | with_reducible refine da_nil ?_
    | (with_reducible refine de_d (by with_unfolding_all rfl) ?_) | (with_reducible refine de_o (by with_unfolding_all rfl) ?_) | refine ⟨_, rfl, ?_⟩ | refine ⟨rfl, _, rfl, ?_⟩ | (with_reducible refine iteT' (by with_unfolding_all rfl) ?_) | (with_reducible refine iteF' (by with_unfolding_all rfl) ?_) | with_reducible refine de_count T ?_ | with_reducible refine de_overs T ?_ | with_reducible refine de_dates T ?_ | with_reducible refine de_kinds T ?_ | with_reducible refine de_nN ?_ | with_reducible refine de_nnN ?_ | refine ⟨_, _, rfl, ?_⟩ | refine ⟨_, _, _, rfl, ?_⟩ | refine ⟨_, rfl, rfl, ?_⟩)
    exact h
  case hl =>
    rintro ds Q ⟨n, ov, rfl, _⟩
    rfl


def S_check_crews : FS Kp := fun ds Q => ∃ c : Int, ds = [.int c] ∧ 1 ≤ c ∧ c ≤ 4 ∧ Q (.v .non)
abbrev s_check_crews : Stmt := top 56
abbrev N_check_crews : List Str := ["crews"]
theorem sc_check_crews : FnScope N_check_crews ["crews"] (defScope s_check_crews) := ⟨rfl, rfl, rfl, by decide +kernel, rfl, by decide +kernel, by decide +kernel⟩
theorem has_check_crews {k : Nat} (D : Def K mg "check_crews" s_check_crews ["crews"]) (c_MOST_CREWS : ∃ t, mg "MOST_CREWS" = some (.int 4 t)) (h_is_within : Has P w K mg base "is_within" k ["thing", "low", "high"] (spD (Zk K CB CR) S_is_within)) (T : Tx K CB CR) : Has P w K mg base "check_crews" (k + 1) ["crews"] (spD (Zk K CB CR) S_check_crews) := by
  refine D.has sc_check_crews ?hl fun f cdv A outer s H E hr => ?bod
  case bod =>
    have hu1 := hu_of hr
    have hu0 := hu0_of hr
    have hu65 := hu65_of hr
    refine ⟨_, (pss_one (ps_if (pt_not (pt_val (pe_callH h_is_within hr (by rfl) (pa_cons (pv 0) (pa_cons pe_int (pa_cons (pe_globI (by rfl) c_MOST_CREWS) pa_nil)))))) pss_never pss_nil)), ?_⟩
    rintro ds Q ⟨c, rfl, h1, h4, h⟩
    repeat (first
    | with_reducible refine dx_seq ?_ | with_reducible refine dx_ret ?_ | with_reducible refine dx_if ?_ | with_reducible refine dx_next ?_ | with_reducible refine dx_drop ?_ | with_reducible refine dx_asg ?_ | with_reducible refine dt_or ?_ | with_reducible refine dt_and ?_ | with_reducible refine dt_not ?_ | with_reducible refine dt_test ?_ | with_reducible refine dt_val ?_ | with_reducible refine de_int ?_ | with_reducible refine de_bl ?_ | with_reducible refine de_non ?_ | with_reducible refine de_str ?_ | with_reducible refine de_andV ?_ | with_reducible refine de_orV ?_ | with_reducible refine de_notV ?_ | with_reducible refine de_chain ?_ | with_reducible refine de_I0 ?_ | with_reducible refine de_B0 ?_ | with_reducible refine de_isInt ?_ | with_reducible refine de_isBl ?_ | with_reducible refine de_isTup ?_ | with_reducible refine de_isStr ?_ | with_reducible refine de_isRow ?_ | with_reducible refine de_len ?_ | with_reducible refine de_call ?_ | with_reducible refine de_ifx ?_ | with_reducible refine da_cons ?_ | with_reducible refine da_nil ?_
    | (with_reducible refine de_d (by with_unfolding_all rfl) ?_) | (with_reducible refine de_o (by with_unfolding_all rfl) ?_) | refine ⟨_, rfl, ?_⟩ | refine ⟨rfl, _, rfl, ?_⟩ | (with_reducible refine iteT' (by with_unfolding_all rfl) ?_) | (with_reducible refine iteF' (by with_unfolding_all rfl) ?_) | with_reducible refine de_count T ?_ | with_reducible refine de_overs T ?_ | with_reducible refine de_dates T ?_ | with_reducible refine de_kinds T ?_ | with_reducible refine de_nN ?_ | with_reducible refine de_nnN ?_ | refine ⟨_, _, rfl, ?_⟩ | refine ⟨_, _, _, rfl, ?_⟩ | refine ⟨_, rfl, rfl, ?_⟩)
    show if (!within c 1 4) = true then _ else _
    rw [show within c 1 4 = true from within_iff.mpr ⟨h1, h4⟩]
    repeat (first
    | with_reducible refine dx_seq ?_ | with_reducible refine dx_ret ?_ | with_reducible refine dx_if ?_ | with_reducible refine dx_next ?_ | with_reducible refine dx_drop ?_ | with_reducible refine dx_asg ?_ | with_reducible refine dt_or ?_ | with_reducible refine dt_and ?_ | with_reducible refine dt_not ?_ | with_reducible refine dt_test ?_ | with_reducible refine dt_val ?_ | with_reducible refine de_int ?_ | with_reducible refine de_bl ?_ | with_reducible refine de_non ?_ | with_reducible refine de_str ?_ | with_reducible refine de_andV ?_ | with_reducible refine de_orV ?_ | with_reducible refine de_notV ?_ | with_reducible refine de_chain ?_ | with_reducible refine de_I0 ?_ | with_reducible refine de_B0 ?_ | with_reducible refine de_isInt ?_ | with_reducible refine de_isBl ?_ | with_reducible refine de_isTup ?_ | with_reducible refine de_isStr ?_ | with_reducible refine de_isRow ?_ | with_reducible refine de_len ?_ | with_reducible refine de_call ?_ | with_reducible refine de_ifx ?_ | with_reducible refine da_cons ?_ | with_reducible refine da_nil ?_
    | (with_reducible refine de_d (by with_unfolding_all rfl) ?_) | (with_reducible refine de_o (by with_unfolding_all rfl) ?_) | refine ⟨_, rfl, ?_⟩ | refine ⟨rfl, _, rfl, ?_⟩ | (with_reducible refine iteT' (by with_unfolding_all rfl) ?_) | (with_reducible refine iteF' (by with_unfolding_all rfl) ?_) | with_reducible refine de_count T ?_ | with_reducible refine de_overs T ?_ | with_reducible refine de_dates T ?_ | with_reducible refine de_kinds T ?_ | with_reducible refine de_nN ?_ | with_reducible refine de_nnN ?_ | refine ⟨_, _, rfl, ?_⟩ | refine ⟨_, _, _, rfl, ?_⟩ | refine ⟨_, rfl, rfl, ?_⟩)
    exact h
  case hl =>
    rintro ds Q ⟨c, rfl, _⟩
    rfl


def S_needed_by : FS Kp := fun ds Q => ∃ (n : Nat) (ov : Ovs), ds = [bookD n ov, intsD (ups n)] ∧ n ≤ 16 ∧ inO ov (ups n) ∧ ov.length ≤ 1000 ∧ Q (.v (.ktup ((ups n).map .int)))
abbrev s_needed_by : Stmt := top 57
abbrev N_needed_by : List Str := ["book", "wanted", "found", "place", "a", "b"]
theorem sc_needed_by : FnScope N_needed_by ["book", "wanted"] (defScope s_needed_by) := ⟨rfl, rfl, rfl, by decide +kernel, rfl, by decide +kernel, by decide +kernel⟩
theorem has_needed_by {k : Nat} (D : Def K mg "needed_by" s_needed_by ["book", "wanted"]) (z_list : mg "list" = none) (z_len : mg "len" = none) (z_tuple : mg "tuple" = none) (z_sorted : mg "sorted" = none) (T : Tx K CB CR) : Has P w K mg base "needed_by" (k + 1) ["book", "wanted"] (spD (Zk K CB CR) S_needed_by) := by
  refine D.has sc_needed_by ?hl fun f cdv A outer s H E hr => ?bod
  case bod =>
    have hu1 := hu_of hr
    have hu0 := hu0_of hr
    have hu65 := hu65_of hr
    refine ⟨_, (pss_cons (ps_set (i := 2) sc_needed_by.nd rfl (by first | exact Or.inl rfl | exact Or.inr rfl) (pe_callTy (klist (K := K) rfl) (by rfl) z_list (by decide +kernel) (pa_cons (pv 1) pa_nil)))
    (pss_cons (ps_set (i := 3) sc_needed_by.nd rfl (by first | exact Or.inl rfl | exact Or.inr rfl) pe_int)
    (pss_cons (ps_while PassesOwn.never (pt_cmpR (kop_lt (K := K) rfl hu0) (pv 3) (pe_callB (klen (K := K) rfl) (by rfl) z_len (by decide +kernel) (pa_cons (pv 2) pa_nil)) (nomark _)) (pss_cons (ps_expr (kpe_bm (K := K) rfl PySem.F.plainAttrs_list PySem.F.slot_list_extend PySem.F.type_list_extend mt_extend (pv 2) (pa_cons (pe_lc (own := [("a", 4), ("b", 5)]) rfl sc_needed_by.nd (kpi_sq (K := K) rfl (kpe_fld (K := K) rfl (pv 0))) (blkOk_by (N := N_needed_by) (sc := defScope s_needed_by) (by decide +kernel)) (fun _ _ _ _ _ => (kpg_tup (K := K) (n := 2) rfl rfl (pgs_cons (pg_name (i := 4) sc_needed_by.nd rfl (by first | exact Or.inl rfl | exact Or.inr rfl)) (pgs_cons (pg_name (i := 5) sc_needed_by.nd rfl (by first | exact Or.inl rfl | exact Or.inr rfl)) pgs_nil)))) (fun _ _ _ _ _ => (pts_one (PW.pt (pw_and (pt_cmpR (kop_eq (K := K) rfl hu65) (pv 5) (pe_ix (kix (K := K) rfl) (pv 2) (pv 3) (fun _ _ => rfl)) (nomark _)) (pw_and1 (pt_cmpR (kop_nin (K := K) rfl hu65) (pv 4) (pv 2) (by with_unfolding_all rfl))))))) (fun _ _ _ _ _ => (pv 4))) pa_nil)))
    (pss_one (ps_set (i := 3) sc_needed_by.nd rfl (by first | exact Or.inl rfl | exact Or.inr rfl) (pe_op (kop_add (K := K) rfl) (pv 3) pe_int)))))
    (pss_one (ps_ret (kpe_tupleOf (K := K) rfl (by rfl) z_tuple (pe_callB (ksrt (K := K) rfl) (by rfl) z_sorted (by decide +kernel) (pa_cons (pv 2) pa_nil)))))))), ?_⟩
    rintro ds Q ⟨n, ov, rfl, hn, hi, hl, h⟩
    refine dx_seq (dx_asg (de_cb bs_list (da_cons (de_d rfl (da_nil ⟨_, _, rfl, rfl, fun pf => ?_⟩)))))
    refine dx_seq (dx_asg (de_int ?_))
    refine dx_seq (dx_while (fun m (τ2 : List (SL Kp)) => ∃ i : Nat, τ2 = [.d (bookD n ov), .d (intsD (ups n)), .own pf (.lst ((ups n).map .int)), .d (.int (i : Nat)), .u, .u] ∧ i ≤ n ∧ m = n - i) ⟨n, 0, rfl, Nat.zero_le _, rfl⟩ ?_)
    rintro m τ2 ⟨i, rfl, hin, rfl⟩
    refine dt_test (de_ltI (de_d rfl ⟨_, rfl, de_len (de_o rfl ⟨_, rfl, _, rfl, _, rfl, ?_⟩)⟩))
    rw [List.length_map, ups_len]
    refine iteB (fun c => ?_) (fun c => ?_)
    · have hlt : i < n := Int.ofNat_lt.mp (of_decide_eq_true c)
      have hat : atI ((ups n).map (.int : Int → Dk)) (i : Int) = some (.int (i : Nat)) := atI_nat (by
        rw [List.getElem?_map, ups, List.getElem?_map, List.getElem?_range hlt] <;> rfl)
      have hnil : (ov.filter fun _ => false) = [] := by simp
      refine dx_seq (dx_drop (de_extend ⟨_, _, rfl⟩ (de_lcF (α := Int × Int) pairD (fun _ => false) (fun p => .int p.1) (di_sq (de_overs T (de_d rfl ⟨n, ov, rfl, (ov.map pairD, none), rfl, ov, rfl, fun p hp => dg_tp rfl (dgs_cn (dg_nm rfl (dgs_cn (dg_nm rfl (dgs_nl ?_))))), rfl, by omega, rfl, fun q => ?_⟩))))))
      · refine dt_and (dt_test (de_eq (de_d rfl (de_ix (de_o rfl (de_d rfl ⟨_, _, _, rfl, rfl, hat, _, _, rfl, rfl, rfl, rfl, _, rfl, ?_⟩))))))
        refine iteB (fun c2 => ?_) (fun c2 => ⟨rfl, rfl, nofun⟩)
        refine dt_test (de_nin (de_d rfl (de_o rfl ⟨_, _, _, rfl, rfl, rfl, rfl, lay_intsL _, false, ?_, rfl, rfl, nofun⟩)))
        show ER.v (.bl (!((ups n).map (.int : Int → Dk)).any fun z => eqD z (.int p.1))) = _
        rw [any_ints, decide_eq_true (hi p hp).1]
        rfl
      · rw [hnil]
        refine ⟨pf, (ups n).map .int, [], rfl, rfl, by rw [List.length_map, ups_len]; show n + 0 ≤ _; omega, ?_⟩
        rw [List.append_nil]
        refine dx_asg (de_addI (de_d rfl ⟨_, rfl, de_int ⟨1, rfl, n - (i + 1), by omega, i + 1, rfl, hlt, rfl⟩⟩))
    · have hle : ¬ ((i : Int) < (n : Int)) := of_decide_eq_false c
      refine dx_ret (de_tupK (de_cb bs_srt (da_cons (de_o rfl (da_nil ⟨_, ups n, rfl, rfl, fun p => ⟨(ups n).map .int, ?_, purs_ints _, h⟩⟩)))))
      rw [srt_ups.mpr (List.Perm.refl (ups n))]
      rfl
  case hl =>
    rintro ds Q ⟨n, ov, rfl, _⟩
    rfl


def S_needed : FS Kp := S_needed_by
abbrev s_needed : Stmt := top 58
abbrev N_needed : List Str := ["book", "wanted"]
theorem sc_needed : FnScope N_needed ["book", "wanted"] (defScope s_needed) := ⟨rfl, rfl, rfl, by decide +kernel, rfl, by decide +kernel, by decide +kernel⟩
theorem has_needed {k : Nat} (D : Def K mg "needed" s_needed ["book", "wanted"]) (h_check_set : Has P w K mg base "check_set" k ["book", "wanted"] (spD (Zk K CB CR) S_check_set)) (h_needed_by : Has P w K mg base "needed_by" k ["book", "wanted"] (spD (Zk K CB CR) S_needed_by)) (T : Tx K CB CR) : Has P w K mg base "needed" (k + 1) ["book", "wanted"] (spD (Zk K CB CR) S_needed) := by
  refine D.has sc_needed ?hl fun f cdv A outer s H E hr => ?bod
  case bod =>
    have hu1 := hu_of hr
    have hu0 := hu0_of hr
    have hu65 := hu65_of hr
    refine ⟨_, (pss_cons (ps_expr (pe_callH h_check_set hr (by rfl) (pa_cons (pv 0) (pa_cons (pv 1) pa_nil))))
    (pss_one (ps_ret (pe_callH h_needed_by hr (by rfl) (pa_cons (pv 0) (pa_cons (pv 1) pa_nil)))))), ?_⟩
    rintro ds Q ⟨n, ov, rfl, hn, hi, hl, h⟩
    repeat (first
    | with_reducible refine dx_seq ?_ | with_reducible refine dx_ret ?_ | with_reducible refine dx_if ?_ | with_reducible refine dx_next ?_ | with_reducible refine dx_drop ?_ | with_reducible refine dx_asg ?_ | with_reducible refine dt_or ?_ | with_reducible refine dt_and ?_ | with_reducible refine dt_not ?_ | with_reducible refine dt_test ?_ | with_reducible refine dt_val ?_ | with_reducible refine de_int ?_ | with_reducible refine de_bl ?_ | with_reducible refine de_non ?_ | with_reducible refine de_str ?_ | with_reducible refine de_andV ?_ | with_reducible refine de_orV ?_ | with_reducible refine de_notV ?_ | with_reducible refine de_chain ?_ | with_reducible refine de_I0 ?_ | with_reducible refine de_B0 ?_ | with_reducible refine de_isInt ?_ | with_reducible refine de_isBl ?_ | with_reducible refine de_isTup ?_ | with_reducible refine de_isStr ?_ | with_reducible refine de_isRow ?_ | with_reducible refine de_len ?_ | with_reducible refine de_call ?_ | with_reducible refine de_ifx ?_ | with_reducible refine da_cons ?_ | with_reducible refine da_nil ?_
    | (with_reducible refine de_d (by with_unfolding_all rfl) ?_) | (with_reducible refine de_o (by with_unfolding_all rfl) ?_) | refine ⟨_, rfl, ?_⟩ | refine ⟨rfl, _, rfl, ?_⟩ | (with_reducible refine iteT' (by with_unfolding_all rfl) ?_) | (with_reducible refine iteF' (by with_unfolding_all rfl) ?_) | with_reducible refine de_count T ?_ | with_reducible refine de_overs T ?_ | with_reducible refine de_dates T ?_ | with_reducible refine de_kinds T ?_ | with_reducible refine de_nN ?_ | with_reducible refine de_nnN ?_ | refine ⟨_, _, rfl, ?_⟩ | refine ⟨_, _, _, rfl, ?_⟩ | refine ⟨_, rfl, rfl, ?_⟩)
    refine ⟨hn, ?_⟩
    repeat (first
    | with_reducible refine dx_seq ?_ | with_reducible refine dx_ret ?_ | with_reducible refine dx_if ?_ | with_reducible refine dx_next ?_ | with_reducible refine dx_drop ?_ | with_reducible refine dx_asg ?_ | with_reducible refine dt_or ?_ | with_reducible refine dt_and ?_ | with_reducible refine dt_not ?_ | with_reducible refine dt_test ?_ | with_reducible refine dt_val ?_ | with_reducible refine de_int ?_ | with_reducible refine de_bl ?_ | with_reducible refine de_non ?_ | with_reducible refine de_str ?_ | with_reducible refine de_andV ?_ | with_reducible refine de_orV ?_ | with_reducible refine de_notV ?_ | with_reducible refine de_chain ?_ | with_reducible refine de_I0 ?_ | with_reducible refine de_B0 ?_ | with_reducible refine de_isInt ?_ | with_reducible refine de_isBl ?_ | with_reducible refine de_isTup ?_ | with_reducible refine de_isStr ?_ | with_reducible refine de_isRow ?_ | with_reducible refine de_len ?_ | with_reducible refine de_call ?_ | with_reducible refine de_ifx ?_ | with_reducible refine da_cons ?_ | with_reducible refine da_nil ?_
    | (with_reducible refine de_d (by with_unfolding_all rfl) ?_) | (with_reducible refine de_o (by with_unfolding_all rfl) ?_) | refine ⟨_, rfl, ?_⟩ | refine ⟨rfl, _, rfl, ?_⟩ | (with_reducible refine iteT' (by with_unfolding_all rfl) ?_) | (with_reducible refine iteF' (by with_unfolding_all rfl) ?_) | with_reducible refine de_count T ?_ | with_reducible refine de_overs T ?_ | with_reducible refine de_dates T ?_ | with_reducible refine de_kinds T ?_ | with_reducible refine de_nN ?_ | with_reducible refine de_nnN ?_ | refine ⟨_, _, rfl, ?_⟩ | refine ⟨_, _, _, rfl, ?_⟩ | refine ⟨_, rfl, rfl, ?_⟩)
    exact ⟨hn, hi, hl, purs_ints _, h⟩
  case hl =>
    rintro ds Q ⟨n, ov, rfl, _⟩
    rfl


end K67
set_option Elab.async false
set_option linter.all false
set_option maxRecDepth 100000
namespace K67
open PySem PySem.Spec PyProof.Rows L2 DL RZ
/-! K13: rows and rings among layers -/
variable {P : Program} {w : World} {K : PySem.W.Frag} {mg : Str → Option Value} {base : Heap} {CB CR : Addr}

/-- a ring of layers, the one above the other -/
structure RingO (ov : Ovs) (L : List Int) : Prop where
  ne : L ≠ []
  few : L.length ≤ 16
  cyc : ∀ q ∈ L.zip (L.drop 1 ++ L.take 1), q ∈ ov
theorem rot_get {α : Type} {l : List α} {i : Nat} (h : i < l.length) : (l.drop 1 ++ l.take 1)[i]? = l[(i + 1) % l.length]? := by
  by_cases h1 : i + 1 < l.length
  · rw [Nat.mod_eq_of_lt h1, List.getElem?_append_left (by rw [List.length_drop]; omega), List.getElem?_drop, Nat.add_comm]
  · have e : i + 1 = l.length := by omega
    rw [e, Nat.mod_self, List.getElem?_append_right (by rw [List.length_drop]; omega), List.length_drop, List.getElem?_take_of_lt (by omega)]
    congr 1
    omega
theorem mem_rot {α : Type} {l : List α} {q : α × α} : q ∈ l.zip (l.drop 1 ++ l.take 1) ↔ ∃ i, i < l.length ∧ l[i]? = some q.1 ∧ l[(i + 1) % l.length]? = some q.2 := by
  constructor
  · intro h
    obtain ⟨i, hi, e⟩ := List.mem_iff_getElem.mp h
    have hl : i < l.length := by rw [List.length_zip] at hi; omega
    refine ⟨i, hl, ?_, ?_⟩
    · rw [← e, List.getElem_zip, List.getElem?_eq_getElem hl]
    · rw [← rot_get hl, ← e, List.getElem_zip, List.getElem?_eq_getElem]
  · rintro ⟨i, hi, e1, e2⟩
    rw [← rot_get hi] at e2
    rw [List.mem_iff_getElem?]
    refine ⟨i, ?_⟩
    rw [List.getElem?_zip_eq_some]
    exact ⟨e1, e2⟩
/-- a ring walked the other way -/
theorem ring_rev {nx : Int → Int} {l : List Int} (h : Cyc nx l) {R : Int → Int → Prop} (hr : ∀ a ∈ l, R (nx a) a) : ∀ q ∈ l.reverse.zip (l.reverse.drop 1 ++ l.reverse.take 1), R q.1 q.2 := by
  intro q hq
  obtain ⟨i, hi, e1, e2⟩ := mem_rot.mp hq
  rw [List.length_reverse] at hi e2
  have hm : (i + 1) % l.length < l.length := Nat.mod_lt _ (by omega)
  rw [List.getElem?_reverse hi] at e1
  rw [List.getElem?_reverse hm] at e2
  have := h (q.2, q.1) (mem_rot.mpr ⟨l.length - 1 - (i + 1) % l.length, by omega, e2, by
    rw [← e1]
    congr 1
    by_cases h1 : i + 1 < l.length
    · rw [Nat.mod_eq_of_lt h1, Nat.mod_eq_of_lt (by omega)]; omega
    · have e : i + 1 = l.length := by omega
      rw [e, Nat.mod_self, show l.length - 1 - 0 + 1 = l.length by omega, Nat.mod_self]; omega⟩)
  have h2 := hr q.2 (List.mem_of_getElem? e2)
  rw [show nx q.2 = q.1 from this] at h2
  exact h2

def S_row_of : FS Kp := fun ds Q => ∃ (n : Nat) (ov : Ovs), ds = [bookD n ov, intsD (ups n)] ∧ n ≤ 16 ∧ ov.length ≤ 1000 ∧ Q (.v (.tup ((rowL n ov).map .int)))
abbrev s_row_of : Stmt := top 59
abbrev N_row_of : List Str := ["book", "some", "found", "left", "is_going", "bare", "layer", "a", "b"]
theorem sc_row_of : FnScope N_row_of ["book", "some"] (defScope s_row_of) := ⟨rfl, rfl, rfl, by decide +kernel, rfl, by decide +kernel, by decide +kernel⟩
theorem has_row_of {k : Nat} (D : Def K mg "row_of" s_row_of ["book", "some"]) (z_list : mg "list" = none) (z_any : mg "any" = none) (z_len : mg "len" = none) (z_tuple : mg "tuple" = none) (T : Tx K CB CR) : Has P w K mg base "row_of" (k + 1) ["book", "some"] (spD (Zk K CB CR) S_row_of) := by
  refine D.has sc_row_of ?hl fun f cdv A outer s H E hr => ?bod
  case bod =>
    have hu1 := hu_of hr
    have hu0 := hu0_of hr
    have hu65 := hu65_of hr
    refine ⟨_, (pss_cons (ps_asg (pe_tup (pa_cons (pe_lst pa_nil) (pa_cons (pe_callTy (klist (K := K) rfl) (by rfl) z_list (by decide +kernel) (pa_cons (pv 1) pa_nil)) pa_nil))) (kpg_tup (K := K) (n := 2) rfl rfl (pgs_cons (pg_name (i := 2) sc_row_of.nd rfl (by first | exact Or.inl rfl | exact Or.inr rfl)) (pgs_cons (pg_name (i := 3) sc_row_of.nd rfl (by first | exact Or.inl rfl | exact Or.inr rfl)) pgs_nil))))
    (pss_cons (ps_set (i := 4) sc_row_of.nd rfl (by first | exact Or.inl rfl | exact Or.inr rfl) pe_bl)
    (pss_cons (ps_while PassesOwn.never (pt_val (pv 4)) (pss_cons (ps_setLc (i := 5) (own := [("layer", 6)]) rfl sc_row_of.nd rfl rfl (sw_true rfl rfl rfl (by decide +kernel)) (kpi_sq (K := K) rfl (pv 3)) (blkOk_by (N := N_row_of) (sc := defScope s_row_of) (by decide +kernel)) (fun _ _ _ _ _ => (pg_name (i := 6) sc_row_of.nd rfl (by first | exact Or.inl rfl | exact Or.inr rfl))) (fun _ _ _ _ _ => (pts_one (pt_not (pt_val (pe_callB (kany (K := K) rfl rfl) (by rfl) z_any (by decide +kernel) (pa_cons (pe_lc (own := [("a", 7), ("b", 8)]) rfl sc_row_of.nd (kpi_sq (K := K) rfl (kpe_fld (K := K) rfl (pv 0))) (blk_of (N := N_row_of) (sc := { kind := ScopeKind.function, names := [(".0", NameKind.local), ("layer", NameKind.cell), ("any", NameKind.globalImplicit), ("book", NameKind.cell), ("left", NameKind.cell)], isGenerator := false, isCoroutine := false }) rfl rfl (by decide +kernel)) (fun _ _ _ _ _ => (kpg_tup (K := K) (n := 2) rfl rfl (pgs_cons (pg_name (i := 7) sc_row_of.nd rfl (by first | exact Or.inl rfl | exact Or.inr rfl)) (pgs_cons (pg_name (i := 8) sc_row_of.nd rfl (by first | exact Or.inl rfl | exact Or.inr rfl)) pgs_nil)))) (fun _ _ _ _ _ => pts_nil) (fun _ _ _ _ _ => (pe_and (pe_cmpR (kop_eq (K := K) rfl hu65) (pv 8) (pv 6) (nomark _)) (pe_one (pe_cmpR (kop_in (K := K) rfl hu65) (pv 7) (pv 3) (by with_unfolding_all rfl)))))) pa_nil)))))) (fun _ _ _ _ _ => (pv 6)))
    (pss_cons (ps_set (i := 4) sc_row_of.nd rfl (by first | exact Or.inl rfl | exact Or.inr rfl) (pe_cmpR op_gt (pe_callB (klen (K := K) rfl) (by rfl) z_len (by decide +kernel) (pa_cons (pv 5) pa_nil)) pe_int (nomark _)))
    (pss_one (ps_if (pt_val (pv 4)) (pss_cons (ps_expr (kpe_bm (K := K) rfl PySem.F.plainAttrs_list PySem.F.slot_list_append PySem.F.type_list_append mt_append (pv 2) (pa_cons (pe_ix (kix (K := K) rfl) (pv 5) pe_int (fun _ _ => rfl)) pa_nil)))
    (pss_one (ps_expr (kpe_remX (K := K) rfl rfl (pv 3) (pe_ix (kix (K := K) rfl) (pv 5) pe_int (fun _ _ => rfl)))))) pss_nil)))))
    (pss_one (ps_ret (kpe_tupleOf (K := K) rfl (by rfl) z_tuple (pv 2))))))), ?_⟩
    rintro ds Q ⟨n, ov, rfl, hn, hl, h⟩
    refine dx_seq (dx_asgT2 (dao_cons (de_lst (da_nil ⟨[], rfl, by simp, fun pf => ⟨rfl, dao_cons (de_cb bs_list (da_cons (de_d rfl (da_nil ⟨_, _, rfl, rfl, fun pl => ⟨rfl, dao_nil ⟨_, _, rfl, ?_⟩⟩⟩))))⟩⟩))))
    refine dx_seq (dx_asg (de_bl ?_))
    let St : List Int → List Int → Bool → SL Kp → List (SL Kp) := fun found left g x => [.d (bookD n ov), .d (intsD (ups n)), .own pf (.lst (found.map .int)), .own pl (.lst (left.map .int)), .d (.bl g), x, .u, .u, .u]
    refine dx_seq (dx_while (fun m τ2 => ∃ found left g x, τ2 = St found left g x ∧ found.length + left.length = n ∧ (if g = true then m = left.length + 1 ∧ found ++ laidF (swp ov) left.length left = rowL n ov else m = 0 ∧ found = rowL n ov)) ⟨n + 1, [], ups n, true, .u, rfl, by rw [ups_len]; exact Nat.zero_add _, by rw [if_pos rfl, ups_len]; exact ⟨rfl, rfl⟩⟩ ?_)
    rintro m τ2 ⟨found, left, g, x, rfl, hleft, hinv⟩
    refine dt_val (de_d rfl ⟨g, rfl, ?_⟩)
    cases g with
    | false =>
      rw [if_neg Bool.false_ne_true] at hinv ⊢
      rw [hinv.2]
      exact dx_ret (de_tupleOf (de_o rfl ⟨_, rfl, purs_ints _, h⟩))
    | true =>
      rw [if_pos rfl] at hinv ⊢
      obtain ⟨rfl, hinv⟩ := hinv
      refine dx_seq (dx_asg (de_lcF .int (freeL (swp ov) left) .int (di_sq (de_o rfl ⟨(left.map .int, some 3), rfl, left, rfl, fun a ha => dg_nm rfl ?_, rfl, by omega, rfl, fun p => ?_⟩))))
      · refine dt_not (dt_val (de_anyC (α := Int × Int) pairD (fun p => decide (p.2 = a) && decide (p.1 ∈ left)) (di_sq (de_overs T (de_d rfl ⟨n, ov, rfl, (ov.map pairD, none), rfl, ov, rfl, fun p hp => dg_tp rfl (dgs_cn (dg_nm rfl (dgs_cn (dg_nm rfl (dgs_nl ?_))))), rfl, by omega, rfl, _, rfl, rfl, (free_swp _ _ _).symm, fun _ => de_d rfl ⟨rfl, rfl⟩⟩)))))
        refine de_andV (de_eq (de_d rfl (de_d rfl ⟨_, _, rfl, rfl, rfl, rfl, _, rfl, ?_⟩)))
        refine iteB (fun c => ?_) (fun c => ?_)
        · refine de_in (de_d rfl (de_o rfl ⟨_, _, _, rfl, rfl, rfl, rfl, lay_intsL left, rfl, ?_⟩))
          replace c : eqD (.int p.2 : Dk) (.int a) = true := c
          rw [eqD_int] at c
          show ER.v (.bl ((left.map (.int : Int → Dk)).any fun z => eqD z (.int p.1))) = _
          rw [any_ints, c]
          rfl
        · replace c : eqD (.int p.2 : Dk) (.int a) = false := c
          rw [eqD_int] at c
          refine ⟨rfl, ?_⟩
          rw [c]
          rfl
      refine dx_seq (dx_asg (de_B0 (de_len (de_o rfl ⟨_, rfl, _, rfl, de_int ⟨0, rfl, ?_⟩⟩))))
      have el : (((left.filter (freeL (swp ov) left)).map (.int : Int → Dk)).length : Int) = ((left.filter (freeL (swp ov) left)).length : Int) := by rw [List.length_map]
      rw [el]
      cases q : left.filter (freeL (swp ov) left) with
      | nil =>
        refine dx_if (dt_val (de_d rfl ⟨false, rfl, iteF' rfl (dx_next ⟨0, by omega, found, left, false, _, rfl, hleft, ?_⟩)⟩))
        rw [if_neg Bool.false_ne_true]
        refine ⟨rfl, ?_⟩
        rw [← hinv]
        cases left with
        | nil => simp [laidF]
        | cons b r => simp only [List.length_cons, laidF, q, List.append_nil]
      | cons a r =>
        have ha : a ∈ left := (List.mem_filter.mp (by rw [q]; exact List.mem_cons_self)).1
        have at0 : atI (((a :: r).map (.int : Int → Dk))) 0 = some (.int a) := atI_nat (j := 0) rfl
        have ed : decide ((0 : Int) < (((a :: r).length : Nat) : Int)) = true := decide_eq_true (by rw [List.length_cons]; omega)
        rw [ed]
        refine dx_if (dt_val (de_d rfl ⟨true, rfl, iteT' rfl ?_⟩))
        have hlen : 0 < left.length := List.length_pos_iff.mpr fun z => by rw [z] at ha; cases ha
        have hf : found.length < 100000 := by omega
        refine dx_seq (dx_drop (de_append ⟨_, _, rfl⟩ (de_ix (de_o rfl (de_int ⟨_, 0, _, rfl, rfl, at0, _, _, _, rfl, rfl, by rw [List.length_map]; exact hf, ?_⟩)))))
        refine dx_drop (de_remX ⟨_, _, rfl⟩ (de_ix (de_o rfl (de_int ⟨_, 0, _, rfl, rfl, at0, pl, left, a, rfl, rfl, ha, ?_⟩))))
        have he : (left.erase a).length = left.length - 1 := List.length_erase_of_mem ha
        refine ⟨(left.erase a).length + 1, by omega, found ++ [a], left.erase a, true, .own p (.lst ((a :: r).map .int)), ?_, by rw [List.length_append, List.length_singleton]; omega, ?_⟩
        · simp only [St, List.map_append, List.map_cons, List.map_nil]
          rfl
        · rw [if_pos rfl]
          refine ⟨rfl, ?_⟩
          rw [← hinv, List.append_assoc]
          congr 1
          obtain ⟨f, ef⟩ : ∃ f, left.length = f + 1 := ⟨left.length - 1, by omega⟩
          rw [ef]
          simp only [laidF, q]
          rw [he, ef]
          rfl
  case hl =>
    rintro ds Q ⟨n, ov, rfl, _⟩
    rfl


def S_ring_among : FS Kp := fun ds Q => ∃ (n : Nat) (ov : Ovs) (left : List Int), ds = [bookD n ov, .lst (left.map .int)] ∧ ov.length ≤ 1000 ∧ left ≠ [] ∧ left.Nodup ∧ left.length ≤ 16 ∧ stuckL (swp ov) left ∧ ∀ L, RingO ov L → Q (.v (intsD L))
abbrev s_ring_among : Stmt := top 60
abbrev N_ring_among : List Str := ["book", "left", "above", "a", "b", "met", "here"]
theorem sc_ring_among : FnScope N_ring_among ["book", "left"] (defScope s_ring_among) := ⟨rfl, rfl, rfl, by decide +kernel, rfl, by decide +kernel, by decide +kernel⟩
theorem has_ring_among {k : Nat} (D : Def K mg "ring_among" s_ring_among ["book", "left"]) (z_tuple : mg "tuple" = none) (T : Tx K CB CR) : Has P w K mg base "ring_among" (k + 1) ["book", "left"] (spD (Zk K CB CR) S_ring_among) := by
  refine D.has sc_ring_among ?hl fun f cdv A outer s H E hr => ?bod
  case bod =>
    have hu1 := hu_of hr
    have hu0 := hu0_of hr
    have hu65 := hu65_of hr
    refine ⟨_, (pss_cons (ps_set (i := 2) sc_ring_among.nd rfl (by first | exact Or.inl rfl | exact Or.inr rfl) pe_dnewK)
    (pss_cons (ps_for PassesOwn.never rfl (kpi_sq (K := K) rfl (kpe_fld (K := K) rfl (pv 0))) (kpg_tup (K := K) (n := 2) rfl rfl (pgs_cons (pg_name (i := 3) sc_ring_among.nd rfl (by first | exact Or.inl rfl | exact Or.inr rfl)) (pgs_cons (pg_name (i := 4) sc_ring_among.nd rfl (by first | exact Or.inl rfl | exact Or.inr rfl)) pgs_nil))) (pss_one (ps_if (PW.pt (pw_and (pt_cmpR (kop_in (K := K) rfl hu65) (pv 3) (pv 1) (by with_unfolding_all rfl)) (pw_and (pt_cmpR (kop_in (K := K) rfl hu65) (pv 4) (pv 1) (by with_unfolding_all rfl)) (pw_and1 (pt_cmp (pc_dnotin hu1 (pv 4) (pv 2)) (by with_unfolding_all rfl)))))) (pss_one (ps_dput hu1 (pv 2) (pv 4) (pv 3) rfl)) pss_nil)))
    (pss_cons (ps_par (i := 5) (j := 6) rfl sc_ring_among.nd rfl rfl (by decide) rfl rfl (pa_cons (pe_lst pa_nil) (pa_cons (pe_ix (kix (K := K) rfl) (pv 1) pe_int (fun _ _ => rfl)) pa_nil)) (by rfl))
    (pss_cons (ps_while PassesOwn.never (pt_cmpR (kop_nin (K := K) rfl hu65) (pv 6) (pv 5) (by with_unfolding_all rfl)) (pss_cons (ps_expr (kpe_bm (K := K) rfl PySem.F.plainAttrs_list PySem.F.slot_list_append PySem.F.type_list_append mt_append (pv 5) (pa_cons (pv 6) pa_nil)))
    (pss_one (ps_set (i := 6) sc_ring_among.nd rfl (by first | exact Or.inl rfl | exact Or.inr rfl) (pe_dget hu1 (pv 2) (pv 6) (fun _ _ => rfl))))))
    (pss_one (ps_ret (kpe_tupleOf (K := K) rfl (by rfl) z_tuple (kpe_revL (K := K) rfl (pe_slice (ksl (K := K) rfl) (pv 5) (po_some (kpe_bm (K := K) rfl PySem.F.plainAttrs_list PySem.F.slot_list_index PySem.F.type_list_index (kmt_index (K := K) rfl hu65) (pv 5) (pa_cons (pv 6) pa_nil))) po_none))))))))), ?_⟩
    rintro ds Q ⟨n, ov, left, rfl, hl, hne, hnd, h16, hst, h⟩
    refine dx_seq (dx_asg (de_dnk fun pb => ?_))
    let St : List (Key × Dk) → SL Kp → SL Kp → List (SL Kp) := fun m x y => [.d (bookD n ov), .d (.lst (left.map .int)), .own pb (mkd m), x, y, .u, .u]
    let entA : Key → Dk → Prop := fun k e => ∃ q ∈ ov, k = .inl q.2 ∧ e = .int q.1 ∧ q.1 ∈ left ∧ q.2 ∈ left
    refine dx_seq (dx_forE (α := Int × Int) [3, 4] pairD (di_sq (de_overs T (de_d rfl ⟨n, ov, rfl, (ov.map pairD, none), rfl, ov, rfl, fun i τ2 => ∃ m x y, τ2 = St m x y ∧ m.length ≤ i ∧ (∀ k e, getA m k = some e → entA k e) ∧
      (∀ s ∈ ov.take i, s.1 ∈ left → s.2 ∈ left → (getA m (.inl s.2)).isSome = true), ⟨[], _, _, rfl, Nat.le_refl _, fun k e q => by simp [getA] at q, fun s hs => by simp at hs⟩, fun _ _ _ => trivial, ?_, ?_⟩))))
    · rintro i ⟨a, b⟩ τ2 hq ⟨m, x, y, rfl, hm, hs1, hs2⟩
      have hi : i < 1000 := by have := (List.getElem?_eq_some_iff.mp hq).1; omega
      refine dg_tp rfl (dgs_cn (dg_nm rfl (dgs_cn (dg_nm rfl (dgs_nl ?_)))))
      have skip : (a ∈ left → b ∈ left → (getA m (.inl b)).isSome = true) → ∃ m' x y, ([.d (bookD n ov), .d (.lst (left.map .int)), .own pb (mkd m), .d (.int a), .d (.int b), .u, .u] : List (SL Kp)) = St m' x y ∧ m'.length ≤ i + 1 ∧ (∀ k e, getA m' k = some e → entA k e) ∧
          (∀ s ∈ ov.take (i + 1), s.1 ∈ left → s.2 ∈ left → (getA m' (.inl s.2)).isSome = true) := fun hh => by
        refine ⟨m, _, _, rfl, by omega, hs1, fun s' hs' h1 h2 => ?_⟩
        rw [take_one hq] at hs'
        rcases List.mem_append.mp hs' with q | q
        · exact hs2 s' q h1 h2
        · rw [List.mem_singleton.mp q] at h1 h2 ⊢
          exact hh h1 h2
      refine dx_if (dt_and (dt_test (de_in (de_d rfl (de_d rfl ⟨_, _, _, rfl, rfl, rfl, rfl, lay_intsL left, _, rfl, ?_⟩)))))
      show if ((left.map (.int : Int → Dk)).any fun z => eqD z (.int a)) = true then _ else _
      rw [any_ints]
      refine iteB (fun c1 => ?_) (fun c1 => iteF' rfl (dx_next (skip fun h1 => by simp [h1] at c1)))
      refine dt_and (dt_test (de_in (de_d rfl (de_d rfl ⟨_, _, _, rfl, rfl, rfl, rfl, lay_intsL left, _, rfl, ?_⟩))))
      show if ((left.map (.int : Int → Dk)).any fun z => eqD z (.int b)) = true then _ else _
      rw [any_ints]
      refine iteB (fun c2 => ?_) (fun c2 => iteF' rfl (dx_next (skip fun _ h1 => by simp [h1] at c2)))
      have ha : a ∈ left := of_decide_eq_true c1
      have hb : b ∈ left := of_decide_eq_true c2
      refine dt_val (de_dnotin (de_d rfl (de_o rfl (.inl ⟨m, .inl b, rfl, rfl, _, rfl, ?_⟩))))
      cases hg0 : getA m (.inl b) with
      | some e => exact iteF' rfl (dx_next (skip fun _ _ => by rw [hg0] <;> rfl))
      | none =>
        refine iteT' rfl (dx_dput (de_d rfl ⟨.int a, rfl, ⟨_, _, rfl⟩, de_d rfl (.inl ⟨pb, m, .inl b, rfl, rfl, by omega, ?_⟩)⟩))
        rw [putA_new (getA_mem hg0)]
        refine ⟨m ++ [(.inl b, .int a)], _, _, rfl, by rw [List.length_append, List.length_singleton]; omega, fun k e q => ?_, fun s' hs' h1 h2 => ?_⟩
        · rw [getA_app] at q
          cases q2 : getA m k with
          | some e2 =>
            rw [q2] at q
            cases q
            exact hs1 k e q2
          | none =>
            rw [q2] at q
            by_cases hk : (Sum.inl b : Key) = k
            · rw [if_pos hk] at q
              cases q
              exact ⟨(a, b), List.mem_of_getElem? hq, hk.symm, rfl, ha, hb⟩
            · rw [if_neg hk] at q
              cases q
        · rw [getA_app]
          rw [take_one hq] at hs'
          rcases List.mem_append.mp hs' with q | q
          · obtain ⟨e, he⟩ := Option.isSome_iff_exists.mp (hs2 s' q h1 h2)
            rw [he] <;> rfl
          · rw [List.mem_singleton.mp q, if_pos rfl]
            cases getA m (.inl b) <;> rfl
    · rintro τ2 ⟨m, x, y, rfl, hm, hs1, hs2⟩
      rw [List.take_length] at hs2
      have hall : ∀ b : Int, ∃ a : Int, b ∈ left → (a, b) ∈ ov ∧ a ∈ left ∧ getA m (.inl b) = some (.int a) := fun b => by
        by_cases hb : b ∈ left
        · obtain ⟨a, hab, ha⟩ := hst b hb
          obtain ⟨q, hq, e⟩ := List.mem_map.mp hab
          cases e
          have h3 := hs2 q hq ha hb
          obtain ⟨e, he⟩ := Option.isSome_iff_exists.mp h3
          obtain ⟨q', k1, k2, k3, k4, k5⟩ := hs1 _ _ he
          have k2 : q.2 = q'.2 := Sum.inl.inj k2
          refine ⟨q'.1, fun _ => ⟨?_, k4, by rw [he, k3]⟩⟩
          rw [k2]
          exact k1
        · exact ⟨0, fun h => absurd h hb⟩
      obtain ⟨nx, hnx⟩ := Classical.skolem.mp hall
      obtain ⟨a0, r0, rfl⟩ : ∃ a0 r0, left = a0 :: r0 := by
        cases left with
        | nil => exact absurd rfl hne
        | cons a r => exact ⟨a, r, rfl⟩
      have at0 : atI (((a0 :: r0).map (.int : Int → Dk))) 0 = some (.int a0) := atI_nat (j := 0) rfl
      show DX _ _ _ _
      refine dx_seq (dx_par (dao_cons (de_lst (da_nil ⟨[], rfl, by simp, fun pm => ⟨rfl, dao_cons (de_ix (de_d rfl (de_int ⟨_, 0, _, rfl, rfl, at0, rfl, dao_nil ⟨_, _, rfl, ?_⟩⟩)))⟩⟩))))
      refine dx_seq (dx_while (fun k τ2 => ∃ met here, τ2 = [.d (bookD n ov), .d (.lst ((a0 :: r0).map .int)), .own pb (mkd m), x, y, .own pm (.lst (met.map .int)), .d (.int here)] ∧ met.Nodup ∧ (∀ a ∈ met, a ∈ a0 :: r0) ∧ here ∈ a0 :: r0 ∧ Linked nx met here ∧ k = 20 - met.length) ⟨20, [], a0, rfl, List.nodup_nil, nofun, List.mem_cons_self, trivial, rfl⟩ ?_)
      rintro k τ2 ⟨met, here, rfl, m1, m2, m3, m4, rfl⟩
      refine dt_test (de_nin (de_d rfl (de_o rfl ⟨_, _, _, rfl, rfl, rfl, rfl, lay_intsL met, _, rfl, ?_⟩)))
      show if (!((met.map (.int : Int → Dk)).any fun z => eqD z (.int here))) = true then _ else _
      rw [any_ints]
      have ml : met.length ≤ 16 := Nat.le_trans (nodup_le m1 m2) h16
      obtain ⟨s1, s2, s3⟩ := hnx here m3
      refine iteB (fun c => ?_) (fun c => ?_)
      · have hn : here ∉ met := by simpa using c
        have nd : (met ++ [here]).Nodup := List.nodup_append.mpr ⟨m1, by simp, fun a ha b hb => by simp at hb; subst hb; exact fun e => hn (e ▸ ha)⟩
        refine dx_seq (dx_drop (de_append ⟨_, _, rfl⟩ (de_d rfl ⟨_, _, _, rfl, rfl, by rw [List.length_map]; omega, ?_⟩)))
        refine dx_asg (de_dget (de_o rfl (de_d rfl (.inl ⟨m, .inl here, rfl, rfl, _, s3, ?_⟩))))
        refine ⟨20 - (met ++ [here]).length, by rw [List.length_append, List.length_singleton]; omega, met ++ [here], nx here, ?_, nd, fun a ha => ?_, s2, linked_snoc m4, rfl⟩
        · rw [List.map_append]
          rfl
        · rcases List.mem_append.mp ha with q | q
          · exact m2 a q
          · rw [List.mem_singleton.mp q]; exact m3
      · have hm' : here ∈ met := by simpa using c
        let l := met.drop (met.idxOf here)
        have hl' : l = here :: met.drop (met.idxOf here + 1) := by
          have hlt := List.idxOf_lt_length_iff.mpr hm'
          show met.drop (met.idxOf here) = _
          rw [List.drop_eq_getElem_cons hlt, List.getElem_idxOf hlt]
        have hcyc : Cyc nx l := by
          have := linked_drop (met.idxOf here) m4
          rw [show met.drop (met.idxOf here) = l from rfl, hl'] at this
          rw [hl']
          exact linked_cyc this
        have hsub : ∀ a ∈ l, a ∈ a0 :: r0 := fun a ha => m2 a (List.mem_of_mem_drop ha)
        have hring : RingO ov l.reverse := by
          refine ⟨by rw [hl']; simp, ?_, ring_rev hcyc (R := fun a b => (a, b) ∈ ov) fun a ha => (hnx a (hsub a ha)).1⟩
          rw [List.length_reverse]
          have : l.length ≤ met.length := by show (met.drop _).length ≤ _; rw [List.length_drop]; omega
          omega
        refine dx_ret (de_tupleOf (de_revL (de_sl (de_o rfl (do_some (de_lix ?_))))))
        refine de_o rfl ⟨⟨_, rfl⟩, de_d rfl ⟨met, here, rfl, rfl, hm', _, rfl, do_none ?_⟩⟩
        intro q
        refine ⟨l.map .int, ?_, fun q2 => ⟨(l.reverse).map .int, ?_, purs_ints _, h _ hring⟩⟩
        · show (.lst (cutL (met.map (.int : Int → Dk)) (some ((met.idxOf here : Nat) : Int)) none) : Dk) = _
          rw [cut_from, ← List.map_drop]
        · show some ((l.map (.int : Int → Dk)).reverse) = _
          rw [List.map_reverse]
  case hl =>
    rintro ds Q ⟨n, ov, left, rfl, _⟩
    rfl


def S_stuck_ring : FS Kp := fun ds Q => ∃ (n : Nat) (ov : Ovs), ds = [bookD n ov, intsD (ups n)] ∧ n ≤ 16 ∧ ov.length ≤ 1000 ∧ ((rowL n ov).length = n → Q (.v .non)) ∧ ((rowL n ov).length ≠ n → ∀ L, RingO ov L → Q (.v (intsD L)))
abbrev s_stuck_ring : Stmt := top 61
abbrev N_stuck_ring : List Str := ["book", "some", "row", "left", "layer"]
theorem sc_stuck_ring : FnScope N_stuck_ring ["book", "some"] (defScope s_stuck_ring) := ⟨rfl, rfl, rfl, by decide +kernel, rfl, by decide +kernel, by decide +kernel⟩
theorem has_stuck_ring {k : Nat} (D : Def K mg "stuck_ring" s_stuck_ring ["book", "some"]) (z_len : mg "len" = none) (h_row_of : Has P w K mg base "row_of" k ["book", "some"] (spD (Zk K CB CR) S_row_of)) (h_ring_among : Has P w K mg base "ring_among" k ["book", "left"] (spD (Zk K CB CR) S_ring_among)) (T : Tx K CB CR) : Has P w K mg base "stuck_ring" (k + 1) ["book", "some"] (spD (Zk K CB CR) S_stuck_ring) := by
  refine D.has sc_stuck_ring ?hl fun f cdv A outer s H E hr => ?bod
  case bod =>
    have hu1 := hu_of hr
    have hu0 := hu0_of hr
    have hu65 := hu65_of hr
    refine ⟨_, (pss_cons (ps_set (i := 2) sc_stuck_ring.nd rfl (by first | exact Or.inl rfl | exact Or.inr rfl) (pe_callH h_row_of hr (by rfl) (pa_cons (pv 0) (pa_cons (pv 1) pa_nil))))
    (pss_cons (ps_setLc (i := 3) (own := [("layer", 4)]) rfl sc_stuck_ring.nd rfl rfl (sw_true rfl rfl rfl (by decide +kernel)) (kpi_sq (K := K) rfl (pv 1)) (blkOk_by (N := N_stuck_ring) (sc := defScope s_stuck_ring) (by decide +kernel)) (fun _ _ _ _ _ => (pg_name (i := 4) sc_stuck_ring.nd rfl (by first | exact Or.inl rfl | exact Or.inr rfl))) (fun _ _ _ _ _ => (pts_one (pt_cmpR (kop_nin (K := K) rfl hu65) (pv 4) (pv 2) (by with_unfolding_all rfl)))) (fun _ _ _ _ _ => (pv 4)))
    (pss_one (ps_ret (pe_ifExp (pt_cmpR op_gt (pe_callB (klen (K := K) rfl) (by rfl) z_len (by decide +kernel) (pa_cons (pv 3) pa_nil)) pe_int (nomark _)) (pe_callH h_ring_among hr (by rfl) (pa_cons (pv 0) (pa_cons (pv 3) pa_nil))) pe_non))))), ?_⟩
    rintro ds Q ⟨n, ov, rfl, hn, hl, h1, h2⟩
    obtain ⟨r1, r2, r3⟩ := laid_rest n (swp ov)
    repeat (first
    | with_reducible refine dx_seq ?_ | with_reducible refine dx_ret ?_ | with_reducible refine dx_if ?_ | with_reducible refine dx_next ?_ | with_reducible refine dx_drop ?_ | with_reducible refine dx_asg ?_ | with_reducible refine dt_or ?_ | with_reducible refine dt_and ?_ | with_reducible refine dt_not ?_ | with_reducible refine dt_test ?_ | with_reducible refine dt_val ?_ | with_reducible refine de_int ?_ | with_reducible refine de_bl ?_ | with_reducible refine de_non ?_ | with_reducible refine de_str ?_ | with_reducible refine de_andV ?_ | with_reducible refine de_orV ?_ | with_reducible refine de_notV ?_ | with_reducible refine de_chain ?_ | with_reducible refine de_I0 ?_ | with_reducible refine de_B0 ?_ | with_reducible refine de_isInt ?_ | with_reducible refine de_isBl ?_ | with_reducible refine de_isTup ?_ | with_reducible refine de_isStr ?_ | with_reducible refine de_isRow ?_ | with_reducible refine de_len ?_ | with_reducible refine de_call ?_ | with_reducible refine de_ifx ?_ | with_reducible refine da_cons ?_ | with_reducible refine da_nil ?_
    | (with_reducible refine de_d (by with_unfolding_all rfl) ?_) | (with_reducible refine de_o (by with_unfolding_all rfl) ?_) | refine ⟨_, rfl, ?_⟩ | refine ⟨rfl, _, rfl, ?_⟩ | (with_reducible refine iteT' (by with_unfolding_all rfl) ?_) | (with_reducible refine iteF' (by with_unfolding_all rfl) ?_) | with_reducible refine de_count T ?_ | with_reducible refine de_overs T ?_ | with_reducible refine de_dates T ?_ | with_reducible refine de_kinds T ?_ | with_reducible refine de_nN ?_ | with_reducible refine de_nnN ?_ | refine ⟨_, _, rfl, ?_⟩ | refine ⟨_, _, _, rfl, ?_⟩ | refine ⟨_, rfl, rfl, ?_⟩)
    refine ⟨hn, hl, ?_⟩
    have e1 : (((ups n).filter fun b => decide (b ∉ rowL n ov)).length = 0) ↔ (rowL n ov).length = n := by unfold rowL; omega
    refine dx_seq (dx_asg (de_lcF .int (fun b => decide (b ∉ rowL n ov)) .int (di_sq (de_d rfl ⟨((ups n).map .int, none), rfl, ups n, rfl, fun a ha => dg_nm rfl ?_, rfl, by rw [ups_len]; omega, rfl, fun p => ?_⟩))))
    · refine dt_test (de_nin (de_d rfl (de_d rfl ⟨_, _, _, rfl, rfl, rfl, rfl, lay_intsT _, _, rfl, rfl, ?_, fun _ => de_d rfl ⟨rfl, rfl⟩⟩)))
      show (!(((rowL n ov).map (.int : Int → Dk)).any fun z => eqD z (.int a))) = _
      rw [any_ints]
      simp
    refine dx_ret (de_ifx (dt_test (de_B0 (de_len (de_o rfl ⟨_, rfl, _, rfl, de_int ⟨0, rfl, _, rfl, ?_⟩⟩)))))
    rw [List.length_map]
    by_cases hz : (rowL n ov).length = n
    · have h0 := e1.mpr hz
      rw [h0]
      refine iteF' rfl (de_non ⟨rfl, h1 hz⟩)
    · have h0 : 0 < ((ups n).filter fun b => decide (b ∉ rowL n ov)).length := Nat.pos_of_ne_zero fun z => hz (e1.mp z)
      refine iteT' (decide_eq_true (by omega)) (de_call (da_cons (de_d rfl (da_cons (de_o rfl (da_nil ⟨n, ov, (ups n).filter fun b => decide (b ∉ rowL n ov), rfl, hl, List.length_pos_iff.mp h0, (ups_nodup n).filter _, ?_, r3, fun L hL => ⟨purs_ints _, h2 hz L hL⟩⟩))))))
      have := List.length_filter_le (fun b => decide (b ∉ rowL n ov)) (ups n)
      rw [ups_len] at this
      omega
  case hl =>
    rintro ds Q ⟨n, ov, rfl, _⟩
    rfl


theorem mem_rot1 {α : Type} {l : List α} {q : α × α} (h : q ∈ l.zip (l.drop 1 ++ l.take 1)) : q.1 ∈ l ∧ q.2 ∈ l := by
  obtain ⟨i, hi, e1, e2⟩ := mem_rot.mp h
  exact ⟨List.mem_of_getElem? e1, List.mem_of_getElem? e2⟩
theorem ring_mem {ov : Ovs} {L : List Int} (h : RingO ov L) {n : Nat} (hi : inO ov (ups n)) : ∀ a ∈ L, a ∈ ups n := fun a ha => by
  obtain ⟨i, hi', e⟩ := List.mem_iff_getElem.mp ha
  have hm : (i + 1) % L.length < L.length := Nat.mod_lt _ (by omega)
  have := h.cyc (a, L[(i + 1) % L.length]) (mem_rot.mpr ⟨i, hi', by rw [← e]; exact List.getElem?_eq_getElem hi', List.getElem?_eq_getElem hm⟩)
  exact (hi _ this).1
theorem any_prs (ov : Ovs) (q : Int × Int) : ((ov.map pairD).any fun z => eqD z (pairD q)) = decide (q ∈ ov) := by
  have e : ∀ p : Int × Int, eqD (pairD p) (pairD q) = decide (p = q) := fun p => by
    have h := eq_intsT (κ := Kp) [p.1, p.2] [q.1, q.2]
    rw [show pairD p = .tup (([p.1, p.2] : List Int).map .int) from rfl, show pairD q = .tup (([q.1, q.2] : List Int).map .int) from rfl, h]
    refine decide_eq_decide.mpr ⟨fun z => ?_, fun z => by rw [z]⟩
    injection z with z1 z2
    injection z2 with z2 _
    exact Prod.ext z1 z2
  rw [List.any_map]
  have : ((fun z => eqD z (pairD q)) ∘ pairD) = fun p : Int × Int => decide (p = q) := funext fun p => e p
  rw [this]
  by_cases h : q ∈ ov
  · rw [decide_eq_true h, List.any_eq_true]
    exact ⟨q, h, decide_eq_true rfl⟩
  · rw [decide_eq_false h, List.any_eq_false]
    intro p hp e
    exact h (of_decide_eq_true e ▸ hp)

def S_is_ring_of : FS Kp := fun ds Q => ∃ (n : Nat) (ov : Ovs) (L : List Int), ds = [bookD n ov, intsD (ups n), intsD L] ∧ n ≤ 16 ∧ inO ov (ups n) ∧ ov.length ≤ 1000 ∧ RingO ov L ∧ 2 ≤ L.length ∧ Q (.v (.bl true))
abbrev s_is_ring_of : Stmt := top 69
abbrev N_is_ring_of : List Str := ["book", "wanted", "thing", "some", "one", "other", "layer"]
theorem sc_is_ring_of : FnScope N_is_ring_of ["book", "wanted", "thing"] (defScope s_is_ring_of) := ⟨rfl, rfl, rfl, by decide +kernel, rfl, by decide +kernel, by decide +kernel⟩
theorem has_is_ring_of {k : Nat} (D : Def K mg "is_ring_of" s_is_ring_of ["book", "wanted", "thing"]) (z_isinstance : mg "isinstance" = none) (z_tuple : mg "tuple" = none) (z_len : mg "len" = none) (z_all : mg "all" = none) (z_zip : mg "zip" = none) (h_needed_by : Has P w K mg base "needed_by" k ["book", "wanted"] (spD (Zk K CB CR) S_needed_by)) (h_is_within : Has P w K mg base "is_within" k ["thing", "low", "high"] (spD (Zk K CB CR) S_is_within)) (T : Tx K CB CR) : Has P w K mg base "is_ring_of" (k + 1) ["book", "wanted", "thing"] (spD (Zk K CB CR) S_is_ring_of) := by
  refine D.has sc_is_ring_of ?hl fun f cdv A outer s H E hr => ?bod
  case bod =>
    have hu1 := hu_of hr
    have hu0 := hu0_of hr
    have hu65 := hu65_of hr
    refine ⟨_, (pss_cons (ps_set (i := 3) sc_is_ring_of.nd rfl (by first | exact Or.inl rfl | exact Or.inr rfl) (pe_callH h_needed_by hr (by rfl) (pa_cons (pv 0) (pa_cons (pv 1) pa_nil))))
    (pss_cons (ps_if (PW.pt (pw_or (pt_not (pt_val (pe_callB (kisi (K := K) rfl) (by rfl) z_isinstance (by decide +kernel) (pa_cons (pv 2) (pa_cons (pe_bltn (by rfl) z_tuple (by decide +kernel) (show RelV (.ty "tuple") _ from rfl)) pa_nil))))) (pw_or1 (pt_cmpR (kop_lt (K := K) rfl hu0) (pe_callB (klen (K := K) rfl) (by rfl) z_len (by decide +kernel) (pa_cons (pv 2) pa_nil)) pe_int (nomark _))))) (pss_one (ps_ret pe_bl)) pss_nil)
    (pss_cons (ps_if (pt_not (pt_val (pe_callB (kall (K := K) rfl rfl) (by rfl) z_all (by decide +kernel) (pa_cons (pe_lc (own := [("layer", 6)]) rfl sc_is_ring_of.nd (kpi_sq (K := K) rfl (pv 2)) (blkOk_by (N := N_is_ring_of) (sc := defScope s_is_ring_of) (by decide +kernel)) (fun _ _ _ _ _ => (pg_name (i := 6) sc_is_ring_of.nd rfl (by first | exact Or.inl rfl | exact Or.inr rfl))) (fun _ _ _ _ _ => pts_nil) (fun _ _ _ _ _ => (pe_and (pe_callH h_is_within hr (by rfl) (pa_cons (pv 6) (pa_cons pe_int (pa_cons (pe_op op_sub (kpe_fld (K := K) rfl (pv 0)) pe_int) pa_nil)))) (pe_one (pe_cmpR (kop_in (K := K) rfl hu65) (pv 6) (pv 3) (by with_unfolding_all rfl)))))) pa_nil)))) (pss_one (ps_ret pe_bl)) pss_nil)
    (pss_one (ps_ret (pe_callB (kall (K := K) rfl rfl) (by rfl) z_all (by decide +kernel) (pa_cons (pe_lc (own := [("one", 4), ("other", 5)]) rfl sc_is_ring_of.nd (kpi_zip (K := K) rfl (by rfl) z_zip (pa_cons (pv 2) (pa_cons (pe_op (kop_add (K := K) rfl) (pe_slice (ksl (K := K) rfl) (pv 2) (po_some pe_int) po_none) (pe_slice (ksl (K := K) rfl) (pv 2) po_none (po_some pe_int))) pa_nil))) (blkOk_by (N := N_is_ring_of) (sc := defScope s_is_ring_of) (by decide +kernel)) (fun _ _ _ _ _ => (kpg_tup (K := K) (n := 2) rfl rfl (pgs_cons (pg_name (i := 4) sc_is_ring_of.nd rfl (by first | exact Or.inl rfl | exact Or.inr rfl)) (pgs_cons (pg_name (i := 5) sc_is_ring_of.nd rfl (by first | exact Or.inl rfl | exact Or.inr rfl)) pgs_nil)))) (fun _ _ _ _ _ => pts_nil) (fun _ _ _ _ _ => (pe_cmpR (kop_in (K := K) rfl hu65) (pe_tup (pa_cons (pv 4) (pa_cons (pv 5) pa_nil))) (kpe_fld (K := K) rfl (pv 0)) (by with_unfolding_all rfl)))) pa_nil))))))), ?_⟩
    rintro ds Q ⟨n, ov, L, rfl, hn, hi, hl, hr, h2, h⟩
    have h16 := hr.few
    repeat (first
    | with_reducible refine dx_seq ?_ | with_reducible refine dx_ret ?_ | with_reducible refine dx_if ?_ | with_reducible refine dx_next ?_ | with_reducible refine dx_drop ?_ | with_reducible refine dx_asg ?_ | with_reducible refine dt_or ?_ | with_reducible refine dt_and ?_ | with_reducible refine dt_not ?_ | with_reducible refine dt_test ?_ | with_reducible refine dt_val ?_ | with_reducible refine de_int ?_ | with_reducible refine de_bl ?_ | with_reducible refine de_non ?_ | with_reducible refine de_str ?_ | with_reducible refine de_andV ?_ | with_reducible refine de_orV ?_ | with_reducible refine de_notV ?_ | with_reducible refine de_chain ?_ | with_reducible refine de_I0 ?_ | with_reducible refine de_B0 ?_ | with_reducible refine de_isInt ?_ | with_reducible refine de_isBl ?_ | with_reducible refine de_isTup ?_ | with_reducible refine de_isStr ?_ | with_reducible refine de_isRow ?_ | with_reducible refine de_len ?_ | with_reducible refine de_call ?_ | with_reducible refine de_ifx ?_ | with_reducible refine da_cons ?_ | with_reducible refine da_nil ?_
    | (with_reducible refine de_d (by with_unfolding_all rfl) ?_) | (with_reducible refine de_o (by with_unfolding_all rfl) ?_) | refine ⟨_, rfl, ?_⟩ | refine ⟨rfl, _, rfl, ?_⟩ | (with_reducible refine iteT' (by with_unfolding_all rfl) ?_) | (with_reducible refine iteF' (by with_unfolding_all rfl) ?_) | with_reducible refine de_count T ?_ | with_reducible refine de_overs T ?_ | with_reducible refine de_dates T ?_ | with_reducible refine de_kinds T ?_ | with_reducible refine de_nN ?_ | with_reducible refine de_nnN ?_ | refine ⟨_, _, rfl, ?_⟩ | refine ⟨_, _, _, rfl, ?_⟩ | refine ⟨_, rfl, rfl, ?_⟩)
    refine ⟨hn, hi, hl, ?_⟩
    refine dx_seq (dx_if (dt_or (dt_not (dt_val (de_isTup (de_d rfl ⟨rfl, _, rfl, iteF' rfl (dt_test (de_ltI (de_len (de_d rfl ⟨_, rfl, _, rfl, de_int ⟨_, rfl, _, rfl, ?_⟩⟩))))⟩))))))
    rw [List.length_map]
    refine iteF' (decide_eq_false (by omega)) (dx_next ?_)
    refine dx_seq (dx_if (dt_not (dt_val (de_allC .int (fun _ => true) (di_sq (de_d rfl ⟨(L.map .int, none), rfl, L, rfl, fun a ha => dg_nm rfl ?_, rfl, by omega, rfl, _, rfl, ?_⟩))))))
    · have hm := ring_mem hr hi a ha
      refine de_andV (de_call (da_cons (de_d rfl (da_cons (de_int (da_cons (de_I0 (de_count T (de_d rfl ⟨n, ov, rfl, _, rfl, de_int ⟨1, rfl, da_nil ⟨_, _, _, rfl, true, ?_, ?_⟩⟩⟩)))))))))
      · have : within a 0 ((n : Int) - 1) = true := by have := mem_ups.mp hm; rw [within_iff]; omega
        rw [this]
      refine iteT' rfl (de_in (de_d rfl (de_ld (de_d rfl ⟨_, .tup ((ups n).map .int), rfl, .ktup (LDs.refl _), _, _, _, rfl, rfl, rfl, rfl, lay_intsT _, rfl, ?_⟩))))
      show ER.v (.bl (((ups n).map (.int : Int → Dk)).any fun z => eqD z (.int a))) = _
      rw [any_ints, decide_eq_true hm]
    have e1 : (L.all fun _ => true) = true := by simp
    rw [e1]
    refine iteF' rfl (dx_next (dx_ret (de_allC (α := Int × Int) (fun q => .tup [.int q.1, .int q.2]) (fun q => decide (q ∈ ov)) (di_zip (da_cons (de_d rfl ?_))))))
    refine da_cons (de_addT (de_sl (de_d rfl (do_some (de_int ⟨1, rfl, do_none ⟨_, rfl, ?_⟩⟩)))))
    refine de_sl (de_d rfl (do_none (do_some (de_int ⟨1, rfl, _, rfl, ?_, ?_⟩))))
    · show (cutL (L.map (.int : Int → Dk)) (some ((1 : Nat) : Int)) none).length + (cutL (L.map (.int : Int → Dk)) none (some ((1 : Nat) : Int))).length ≤ 100000
      rw [cut_from, cut_to, List.length_drop, List.length_take, List.length_map]
      omega
    refine da_nil ⟨_, _, (L.map .int, none), ((L.drop 1 ++ L.take 1).map .int, none), rfl, rfl, ?_, rfl, .inl rfl, L.zip (L.drop 1 ++ L.take 1), zip_map _ _ _ _, fun q hq => dg_tp rfl (dgs_cn (dg_nm rfl (dgs_cn (dg_nm rfl (dgs_nl ?_))))), rfl, ?_, rfl, ?_⟩
    · show some (cutL (L.map (.int : Int → Dk)) (some ((1 : Nat) : Int)) none ++ cutL (L.map (.int : Int → Dk)) none (some ((1 : Nat) : Int)), _) = _
      rw [cut_from, cut_to, List.map_append, List.map_drop, List.map_take]
    · refine de_in (de_tup (da_cons (de_d rfl (da_cons (de_d rfl (da_nil ⟨[.int q.1, .int q.2], rfl, by simp, ?_⟩))))))
      refine de_overs T (de_d rfl ⟨n, ov, rfl, pairD q, ovsD ov, ov.map pairD, rfl, rfl, rfl, rfl, ?_, rfl, ?_⟩)
      · exact lays_map pairD ov fun _ _ => rfl
      · exact congrArg (fun b => ER.v (DL.D.bl b)) (any_prs ov q)
    · rw [List.length_zip]; omega
    · have : ((L.zip (L.drop 1 ++ L.take 1)).all fun q => decide (q ∈ ov)) = true := List.all_eq_true.mpr fun q hq => decide_eq_true (hr.cyc q hq)
      rw [this]
      exact ⟨rfl, h⟩
  case hl =>
    rintro ds Q ⟨n, ov, L, rfl, _⟩
    rfl


def S_is_stuck : FS Kp := S_is_ring_of
abbrev s_is_stuck : Stmt := top 70
abbrev N_is_stuck : List Str := ["book", "wanted", "thing"]
theorem sc_is_stuck : FnScope N_is_stuck ["book", "wanted", "thing"] (defScope s_is_stuck) := ⟨rfl, rfl, rfl, by decide +kernel, rfl, by decide +kernel, by decide +kernel⟩
theorem has_is_stuck {k : Nat} (D : Def K mg "is_stuck" s_is_stuck ["book", "wanted", "thing"]) (h_check_set : Has P w K mg base "check_set" k ["book", "wanted"] (spD (Zk K CB CR) S_check_set)) (h_is_ring_of : Has P w K mg base "is_ring_of" k ["book", "wanted", "thing"] (spD (Zk K CB CR) S_is_ring_of)) (T : Tx K CB CR) : Has P w K mg base "is_stuck" (k + 1) ["book", "wanted", "thing"] (spD (Zk K CB CR) S_is_stuck) := by
  refine D.has sc_is_stuck ?hl fun f cdv A outer s H E hr => ?bod
  case bod =>
    have hu1 := hu_of hr
    have hu0 := hu0_of hr
    have hu65 := hu65_of hr
    refine ⟨_, (pss_cons (ps_expr (pe_callH h_check_set hr (by rfl) (pa_cons (pv 0) (pa_cons (pv 1) pa_nil))))
    (pss_one (ps_ret (pe_callH h_is_ring_of hr (by rfl) (pa_cons (pv 0) (pa_cons (pv 1) (pa_cons (pv 2) pa_nil))))))), ?_⟩
    rintro ds Q ⟨n, ov, L, rfl, hn, hi, hl, hr, h2, h⟩
    repeat (first
    | with_reducible refine dx_seq ?_ | with_reducible refine dx_ret ?_ | with_reducible refine dx_if ?_ | with_reducible refine dx_next ?_ | with_reducible refine dx_drop ?_ | with_reducible refine dx_asg ?_ | with_reducible refine dt_or ?_ | with_reducible refine dt_and ?_ | with_reducible refine dt_not ?_ | with_reducible refine dt_test ?_ | with_reducible refine dt_val ?_ | with_reducible refine de_int ?_ | with_reducible refine de_bl ?_ | with_reducible refine de_non ?_ | with_reducible refine de_str ?_ | with_reducible refine de_andV ?_ | with_reducible refine de_orV ?_ | with_reducible refine de_notV ?_ | with_reducible refine de_chain ?_ | with_reducible refine de_I0 ?_ | with_reducible refine de_B0 ?_ | with_reducible refine de_isInt ?_ | with_reducible refine de_isBl ?_ | with_reducible refine de_isTup ?_ | with_reducible refine de_isStr ?_ | with_reducible refine de_isRow ?_ | with_reducible refine de_len ?_ | with_reducible refine de_call ?_ | with_reducible refine de_ifx ?_ | with_reducible refine da_cons ?_ | with_reducible refine da_nil ?_
    | (with_reducible refine de_d (by with_unfolding_all rfl) ?_) | (with_reducible refine de_o (by with_unfolding_all rfl) ?_) | refine ⟨_, rfl, ?_⟩ | refine ⟨rfl, _, rfl, ?_⟩ | (with_reducible refine iteT' (by with_unfolding_all rfl) ?_) | (with_reducible refine iteF' (by with_unfolding_all rfl) ?_) | with_reducible refine de_count T ?_ | with_reducible refine de_overs T ?_ | with_reducible refine de_dates T ?_ | with_reducible refine de_kinds T ?_ | with_reducible refine de_nN ?_ | with_reducible refine de_nnN ?_ | refine ⟨_, _, rfl, ?_⟩ | refine ⟨_, _, _, rfl, ?_⟩ | refine ⟨_, rfl, rfl, ?_⟩)
    refine ⟨hn, ?_⟩
    repeat (first
    | with_reducible refine dx_seq ?_ | with_reducible refine dx_ret ?_ | with_reducible refine dx_if ?_ | with_reducible refine dx_next ?_ | with_reducible refine dx_drop ?_ | with_reducible refine dx_asg ?_ | with_reducible refine dt_or ?_ | with_reducible refine dt_and ?_ | with_reducible refine dt_not ?_ | with_reducible refine dt_test ?_ | with_reducible refine dt_val ?_ | with_reducible refine de_int ?_ | with_reducible refine de_bl ?_ | with_reducible refine de_non ?_ | with_reducible refine de_str ?_ | with_reducible refine de_andV ?_ | with_reducible refine de_orV ?_ | with_reducible refine de_notV ?_ | with_reducible refine de_chain ?_ | with_reducible refine de_I0 ?_ | with_reducible refine de_B0 ?_ | with_reducible refine de_isInt ?_ | with_reducible refine de_isBl ?_ | with_reducible refine de_isTup ?_ | with_reducible refine de_isStr ?_ | with_reducible refine de_isRow ?_ | with_reducible refine de_len ?_ | with_reducible refine de_call ?_ | with_reducible refine de_ifx ?_ | with_reducible refine da_cons ?_ | with_reducible refine da_nil ?_
    | (with_reducible refine de_d (by with_unfolding_all rfl) ?_) | (with_reducible refine de_o (by with_unfolding_all rfl) ?_) | refine ⟨_, rfl, ?_⟩ | refine ⟨rfl, _, rfl, ?_⟩ | (with_reducible refine iteT' (by with_unfolding_all rfl) ?_) | (with_reducible refine iteF' (by with_unfolding_all rfl) ?_) | with_reducible refine de_count T ?_ | with_reducible refine de_overs T ?_ | with_reducible refine de_dates T ?_ | with_reducible refine de_kinds T ?_ | with_reducible refine de_nN ?_ | with_reducible refine de_nnN ?_ | refine ⟨_, _, rfl, ?_⟩ | refine ⟨_, _, _, rfl, ?_⟩ | refine ⟨_, rfl, rfl, ?_⟩)
    exact ⟨hn, hi, hl, hr, h2, rfl, h⟩
  case hl =>
    rintro ds Q ⟨n, ov, L, rfl, _⟩
    rfl


end K67
set_option Elab.async false
set_option linter.all false
set_option maxRecDepth 100000
namespace K67
open PySem PySem.Spec PyProof.Rows L2 DL RZ
/-! K14: plans judged -/
variable {P : Program} {w : World} {K : PySem.W.Frag} {mg : Str → Option Value} {base : Heap} {CB CR : Addr}

def daysD (days : Grid) : Dk := .tup (days.map intsD)
/-- a plan that digs all layers, crews at work -/
structure PlanS (n : Nat) (ov : Ovs) (cr : Nat) (days : Grid) : Prop where
  lot : ∀ d ∈ days, isLot d n = true ∧ 1 ≤ d.length ∧ d.length ≤ cr
  perm : days.flatten.Perm (ups n)
  ord : ∀ p ∈ ov, ∀ (i j : Nat) (d e : List Int), days[i]? = some d → days[j]? = some e → p.1 ∈ d → p.2 ∈ e → i < j
theorem flat_many : ∀ {days : Grid}, (∀ d ∈ days, 1 ≤ d.length) → days.length ≤ days.flatten.length
  | [], _ => Nat.le_refl _
  | d :: r, h => by
    have h1 := h d List.mem_cons_self
    have h2 := flat_many fun e he => h e (List.mem_cons_of_mem _ he)
    rw [List.flatten_cons, List.length_append, List.length_cons]
    omega
theorem flat_one : ∀ {days : Grid} {d : List Int}, d ∈ days → d.length ≤ days.flatten.length
  | e :: r, d, h => by
    rw [List.flatten_cons, List.length_append]
    rcases List.mem_cons.mp h with q | q
    · rw [q]; omega
    · have := flat_one q; omega
theorem PlanS.many {n : Nat} {ov : Ovs} {cr : Nat} {days : Grid} (h : PlanS n ov cr days) : days.length ≤ n := by
  have := flat_many fun d hd => (h.lot d hd).2.1
  rw [h.perm.length_eq, ups_len] at this
  exact this
theorem PlanS.one {n : Nat} {ov : Ovs} {cr : Nat} {days : Grid} (h : PlanS n ov cr days) {d : List Int} (hd : d ∈ days) : d.length ≤ n := by
  have := flat_one hd
  rw [h.perm.length_eq, ups_len] at this
  exact this
theorem take_flat {days : Grid} {i : Nat} {d : List Int} (e : days[i]? = some d) : (days.take (i + 1)).flatten = (days.take i).flatten ++ d := by
  rw [take_one e, List.flatten_append]
  simp
theorem getA_cons {α β : Type} [DecidableEq α] (a : α) (b : β) (m : List (α × β)) (k : α) : getA ((a, b) :: m) k = if a = k then some b else getA m k := by
  unfold getA
  rw [List.find?_cons]
  by_cases e : a = k
  · simp [e]
  · simp [e]
theorem getA_upd {α β : Type} [DecidableEq α] (k k' : α) (v : β) : ∀ (m : List (α × β)), k ∈ m.map (·.1) → getA (m.map fun kv => if kv.1 = k then (kv.1, v) else kv) k' = if k = k' then some v else getA m k'
  | [], h => by cases h
  | (a, b) :: r, h => by
    have ih := getA_upd k k' v r
    have off : k ∉ r.map (·.1) → (r.map fun kv => if kv.1 = k then (kv.1, v) else kv) = r := fun hn => by
      refine (List.map_congr_left fun kv hkv => ?_).trans (List.map_id r)
      have : kv.1 ≠ k := fun e => hn (e ▸ List.mem_map_of_mem hkv)
      rw [if_neg this] <;> rfl
    rw [List.map_cons]
    by_cases e : a = k
    · subst e
      rw [if_pos rfl, getA_cons, getA_cons]
      by_cases e2 : a = k'
      · rw [if_pos e2, if_pos e2]
      · rw [if_neg e2, if_neg e2, if_neg e2]
        by_cases hm : a ∈ r.map (·.1)
        · rw [ih hm, if_neg e2]
        · rw [off hm]
    · have hm : k ∈ r.map (·.1) := by
        rw [List.map_cons] at h
        rcases List.mem_cons.mp h with q | q
        · exact absurd q.symm e
        · exact q
      rw [if_neg e, getA_cons, getA_cons, ih hm]
      by_cases e2 : a = k'
      · rw [if_pos e2, if_pos e2, if_neg fun z => e (e2.trans z.symm)]
      · rw [if_neg e2, if_neg e2]
theorem getA_put {α β : Type} [DecidableEq α] (m : List (α × β)) (k k' : α) (v : β) : getA (putA m k v) k' = if k = k' then some v else getA m k' := by
  by_cases hk : k ∈ m.map (·.1)
  · have : (m.any fun kv => decide (kv.1 = k)) = true := by
      obtain ⟨kv, h1, h2⟩ := List.mem_map.mp hk
      exact List.any_eq_true.mpr ⟨kv, h1, decide_eq_true h2⟩
    unfold putA
    rw [if_pos this]
    exact getA_upd k k' v m hk
  · have hn : getA m k = none := by
      unfold getA
      rw [List.find?_eq_none.mpr fun kv hkv => by simpa using fun e : kv.1 = k => hk (e ▸ List.mem_map_of_mem hkv)]
      rfl
    rw [putA_new hk, getA_app]
    by_cases e : k = k'
    · subst e
      rw [if_pos rfl, hn, if_pos rfl] <;> rfl
    · rw [if_neg e, if_neg e, Option.or_none]
theorem put_len {α β : Type} [DecidableEq α] (m : List (α × β)) (k : α) (v : β) : (putA m k v).length ≤ m.length + 1 := by
  unfold putA
  split
  · rw [List.length_map]; omega
  · rw [List.length_append, List.length_singleton]; omega

def S_are_days : FS Kp := fun ds Q => ∃ (n : Nat) (ov : Ovs) (cr : Nat) (days : Grid), ds = [bookD n ov, .int (cr : Nat), daysD days] ∧ n ≤ 16 ∧ PlanS n ov cr days ∧ Q (.v (.bl true))
abbrev s_are_days : Stmt := top 62
abbrev N_are_days : List Str := ["book", "crews", "thing", "every", "day"]
theorem sc_are_days : FnScope N_are_days ["book", "crews", "thing"] (defScope s_are_days) := ⟨rfl, rfl, rfl, by decide +kernel, rfl, by decide +kernel, by decide +kernel⟩
theorem has_are_days {k : Nat} (D : Def K mg "are_days" s_are_days ["book", "crews", "thing"]) (z_isinstance : mg "isinstance" = none) (z_tuple : mg "tuple" = none) (z_all : mg "all" = none) (z_len : mg "len" = none) (z_set : mg "set" = none) (h_is_lot : Has P w K mg base "is_lot" k ["thing", "many"] (spD (Zk K CB CR) S_is_lot)) (T : Tx K CB CR) : Has P w K mg base "are_days" (k + 1) ["book", "crews", "thing"] (spD (Zk K CB CR) S_are_days) := by
  refine D.has sc_are_days ?hl fun f cdv A outer s H E hr => ?bod
  case bod =>
    have hu1 := hu_of hr
    have hu0 := hu0_of hr
    have hu65 := hu65_of hr
    refine ⟨_, (pss_cons (ps_if (PW.pt (pw_or (pt_not (pt_val (pe_callB (kisi (K := K) rfl) (by rfl) z_isinstance (by decide +kernel) (pa_cons (pv 2) (pa_cons (pe_bltn (by rfl) z_tuple (by decide +kernel) (show RelV (.ty "tuple") _ from rfl)) pa_nil))))) (pw_or1 (pt_not (pt_val (pe_callB (kall (K := K) rfl rfl) (by rfl) z_all (by decide +kernel) (pa_cons (pe_lc (own := [("day", 4)]) rfl sc_are_days.nd (kpi_sq (K := K) rfl (pv 2)) (blkOk_by (N := N_are_days) (sc := defScope s_are_days) (by decide +kernel)) (fun _ _ _ _ _ => (pg_name (i := 4) sc_are_days.nd rfl (by first | exact Or.inl rfl | exact Or.inr rfl))) (fun _ _ _ _ _ => pts_nil) (fun _ _ _ _ _ => (pe_callH h_is_lot hr (by rfl) (pa_cons (pv 4) (pa_cons (kpe_fld (K := K) rfl (pv 0)) pa_nil))))) pa_nil))))))) (pss_one (ps_ret pe_bl)) pss_nil)
    (pss_cons (ps_if (pt_not (pt_val (pe_callB (kall (K := K) rfl rfl) (by rfl) z_all (by decide +kernel) (pa_cons (pe_lc (own := [("day", 4)]) rfl sc_are_days.nd (kpi_sq (K := K) rfl (pv 2)) (blkOk_by (N := N_are_days) (sc := defScope s_are_days) (by decide +kernel)) (fun _ _ _ _ _ => (pg_name (i := 4) sc_are_days.nd rfl (by first | exact Or.inl rfl | exact Or.inr rfl))) (fun _ _ _ _ _ => pts_nil) (fun _ _ _ _ _ => (pe_chain op_le op_le pe_int (pe_callB (klen (K := K) rfl) (by rfl) z_len (by decide +kernel) (pa_cons (pv 4) pa_nil)) (pv 1)))) pa_nil)))) (pss_one (ps_ret pe_bl)) pss_nil)
    (pss_cons (ps_set (i := 3) sc_are_days.nd rfl (by first | exact Or.inl rfl | exact Or.inr rfl) (pe_lst pa_nil))
    (pss_cons (ps_for PassesOwn.never rfl (kpi_sq (K := K) rfl (pv 2)) (pg_name (i := 4) sc_are_days.nd rfl (by first | exact Or.inl rfl | exact Or.inr rfl)) (pss_one (ps_expr (kpe_bm (K := K) rfl PySem.F.plainAttrs_list PySem.F.slot_list_extend PySem.F.type_list_extend (kmt_extendT (K := K) rfl) (pv 3) (pa_cons (pv 4) pa_nil)))))
    (pss_one (ps_ret (pe_cmpR (kop_eq (K := K) rfl hu65) (kpe_lenSetI (K := K) rfl (by rfl) z_len (by rfl) z_set (pv 3)) (pe_callB (klen (K := K) rfl) (by rfl) z_len (by decide +kernel) (pa_cons (pv 3) pa_nil)) (nomark _)))))))), ?_⟩
    rintro ds Q ⟨n, ov, cr, days, rfl, hn, hp, h⟩
    have many := hp.many
    refine dx_seq (dx_if (dt_or (dt_not (dt_val (de_isTup (de_d rfl ⟨rfl, _, rfl, iteF' rfl (dt_not (dt_val (de_allC (α := List Int) intsD (fun _ => true) (di_sq (de_d rfl ⟨(days.map intsD, none), rfl, days, rfl, fun d hd => dg_nm rfl ?_, rfl, by omega, rfl, _, rfl, ?_⟩)))))⟩))))))
    · obtain ⟨l1, l2, l3⟩ := hp.lot d hd
      have l4 := hp.one hd
      refine de_call (da_cons (de_d rfl (da_cons (de_count T (de_d rfl ⟨n, ov, rfl, da_nil ⟨d, n, rfl, by omega, rfl, ?_⟩⟩)))))
      rw [l1] <;> rfl
    have e1 : (days.all fun _ => true) = true := by simp
    rw [e1]
    refine iteF' rfl (dx_next ?_)
    refine dx_seq (dx_if (dt_not (dt_val (de_allC (α := List Int) intsD (fun _ => true) (di_sq (de_d rfl ⟨(days.map intsD, none), rfl, days, rfl, fun d hd => dg_nm rfl ?_, rfl, by omega, rfl, _, rfl, ?_⟩))))))
    · obtain ⟨l1, l2, l3⟩ := hp.lot d hd
      refine de_chain (de_int ⟨1, rfl, de_len (de_d rfl ⟨_, rfl, _, rfl, iteT' ?_ (de_d rfl ⟨_, rfl, rfl, ?_⟩)⟩)⟩)
      · exact decide_eq_true (by rw [List.length_map]; omega)
      · exact congrArg (fun b => ER.v (DL.D.bl b)) (decide_eq_true (by rw [List.length_map]; omega))
    rw [e1]
    refine iteF' rfl (dx_next ?_)
    refine dx_seq (dx_asg (de_lst (da_nil ⟨[], rfl, by simp, fun pe => ?_⟩)))
    refine dx_seq (dx_forE (α := List Int) [4] intsD (di_sq (de_d rfl ⟨(days.map intsD, none), rfl, days, rfl, fun i τ2 => ∃ x, τ2 = [.d (bookD n ov), .d (.int (cr : Nat)), .d (daysD days), .own pe (.lst ((days.take i).flatten.map .int)), x], ⟨_, rfl⟩, fun _ _ _ => trivial, ?_, ?_⟩)))
    · rintro i d τ2 hq ⟨x, rfl⟩
      have tl : ((days.take i).flatten).length + d.length ≤ n := by
        have e := take_flat hq
        have l := congrArg List.length e
        rw [List.length_append] at l
        have : ((days.take (i + 1)).flatten).length ≤ days.flatten.length := by
          have := congrArg (fun g : Grid => g.flatten.length) (List.take_append_drop (i + 1) days)
          simp only [List.flatten_append, List.length_append] at this
          omega
        rw [hp.perm.length_eq, ups_len] at this
        omega
      refine dg_nm rfl (dx_drop (de_extendT ⟨_, _, rfl⟩ (de_d rfl ⟨pe, _, d.map .int, rfl, rfl, by rw [List.length_map, List.length_map]; omega, .d (intsD d), ?_⟩)))
      rw [take_flat hq, List.map_append]
      rfl
    · rintro τ2 ⟨x, rfl⟩
      rw [List.take_length]
      have hl : days.flatten.length = n := by rw [hp.perm.length_eq, ups_len]
      have hnd : days.flatten.Nodup := hp.perm.nodup_iff.mpr (ups_nodup n)
      refine dx_ret (de_eq (de_lenSetI (de_o rfl ⟨days.flatten, rfl, hnd, by omega, de_len (de_o rfl ⟨_, rfl, _, _, rfl, rfl, rfl, rfl, ?_⟩)⟩)))
      have : eqD (.int (days.flatten.length : Nat) : Dk) (.int ((days.flatten.map (.int : Int → Dk)).length : Nat)) = true := by
        rw [eqD_int, List.length_map]
        exact decide_eq_true rfl
      refine ⟨rfl, ?_⟩
      show Q (.v (.bl (eqD (.int (days.flatten.length : Nat) : Dk) (.int ((days.flatten.map (.int : Int → Dk)).length : Nat)))))
      rw [this]
      exact h
  case hl =>
    rintro ds Q ⟨n, ov, cr, days, rfl, _⟩
    rfl


def S_is_plan : FS Kp := fun ds Q => ∃ (n : Nat) (ov : Ovs) (cr : Nat) (days : Grid), ds = [bookD n ov, .int (cr : Nat), intsD (ups n), daysD days] ∧ n ≤ 16 ∧ 1 ≤ cr ∧ cr ≤ 4 ∧ ov.length ≤ 1000 ∧ inO ov (ups n) ∧ PlanS n ov cr days ∧ Q (.v (.bl true))
abbrev s_is_plan : Stmt := top 63
abbrev N_is_plan : List Str := ["book", "crews", "wanted", "thing", "day_of", "number", "day", "layer", "a", "b"]
theorem sc_is_plan : FnScope N_is_plan ["book", "crews", "wanted", "thing"] (defScope s_is_plan) := ⟨rfl, rfl, rfl, by decide +kernel, rfl, by decide +kernel, by decide +kernel⟩
theorem has_is_plan {k : Nat} (D : Def K mg "is_plan" s_is_plan ["book", "crews", "wanted", "thing"]) (z_enumerate : mg "enumerate" = none) (z_all : mg "all" = none) (h_check_crews : Has P w K mg base "check_crews" k ["crews"] (spD (Zk K CB CR) S_check_crews)) (h_check_set : Has P w K mg base "check_set" k ["book", "wanted"] (spD (Zk K CB CR) S_check_set)) (h_are_days : Has P w K mg base "are_days" k ["book", "crews", "thing"] (spD (Zk K CB CR) S_are_days)) (T : Tx K CB CR) : Has P w K mg base "is_plan" (k + 1) ["book", "crews", "wanted", "thing"] (spD (Zk K CB CR) S_is_plan) := by
  refine D.has sc_is_plan ?hl fun f cdv A outer s H E hr => ?bod
  case bod =>
    have hu1 := hu_of hr
    have hu0 := hu0_of hr
    have hu65 := hu65_of hr
    refine ⟨_, (pss_cons (ps_expr (pe_callH h_check_crews hr (by rfl) (pa_cons (pv 1) pa_nil)))
    (pss_cons (ps_expr (pe_callH h_check_set hr (by rfl) (pa_cons (pv 0) (pa_cons (pv 2) pa_nil))))
    (pss_cons (ps_if (pt_not (pt_val (pe_callH h_are_days hr (by rfl) (pa_cons (pv 0) (pa_cons (pv 1) (pa_cons (pv 3) pa_nil)))))) (pss_one (ps_ret pe_bl)) pss_nil)
    (pss_cons (ps_set (i := 4) sc_is_plan.nd rfl (by first | exact Or.inl rfl | exact Or.inr rfl) pe_dnewK)
    (pss_cons (ps_for PassesOwn.never rfl (kpi_enum (K := K) rfl (by rfl) z_enumerate (pa_cons (pv 3) pa_nil)) (kpg_tup (K := K) (n := 2) rfl rfl (pgs_cons (pg_name (i := 5) sc_is_plan.nd rfl (by first | exact Or.inl rfl | exact Or.inr rfl)) (pgs_cons (pg_name (i := 6) sc_is_plan.nd rfl (by first | exact Or.inl rfl | exact Or.inr rfl)) pgs_nil))) (pss_one (ps_for PassesOwn.never rfl (kpi_sq (K := K) rfl (pv 6)) (pg_name (i := 7) sc_is_plan.nd rfl (by first | exact Or.inl rfl | exact Or.inr rfl)) (pss_one (ps_dput hu1 (pv 4) (pv 7) (pv 5) rfl)))))
    (pss_cons (ps_if (pt_not (pt_val (pe_callB (kall (K := K) rfl rfl) (by rfl) z_all (by decide +kernel) (pa_cons (pe_lc (own := [("layer", 7)]) rfl sc_is_plan.nd (kpi_sq (K := K) rfl (pv 2)) (blkOk_by (N := N_is_plan) (sc := defScope s_is_plan) (by decide +kernel)) (fun _ _ _ _ _ => (pg_name (i := 7) sc_is_plan.nd rfl (by first | exact Or.inl rfl | exact Or.inr rfl))) (fun _ _ _ _ _ => pts_nil) (fun _ _ _ _ _ => (pe_cmp (pc_din hu1 (pv 7) (pv 4)) (by with_unfolding_all rfl)))) pa_nil)))) (pss_one (ps_ret pe_bl)) pss_nil)
    (pss_one (ps_ret (pe_callB (kall (K := K) rfl rfl) (by rfl) z_all (by decide +kernel) (pa_cons (pe_lc (own := [("a", 8), ("b", 9)]) rfl sc_is_plan.nd (kpi_sq (K := K) rfl (kpe_fld (K := K) rfl (pv 0))) (blkOk_by (N := N_is_plan) (sc := defScope s_is_plan) (by decide +kernel)) (fun _ _ _ _ _ => (kpg_tup (K := K) (n := 2) rfl rfl (pgs_cons (pg_name (i := 8) sc_is_plan.nd rfl (by first | exact Or.inl rfl | exact Or.inr rfl)) (pgs_cons (pg_name (i := 9) sc_is_plan.nd rfl (by first | exact Or.inl rfl | exact Or.inr rfl)) pgs_nil)))) (fun _ _ _ _ _ => (pts_one (pt_cmp (pc_din hu1 (pv 9) (pv 4)) (by with_unfolding_all rfl)))) (fun _ _ _ _ _ => (pe_and (pe_cmp (pc_din hu1 (pv 8) (pv 4)) (by with_unfolding_all rfl)) (pe_one (pe_cmpR (kop_lt (K := K) rfl hu0) (pe_dget hu1 (pv 4) (pv 8) (fun _ _ => rfl)) (pe_dget hu1 (pv 4) (pv 9) (fun _ _ => rfl)) (nomark _)))))) pa_nil)))))))))), ?_⟩
    rintro ds Q ⟨n, ov, cr, days, rfl, hn, c1, c4, hl, hi, hp, h⟩
    have many := hp.many
    repeat (first
    | with_reducible refine dx_seq ?_ | with_reducible refine dx_ret ?_ | with_reducible refine dx_if ?_ | with_reducible refine dx_next ?_ | with_reducible refine dx_drop ?_ | with_reducible refine dx_asg ?_ | with_reducible refine dt_or ?_ | with_reducible refine dt_and ?_ | with_reducible refine dt_not ?_ | with_reducible refine dt_test ?_ | with_reducible refine dt_val ?_ | with_reducible refine de_int ?_ | with_reducible refine de_bl ?_ | with_reducible refine de_non ?_ | with_reducible refine de_str ?_ | with_reducible refine de_andV ?_ | with_reducible refine de_orV ?_ | with_reducible refine de_notV ?_ | with_reducible refine de_chain ?_ | with_reducible refine de_I0 ?_ | with_reducible refine de_B0 ?_ | with_reducible refine de_isInt ?_ | with_reducible refine de_isBl ?_ | with_reducible refine de_isTup ?_ | with_reducible refine de_isStr ?_ | with_reducible refine de_isRow ?_ | with_reducible refine de_len ?_ | with_reducible refine de_call ?_ | with_reducible refine de_ifx ?_ | with_reducible refine da_cons ?_ | with_reducible refine da_nil ?_
    | (with_reducible refine de_d (by with_unfolding_all rfl) ?_) | (with_reducible refine de_o (by with_unfolding_all rfl) ?_) | refine ⟨_, rfl, ?_⟩ | refine ⟨rfl, _, rfl, ?_⟩ | (with_reducible refine iteT' (by with_unfolding_all rfl) ?_) | (with_reducible refine iteF' (by with_unfolding_all rfl) ?_) | with_reducible refine de_count T ?_ | with_reducible refine de_overs T ?_ | with_reducible refine de_dates T ?_ | with_reducible refine de_kinds T ?_ | with_reducible refine de_nN ?_ | with_reducible refine de_nnN ?_ | refine ⟨_, _, rfl, ?_⟩ | refine ⟨_, _, _, rfl, ?_⟩ | refine ⟨_, rfl, rfl, ?_⟩)
    refine ⟨by omega, by omega, ?_⟩
    repeat (first
    | with_reducible refine dx_seq ?_ | with_reducible refine dx_ret ?_ | with_reducible refine dx_if ?_ | with_reducible refine dx_next ?_ | with_reducible refine dx_drop ?_ | with_reducible refine dx_asg ?_ | with_reducible refine dt_or ?_ | with_reducible refine dt_and ?_ | with_reducible refine dt_not ?_ | with_reducible refine dt_test ?_ | with_reducible refine dt_val ?_ | with_reducible refine de_int ?_ | with_reducible refine de_bl ?_ | with_reducible refine de_non ?_ | with_reducible refine de_str ?_ | with_reducible refine de_andV ?_ | with_reducible refine de_orV ?_ | with_reducible refine de_notV ?_ | with_reducible refine de_chain ?_ | with_reducible refine de_I0 ?_ | with_reducible refine de_B0 ?_ | with_reducible refine de_isInt ?_ | with_reducible refine de_isBl ?_ | with_reducible refine de_isTup ?_ | with_reducible refine de_isStr ?_ | with_reducible refine de_isRow ?_ | with_reducible refine de_len ?_ | with_reducible refine de_call ?_ | with_reducible refine de_ifx ?_ | with_reducible refine da_cons ?_ | with_reducible refine da_nil ?_
    | (with_reducible refine de_d (by with_unfolding_all rfl) ?_) | (with_reducible refine de_o (by with_unfolding_all rfl) ?_) | refine ⟨_, rfl, ?_⟩ | refine ⟨rfl, _, rfl, ?_⟩ | (with_reducible refine iteT' (by with_unfolding_all rfl) ?_) | (with_reducible refine iteF' (by with_unfolding_all rfl) ?_) | with_reducible refine de_count T ?_ | with_reducible refine de_overs T ?_ | with_reducible refine de_dates T ?_ | with_reducible refine de_kinds T ?_ | with_reducible refine de_nN ?_ | with_reducible refine de_nnN ?_ | refine ⟨_, _, rfl, ?_⟩ | refine ⟨_, _, _, rfl, ?_⟩ | refine ⟨_, rfl, rfl, ?_⟩)
    refine ⟨hn, ?_⟩
    repeat (first
    | with_reducible refine dx_seq ?_ | with_reducible refine dx_ret ?_ | with_reducible refine dx_if ?_ | with_reducible refine dx_next ?_ | with_reducible refine dx_drop ?_ | with_reducible refine dx_asg ?_ | with_reducible refine dt_or ?_ | with_reducible refine dt_and ?_ | with_reducible refine dt_not ?_ | with_reducible refine dt_test ?_ | with_reducible refine dt_val ?_ | with_reducible refine de_int ?_ | with_reducible refine de_bl ?_ | with_reducible refine de_non ?_ | with_reducible refine de_str ?_ | with_reducible refine de_andV ?_ | with_reducible refine de_orV ?_ | with_reducible refine de_notV ?_ | with_reducible refine de_chain ?_ | with_reducible refine de_I0 ?_ | with_reducible refine de_B0 ?_ | with_reducible refine de_isInt ?_ | with_reducible refine de_isBl ?_ | with_reducible refine de_isTup ?_ | with_reducible refine de_isStr ?_ | with_reducible refine de_isRow ?_ | with_reducible refine de_len ?_ | with_reducible refine de_call ?_ | with_reducible refine de_ifx ?_ | with_reducible refine da_cons ?_ | with_reducible refine da_nil ?_
    | (with_reducible refine de_d (by with_unfolding_all rfl) ?_) | (with_reducible refine de_o (by with_unfolding_all rfl) ?_) | refine ⟨_, rfl, ?_⟩ | refine ⟨rfl, _, rfl, ?_⟩ | (with_reducible refine iteT' (by with_unfolding_all rfl) ?_) | (with_reducible refine iteF' (by with_unfolding_all rfl) ?_) | with_reducible refine de_count T ?_ | with_reducible refine de_overs T ?_ | with_reducible refine de_dates T ?_ | with_reducible refine de_kinds T ?_ | with_reducible refine de_nN ?_ | with_reducible refine de_nnN ?_ | refine ⟨_, _, rfl, ?_⟩ | refine ⟨_, _, _, rfl, ?_⟩ | refine ⟨_, rfl, rfl, ?_⟩)
    refine ⟨n, ov, cr, days, rfl, hn, hp, _, rfl, iteF' rfl (dx_next ?_)⟩
    refine dx_seq (dx_asg (de_dnk fun pm => ?_))
    let St : List (Key × Dk) → SL Kp → SL Kp → SL Kp → List (SL Kp) := fun m x y z => [.d (bookD n ov), .d (.int (cr : Nat)), .d (intsD (ups n)), .d (daysD days), .own pm (mkd m), x, y, z, .u, .u]
    let Snd : List (Key × Dk) → Prop := fun m => ∀ (a : Int) (e : Dk), getA m (.inl a) = some e → ∃ (j : Nat) (d : List Int), days[j]? = some d ∧ a ∈ d ∧ e = .int (j : Nat)
    let Cov : List (Key × Dk) → Int → Prop := fun m a => (getA m (.inl a)).isSome = true
    have putS : ∀ {m : List (Key × Dk)} {a : Int} {j : Nat} {d : List Int}, Snd m → days[j]? = some d → a ∈ d → Snd (putA m (.inl a) (.int (j : Nat))) := fun {m a j d} hm hj ha b e he => by
      rw [getA_put] at he
      by_cases q : (Sum.inl a : Key) = .inl b
      · rw [if_pos q] at he
        cases he
        cases Sum.inl.inj q
        exact ⟨j, d, hj, ha, rfl⟩
      · rw [if_neg q] at he
        exact hm b e he
    have putC : ∀ {m : List (Key × Dk)} {a b : Int} {e : Dk}, (a = b ∨ Cov m b) → Cov (putA m (.inl a) e) b := fun {m a b e} hc => by
      show (getA _ _).isSome = true
      rw [getA_put]
      by_cases q : (Sum.inl a : Key) = .inl b
      · rw [if_pos q] <;> rfl
      · rw [if_neg q]
        rcases hc with z | z
        · exact absurd (congrArg Sum.inl z) q
        · exact z
    refine dx_seq (dx_forE (α := List Int × Nat) [5, 6] (fun q => .tup [.int (q.2 : Nat), intsD q.1]) (di_enum (da_cons (de_d rfl (da_nil ⟨_, (days.map intsD, none), rfl, rfl, days.zipIdx, enu_map _ _, fun i τ2 => ∃ m x y z, τ2 = St m x y z ∧ (∀ p c, z ≠ SL.own p c) ∧ m.length ≤ 16 * i ∧ Snd m ∧ (∀ d ∈ days.take i, ∀ a ∈ d, Cov m a), ⟨[], _, _, _, rfl, nofun, Nat.zero_le _, fun a e q => by simp [getA] at q, fun d hd => by simp at hd⟩, fun _ _ _ => trivial, ?_, ?_⟩)))))
    · rintro i ⟨d, k⟩ τ2 hq ⟨m, x, y, z, rfl, nz, ml, hS, hC⟩
      rw [List.getElem?_zipIdx] at hq
      obtain ⟨d', hd', e⟩ := Option.map_eq_some_iff.mp hq
      simp only [Nat.zero_add, Prod.mk.injEq] at e
      obtain ⟨rfl, rfl⟩ := e
      have hi' : i < days.length := (List.getElem?_eq_some_iff.mp hd').1
      have d16 : d'.length ≤ n := hp.one (List.mem_of_getElem? hd')
      refine dg_tp rfl (dgs_cn (dg_nm rfl (dgs_cn (dg_nm rfl (dgs_nl ?_)))))
      refine dx_forE (α := Int) [7] .int (di_sq (de_d rfl ⟨(d'.map .int, none), rfl, d', rfl, fun l τ2 => ∃ m z, τ2 = St m (.d (.int (i : Nat))) (.d (intsD d')) z ∧ (∀ p c, z ≠ SL.own p c) ∧ m.length ≤ 16 * i + l ∧ Snd m ∧ (∀ d ∈ days.take i, ∀ a ∈ d, Cov m a) ∧ ∀ a ∈ d'.take l, Cov m a, ⟨m, _, rfl, nz, by omega, hS, hC, fun a ha => by simp at ha⟩, fun _ _ _ => trivial, ?_, ?_⟩))
      · rintro l a τ2 hq2 ⟨m, z, rfl, nz, ml, hS, hC, hD⟩
        have hl' : l < d'.length := (List.getElem?_eq_some_iff.mp hq2).1
        refine dg_nm rfl (dx_dput (de_d rfl ⟨.int (i : Nat), rfl, ⟨_, _, rfl⟩, de_d rfl (.inl ⟨pm, m, .inl a, rfl, rfl, by omega, ?_⟩)⟩))
        have := put_len m (.inl a) (.int (i : Nat) : Dk)
        refine ⟨putA m (.inl a) (.int (i : Nat)), _, rfl, nofun, by omega, putS hS hd' (List.mem_of_getElem? hq2), fun d hd b hb => putC (.inr (hC d hd b hb)), fun b hb => ?_⟩
        rw [take_one hq2] at hb
        rcases List.mem_append.mp hb with q | q
        · exact putC (.inr (hD b q))
        · exact putC (.inl (List.mem_singleton.mp q).symm)
      · rintro τ2 ⟨m, z, rfl, nz, ml, hS, hC, hD⟩
        rw [List.take_length] at hD
        refine ⟨m, _, _, _, rfl, nz, by omega, hS, fun d hd a ha => ?_⟩
        rw [take_one hd'] at hd
        rcases List.mem_append.mp hd with q | q
        · exact hC d q a ha
        · rw [List.mem_singleton.mp q] at ha
          exact hD a ha
    · rintro τ2 ⟨m, x, y, z, rfl, nz, ml, hS, hC⟩
      rw [List.length_zipIdx, List.take_length] at hC
      have cov : ∀ a ∈ ups n, ∃ (j : Nat) (d : List Int), getA m (.inl a) = some (.int (j : Nat)) ∧ days[j]? = some d ∧ a ∈ d := fun a ha => by
        obtain ⟨d, hd, had⟩ := List.mem_flatten.mp (hp.perm.mem_iff.mpr ha)
        obtain ⟨e, he⟩ := Option.isSome_iff_exists.mp (hC d hd a had)
        obtain ⟨j, d', h1, h2, h3⟩ := hS a e he
        exact ⟨j, d', by rw [he, h3], h1, h2⟩
      have clz : clrB (St m x y z) [7] = true := by
        cases z with
        | own p c => exact absurd rfl (nz p c)
        | d _ => rfl
        | u => rfl
      show DX _ _ _ _
      refine dx_seq (dx_if (dt_not (dt_val (de_allC .int (fun _ => true) (di_sq (de_d rfl ⟨((ups n).map .int, none), rfl, ups n, rfl, fun a ha => dg_nm rfl ?_, clz, by rw [ups_len]; omega, rfl, _, rfl, ?_⟩))))))
      · obtain ⟨j, d, h1, _, _⟩ := cov a ha
        refine de_din (de_d rfl (de_o rfl (.inl ⟨m, .inl a, rfl, rfl, rfl, ?_⟩)))
        show ER.v (.bl (getA m (.inl a)).isSome) = _
        rw [h1] <;> rfl
      have e1 : ((ups n).all fun _ => true) = true := by simp
      rw [e1]
      refine iteF' rfl (dx_next (dx_ret (de_allF (α := Int × Int) pairD (fun _ => true) (fun _ => true) (di_sq (de_overs T (de_d rfl ⟨n, ov, rfl, (ov.map pairD, none), rfl, ov, rfl, fun p hp' => dg_tp rfl (dgs_cn (dg_nm rfl (dgs_cn (dg_nm rfl (dgs_nl ?_))))), rfl, by omega, rfl, ?_⟩))))))
      · obtain ⟨i1, d1, g1, k1, m1⟩ := cov p.1 (hi p hp').1
        obtain ⟨i2, d2, g2, k2, m2⟩ := cov p.2 (hi p hp').2
        have lt := hp.ord p hp' i1 i2 d1 d2 k1 k2 m1 m2
        refine dt_val (de_din (de_d rfl (de_o rfl (.inl ⟨m, .inl p.2, rfl, rfl, true, ?_, rfl, rfl, fun _ => ?_⟩))))
        · show ER.v (.bl (getA m (.inl p.2)).isSome) = _
          rw [g2] <;> rfl
        refine de_andV (de_din (de_d rfl (de_o rfl (.inl ⟨m, .inl p.1, rfl, rfl, true, ?_, iteT' rfl ?_⟩))))
        · show ER.v (.bl (getA m (.inl p.1)).isSome) = _
          rw [g1] <;> rfl
        refine de_ltI (de_dget (de_o rfl (de_d rfl (.inl ⟨m, .inl p.1, rfl, rfl, _, g1, _, rfl, ?_⟩))))
        refine de_dget (de_o rfl (de_d rfl (.inl ⟨m, .inl p.2, rfl, rfl, _, g2, _, rfl, rfl, ?_⟩)))
        exact congrArg (fun b => ER.v (DL.D.bl b)) (decide_eq_true (Int.ofNat_lt.mpr lt))
      · have e2 : ((ov.filter fun _ => true).all fun _ => true) = true := by simp
        rw [e2]
        exact ⟨rfl, h⟩
  case hl =>
    rintro ds Q ⟨n, ov, cr, days, rfl, _⟩
    rfl


end K67
set_option Elab.async false
set_option linter.all false
set_option maxRecDepth 100000
namespace K67
open PySem PySem.Spec PyProof.Rows L2 DL RZ
/-! K15: days chosen -/
variable {P : Program} {w : World} {K : PySem.W.Frag} {mg : Str → Option Value} {base : Heap} {CB CR : Addr}

/-- all ways to take k of the things, in order -/
def chooseL : Nat → List Int → Grid
  | 0, _ => [[]]
  | k + 1, xs => (List.range (xs.length - k)).flatMap fun i => (chooseL k (xs.drop (i + 1))).map fun r => xs.getD i 0 :: r
theorem flat_bound {α β : Type} (f : α → List β) (b : Nat) : ∀ (xs : List α), (∀ a ∈ xs, (f a).length ≤ b) → (xs.flatMap f).length ≤ xs.length * b
  | [], _ => by simp
  | x :: xs, h => by
    rw [List.flatMap_cons, List.length_append, List.length_cons, Nat.succ_mul]
    have h1 := h x List.mem_cons_self
    have h2 := flat_bound f b xs fun a ha => h a (List.mem_cons_of_mem _ ha)
    omega
theorem choose_len : ∀ (k : Nat) (xs : List Int), xs.length ≤ 16 → (chooseL k xs).length ≤ 16 ^ k
  | 0, _, _ => Nat.le_refl _
  | k + 1, xs, h => by
    unfold chooseL
    refine Nat.le_trans (flat_bound _ (16 ^ k) _ fun i _ => ?_) ?_
    · rw [List.length_map]
      exact choose_len k _ (by rw [List.length_drop]; omega)
    · rw [List.length_range, Nat.pow_succ, Nat.mul_comm]
      exact Nat.mul_le_mul_left _ (by omega)
theorem choose_mem : ∀ {k : Nat} {xs r : List Int}, r ∈ chooseL k xs → r.length = k
  | 0, _, r, h => by
    rw [List.mem_singleton.mp h] <;> rfl
  | k + 1, xs, r, h => by
    unfold chooseL at h
    obtain ⟨i, _, h2⟩ := List.mem_flatMap.mp h
    obtain ⟨r', h3, rfl⟩ := List.mem_map.mp h2
    rw [List.length_cons, choose_mem h3]
theorem Has.none {x : Str} {st : Stmt} {ps N : List Str} {k : Nat} (D : Def K mg x st ps) (sc : FnScope N ps (defScope st)) : Has P w K mg base x (k + 1) ps (spD (Zk K CB CR) fun _ _ => False) := by
  obtain ⟨f, fd, F, hm, hk, hb⟩ := D
  refine ⟨f, fd, F.ok sc (fun vs H Q E h => ?_) (fun cdv A outer s H vs Q E hr h => ?_), hm, hk, hb⟩
  · obtain ⟨w, ds, P, _, r, h, _⟩ := h
    exact h.elim
  · obtain ⟨w, ds, P, _, r, h, _⟩ := h
    exact h.elim

def S_bare_in : FS Kp := fun ds Q => ∃ (n : Nat) (ov : Ovs) (left : List Int), ds = [bookD n ov, intsD left] ∧ left.length ≤ 16 ∧ ov.length ≤ 1000 ∧ ∀ p, Q (.n p (.lst ((left.filter (freeL (swp ov) left)).map .int)))
abbrev s_bare_in : Stmt := top 64
abbrev N_bare_in : List Str := ["book", "left", "layer", "a", "b"]
theorem sc_bare_in : FnScope N_bare_in ["book", "left"] (defScope s_bare_in) := ⟨rfl, rfl, rfl, by decide +kernel, rfl, by decide +kernel, by decide +kernel⟩
theorem has_bare_in {k : Nat} (D : Def K mg "bare_in" s_bare_in ["book", "left"]) (z_any : mg "any" = none) (T : Tx K CB CR) : Has P w K mg base "bare_in" (k + 1) ["book", "left"] (spD (Zk K CB CR) S_bare_in) := by
  refine D.has sc_bare_in ?hl fun f cdv A outer s H E hr => ?bod
  case bod =>
    have hu1 := hu_of hr
    have hu0 := hu0_of hr
    have hu65 := hu65_of hr
    refine ⟨_, (pss_one (ps_ret (pe_lc (own := [("layer", 2)]) rfl sc_bare_in.nd (kpi_sq (K := K) rfl (pv 1)) (blkOk_by (N := N_bare_in) (sc := defScope s_bare_in) (by decide +kernel)) (fun _ _ _ _ _ => (pg_name (i := 2) sc_bare_in.nd rfl (by first | exact Or.inl rfl | exact Or.inr rfl))) (fun _ _ _ _ _ => (pts_one (pt_not (pt_val (pe_callB (kany (K := K) rfl rfl) (by rfl) z_any (by decide +kernel) (pa_cons (pe_lc (own := [("a", 3), ("b", 4)]) rfl sc_bare_in.nd (kpi_sq (K := K) rfl (kpe_fld (K := K) rfl (pv 0))) (blk_of (N := N_bare_in) (sc := { kind := ScopeKind.function, names := [(".0", NameKind.local), ("layer", NameKind.cell), ("any", NameKind.globalImplicit), ("book", NameKind.cell), ("left", NameKind.cell)], isGenerator := false, isCoroutine := false }) rfl rfl (by decide +kernel)) (fun _ _ _ _ _ => (kpg_tup (K := K) (n := 2) rfl rfl (pgs_cons (pg_name (i := 3) sc_bare_in.nd rfl (by first | exact Or.inl rfl | exact Or.inr rfl)) (pgs_cons (pg_name (i := 4) sc_bare_in.nd rfl (by first | exact Or.inl rfl | exact Or.inr rfl)) pgs_nil)))) (fun _ _ _ _ _ => pts_nil) (fun _ _ _ _ _ => (pe_and (pe_cmpR (kop_eq (K := K) rfl hu65) (pv 4) (pv 2) (nomark _)) (pe_one (pe_cmpR (kop_in (K := K) rfl hu65) (pv 3) (pv 1) (by with_unfolding_all rfl)))))) pa_nil)))))) (fun _ _ _ _ _ => (pv 2))))), ?_⟩
    rintro ds Q ⟨n, ov, left, rfl, hn, hl, h⟩
    refine dx_ret (de_lcF .int (freeL (swp ov) left) .int (di_sq (de_d rfl ⟨(left.map .int, none), rfl, left, rfl, fun a ha => dg_nm rfl ?_, rfl, by omega, rfl, fun p => ⟨purs_ints _, h p⟩⟩)))
    refine dt_not (dt_val (de_anyC (α := Int × Int) pairD (fun p => decide (p.2 = a) && decide (p.1 ∈ left)) (di_sq (de_overs T (de_d rfl ⟨n, ov, rfl, (ov.map pairD, none), rfl, ov, rfl, fun p hp => dg_tp rfl (dgs_cn (dg_nm rfl (dgs_cn (dg_nm rfl (dgs_nl ?_))))), rfl, by omega, rfl, _, rfl, rfl, (free_swp _ _ _).symm, fun _ => de_d rfl ⟨rfl, rfl⟩⟩)))))
    refine de_andV (de_eq (de_d rfl (de_d rfl ⟨_, _, rfl, rfl, rfl, rfl, _, rfl, ?_⟩)))
    refine iteB (fun c => ?_) (fun c => ?_)
    · refine de_in (de_d rfl (de_d rfl ⟨_, _, _, rfl, rfl, rfl, rfl, lay_intsT left, rfl, ?_⟩))
      replace c : eqD (.int p.2 : Dk) (.int a) = true := c
      rw [eqD_int] at c
      show ER.v (.bl ((left.map (.int : Int → Dk)).any fun z => eqD z (.int p.1))) = _
      rw [any_ints, c]
      rfl
    · replace c : eqD (.int p.2 : Dk) (.int a) = false := c
      rw [eqD_int] at c
      refine ⟨rfl, ?_⟩
      rw [c]
      rfl
  case hl =>
    rintro ds Q ⟨n, ov, left, rfl, _⟩
    rfl


def S_choices : Nat → FS Kp
  | 0 => fun _ _ => False
  | m + 1 => fun ds Q => ∃ (xs : List Int) (k : Nat), ds = [.lst (xs.map .int), .int (k : Nat)] ∧ k ≤ m ∧ k ≤ 4 ∧ xs.length ≤ 16 ∧ ∀ p, Q (.n p (.lst ((chooseL k xs).map intsD)))
abbrev s_choices : Stmt := top 65
abbrev N_choices : List Str := ["things", "many", "found", "at", "rest"]
theorem sc_choices : FnScope N_choices ["things", "many"] (defScope s_choices) := ⟨rfl, rfl, rfl, by decide +kernel, rfl, by decide +kernel, by decide +kernel⟩
theorem has_choices {k m : Nat} (D : Def K mg "choices" s_choices ["things", "many"]) (z_range : mg "range" = none) (z_len : mg "len" = none) (h_choices : Has P w K mg base "choices" k ["things", "many"] (spD (Zk K CB CR) (S_choices m))) (T : Tx K CB CR) : Has P w K mg base "choices" (k + 1) ["things", "many"] (spD (Zk K CB CR) (S_choices (m + 1))) := by
  refine D.has sc_choices ?hl fun f cdv A outer s H E hr => ?bod
  case bod =>
    have hu1 := hu_of hr
    have hu0 := hu0_of hr
    have hu65 := hu65_of hr
    refine ⟨_, (pss_cons (ps_if (pt_cmpR (kop_eq (K := K) rfl hu65) (pv 1) pe_int (nomark _)) (pss_one (ps_ret (pe_lst (pa_cons (pe_tup pa_nil) pa_nil)))) pss_nil)
    (pss_cons (ps_set (i := 2) sc_choices.nd rfl (by first | exact Or.inl rfl | exact Or.inr rfl) (pe_lst pa_nil))
    (pss_cons (ps_for PassesOwn.never rfl (pi_range1 (by rfl) z_range (pa_cons (pe_op (kop_add (K := K) rfl) (pe_op op_sub (pe_callB (klen (K := K) rfl) (by rfl) z_len (by decide +kernel) (pa_cons (pv 0) pa_nil)) (pv 1)) pe_int) pa_nil)) (pg_name (i := 3) sc_choices.nd rfl (by first | exact Or.inl rfl | exact Or.inr rfl)) (pss_one (ps_expr (kpe_bm (K := K) rfl PySem.F.plainAttrs_list PySem.F.slot_list_extend PySem.F.type_list_extend mt_extend (pv 2) (pa_cons (pe_lc (own := [("rest", 4)]) rfl sc_choices.nd (kpi_sq (K := K) rfl (pe_callH h_choices hr (by rfl) (pa_cons (pe_slice (ksl (K := K) rfl) (pv 0) (po_some (pe_op (kop_add (K := K) rfl) (pv 3) pe_int)) po_none) (pa_cons (pe_op op_sub (pv 1) pe_int) pa_nil)))) (blkOk_by (N := N_choices) (sc := defScope s_choices) (by decide +kernel)) (fun _ _ _ _ _ => (pg_name (i := 4) sc_choices.nd rfl (by first | exact Or.inl rfl | exact Or.inr rfl))) (fun _ _ _ _ _ => pts_nil) (fun _ _ _ _ _ => (pe_op (kop_add (K := K) rfl) (pe_tup (pa_cons (pe_ix (kix (K := K) rfl) (pv 0) (pv 3) (fun _ _ => rfl)) pa_nil)) (pv 4)))) pa_nil)))))
    (pss_one (ps_ret (pv 2)))))), ?_⟩
    rintro ds Q ⟨xs, k', rfl, hk, h4, h16, h⟩
    have hz : eqD (.int (k' : Nat) : Dk) (.int 0) = decide (k' = 0) := by
      rw [eqD_int]
      exact decide_eq_decide.mpr (by omega)
    refine dx_seq (dx_if (dt_test (de_eq (de_d rfl (de_int ⟨_, _, rfl, rfl, rfl, rfl, _, rfl, ?_⟩)))))
    show if eqD (.int (k' : Nat) : Dk) (.int 0) = true then _ else _
    rw [hz]
    cases k' with
    | zero =>
      refine iteT' rfl (dx_ret (de_lst (da_cons (de_tup (da_nil ⟨[], rfl, by simp, da_nil ⟨[.tup []], rfl, by simp, fun p => ⟨rfl, ?_⟩⟩⟩)))))
      exact h p
    | succ k' =>
      refine iteF' rfl (dx_next ?_)
      refine dx_seq (dx_asg (de_lst (da_nil ⟨[], rfl, by simp, fun pf => ?_⟩)))
      let f : Nat → Grid := fun i => (chooseL k' (xs.drop (i + 1))).map fun r => xs.getD i 0 :: r
      have fb : ∀ i, ((List.range i).flatMap f).length ≤ i * 4096 := fun i => by
        refine Nat.le_trans (flat_bound f 4096 _ fun j _ => ?_) (by rw [List.length_range]; exact Nat.le_refl _)
        show ((chooseL k' (xs.drop (j + 1))).map _).length ≤ 4096
        rw [List.length_map]
        refine Nat.le_trans (choose_len k' _ (by rw [List.length_drop]; omega)) ?_
        exact Nat.le_trans (Nat.pow_le_pow_right (by decide) (show k' ≤ 3 by omega)) (by decide)
      have hr : (((xs.map (.int : Int → Dk)).length : Nat) - ((k' + 1 : Nat) : Int) + 1).toNat = xs.length - k' := by rw [List.length_map]; omega
      refine dx_seq (dx_forE (α := Nat) [3] (fun i => .int (i : Nat)) (di_rng1 (da_cons (de_addI (de_I0 (de_len (de_d rfl ⟨_, rfl, _, rfl, ?_⟩)))))))
      refine de_d rfl ⟨_, rfl, _, rfl, de_int ⟨1, rfl, da_nil ⟨((xs.map (.int : Int → Dk)).length : Nat) - ((k' + 1 : Nat) : Int) + 1, rfl, by rw [List.length_map]; omega, by rw [List.length_map]; omega, List.range (xs.length - k'), ?_, fun i τ2 => ∃ x, τ2 = [.d (.lst (xs.map .int)), .d (.int (k' + 1 : Nat)), .own pf (.lst (((List.range i).flatMap f).map intsD)), x, .u], ⟨_, rfl⟩, fun _ _ _ => trivial, ?_, ?_⟩⟩⟩
      · rw [hr]
      · rintro i a τ2 hq ⟨x, rfl⟩
        have hi : i < xs.length - k' := by have := (List.getElem?_eq_some_iff.mp hq).1; rwa [List.length_range] at this
        rw [List.getElem?_range hi] at hq
        cases hq
        have hat : atI (xs.map (.int : Int → Dk)) (i : Int) = some (.int (xs.getD i 0)) := atI_nat (by
          rw [List.getElem?_map, List.getD_eq_getElem?_getD, List.getElem?_eq_getElem (show i < xs.length by omega)] <;> rfl)
        refine dg_nm rfl (dx_drop (de_extend ⟨_, _, rfl⟩ (de_lcM (α := List Int) intsD (fun r => intsD (xs.getD i 0 :: r)) (di_sq (de_call (da_cons (de_sl (de_d rfl (do_some (de_addI (de_d rfl ⟨_, rfl, de_int ⟨1, rfl, _, rfl, do_none ?_⟩⟩)))))))))))
        intro q
        refine da_cons (de_I0 (de_d rfl ⟨_, rfl, de_int ⟨1, rfl, da_nil ?_⟩⟩))
        obtain ⟨m', rfl⟩ : ∃ m', m = m' + 1 := ⟨m - 1, by omega⟩
        refine ⟨xs.drop (i + 1), k', ?_, by omega, by omega, by rw [List.length_drop]; omega, fun p => ?_⟩
        · show [(.lst (cutL (xs.map (.int : Int → Dk)) (some ((i + 1 : Nat) : Int)) none) : Dk), .int (((k' + 1 : Nat) : Int) - 1)] = _
          rw [cut_from, ← List.map_drop, show ((k' + 1 : Nat) : Int) - 1 = (k' : Nat) by omega]
        · have lf : ((chooseL k' (xs.drop (i + 1))).map fun r => intsD (xs.getD i 0 :: r)) = (f i).map intsD := by
            show _ = List.map intsD (List.map _ _)
            rw [List.map_map] <;> rfl
          have l1 : (chooseL k' (xs.drop (i + 1))).length ≤ 4096 := by
            refine Nat.le_trans (choose_len k' _ (by rw [List.length_drop]; omega)) ?_
            exact Nat.le_trans (Nat.pow_le_pow_right (by decide) (show k' ≤ 3 by omega)) (by decide)
          have l2 : (f i).length ≤ 4096 := by
            show (List.map _ _).length ≤ _
            rw [List.length_map]
            exact l1
          have l3 := fb i
          refine ⟨((chooseL k' (xs.drop (i + 1))).map intsD, none), rfl, chooseL k' (xs.drop (i + 1)), rfl, fun r hr' => dg_nm rfl ?_, ?_, by omega, rfl, fun p2 => ?_⟩
          · have lr := choose_mem hr'
            refine de_addT (de_tup (da_cons (de_ix (de_d rfl (de_d rfl ⟨_, i, _, rfl, rfl, hat, ?_⟩)))))
            refine da_nil ⟨[.int (xs.getD i 0)], rfl, by simp, _, rfl, de_d rfl ⟨r.map .int, rfl, ?_, rfl, rfl⟩⟩
            rw [List.length_map, List.length_singleton]
            omega
          · rfl
          · refine ⟨pf, _, (f i).map intsD, rfl, ?_, by rw [List.length_map, List.length_map]; omega, .d (.int (i : Nat)), ?_⟩
            · show ER.v (.lst ((chooseL k' (xs.drop (i + 1))).map fun r => intsD (xs.getD i 0 :: r))) = _
              rw [lf]
            · have el : (List.range (i + 1)).flatMap f = (List.range i).flatMap f ++ f i := by
                rw [List.range_succ, List.flatMap_append]
                simp
              rw [el, List.map_append]
              rfl
      · rintro τ2 ⟨x, rfl⟩
        rw [List.length_range]
        refine dx_ret (de_o rfl ⟨?_, h pf⟩)
        exact purs_map _ _ fun _ _ => (show DL.D.purs _ = true from purs_ints _)
  case hl =>
    rintro ds Q ⟨xs, k, rfl, _⟩
    rfl


end K67
set_option Elab.async false
set_option linter.all false
set_option maxRecDepth 100000
namespace K67
open PySem PySem.Spec PyProof.Rows L2 DL RZ
/-! K16: a plan found -/
variable {P : Program} {w : World} {K : PySem.W.Frag} {mg : Str → Option Value} {base : Heap} {CB CR : Addr}

/-! ### what is dug, what is left -/
structure Ent (n : Nat) (ov : Ovs) (cr : Nat) (left : List Int) (days : Grid) : Prop where
  lot : ∀ d ∈ days, isLot d n = true ∧ 1 ≤ d.length ∧ d.length ≤ cr
  perm : (days.flatten ++ left).Perm (ups n)
  sub : left.Sublist (ups n)
  cl : ∀ p ∈ ov, p.2 ∈ days.flatten → p.1 ∈ days.flatten
  ord : ∀ p ∈ ov, ∀ (i j : Nat) (d e : List Int), days[i]? = some d → days[j]? = some e → p.1 ∈ d → p.2 ∈ e → i < j
theorem ent_start (n : Nat) (ov : Ovs) (cr : Nat) : Ent n ov cr (ups n) [] :=
  ⟨nofun, by simp, List.Sublist.refl _, fun p _ h => by simp at h, fun p _ i j d e h => by simp at h⟩
theorem Ent.plan {n : Nat} {ov : Ovs} {cr : Nat} {days : Grid} (h : Ent n ov cr [] days) : PlanS n ov cr days :=
  ⟨h.lot, by have := h.perm; rwa [List.append_nil] at this, h.ord⟩
theorem choose_sub : ∀ {k : Nat} {xs r : List Int}, r ∈ chooseL k xs → r.Sublist xs
  | 0, xs, r, h => by rw [List.mem_singleton.mp h]; exact List.nil_sublist _
  | k + 1, xs, r, h => by
    unfold chooseL at h
    obtain ⟨i, h1, h2⟩ := List.mem_flatMap.mp h
    obtain ⟨r', h3, rfl⟩ := List.mem_map.mp h2
    have hi : i < xs.length := by have := List.mem_range.mp h1; omega
    have := choose_sub h3
    have e : xs.getD i 0 :: xs.drop (i + 1) = xs.drop i := by
      rw [List.drop_eq_getElem_cons hi, List.getD_eq_getElem?_getD, List.getElem?_eq_getElem hi] <;> rfl
    exact ((this.cons₂ _).trans (by rw [e]; exact List.Sublist.refl _)).trans (List.drop_sublist i xs)
theorem choose_some : ∀ (k : Nat) (xs : List Int), k ≤ xs.length → chooseL k xs ≠ []
  | 0, _, _ => by simp [chooseL]
  | k + 1, xs, h => by
    unfold chooseL
    intro z
    rw [List.flatMap_eq_nil_iff] at z
    have := z 0 (List.mem_range.mpr (by omega))
    rw [List.map_eq_nil_iff] at this
    exact choose_some k (xs.drop 1) (by rw [List.length_drop]; omega) (by simpa using this)
theorem day_perm {left day : List Int} (h : day.Sublist left) : left.Nodup → (day ++ left.filter fun a => decide (a ∉ day)).Perm left := by
  induction h with
  | slnil => intro _; simp
  | @cons day left a h ih =>
    intro hn
    obtain ⟨h1, h2⟩ := List.nodup_cons.mp hn
    have na : a ∉ day := fun m => h1 (h.subset m)
    rw [List.filter_cons, if_pos (decide_eq_true na)]
    exact List.perm_middle.trans ((ih h2).cons a)
  | @cons_cons day left a h ih =>
    intro hn
    obtain ⟨h1, h2⟩ := List.nodup_cons.mp hn
    rw [List.filter_cons, if_neg (by simp), List.cons_append]
    have : (left.filter fun b => decide (b ∉ a :: day)) = left.filter fun b => decide (b ∉ day) := by
      refine List.filter_congr fun b hb => ?_
      have : b ≠ a := fun e => h1 (by rw [← e]; exact hb)
      simp [this]
    rw [this]
    exact (ih h2).cons a
theorem lot_sub {n : Nat} {xs : List Int} (h : xs.Sublist (ups n)) : isLot xs n = true :=
  isLot_of (fun a ha => mem_ups.mp (h.subset ha)) ((ups_pw n).sublist h)
theorem free_iff {ov : Ovs} {left : List Int} {a : Int} : freeL (swp ov) left a = true ↔ ∀ p ∈ ov, p.2 = a → p.1 ∉ left := by
  rw [free_swp, Bool.not_eq_true', List.any_eq_false]
  constructor
  · intro h p hp e m
    have := h p hp
    simp [e, m] at this
  · intro h p hp
    have := h p hp
    by_cases e : p.2 = a
    · simp [e, this e]
    · simp [e]
/-- a day more -/
theorem Ent.day {n : Nat} {ov : Ovs} {cr : Nat} {left day : List Int} {days : Grid} (h : Ent n ov cr left days) (hi : inO ov (ups n)) (hs : day.Sublist (left.filter (freeL (swp ov) left))) (h1 : 1 ≤ day.length) (h2 : day.length ≤ cr) :
    Ent n ov cr (left.filter fun a => decide (a ∉ day)) (days ++ [day]) := by
  have hl : day.Sublist left := hs.trans List.filter_sublist
  have nl : left.Nodup := (ups_nodup n).sublist h.sub
  have nd : (days.flatten ++ left).Nodup := h.perm.nodup_iff.mpr (ups_nodup n)
  have fl : (days ++ [day]).flatten = days.flatten ++ day := by simp
  have apart : ∀ a, a ∈ days.flatten → a ∉ left := fun a ha hb => (List.nodup_append.mp nd).2.2 a ha a hb rfl
  have free : ∀ p ∈ ov, p.2 ∈ day → p.1 ∉ left := fun p hp hd => by
    have := (List.mem_filter.mp (hs.subset hd)).2
    exact free_iff.mp this p hp rfl
  refine ⟨fun d hd => ?_, ?_, List.filter_sublist.trans h.sub, fun p hp hm => ?_, fun p hp i j d e e1 e2 m1 m2 => ?_⟩
  · rcases List.mem_append.mp hd with q | q
    · exact h.lot d q
    · rw [List.mem_singleton.mp q]
      exact ⟨lot_sub (hl.trans h.sub), h1, h2⟩
  · rw [fl, List.append_assoc]
    exact ((day_perm hl nl).append_left _).trans h.perm
  · rw [fl] at hm ⊢
    rcases List.mem_append.mp hm with q | q
    · exact List.mem_append_left _ (h.cl p hp q)
    · have m := h.perm.mem_iff.mpr (hi p hp).1
      rcases List.mem_append.mp m with z | z
      · exact List.mem_append_left _ z
      · exact absurd z (free p hp q)
  · have hj : j < (days ++ [day]).length := (List.getElem?_eq_some_iff.mp e2).1
    have hii : i < (days ++ [day]).length := (List.getElem?_eq_some_iff.mp e1).1
    rw [List.length_append, List.length_singleton] at hj hii
    by_cases c2 : j < days.length
    · rw [List.getElem?_append_left c2] at e2
      by_cases c1 : i < days.length
      · rw [List.getElem?_append_left c1] at e1
        exact h.ord p hp i j d e e1 e2 m1 m2
      · rw [List.getElem?_append_right (by omega), show i - days.length = 0 by omega] at e1
        cases e1
        have m3 : p.2 ∈ days.flatten := List.mem_flatten.mpr ⟨e, List.mem_of_getElem? e2, m2⟩
        exact absurd (hl.subset m1) (apart _ (h.cl p hp m3))
    · rw [List.getElem?_append_right (by omega), show j - days.length = 0 by omega] at e2
      cases e2
      by_cases c1 : i < days.length
      · omega
      · rw [List.getElem?_append_right (by omega), show i - days.length = 0 by omega] at e1
        cases e1
        exact absurd (hl.subset m1) (free p hp m2)
/-! ### none is stuck -/
theorem stuck_out {ov : Ovs} {S : List Int} (hs : stuckL ov S) : ∀ (f : Nat) (L : List Int), (∀ a ∈ S, a ∈ L) → L.Nodup → ∀ a ∈ laidF ov f L, a ∉ S
  | 0, _, _, _, a, h => by cases h
  | f + 1, L, hsub, hn, a, h => by
    unfold laidF at h
    split at h
    · cases h
    · rename_i b r e
      have hb := List.mem_filter.mp (show b ∈ L.filter (freeL ov L) from by rw [e]; exact List.mem_cons_self)
      have nb : b ∉ S := fun m => by
        obtain ⟨c, h1, h2⟩ := hs b m
        have := hb.2
        unfold freeL at this
        rw [Bool.not_eq_true', List.any_eq_false] at this
        have := this (b, c) h1
        simp [hsub c h2] at this
      rcases List.mem_cons.mp h with q | q
      · rw [q]; exact nb
      · exact stuck_out hs f (L.erase b) (fun c hc => (List.mem_erase_of_ne fun e => nb (by rw [← e]; exact hc)).mpr (hsub c hc)) (hn.erase b) a q
theorem row_free {n : Nat} {ov : Ovs} (h : (rowL n ov).length = n) {left : List Int} (hl : left.Sublist (ups n)) (hne : left ≠ []) : left.filter (freeL (swp ov) left) ≠ [] := fun z => by
  have hst : stuckL (swp ov) left := fun a ha => by
    have := List.filter_eq_nil_iff.mp z a ha
    unfold freeL at this
    rw [Bool.not_eq_true', Bool.not_eq_false, List.any_eq_true] at this
    obtain ⟨p, hp, q⟩ := this
    simp only [Bool.and_eq_true, decide_eq_true_eq] at q
    exact ⟨p.2, by rw [← q.1]; exact hp, q.2⟩
  obtain ⟨a, ha⟩ := List.exists_mem_of_ne_nil left hne
  have out := stuck_out hst n (ups n) (fun b hb => hl.subset hb) (ups_nodup n)
  obtain ⟨r1, r2, r3⟩ := laid_rest n (swp ov)
  have e0 : ((ups n).filter fun b => decide (b ∉ rowL n ov)).length = 0 := by
    have : (rowL n ov) = laidL n (swp ov) := rfl
    rw [this] at h ⊢
    omega
  have := List.filter_eq_nil_iff.mp (List.eq_nil_of_length_eq_zero e0) a (hl.subset ha)
  have m : a ∈ rowL n ov := by simpa using this
  exact out a m ha
/-! ### how many ways -/
def subsL : List Int → Grid
  | [] => [[]]
  | x :: xs => subsL xs ++ (subsL xs).map (x :: ·)
theorem subs_len : ∀ xs : List Int, (subsL xs).length = 2 ^ xs.length
  | [] => rfl
  | x :: xs => by
    unfold subsL
    rw [List.length_append, List.length_map, subs_len xs, List.length_cons, Nat.pow_succ]
    omega
theorem mem_subs : ∀ {xs l : List Int}, l.Sublist xs → l ∈ subsL xs
  | _, _, .slnil => by simp [subsL]
  | _, _, .cons _ h => List.mem_append_left _ (mem_subs h)
  | _, _, .cons₂ _ h => List.mem_append_right _ (List.mem_map.mpr ⟨_, mem_subs h, rfl⟩)
theorem nodup_many {α : Type} [DecidableEq α] : ∀ {xs ys : List α}, xs.Nodup → (∀ a ∈ xs, a ∈ ys) → xs.length ≤ ys.length
  | [], _, _, _ => Nat.zero_le _
  | x :: xs, ys, hn, hs => by
    obtain ⟨h1, h2⟩ := List.nodup_cons.mp hn
    have := nodup_many (ys := ys.erase x) h2 fun a ha => (List.mem_erase_of_ne fun e => h1 (by rw [← e]; exact ha)).mpr (hs a (List.mem_cons_of_mem _ ha))
    rw [List.length_erase_of_mem (hs x List.mem_cons_self)] at this
    have : 0 < ys.length := List.length_pos_iff.mpr fun z => by have := hs x List.mem_cons_self; rw [z] at this; cases this
    rw [List.length_cons]
    omega
abbrev Ents := List (List Int × Grid)
def keyL (xs : List Int) : List Key := xs.map Sum.inl
theorem keyL_inj {a b : List Int} (h : keyL a = keyL b) : a = b := by
  have := List.map_inj_right (f := (Sum.inl : Int → Key)) (fun x y e => Sum.inl.inj e) |>.mp h
  exact this
theorem keysD_ints : ∀ xs : List Int, keysD (xs.map (.int : Int → Dk)) = some (keyL xs)
  | [] => rfl
  | x :: xs => by simp [keysD, keyD, keysD_ints xs, keyL]
def entM (m : Ents) : List (List Key × Dk) := m.map fun e => (keyL e.1, daysD e.2)
theorem getA_ent (k : List Int) : ∀ m : Ents, getA (entM m) (keyL k) = (getA m k).map daysD
  | [] => rfl
  | e :: m => by
    have ih := getA_ent k m
    unfold entM at ih ⊢
    rw [List.map_cons, getA_cons, ih]
    have : e = (e.1, e.2) := rfl
    rw [this, getA_cons]
    by_cases h : e.1 = k
    · rw [if_pos (by rw [h]), if_pos h] <;> rfl
    · rw [if_neg (fun q => h (keyL_inj q)), if_neg h]
theorem getA_some {α β : Type} [DecidableEq α] {m : List (α × β)} {k : α} {v : β} (h : getA m k = some v) : (k, v) ∈ m := by
  unfold getA at h
  obtain ⟨e, h1, h2⟩ := Option.map_eq_some_iff.mp h
  have h3 := List.find?_some h1
  have h4 := List.mem_of_find?_eq_some h1
  have : e.1 = k := of_decide_eq_true h3
  rw [← this, ← h2]
  exact h4
/-- the ways that are known, those to go on from -/
structure Ways (n : Nat) (ov : Ovs) (cr : Nat) (m : Ents) : Prop where
  ok : ∀ e ∈ m, Ent n ov cr e.1 e.2
  nd : (m.map (·.1)).Nodup
theorem Ways.few {n : Nat} {ov : Ovs} {cr : Nat} {m : Ents} (h : Ways n ov cr m) (h12 : n ≤ 12) : m.length ≤ 4096 := by
  have := nodup_many (ys := subsL (ups n)) h.nd fun a ha => by
    obtain ⟨e, he, rfl⟩ := List.mem_map.mp ha
    exact mem_subs (h.ok e he).sub
  rw [subs_len, ups_len, List.length_map] at this
  exact Nat.le_trans this (Nat.le_trans (Nat.pow_le_pow_right (by decide) h12) (by decide))

theorem getA_of {α β : Type} [DecidableEq α] : ∀ {m : List (α × β)} {k : α} {v : β}, (m.map (·.1)).Nodup → (k, v) ∈ m → getA m k = some v
  | [], _, _, _, h => by cases h
  | e :: m, k, v, hn, h => by
    rw [List.map_cons, List.nodup_cons] at hn
    have : e = (e.1, e.2) := rfl
    rw [this, getA_cons]
    rcases List.mem_cons.mp h with q | q
    · rw [← q, if_pos rfl]
    · rw [if_neg fun z => hn.1 (List.mem_map.mpr ⟨(k, v), q, z.symm⟩)]
      exact getA_of hn.2 q
theorem getA_key {α β : Type} [DecidableEq α] {m : List (α × β)} {k : α} (h : k ∈ m.map (·.1)) : ∃ v, getA m k = some v := by
  cases q : getA m k with
  | some v => exact ⟨v, rfl⟩
  | none => exact absurd h (getA_mem q)
def kD (xs : List Int) : Dk := .ktup (xs.map .int)
theorem Ent.days_le {n : Nat} {ov : Ovs} {cr : Nat} {left : List Int} {days : Grid} (h : Ent n ov cr left days) : days.length ≤ n := by
  have h1 := flat_many fun d hd => (h.lot d hd).2.1
  have h2 := h.perm.length_eq
  rw [List.length_append, ups_len] at h2
  omega
/-- while one goes on from some -/
structure Going (n : Nat) (ov : Ovs) (cr : Nat) (m m' : Ents) (ls : Grid) : Prop where
  ways : Ways n ov cr m'
  old : ∀ e ∈ m, e ∈ m'
  new : ∀ k ∈ m'.map (·.1), k ∈ m.map (·.1) ∨ k ∈ ls
  ins : ∀ k ∈ ls, k ∈ m'.map (·.1)
  few : ls.length ≤ m'.length
theorem Going.more {n : Nat} {ov : Ovs} {cr : Nat} {m m' : Ents} {ls : Grid} (h : Going n ov cr m m' ls) {k : List Int} {d : Grid} (he : Ent n ov cr k d) (hk : k ∉ m'.map (·.1)) : Going n ov cr m (m' ++ [(k, d)]) (ls ++ [k]) := by
  refine ⟨⟨fun e he' => ?_, ?_⟩, fun e q => List.mem_append_left _ (h.old e q), fun j hj => ?_, fun j hj => ?_, ?_⟩
  · rcases List.mem_append.mp he' with q | q
    · exact h.ways.ok e q
    · rw [List.mem_singleton.mp q]; exact he
  · rw [List.map_append]
    exact List.nodup_append.mpr ⟨h.ways.nd, by simp, fun a ha b hb => by
      simp at hb; subst hb; exact fun z => hk (by rw [← z]; exact ha)⟩
  · rw [List.map_append] at hj
    rcases List.mem_append.mp hj with q | q
    · exact (h.new j q).imp id fun z => List.mem_append_left _ z
    · exact .inr (List.mem_append_right _ (by simpa using q))
  · rw [List.map_append]
    rcases List.mem_append.mp hj with q | q
    · exact List.mem_append_left _ (h.ins j q)
    · exact List.mem_append_right _ (by simpa using q)
  · rw [List.length_append, List.length_append, List.length_singleton, List.length_singleton]
    exact Nat.succ_le_succ h.few

def S_fewest : FS Kp := fun ds Q => ∃ (n : Nat) (ov : Ovs) (cr : Nat), ds = [bookD n ov, .int (cr : Nat), kD (ups n)] ∧ n ≤ 12 ∧ 1 ≤ cr ∧ cr ≤ 4 ∧ ov.length ≤ 1000 ∧ inO ov (ups n) ∧ (rowL n ov).length = n ∧ ∀ days, PlanS n ov cr days → Q (.v (daysD days))
abbrev s_fewest : Stmt := top 66
abbrev N_fewest : List Str := ["book", "crews", "some", "ways", "reached", "later", "left", "bare", "day", "rest", "layer"]
theorem sc_fewest : FnScope N_fewest ["book", "crews", "some"] (defScope s_fewest) := ⟨rfl, rfl, rfl, by decide +kernel, rfl, by decide +kernel, by decide +kernel⟩
theorem has_fewest {k : Nat} (D : Def K mg "fewest" s_fewest ["book", "crews", "some"]) (z_min : mg "min" = none) (z_len : mg "len" = none) (z_tuple : mg "tuple" = none) (h_bare_in : Has P w K mg base "bare_in" k ["book", "left"] (spD (Zk K CB CR) S_bare_in)) (h_choices : Has P w K mg base "choices" k ["things", "many"] (spD (Zk K CB CR) (S_choices 5))) (T : Tx K CB CR) : Has P w K mg base "fewest" (k + 1) ["book", "crews", "some"] (spD (Zk K CB CR) S_fewest) := by
  refine D.has sc_fewest ?hl fun f cdv A outer s H E hr => ?bod
  case bod =>
    have hu1 := hu_of hr
    have hu0 := hu0_of hr
    have hu65 := hu65_of hr
    refine ⟨_, (pss_cons (ps_par (i := 3) (j := 4) rfl sc_fewest.nd rfl rfl (by decide) rfl rfl (pa_cons (pe_dispT1 hu1 (pv 2) (pe_tup pa_nil)) (pa_cons (pe_lst (pa_cons (pv 2) pa_nil)) pa_nil)) (by rfl))
    (pss_cons (ps_while PassesOwn.never (pt_cmp (pc_dnotin hu1 (pe_tup pa_nil) (pv 3)) (by with_unfolding_all rfl)) (pss_cons (ps_set (i := 5) sc_fewest.nd rfl (by first | exact Or.inl rfl | exact Or.inr rfl) (pe_lst pa_nil))
    (pss_cons (ps_for PassesOwn.never rfl (kpi_sq (K := K) rfl (pv 4)) (pg_name (i := 6) sc_fewest.nd rfl (by first | exact Or.inl rfl | exact Or.inr rfl)) (pss_cons (ps_set (i := 7) sc_fewest.nd rfl (by first | exact Or.inl rfl | exact Or.inr rfl) (pe_callH h_bare_in hr (by rfl) (pa_cons (pv 0) (pa_cons (pv 6) pa_nil))))
    (pss_one (ps_for PassesOwn.never rfl (kpi_sq (K := K) rfl (pe_callH h_choices hr (by rfl) (pa_cons (pv 7) (pa_cons (pe_callB (call_min2 rfl) (by rfl) z_min (by decide +kernel) (pa_cons (pv 1) (pa_cons (pe_callB (klen (K := K) rfl) (by rfl) z_len (by decide +kernel) (pa_cons (pv 7) pa_nil)) pa_nil))) pa_nil)))) (pg_name (i := 8) sc_fewest.nd rfl (by first | exact Or.inl rfl | exact Or.inr rfl)) (pss_cons (ps_set (i := 9) sc_fewest.nd rfl (by first | exact Or.inl rfl | exact Or.inr rfl) (kpe_tupleOf (K := K) rfl (by rfl) z_tuple (pe_lc (own := [("layer", 10)]) rfl sc_fewest.nd (kpi_sq (K := K) rfl (pv 6)) (blkOk_by (N := N_fewest) (sc := defScope s_fewest) (by decide +kernel)) (fun _ _ _ _ _ => (pg_name (i := 10) sc_fewest.nd rfl (by first | exact Or.inl rfl | exact Or.inr rfl))) (fun _ _ _ _ _ => (pts_one (pt_cmpR (kop_nin (K := K) rfl hu65) (pv 10) (pv 8) (by with_unfolding_all rfl)))) (fun _ _ _ _ _ => (pv 10)))))
    (pss_one (ps_if (pt_cmp (pc_dnotin hu1 (pv 9) (pv 3)) (by with_unfolding_all rfl)) (pss_cons (ps_dput hu1 (pv 3) (pv 9) (pe_op (kop_add (K := K) rfl) (pe_dget hu1 (pv 3) (pv 6) (fun _ _ => rfl)) (pe_tup (pa_cons (pv 8) pa_nil))) rfl)
    (pss_one (ps_expr (kpe_bm (K := K) rfl PySem.F.plainAttrs_list PySem.F.slot_list_append PySem.F.type_list_append mt_append (pv 5) (pa_cons (pv 9) pa_nil))))) pss_nil)))))))
    (pss_one (ps_set (i := 4) sc_fewest.nd rfl (by first | exact Or.inl rfl | exact Or.inr rfl) (pv 5))))))
    (pss_one (ps_ret (pe_dget hu1 (pv 3) (pe_tup pa_nil) (fun _ _ => rfl)))))), ?_⟩
    rintro ds Q ⟨n, ov, cr, rfl, hn, hc1, hc4, hl, hi, hrow, h⟩
    refine dx_seq (dx_par (dao_cons (de_dispT1 (de_d rfl ⟨_, rfl, de_tup (da_nil ⟨[], rfl, by simp, daysD [], keyL (ups n), rfl, keysD_ints _, fun pw => ⟨rfl, dao_cons (de_lst (da_cons (de_d rfl (da_nil ⟨[kD (ups n)], rfl, by simp, fun pr => ⟨rfl, dao_nil ⟨_, _, rfl, ?_⟩⟩⟩))))⟩⟩)⟩))))
    let St : Ents → Grid → Addr → SL Kp → SL Kp → SL Kp → SL Kp → SL Kp → List (SL Kp) := fun m rs pr a b c d e => [.d (bookD n ov), .d (.int (cr : Nat)), .d (kD (ups n)), .own pw (mkt (entM m)), .own pr (.lst (rs.map kD)), a, b, c, d, e, .u]
    refine dx_seq (dx_while (fun μ τ2 => ∃ m rs pr a b c d e, τ2 = St m rs pr a b c d e ∧ Ways n ov cr m ∧ (∀ k ∈ rs, k ∈ m.map (·.1)) ∧ ∃ k ∈ rs, (∀ q ∈ m, k.length ≤ q.1.length) ∧ k.length = μ)
      ⟨n, [(ups n, [])], [ups n], pr, .u, .u, .u, .u, .u, rfl, ⟨fun e he => by rw [List.mem_singleton.mp he]; exact ent_start n ov cr, by simp⟩, fun k hk => by simpa using hk, ups n, by simp, fun q hq => by rw [List.mem_singleton.mp hq]; exact Nat.le_refl _, ups_len n⟩ ?_)
    rintro μ τ2 ⟨m, rs, pr, xa, xb, xc, xd, xe, rfl, hW, hrs, k0, hk0, hmin, rfl⟩
    refine dt_val (de_dnotin (de_tupDK (da_nil ⟨[], rfl, by simp, de_o rfl (.inr ⟨entM m, [], keyL [], rfl, rfl, rfl, _, rfl, ?_⟩)⟩)))
    rw [getA_ent]
    have hmf := hW.few hn
    cases hg : getA m [] with
    | some days =>
      refine iteF' rfl (dx_ret (de_dget (de_o rfl (de_tupDK (da_nil ⟨[], rfl, by simp, .inr ⟨entM m, [], keyL [], rfl, rfl, rfl, daysD days, ?_, ?_⟩⟩)))))
      · rw [getA_ent, hg] <;> rfl
      · refine ⟨?_, h days (hW.ok _ (getA_some hg)).plan⟩
        exact purs_map _ _ fun _ _ => purs_ints _
    | none =>
      have hnil : ([] : List Int) ∉ m.map (·.1) := getA_mem hg
      refine iteT' rfl (dx_seq (dx_asg (de_lst (da_nil ⟨[], rfl, by simp, fun pl => ?_⟩))))
      refine dx_seq (dx_forE (α := List Int) [6] kD (di_sq (de_o rfl ⟨(rs.map kD, some 4), rfl, rs, rfl, fun i τ2 => ∃ m' ls b c d e, τ2 = St m' rs pr (.own pl (.lst (ls.map kD))) b c d e ∧ Going n ov cr m m' ls ∧ ∀ (j : Nat) k, j < i → rs[j]? = some k → ∃ q ∈ m', q.1.length < k.length,
        ⟨m, [], xb, xc, xd, xe, rfl, ⟨hW, fun _ q => q, fun _ q => .inl q, nofun, Nat.zero_le _⟩, fun j k z => absurd z (Nat.not_lt_zero _)⟩, ?_, ?_, ?_⟩)))
      · rintro i τ3 ⟨m', ls, b, c, d, e, rfl, _⟩
        rfl
      · rintro i left τ3 hleft ⟨m', ls, xb, xc, xd, xe, rfl, hG, hdone⟩
        have hkey := hrs left (List.mem_of_getElem? hleft)
        obtain ⟨dys, hdys⟩ := getA_key hkey
        have hmem := hG.old _ (getA_some hdys)
        have hE := hG.ways.ok _ hmem
        have hll : left.length ≤ 12 := by have := hE.sub.length_le; rw [ups_len] at this; exact Nat.le_trans this hn
        have hne : left ≠ [] := fun z => hnil (by rw [← z]; exact hkey)
        refine dg_nm rfl (dx_seq (dx_asg (de_call (da_cons (de_d rfl (da_cons (de_ld (de_d rfl ⟨kD left, intsD left, rfl, .ktup (LDs.refl _), da_nil ⟨n, ov, left, rfl, by omega, hl, fun pb => ?_⟩⟩))))))))
        let bar := left.filter (freeL (swp ov) left)
        have hbar : bar ≠ [] := row_free hrow hE.sub hne
        have hbl : bar.length ≤ 12 := Nat.le_trans (List.length_filter_le _ _) hll
        let c := min cr bar.length
        have hbp : 0 < bar.length := List.length_pos_iff.mpr hbar
        have hc : 1 ≤ c ∧ c ≤ cr ∧ c ≤ bar.length := by show 1 ≤ min cr bar.length ∧ min cr bar.length ≤ cr ∧ min cr bar.length ≤ bar.length; omega
        refine dx_forE (α := List Int) [8] intsD (di_sq (de_call (da_cons (de_o rfl (da_cons (de_cb bs_min2 (da_cons (de_d rfl (da_cons (de_len (de_o rfl ⟨bar.map .int, rfl, da_nil ⟨(cr : Int), (bar.length : Int), ?_, ?_⟩⟩)))))))))))
        · show [(.int (cr : Nat) : Dk), .int ((bar.map (.int : Int → Dk)).length : Nat)] = _
          rw [List.length_map]
        have ec : min (cr : Int) (bar.length : Int) = ((c : Nat) : Int) := by show _ = ((min cr bar.length : Nat) : Int); omega
        rw [ec]
        have hc4' : c ≤ 4 := by omega
        have hb16 : bar.length ≤ 16 := by omega
        refine da_nil ⟨bar, c, rfl, hc4', hc4', hb16, fun pc => ?_⟩
        have hcl := choose_len c bar (by omega)
        have hcl2 : (chooseL c bar).length ≤ 65536 := Nat.le_trans hcl (Nat.le_trans (Nat.pow_le_pow_right (by decide) (show c ≤ 4 by omega)) (by decide))
        refine ⟨((chooseL c bar).map intsD, none), rfl, chooseL c bar, rfl, fun j τ4 => ∃ m2 ls2 d e, τ4 = St m2 rs pr (.own pl (.lst (ls2.map kD))) (.d (kD left)) (.own pb (.lst (bar.map .int))) d e ∧ Going n ov cr m m2 ls2 ∧ (∀ q ∈ m', q ∈ m2) ∧ (0 < j → ∃ q ∈ m2, q.1.length < left.length),
          ⟨m', ls, xd, xe, rfl, hG, fun _ q => q, fun z => absurd z (Nat.lt_irrefl _)⟩, fun _ _ _ => trivial, ?_, ?_⟩
        · rintro j day τ4 hday ⟨m2, ls2, xd, xe, rfl, hG2, hm2, hsm⟩
          have hdm := List.mem_of_getElem? hday
          have hds := choose_sub hdm
          have hdl := choose_mem hdm
          have hE2 := hE.day hi hds (by omega) (by omega)
          have hm2f := hG2.ways.few hn
          have hdl2 : dys.length ≤ 12 := Nat.le_trans hE.days_le hn
          let rest := left.filter fun a => decide (a ∉ day)
          have hrl : rest.length ≤ 12 := Nat.le_trans (List.length_filter_le _ _) hll
          have hshort : rest.length < left.length := by
            have := (day_perm (hds.trans List.filter_sublist) ((ups_nodup n).sublist hE.sub)).length_eq
            rw [List.length_append] at this
            show (left.filter fun a => decide (a ∉ day)).length < _
            omega
          refine dg_nm rfl (dx_seq (dx_asg (de_tupK (de_lcF .int (fun a => decide (a ∉ day)) .int (di_sq (de_ld (de_d rfl ⟨kD left, intsD left, rfl, .ktup (LDs.refl _), (left.map .int, none), rfl, left, rfl, fun a ha => dg_nm rfl ?_, rfl, by omega, rfl, fun p => ⟨_, rfl, ?_⟩⟩)))))))
          · refine dt_test (de_nin (de_d rfl (de_d rfl ⟨_, _, _, rfl, rfl, rfl, rfl, lay_intsT day, _, rfl, rfl, ?_, fun _ => de_d rfl ⟨rfl, rfl⟩⟩)))
            show (!((day.map (.int : Int → Dk)).any fun z => eqD z (.int a))) = _
            rw [any_ints]
            simp
          refine dx_if (dt_val (de_dnotin (de_d rfl (de_o rfl (.inr ⟨entM m2, rest.map .int, keyL rest, rfl, rfl, keysD_ints _, _, rfl, ?_⟩)))))
          rw [getA_ent]
          cases hr0 : getA m2 rest with
          | some v =>
            refine iteF' rfl (dx_next ⟨m2, ls2, _, _, rfl, hG2, hm2, fun _ => ⟨_, getA_some hr0, hshort⟩⟩)
          | none =>
            have hgl : getA (entM m2) (keyL left) = some (daysD dys) := by
              rw [getA_ent, getA_of hG2.ways.nd (hm2 _ hmem)] <;> rfl
            refine iteT' rfl (dx_seq (dx_dput (de_addT (de_dget (de_o rfl (de_d rfl (.inr ⟨entM m2, left.map .int, keyL left, rfl, rfl, keysD_ints _, daysD dys, hgl, dys.map intsD, rfl, de_tup (da_cons (de_d rfl (da_nil ⟨[intsD day], rfl, by simp, [intsD day], rfl, ?_, ?_⟩)))⟩)))))))
            · rw [List.length_map, List.length_singleton]; omega
            refine ⟨daysD (dys ++ [day]), by simp [daysD, fz], ⟨_, _, rfl⟩, de_d rfl (.inr ⟨pw, entM m2, rest.map .int, keyL rest, rfl, rfl, keysD_ints _, by unfold entM; rw [List.length_map]; omega, ?_⟩)⟩
            have hnk : keyL rest ∉ (entM m2).map (·.1) := by
              intro hm
              unfold entM at hm
              rw [List.map_map] at hm
              obtain ⟨q, hq, ee⟩ := List.mem_map.mp hm
              have : q.1 = rest := keyL_inj ee
              exact getA_mem hr0 (List.mem_map.mpr ⟨q, hq, this⟩)
            rw [putA_new hnk]
            have he2 : entM m2 ++ [(keyL rest, daysD (dys ++ [day]))] = entM (m2 ++ [(rest, dys ++ [day])]) := by unfold entM; rw [List.map_append] <;> rfl
            rw [he2]
            have hG3 := hG2.more hE2 (getA_mem hr0)
            have hls : ls2.length ≤ 4096 := Nat.le_trans hG2.few hm2f
            refine dx_drop (de_append ⟨_, _, rfl⟩ (de_d rfl ⟨pl, ls2.map kD, kD rest, rfl, rfl, by rw [List.length_map]; omega, m2 ++ [(rest, dys ++ [day])], ls2 ++ [rest], .d (intsD day), .d (kD rest), ?_, hG3, fun q hq => List.mem_append_left _ (hm2 q hq), fun _ => ⟨(rest, dys ++ [day]), by simp, hshort⟩⟩))
            rw [List.map_append]
            rfl
        · rintro τ4 ⟨m2, ls2, xd, xe, rfl, hG2, hm2, hsm⟩
          refine ⟨m2, ls2, _, _, _, _, rfl, hG2, fun j k hj hk => ?_⟩
          by_cases z : j = i
          · subst z
            rw [hleft] at hk
            cases hk
            exact hsm (List.length_pos_iff.mpr (choose_some c bar hc.2.2))
          · obtain ⟨q, h1, h2⟩ := hdone j k (by omega) hk
            exact ⟨q, hm2 q h1, h2⟩
      · rintro τ3 ⟨m', ls, b, c, d, e, rfl, hG, hdone⟩
        refine dx_asg (de_o rfl ?_)
        obtain ⟨j0, hj0⟩ := List.getElem?_of_mem hk0
        obtain ⟨q, hq, hlt⟩ := hdone j0 k0 (List.getElem?_eq_some_iff.mp hj0).1 hj0
        -- the shortest of all is a new one
        obtain ⟨q1, hq1, hq1m⟩ : ∃ q1 ∈ m', ∀ z ∈ m', q1.1.length ≤ z.1.length := by
          have go : ∀ (l : Ents), l ≠ [] → ∃ q1 ∈ l, ∀ z ∈ l, q1.1.length ≤ z.1.length := by
            intro l
            induction l with
            | nil => intro z; exact absurd rfl z
            | cons x l ih =>
              intro _
              by_cases hz : l = []
              · subst hz
                exact ⟨x, by simp, fun z hz => by rw [List.mem_singleton.mp hz]; exact Nat.le_refl _⟩
              · obtain ⟨y, h1, h2⟩ := ih hz
                by_cases hxy : x.1.length ≤ y.1.length
                · exact ⟨x, by simp, fun z hz => by
                    rcases List.mem_cons.mp hz with q | q
                    · rw [q]; exact Nat.le_refl _
                    · exact Nat.le_trans hxy (h2 z q)⟩
                · exact ⟨y, List.mem_cons_of_mem _ h1, fun z hz => by
                    rcases List.mem_cons.mp hz with q | q
                    · rw [q]; omega
                    · exact h2 z q⟩
          exact go m' fun z => by rw [z] at hq; cases hq
        have hq1l : q1.1 ∈ ls := by
          rcases hG.new q1.1 (List.mem_map.mpr ⟨q1, hq1, rfl⟩) with z | z
          · obtain ⟨y, hy, ey⟩ := List.mem_map.mp z
            have h1 := hmin y hy
            have h2 := hq1m q hq
            rw [ey] at h1
            omega
          · exact z
        exact ⟨q1.1.length, by have := hq1m q hq; omega, m', ls, pl, .u, b, c, d, e, rfl, hG.ways, hG.ins, q1.1, hq1l, hq1m, rfl⟩
  case hl =>
    rintro ds Q ⟨n, ov, cr, rfl, _⟩
    rfl


def S_check_few : FS Kp := fun ds Q => ∃ xs : List Int, ds = [kD xs] ∧ xs.length ≤ 12 ∧ Q (.v .non)
abbrev s_check_few : Stmt := top 67
abbrev N_check_few : List Str := ["some"]
theorem sc_check_few : FnScope N_check_few ["some"] (defScope s_check_few) := ⟨rfl, rfl, rfl, by decide +kernel, rfl, by decide +kernel, by decide +kernel⟩
theorem has_check_few {k : Nat} (D : Def K mg "check_few" s_check_few ["some"]) (c_MOST_NEEDED : ∃ t, mg "MOST_NEEDED" = some (.int 12 t)) (z_len : mg "len" = none) (T : Tx K CB CR) : Has P w K mg base "check_few" (k + 1) ["some"] (spD (Zk K CB CR) S_check_few) := by
  refine D.has sc_check_few ?hl fun f cdv A outer s H E hr => ?bod
  case bod =>
    have hu1 := hu_of hr
    have hu0 := hu0_of hr
    have hu65 := hu65_of hr
    refine ⟨_, (pss_one (ps_if (pt_cmpR op_gt (pe_callB (klen (K := K) rfl) (by rfl) z_len (by decide +kernel) (pa_cons (pv 0) pa_nil)) (pe_globI (by rfl) c_MOST_NEEDED) (nomark _)) pss_never pss_nil)), ?_⟩
    rintro ds Q ⟨xs, rfl, hx, h⟩
    refine dx_if (dt_test (de_B0 (de_len (de_ld (de_d rfl ⟨kD xs, intsD xs, rfl, .ktup (LDs.refl _), xs.map .int, rfl, _, rfl, de_int ⟨_, rfl, _, rfl, ?_⟩⟩)))))
    rw [List.length_map]
    exact iteF' (decide_eq_false (by omega)) (dx_next h)
  case hl =>
    rintro ds Q ⟨xs, rfl, _⟩
    rfl


def S_least_plan : FS Kp := fun ds Q => ∃ (n : Nat) (ov : Ovs) (cr : Nat), ds = [bookD n ov, .int (cr : Nat), intsD (ups n)] ∧ n ≤ 12 ∧ 1 ≤ cr ∧ cr ≤ 4 ∧ ov.length ≤ 1000 ∧ inO ov (ups n) ∧
  ((rowL n ov).length = n → ∀ days, PlanS n ov cr days → Q (.v (.tup [.str "plan", daysD days]))) ∧ ((rowL n ov).length ≠ n → ∀ L, RingO ov L → Q (.v (.tup [.str "stuck", intsD L])))
abbrev s_least_plan : Stmt := top 68
abbrev N_least_plan : List Str := ["book", "crews", "wanted", "some", "ring"]
theorem sc_least_plan : FnScope N_least_plan ["book", "crews", "wanted"] (defScope s_least_plan) := ⟨rfl, rfl, rfl, by decide +kernel, rfl, by decide +kernel, by decide +kernel⟩
theorem has_least_plan {k : Nat} (D : Def K mg "least_plan" s_least_plan ["book", "crews", "wanted"]) (h_check_crews : Has P w K mg base "check_crews" k ["crews"] (spD (Zk K CB CR) S_check_crews)) (h_check_set : Has P w K mg base "check_set" k ["book", "wanted"] (spD (Zk K CB CR) S_check_set)) (h_needed_by : Has P w K mg base "needed_by" k ["book", "wanted"] (spD (Zk K CB CR) S_needed_by)) (h_stuck_ring : Has P w K mg base "stuck_ring" k ["book", "some"] (spD (Zk K CB CR) S_stuck_ring)) (h_check_few : Has P w K mg base "check_few" k ["some"] (spD (Zk K CB CR) S_check_few)) (h_fewest : Has P w K mg base "fewest" k ["book", "crews", "some"] (spD (Zk K CB CR) S_fewest)) (T : Tx K CB CR) : Has P w K mg base "least_plan" (k + 1) ["book", "crews", "wanted"] (spD (Zk K CB CR) S_least_plan) := by
  refine D.has sc_least_plan ?hl fun f cdv A outer s H E hr => ?bod
  case bod =>
    have hu1 := hu_of hr
    have hu0 := hu0_of hr
    have hu65 := hu65_of hr
    refine ⟨_, (pss_cons (ps_expr (pe_callH h_check_crews hr (by rfl) (pa_cons (pv 1) pa_nil)))
    (pss_cons (ps_expr (pe_callH h_check_set hr (by rfl) (pa_cons (pv 0) (pa_cons (pv 2) pa_nil))))
    (pss_cons (ps_set (i := 3) sc_least_plan.nd rfl (by first | exact Or.inl rfl | exact Or.inr rfl) (pe_callH h_needed_by hr (by rfl) (pa_cons (pv 0) (pa_cons (pv 2) pa_nil))))
    (pss_cons (ps_set (i := 4) sc_least_plan.nd rfl (by first | exact Or.inl rfl | exact Or.inr rfl) (pe_callH h_stuck_ring hr (by rfl) (pa_cons (pv 0) (pa_cons (pv 3) pa_nil))))
    (pss_cons (ps_if (pt_cmp (pc_notN (pv 4))) (pss_one (ps_ret (pe_tup (pa_cons pe_str (pa_cons (pv 4) pa_nil))))) pss_nil)
    (pss_cons (ps_expr (pe_callH h_check_few hr (by rfl) (pa_cons (pv 3) pa_nil)))
    (pss_one (ps_ret (pe_tup (pa_cons pe_str (pa_cons (pe_callH h_fewest hr (by rfl) (pa_cons (pv 0) (pa_cons (pv 1) (pa_cons (pv 3) pa_nil)))) pa_nil))))))))))), ?_⟩
    rintro ds Q ⟨n, ov, cr, rfl, hn, hc1, hc4, hl, hi, h1, h2⟩
    have lk : LD (kD (ups n)) (intsD (ups n)) := .ktup (LDs.refl _)
    refine dx_seq (dx_drop (de_call (da_cons (de_d rfl (da_nil ⟨_, rfl, by omega, by omega, ?_⟩)))))
    refine dx_seq (dx_drop (de_call (da_cons (de_d rfl (da_cons (de_d rfl (da_nil ⟨n, ov, rfl, by omega, ?_⟩)))))))
    refine dx_seq (dx_asg (de_call (da_cons (de_d rfl (da_cons (de_d rfl (da_nil ⟨n, ov, rfl, by omega, hi, hl, ?_⟩)))))))
    refine dx_seq (dx_asg (de_call (da_cons (de_d rfl (da_cons (de_ld (de_d rfl ⟨kD (ups n), _, rfl, lk, da_nil ⟨n, ov, rfl, by omega, hl, fun hr => ?_, fun hr L hL => ?_⟩⟩)))))))
    · refine dx_seq (dx_if (dt_test (de_nnN (de_d rfl ⟨.non, rfl, rfl, _, rfl, iteF' rfl (dx_next ?_)⟩))))
      refine dx_seq (dx_drop (de_call (da_cons (de_d rfl (da_nil ⟨ups n, rfl, by rw [ups_len]; omega, ?_⟩)))))
      refine dx_ret (de_tup (da_cons (de_str (da_cons (de_call (da_cons (de_d rfl (da_cons (de_d rfl (da_cons (de_d rfl (da_nil ⟨n, ov, cr, rfl, hn, hc1, hc4, hl, hi, hr, fun days hd => da_nil ⟨[.str "plan", daysD days], rfl, by simp, ?_, h1 hr days hd⟩⟩))))))))))))
      exact pur_two' _ (purs_map _ _ fun _ _ => purs_ints _)
    · refine dx_seq (dx_if (dt_test (de_nnN (de_d rfl ⟨intsD L, rfl, rfl, _, rfl, iteT' rfl ?_⟩))))
      exact dx_ret (de_tup (da_cons (de_str (da_cons (de_d rfl (da_nil ⟨[.str "stuck", intsD L], rfl, by simp, pur_two' _ (purs_ints _), h2 hr L hL⟩))))))
  case hl =>
    rintro ds Q ⟨n, ov, cr, rfl, _⟩
    rfl


end K67
set_option Elab.async false
set_option linter.all false
set_option maxRecDepth 100000
namespace K67
open PySem PySem.Spec PyProof.Rows L2 DL RZ
/-! K17: what makes a book -/
variable {P : Program} {w : World} {K : PySem.W.Frag} {mg : Str → Option Value} {base : Heap} {CB CR : Addr}

/-- overs that a book takes -/
structure okOv (n : Nat) (ov : Ovs) : Prop where
  rng : ∀ p ∈ ov, (0 ≤ p.1 ∧ p.1 < n) ∧ (0 ≤ p.2 ∧ p.2 < n) ∧ p.1 ≠ p.2
  asc : ov.Pairwise ltPr
  few : ov.length ≤ 1000
theorem within_of {a : Int} {n : Nat} (h : 0 ≤ a ∧ a < n) : within a 0 ((n : Int) - 1) = true := by rw [within_iff]; omega

def S_is_pair : FS Kp := fun ds Q => ∃ (n : Nat) (p : Int × Int), ds = [.int (n : Nat), pairD p] ∧ (0 ≤ p.1 ∧ p.1 < n) ∧ (0 ≤ p.2 ∧ p.2 < n) ∧ p.1 ≠ p.2 ∧ Q (.v (.bl true))
abbrev s_is_pair : Stmt := top 20
abbrev N_is_pair : List Str := ["count", "thing", "one"]
theorem sc_is_pair : FnScope N_is_pair ["count", "thing"] (defScope s_is_pair) := ⟨rfl, rfl, rfl, by decide +kernel, rfl, by decide +kernel, by decide +kernel⟩
theorem has_is_pair {k : Nat} (D : Def K mg "is_pair" s_is_pair ["count", "thing"]) (z_all : mg "all" = none) (h_is_tuple : Has P w K mg base "is_tuple" k ["thing", "least", "most"] (spD (Zk K CB CR) S_is_tuple)) (h_is_within : Has P w K mg base "is_within" k ["thing", "low", "high"] (spD (Zk K CB CR) S_is_within)) (T : Tx K CB CR) : Has P w K mg base "is_pair" (k + 1) ["count", "thing"] (spD (Zk K CB CR) S_is_pair) := by
  refine D.has sc_is_pair ?hl fun f cdv A outer s H E hr => ?bod
  case bod =>
    have hu1 := hu_of hr
    have hu0 := hu0_of hr
    have hu65 := hu65_of hr
    refine ⟨_, (pss_cons (ps_if (PW.pt (pw_or (pt_not (pt_val (pe_callH h_is_tuple hr (by rfl) (pa_cons (pv 1) (pa_cons pe_int (pa_cons pe_int pa_nil)))))) (pw_or1 (pt_not (pt_val (pe_callB (kall (K := K) rfl rfl) (by rfl) z_all (by decide +kernel) (pa_cons (pe_lc (own := [("one", 2)]) rfl sc_is_pair.nd (kpi_sq (K := K) rfl (pv 1)) (blkOk_by (N := N_is_pair) (sc := defScope s_is_pair) (by decide +kernel)) (fun _ _ _ _ _ => (pg_name (i := 2) sc_is_pair.nd rfl (by first | exact Or.inl rfl | exact Or.inr rfl))) (fun _ _ _ _ _ => pts_nil) (fun _ _ _ _ _ => (pe_callH h_is_within hr (by rfl) (pa_cons (pv 2) (pa_cons pe_int (pa_cons (pe_op op_sub (pv 0) pe_int) pa_nil)))))) pa_nil))))))) (pss_one (ps_ret pe_bl)) pss_nil)
    (pss_one (ps_ret (pe_cmpR (kop_ne (K := K) rfl hu65) (pe_ix (kix (K := K) rfl) (pv 1) pe_int (fun _ _ => rfl)) (pe_ix (kix (K := K) rfl) (pv 1) pe_int (fun _ _ => rfl)) (nomark _))))), ?_⟩
    rintro ds Q ⟨n, ⟨x, y⟩, rfl, h1, h2, h3, h⟩
    refine dx_seq (dx_if (dt_or (dt_not (dt_val (de_call (da_cons (de_d rfl (da_cons (de_int (da_cons (de_int (da_nil ⟨_, _, _, rfl, true, rfl, iteF' rfl ?_⟩))))))))))))
    refine dt_not (dt_val (de_allC (α := Int) .int (fun _ => true) (di_sq (de_d rfl ⟨([x, y].map .int, none), rfl, [x, y], rfl, fun a ha => dg_nm rfl ?_, rfl, by simp, rfl, _, rfl, ?_⟩))))
    · refine de_call (da_cons (de_d rfl (da_cons (de_int (da_cons (de_I0 (de_d rfl ⟨_, rfl, de_int ⟨1, rfl, da_nil ⟨_, _, _, rfl, rfl, ?_⟩⟩⟩)))))))
      have : within a 0 ((n : Int) - 1) = true := by
        rcases List.mem_cons.mp ha with e | e
        · rw [e]; exact within_of h1
        · rw [List.mem_singleton.mp e]; exact within_of h2
      rw [show fz (ER.v (DL.D.bl (within a 0 ((n : Int) - 1))) : ER Kp) = ER.v (.bl (within a 0 ((n : Int) - 1))) from rfl, this]
    · have : ([x, y].all fun _ => true) = true := by simp
      rw [this]
      refine iteF' rfl (dx_next (dx_ret (de_ne (de_ix (de_d rfl (de_int ⟨[.int x, .int y], 0, .int x, rfl, rfl, rfl, de_ix (de_d rfl (de_int ⟨[.int x, .int y], 1, .int y, rfl, rfl, rfl, _, _, rfl, rfl, rfl, rfl, rfl, ?_⟩))⟩))))))
      show Q (.v (.bl (!eqD (.int x : Dk) (.int y))))
      rw [eqD_int, decide_eq_false h3]
      exact h
  case hl =>
    rintro ds Q ⟨n, p, rfl, _⟩
    rfl


def S_are_overs : FS Kp := fun ds Q => ∃ (n : Nat) (ov : Ovs), ds = [.int (n : Nat), ovsD ov] ∧ okOv n ov ∧ Q (.v (.bl true))
abbrev s_are_overs : Stmt := top 21
abbrev N_are_overs : List Str := ["count", "thing", "one", "other", "pair"]
theorem sc_are_overs : FnScope N_are_overs ["count", "thing"] (defScope s_are_overs) := ⟨rfl, rfl, rfl, by decide +kernel, rfl, by decide +kernel, by decide +kernel⟩
theorem has_are_overs {k : Nat} (D : Def K mg "are_overs" s_are_overs ["count", "thing"]) (z_isinstance : mg "isinstance" = none) (z_tuple : mg "tuple" = none) (z_all : mg "all" = none) (z_zip : mg "zip" = none) (h_is_pair : Has P w K mg base "is_pair" k ["count", "thing"] (spD (Zk K CB CR) S_is_pair)) (T : Tx K CB CR) : Has P w K mg base "are_overs" (k + 1) ["count", "thing"] (spD (Zk K CB CR) S_are_overs) := by
  refine D.has sc_are_overs ?hl fun f cdv A outer s H E hr => ?bod
  case bod =>
    have hu1 := hu_of hr
    have hu0 := hu0_of hr
    have hu65 := hu65_of hr
    refine ⟨_, (pss_cons (ps_if (PW.pt (pw_or (pt_not (pt_val (pe_callB (kisi (K := K) rfl) (by rfl) z_isinstance (by decide +kernel) (pa_cons (pv 1) (pa_cons (pe_bltn (by rfl) z_tuple (by decide +kernel) (show RelV (.ty "tuple") _ from rfl)) pa_nil))))) (pw_or1 (pt_not (pt_val (pe_callB (kall (K := K) rfl rfl) (by rfl) z_all (by decide +kernel) (pa_cons (pe_lc (own := [("pair", 4)]) rfl sc_are_overs.nd (kpi_sq (K := K) rfl (pv 1)) (blkOk_by (N := N_are_overs) (sc := defScope s_are_overs) (by decide +kernel)) (fun _ _ _ _ _ => (pg_name (i := 4) sc_are_overs.nd rfl (by first | exact Or.inl rfl | exact Or.inr rfl))) (fun _ _ _ _ _ => pts_nil) (fun _ _ _ _ _ => (pe_callH h_is_pair hr (by rfl) (pa_cons (pv 0) (pa_cons (pv 4) pa_nil))))) pa_nil))))))) (pss_one (ps_ret pe_bl)) pss_nil)
    (pss_one (ps_ret (pe_callB (kall (K := K) rfl rfl) (by rfl) z_all (by decide +kernel) (pa_cons (pe_lc (own := [("one", 2), ("other", 3)]) rfl sc_are_overs.nd (kpi_zip (K := K) rfl (by rfl) z_zip (pa_cons (pv 1) (pa_cons (pe_slice (ksl (K := K) rfl) (pv 1) (po_some pe_int) po_none) pa_nil))) (blkOk_by (N := N_are_overs) (sc := defScope s_are_overs) (by decide +kernel)) (fun _ _ _ _ _ => (kpg_tup (K := K) (n := 2) rfl rfl (pgs_cons (pg_name (i := 2) sc_are_overs.nd rfl (by first | exact Or.inl rfl | exact Or.inr rfl)) (pgs_cons (pg_name (i := 3) sc_are_overs.nd rfl (by first | exact Or.inl rfl | exact Or.inr rfl)) pgs_nil)))) (fun _ _ _ _ _ => pts_nil) (fun _ _ _ _ _ => (pe_cmpR (kop_lt (K := K) rfl hu0) (pv 2) (pv 3) (nomark _)))) pa_nil))))), ?_⟩
    rintro ds Q ⟨n, ov, rfl, ho, h⟩
    have hf := ho.few
    refine dx_seq (dx_if (dt_or (dt_not (dt_val (de_isTup (de_d rfl ⟨rfl, true, rfl, iteF' rfl ?_⟩))))))
    refine dt_not (dt_val (de_allC (α := Int × Int) pairD (fun _ => true) (di_sq (de_d rfl ⟨(ov.map pairD, none), rfl, ov, rfl, fun p hp => dg_nm rfl ?_, rfl, by omega, rfl, _, rfl, ?_⟩))))
    · obtain ⟨h1, h2, h3⟩ := ho.rng p hp
      exact de_call (da_cons (de_d rfl (da_cons (de_d rfl (da_nil ⟨n, p, rfl, h1, h2, h3, rfl, rfl⟩)))))
    · have : (ov.all fun _ => true) = true := by simp
      rw [this]
      refine iteF' rfl (dx_next (dx_ret (de_allC (α := (Int × Int) × (Int × Int)) (fun q => .tup [pairD q.1, pairD q.2]) (fun _ => true) (di_zip (da_cons (de_d rfl (da_cons (de_sl (de_d rfl (do_some (de_int ⟨1, rfl, do_none ?_⟩)))))))))))
      refine da_nil ⟨_, _, (ov.map pairD, none), ((ov.drop 1).map pairD, none), rfl, rfl, ?_, rfl, .inl rfl, ov.zip (ov.drop 1), zip_map _ _ _ _, fun q hq => dg_tp rfl (dgs_cn (dg_nm rfl (dgs_cn (dg_nm rfl (dgs_nl ?_))))), rfl, by rw [List.length_zip]; omega, rfl, ?_⟩
      · show some (cutL (ov.map pairD) (some ((1 : Nat) : Int)) none, none) = _
        rw [cut_from, List.map_drop]
      · refine de_op bs_lt (de_d rfl (de_d rfl ⟨[q.1.1, q.1.2], [q.2.1, q.2.2], rfl, rfl, rfl, ?_⟩))
        have hlt : ltPr q.1 q.2 := by
          obtain ⟨i, hi⟩ := List.getElem?_of_mem hq
          rw [List.getElem?_zip_eq_some, List.getElem?_drop] at hi
          obtain ⟨i1, h1⟩ := List.getElem?_eq_some_iff.mp hi.1
          obtain ⟨i2, h2⟩ := List.getElem?_eq_some_iff.mp hi.2
          have := List.pairwise_iff_getElem.mp ho.asc i (1 + i) i1 i2 (by omega)
          rw [h1, h2] at this
          exact this
        have : HT.lexLt [q.1.1, q.1.2] [q.2.1, q.2.2] = true := by
          unfold ltPr at hlt
          simp only [HT.lexLt]
          rcases hlt with h | ⟨h1, h2⟩
          · have : q.1.1 ≠ q.2.1 := by omega
            simp [h, this]
          · have : q.1.2 ≠ q.2.2 := by omega
            simp [h1, h2, this]
        rw [this]
        rfl
      · have : ((ov.zip (ov.drop 1)).all fun _ => true) = true := by simp
        rw [this]
        exact ⟨rfl, h⟩
  case hl =>
    rintro ds Q ⟨n, ov, rfl, _⟩
    rfl


def S_is_bound : FS Kp := fun ds Q => ds = [.non] ∧ Q (.v (.bl true))
abbrev s_is_bound : Stmt := top 22
abbrev N_is_bound : List Str := ["thing"]
theorem sc_is_bound : FnScope N_is_bound ["thing"] (defScope s_is_bound) := ⟨rfl, rfl, rfl, by decide +kernel, rfl, by decide +kernel, by decide +kernel⟩
theorem has_is_bound {k : Nat} (D : Def K mg "is_bound" s_is_bound ["thing"]) (c_FARTHEST : ∃ t, mg "FARTHEST" = some (.int 100000 t)) (h_is_integer : Has P w K mg base "is_integer" k ["thing"] (spD (Zk K CB CR) S_is_integer)) (T : Tx K CB CR) : Has P w K mg base "is_bound" (k + 1) ["thing"] (spD (Zk K CB CR) S_is_bound) := by
  refine D.has sc_is_bound ?hl fun f cdv A outer s H E hr => ?bod
  case bod =>
    have hu1 := hu_of hr
    have hu0 := hu0_of hr
    have hu65 := hu65_of hr
    refine ⟨_, (pss_one (ps_ret (pe_or (pe_cmp (pc_isN (pv 0))) (pe_one (pe_and (pe_callH h_is_integer hr (by rfl) (pa_cons (pv 0) pa_nil)) (pe_one (pe_chain op_le op_le (pe_un un_neg (pe_globI (by rfl) c_FARTHEST)) (pv 0) (pe_globI (by rfl) c_FARTHEST)))))))), ?_⟩
    rintro ds Q ⟨rfl, h⟩
    refine dx_ret (de_orV (de_nN (de_d rfl ⟨.non, rfl, rfl, _, rfl, iteT' rfl ⟨rfl, h⟩⟩)))
  case hl =>
    rintro ds Q ⟨rfl, _⟩
    rfl


def S_is_date : FS Kp := fun ds Q => ds = [dateD] ∧ Q (.v (.bl true))
abbrev s_is_date : Stmt := top 23
abbrev N_is_date : List Str := ["thing", "one"]
theorem sc_is_date : FnScope N_is_date ["thing"] (defScope s_is_date) := ⟨rfl, rfl, rfl, by decide +kernel, rfl, by decide +kernel, by decide +kernel⟩
theorem has_is_date {k : Nat} (D : Def K mg "is_date" s_is_date ["thing"]) (z_all : mg "all" = none) (h_is_tuple : Has P w K mg base "is_tuple" k ["thing", "least", "most"] (spD (Zk K CB CR) S_is_tuple)) (h_is_bound : Has P w K mg base "is_bound" k ["thing"] (spD (Zk K CB CR) S_is_bound)) (T : Tx K CB CR) : Has P w K mg base "is_date" (k + 1) ["thing"] (spD (Zk K CB CR) S_is_date) := by
  refine D.has sc_is_date ?hl fun f cdv A outer s H E hr => ?bod
  case bod =>
    have hu1 := hu_of hr
    have hu0 := hu0_of hr
    have hu65 := hu65_of hr
    refine ⟨_, (pss_cons (ps_if (PW.pt (pw_or (pt_not (pt_val (pe_callH h_is_tuple hr (by rfl) (pa_cons (pv 0) (pa_cons pe_int (pa_cons pe_int pa_nil)))))) (pw_or1 (pt_not (pt_val (pe_callB (kall (K := K) rfl rfl) (by rfl) z_all (by decide +kernel) (pa_cons (pe_lc (own := [("one", 1)]) rfl sc_is_date.nd (kpi_sq (K := K) rfl (pv 0)) (blkOk_by (N := N_is_date) (sc := defScope s_is_date) (by decide +kernel)) (fun _ _ _ _ _ => (pg_name (i := 1) sc_is_date.nd rfl (by first | exact Or.inl rfl | exact Or.inr rfl))) (fun _ _ _ _ _ => pts_nil) (fun _ _ _ _ _ => (pe_callH h_is_bound hr (by rfl) (pa_cons (pv 1) pa_nil)))) pa_nil))))))) (pss_one (ps_ret pe_bl)) pss_nil)
    (pss_one (ps_ret (pe_or (pe_cmpR (kop_in (K := K) rfl hu65) pe_non (pv 0) (by with_unfolding_all rfl)) (pe_one (pe_cmpR op_le (pe_ix (kix (K := K) rfl) (pv 0) pe_int (fun _ _ => rfl)) (pe_ix (kix (K := K) rfl) (pv 0) pe_int (fun _ _ => rfl)) (nomark _))))))), ?_⟩
    rintro ds Q ⟨rfl, h⟩
    refine dx_seq (dx_if (dt_or (dt_not (dt_val (de_call (da_cons (de_d rfl (da_cons (de_int (da_cons (de_int (da_nil ⟨_, _, _, rfl, true, rfl, iteF' rfl ?_⟩))))))))))))
    refine dt_not (dt_val (de_allC (α := Unit) (fun _ => .non) (fun _ => true) (di_sq (de_d rfl ⟨([.non, .non], none), rfl, [(), ()], rfl, fun a ha => dg_nm rfl ?_, rfl, by simp, rfl, _, rfl, ?_⟩))))
    · exact de_call (da_cons (de_d rfl (da_nil ⟨rfl, rfl, rfl⟩)))
    · refine iteF' rfl (dx_next (dx_ret (de_orV (de_in (de_non (de_d rfl ⟨.non, dateD, [.non, .non], rfl, rfl, rfl, rfl, rfl, true, ?_, iteT' rfl ⟨rfl, h⟩⟩))))))
      rfl
  case hl =>
    rintro ds Q ⟨rfl, _⟩
    rfl


def S_is_kind : FS Kp := fun _ _ => False
abbrev s_is_kind : Stmt := top 24
abbrev N_is_kind : List Str := ["count", "thing"]
theorem sc_is_kind : FnScope N_is_kind ["count", "thing"] (defScope s_is_kind) := ⟨rfl, rfl, rfl, by decide +kernel, rfl, by decide +kernel, by decide +kernel⟩
theorem has_is_kind {k : Nat} (D : Def K mg "is_kind" s_is_kind ["count", "thing"]) (z_len : mg "len" = none) (h_is_lot : Has P w K mg base "is_lot" k ["thing", "many"] (spD (Zk K CB CR) S_is_lot)) (T : Tx K CB CR) : Has P w K mg base "is_kind" (k + 1) ["count", "thing"] (spD (Zk K CB CR) S_is_kind) := by
  refine D.has sc_is_kind ?hl fun f cdv A outer s H E hr => ?bod
  case bod =>
    have hu1 := hu_of hr
    have hu0 := hu0_of hr
    have hu65 := hu65_of hr
    refine ⟨_, (pss_one (ps_ret (pe_and (pe_callH h_is_lot hr (by rfl) (pa_cons (pv 1) (pa_cons (pv 0) pa_nil))) (pe_one (pe_cmpR op_gt (pe_callB (klen (K := K) rfl) (by rfl) z_len (by decide +kernel) (pa_cons (pv 1) pa_nil)) pe_int (nomark _)))))), ?_⟩
    rintro ds Q h
    exact h.elim
  case hl =>
    rintro ds Q h
    exact h.elim


end K67
set_option Elab.async false
set_option linter.all false
set_option maxRecDepth 100000
namespace K67
open PySem PySem.Spec PyProof.Rows L2 DL RZ
/-! K18: a book made, its parts, two books equal -/
variable {P : Program} {w : World} {K : PySem.W.Frag} {mg : Str → Option Value} {base : Heap} {CB CR : Addr}

mutual
theorem pq_but {L : List Addr} {H' H2 : Hp} {x : Addr} {C dx : Addr} {fs : List (Str × V)} (hx : H' x = some (.ins C dx fs)) (hs : ∀ y o, y ≠ x → H' y = some o → H2 y = some o) : ∀ {v : V} {p : PyData}, Pq K (hide L H') v p → Pq K (hide L H2) v p
  | _, _, .non => .non
  | _, _, .bl b => .bl b
  | _, _, .int i => .int i
  | _, _, .str z => .str z
  | _, _, .tup (a := a) h r => .tup (by
      rcases h with (h | ⟨o, h⟩) | h
      · obtain ⟨h1, h2⟩ := hide_some h
        have na : a ≠ x := fun e => by rw [e, hx] at h2; cases h2
        exact .inl (.inl (by rw [hide_out h1]; exact hs a _ na h2))
      · obtain ⟨h1, h2⟩ := hide_some h
        have na : a ≠ x := fun e => by rw [e, hx] at h2; cases h2
        exact .inl (.inr ⟨o, by rw [hide_out h1]; exact hs a _ na h2⟩)
      · exact .inr h) (pqa_but hx hs r)
theorem pqa_but {L : List Addr} {H' H2 : Hp} {x : Addr} {C dx : Addr} {fs : List (Str × V)} (hx : H' x = some (.ins C dx fs)) (hs : ∀ y o, y ≠ x → H' y = some o → H2 y = some o) : ∀ {vs : List V} {ps : List PyData}, PqA K (hide L H') vs ps → PqA K (hide L H2) vs ps
  | _, _, .nil => .nil
  | _, _, .cons h r => .cons (pq_but hx hs h) (pqa_but hx hs r)
end

abbrev N_bok : List Str := ["self", "count", "overs", "dates", "kinds", "date", "kind"]
theorem sc_bok : FnScope N_bok bks (defScope s_bok) := ⟨rfl, rfl, rfl, by decide +kernel, rfl, by decide +kernel, by decide +kernel⟩
theorem rep_init {Z : Wrl K} {w : Z.W} {H : Hp} {vs : List V} {ds : List (DL.D Z.κ)} {N : List Str} (ok : Z.ok w H) (r : RpA Z w (hide (Z.A w) H) vs ds) : Rep Z (hide (Z.A w) H) w [] (init ds N.length) (L2.start N vs) H := by
  have e0 : OL ([] : Pd Z.κ) (init ds N.length) = [] := by
    show [] ++ owns _ = []
    unfold init
    rw [owns_init] <;> rfl
  have sg : Same (hide (Z.A w) H) (Gd Z w [] (init ds N.length) H) := hide_mono (fun a h => (mem_HL.mp h).elim id fun z => by rw [e0] at z; cases z) (Same.refl H)
  refine ⟨by rw [e0]; exact List.nodup_nil, fun a h => (by rw [e0] at h; cases h), ok, sg, fun q h => (by cases h), ?_⟩
  have q := rep_slots (H := H) (N.length - ds.length) (r.mono (Z.refl w) sg)
  unfold L2.start
  rw [r.length]
  exact q
theorem seq_pre {t1 t2 t3 t4 R : TS} {Dc : Ends} {σ : L2.St} {H : Hp} (h : tSeq t1 (tSeq t2 (tSeq t3 t4)) { Dc with nx := R Dc } σ H) : tSeq t1 (tSeq t2 (tSeq t3 (tSeq t4 R))) Dc σ H := h
/-- Book(..) of right parts, without dates and kinds -/
def spBok (K : PySem.W.Frag) (CB CR : Addr) : Sp := fun vs H Q _ => ∃ (w0 : Addr × Addr) (x dx : Addr) (a b c d : V) (n : Nat) (ov : Ovs), vs = [.ref x, a, b, c, d] ∧ okT w0 H ∧ H x = some (.ins CB dx []) ∧ x ∉ (Zk K CB CR).A w0 ∧
  RpA (Zk K CB CR) w0 (hide ((Zk K CB CR).A w0) H) [a, b, c, d] [.int (n : Nat), ovsD ov, datesD n, .tup []] ∧ 1 ≤ n ∧ n ≤ 16 ∧ okOv n ov ∧
  ∀ (H' : Hp) (fs : List (Str × V)), okT w0 H' → (∀ y o, y ≠ x → hide ((Zk K CB CR).A w0) H y = some o → hide ((Zk K CB CR).A w0) H' y = some o) → H' x = some (.ins CB dx fs) →
    (∀ q, q ∈ (bookI 0 n ov).fs → ∃ u, fs.lookup q.1 = some u ∧ Pq K (hide ((Zk K CB CR).A w0) H') u q.2) → fs.lookup ("parts" : Str) = none → Q .non H'
theorem mk_bok {k : Nat} (D : DefM K "__init__" "Book.__init__" CB s_bok bks) (hm : mg "Book" = some (.ref CB)) (T : Tx K CB CR) (c_MOST_LAYERS : ∃ t, mg "MOST_LAYERS" = some (.int 16 t)) (c_MOST_KINDS : ∃ t, mg "MOST_KINDS" = some (.int 16 t)) (z_all : mg "all" = none) (h_is_within : Has P w K mg base "is_within" k ["thing", "low", "high"] (spD (Zk K CB CR) S_is_within)) (h_are_overs : Has P w K mg base "are_overs" k ["count", "thing"] (spD (Zk K CB CR) S_are_overs)) (h_is_tuple : Has P w K mg base "is_tuple" k ["thing", "least", "most"] (spD (Zk K CB CR) S_is_tuple)) (h_is_date : Has P w K mg base "is_date" k ["thing"] (spD (Zk K CB CR) S_is_date)) (h_is_kind : Has P w K mg base "is_kind" k ["count", "thing"] (spD (Zk K CB CR) S_is_kind)) : HasMk P w K mg base "Book" CB (k + 1) bks (spBok K CB CR) := by
  obtain ⟨f, fd, F, hb, M⟩ := D
  obtain ⟨n1, n2, n3, n4, n5⟩ := T.at' CB (.inl rfl)
  refine ⟨f, fd, M, F.ok sc_bok (fun vs H Q E h => ?_) (fun cdv A outer s H vs Q E hr h => ?_), hm, hb⟩
  · obtain ⟨w0, x, dx, a, b, c, d, n, ov, rfl, _⟩ := h
    rfl
  · obtain ⟨w0, x, dx, a, b, c, d, n, ov, rfl, hok, hx, hxa, hrp, hn1, hn16, hov, kk⟩ := h
    refine ⟨_, PSs.nox (pss_cons (ps_if (pt_not (pt_val (pe_callH h_is_within hr (by rfl) (pa_cons (pv 1) (pa_cons pe_int (pa_cons (pe_globI (by rfl) c_MOST_LAYERS) pa_nil)))))) pss_never pss_nil)
    (pss_cons (ps_if (pt_not (pt_val (pe_callH h_are_overs hr (by rfl) (pa_cons (pv 1) (pa_cons (pv 2) pa_nil))))) pss_never pss_nil)
    (pss_cons (ps_if (PW.pt (pw_or (pt_not (pt_val (pe_callH h_is_tuple hr (by rfl) (pa_cons (pv 3) (pa_cons (pv 1) (pa_cons (pv 1) pa_nil)))))) (pw_or1 (pt_not (pt_val (pe_callB (kall (K := K) rfl rfl) (by rfl) z_all (by decide +kernel) (pa_cons (pe_lc (own := [("date", 5)]) rfl sc_bok.nd (kpi_sq (K := K) rfl (pv 3)) (blkOk_by (N := N_bok) (sc := defScope s_bok) (by decide +kernel)) (fun _ _ _ _ _ => (pg_name (i := 5) sc_bok.nd rfl (by first | exact Or.inl rfl | exact Or.inr rfl))) (fun _ _ _ _ _ => pts_nil) (fun _ _ _ _ _ => (pe_callH h_is_date hr (by rfl) (pa_cons (pv 5) pa_nil)))) pa_nil))))))) pss_never pss_nil)
    (pss_cons (ps_if (PW.pt (pw_or (pt_not (pt_val (pe_callH h_is_tuple hr (by rfl) (pa_cons (pv 4) (pa_cons pe_int (pa_cons (pe_globI (by rfl) c_MOST_KINDS) pa_nil)))))) (pw_or1 (pt_not (pt_val (pe_callB (kall (K := K) rfl rfl) (by rfl) z_all (by decide +kernel) (pa_cons (pe_lc (own := [("kind", 6)]) rfl sc_bok.nd (kpi_sq (K := K) rfl (pv 4)) (blkOk_by (N := N_bok) (sc := defScope s_bok) (by decide +kernel)) (fun _ _ _ _ _ => (pg_name (i := 6) sc_bok.nd rfl (by first | exact Or.inl rfl | exact Or.inr rfl))) (fun _ _ _ _ _ => pts_nil) (fun _ _ _ _ _ => (pe_callH h_is_kind hr (by rfl) (pa_cons (pv 1) (pa_cons (pv 6) pa_nil))))) pa_nil))))))) pss_never pss_nil)
    (pss_cons (ps_asg (pe_tup (pa_cons (pv 1) (pa_cons (pv 2) pa_nil))) (kpg_tup (K := K) (n := 2) rfl rfl (pgs_cons (pg_fld (K := K) rfl (pv 0)) (pgs_cons (pg_fld (K := K) rfl (pv 0)) pgs_nil))))
    (pss_cons (ps_asg (pe_tup (pa_cons (pv 3) (pa_cons (pv 4) pa_nil))) (kpg_tup (K := K) (n := 2) rfl rfl (pgs_cons (pg_fld (K := K) rfl (pv 0)) (pgs_cons (pg_fld (K := K) rfl (pv 0)) pgs_nil))))
    (pss_one (ps_fld (pv 0) pe_dnewK rfl)))))))), ?_⟩
    refine seq_pre ?_
    have R0 := rep_init (Z := Zk K CB CR) (N := N_bok) (ds := .obj (.at x) :: [.int (n : Nat), ovsD ov, datesD n, .tup []]) (vs := [.ref x, a, b, c, d]) hok (.cons (.obj rfl) hrp)
    have hDX : ∀ {t1 t2 t3 t4 : TS}, DX (Zk K CB CR) (tSeq t1 (tSeq t2 (tSeq t3 t4))) (init (.obj (.at x) :: [.int (n : Nat), ovsD ov, datesD n, .tup []]) N_bok.length) { nx := fun τ1 => τ1 = init (.obj (.at x) :: [.int (n : Nat), ovsD ov, datesD n, .tup []]) N_bok.length, rt := fun _ => False } → ∀ {Dc : Ends},
        (∀ σ' H', Rep (Zk K CB CR) (hide ((Zk K CB CR).A w0) H) w0 [] (init (.obj (.at x) :: [.int (n : Nat), ovsD ov, datesD n, .tup []]) N_bok.length) σ' H' → Dc.nx σ' H') → tSeq t1 (tSeq t2 (tSeq t3 t4)) Dc (L2.start N_bok [.ref x, a, b, c, d]) H := fun hd Dc hc =>
      hd _ w0 _ H Dc R0 (fun τ' σ' w' H' q l R' => by
        subst q
        have l : w0 = w' := l
        subst l
        exact hc σ' H' R') (fun _ _ _ _ _ _ q => q.elim) (fun _ _ _ _ q => q.elim) (fun _ _ _ _ q => q.elim)
    refine hDX ?_ fun σ' H' R' => ?_
    · refine dx_seq (dx_if (dt_not (dt_val (de_call (da_cons (de_d rfl (da_cons (de_int (da_cons (de_int (da_nil ⟨_, _, _, rfl, true, ?_, iteF' rfl (dx_next ?_)⟩)))))))))))
      · have : within ((n : Nat) : Int) 1 16 = true := by rw [within_iff]; omega
        rw [this]
      refine dx_seq (dx_if (dt_not (dt_val (de_call (da_cons (de_d rfl (da_cons (de_d rfl (da_nil ⟨n, ov, rfl, hov, true, rfl, iteF' rfl (dx_next ?_)⟩)))))))))
      refine dx_seq (dx_if (dt_or (dt_not (dt_val (de_call (da_cons (de_d rfl (da_cons (de_d rfl (da_cons (de_d rfl (da_nil ⟨_, _, _, rfl, true, ?_, iteF' rfl ?_⟩))))))))))))
      · have : within ((((List.replicate n ()).map fun _ => dateD).length : Nat) : Int) (n : Nat) (n : Nat) = true := by rw [within_iff, List.length_map, List.length_replicate]; omega
        rw [this]
      refine dt_not (dt_val (de_allC (α := Unit) (fun _ => dateD) (fun _ => true) (di_sq (de_d rfl ⟨((List.replicate n ()).map fun _ => dateD, none), rfl, List.replicate n (), rfl, fun u hu => dg_nm rfl (de_call (da_cons (de_d rfl (da_nil ⟨rfl, rfl, rfl⟩)))), rfl, by rw [List.length_replicate]; omega, rfl, _, rfl, ?_⟩))))
      have : ((List.replicate n ()).all fun _ => true) = true := by simp
      rw [this]
      refine iteF' rfl (dx_next ?_)
      refine dx_if (dt_or (dt_not (dt_val (de_call (da_cons (de_d rfl (da_cons (de_int (da_cons (de_int (da_nil ⟨_, _, _, rfl, true, rfl, iteF' rfl ?_⟩)))))))))))
      refine dt_not (dt_val (de_allC (α := Unit) (fun _ => .non) (fun _ => true) (di_sq (de_d rfl ⟨([], none), rfl, [], rfl, fun u hu => (by cases hu), rfl, by simp, rfl, _, rfl, iteF' rfl (dx_next rfl)⟩))))
    · -- the fields
      have hw := R'.ok
      have sg : Same (hide ((Zk K CB CR).A w0) H) (hide ((Zk K CB CR).A w0) H') := R'.fr.trans (hide_mono (fun a h => mem_HL.mpr (.inl h)) (Same.refl _))
      have sh : Same (Gd (Zk K CB CR) w0 [] (init (.obj (.at x) :: [.int (n : Nat), ovsD ov, datesD n, .tup []]) N_bok.length) H') (hide ((Zk K CB CR).A w0) H') := hide_mono (fun a h => mem_HL.mpr (.inl h)) (Same.refl _)
      obtain ⟨o0, s0, v0, rfl, r0⟩ := Paired.at R'.sl (i := 0) (a := .d (.obj (.at x))) rfl
      obtain ⟨o1, s1, v1, rfl, r1⟩ := Paired.at R'.sl (i := 1) (a := .d (.int (n : Nat))) rfl
      obtain ⟨o2, s2, v2, rfl, r2⟩ := Paired.at R'.sl (i := 2) (a := .d (ovsD ov)) rfl
      obtain ⟨o3, s3, v3, rfl, r3⟩ := Paired.at R'.sl (i := 3) (a := .d (datesD n)) rfl
      obtain ⟨o4, s4, v4, rfl, r4⟩ := Paired.at R'.sl (i := 4) (a := .d (.tup [])) rfl
      have e0 : v0 = .ref x := by cases r0 with | obj h => exact h
      subst e0
      have hx' : H' x = some (.ins CB dx []) := (hide_some (sg x _ (by rw [hide_out hxa]; exact hx))).2
      have m : ∀ {v : V} {e : Dk} {p : PyData} {H2 : Hp}, Rp (Zk K CB CR) w0 (Gd (Zk K CB CR) w0 [] (init (.obj (.at x) :: [.int (n : Nat), ovsD ov, datesD n, .tup []]) N_bok.length) H') v e → toPy e = some p → e.pur = true → Same (gp (hide ((Zk K CB CR).A w0) H')) (gp (hide ((Zk K CB CR).A w0) H2)) ∨ (∀ y o, y ≠ x → H' y = some o → H2 y = some o) → Pq K (hide ((Zk K CB CR).A w0) H2) v p := fun {v e p H2} r e1 e2 hs => by
        have q0 : Pq K (hide ((Zk K CB CR).A w0) H') v p := (rp_pq r e1 e2).mono (gp_mono sh)
        rcases hs with hs | hs
        · exact q0.mono hs
        · -- the tuples are not the book
          have go : ∀ {v : V} {p : PyData}, Pq K (hide ((Zk K CB CR).A w0) H') v p → Pq K (hide ((Zk K CB CR).A w0) H2) v p := fun q => pq_but hx' hs q
          exact go q0
      refine ⟨v1, s1, v2, s2, small_line (by simp), fun p hp => ?_⟩
      have e1 : x ≠ p := ne_of_none hx' hp
      refine ⟨p, [v1, v2], rfl, .inl (.inl upd_same), rfl, v1, [v2], rfl, _, s0, x, CB, dx, [], rfl, (by rw [upd_ne e1]; exact hx'), T.cB, n1, by show 0 < 1000; decide, v2, [], rfl, _, s0, x, CB, dx, _, rfl, upd_same, T.cB, n2, by show 1 < 1000; decide, rfl, ?_⟩
      refine ⟨v3, s3, v4, s4, small_line (by simp), fun q hq => ?_⟩
      have e2 : x ≠ q := fun z => by rw [← z, upd_same] at hq; cases hq
      refine ⟨q, [v3, v4], rfl, .inl (.inl upd_same), rfl, v3, [v4], rfl, _, s0, x, CB, dx, _, rfl, (by rw [upd_ne e2]; exact upd_same), T.cB, n3, by show 2 < 1000; decide, v4, [], rfl, _, s0, x, CB, dx, _, rfl, upd_same, T.cB, n4, by show 3 < 1000; decide, rfl, ?_⟩
      intro l hl
      have e3 : x ≠ l := fun z => by rw [← z, upd_same] at hl; cases hl
      have hq' : H' q = none ∧ q ≠ p := by
        rw [upd_ne e2.symm, upd_ne e2.symm] at hq
        by_cases z : q = p
        · rw [z, upd_same] at hq; cases hq
        · exact ⟨by rwa [upd_ne z] at hq, z⟩
      have hl' : H' l = none ∧ l ≠ p ∧ l ≠ q := by
        rw [upd_ne e3.symm, upd_ne e3.symm] at hl
        by_cases z : l = q
        · rw [z, upd_same] at hl; cases hl
        rw [upd_ne z, upd_ne e3.symm, upd_ne e3.symm] at hl
        by_cases z2 : l = p
        · rw [z2, upd_same] at hl; cases hl
        · exact ⟨by rwa [upd_ne z2] at hl, z2, z⟩
      have keep : ∀ y o, y ≠ x → H' y = some o → (upd (upd (upd (upd (upd (upd (upd (upd H' p (.tup [v1, v2])) x (.ins CB dx (putF "count" v1 []))) x (.ins CB dx (putF "overs" v2 (putF "count" v1 [])))) q (.tup [v3, v4])) x (.ins CB dx (putF "dates" v3 (putF "overs" v2 (putF "count" v1 []))))) x (.ins CB dx (putF "kinds" v4 (putF "dates" v3 (putF "overs" v2 (putF "count" v1 [])))))) l (.dK [])) x (.ins CB dx (putF "looked" (.ref l) (putF "kinds" v4 (putF "dates" v3 (putF "overs" v2 (putF "count" v1 []))))))) y = some o := fun y o ny hy => by
        have h1 : y ≠ p := ne_of_none hy hp
        have h2 : y ≠ q := ne_of_none hy hq'.1
        have h3 : y ≠ l := ne_of_none hy hl'.1
        rw [upd_ne ny, upd_ne h3, upd_ne ny, upd_ne ny, upd_ne h2, upd_ne ny, upd_ne ny, upd_ne h1]
        exact hy
      have hide_keep : ∀ y o, y ≠ x → hide ((Zk K CB CR).A w0) H' y = some o → hide ((Zk K CB CR).A w0) _ y = some o := fun y o ny hy => by
        obtain ⟨z1, z2⟩ := hide_some hy
        rw [hide_out z1]
        exact keep y o ny z2
      refine ⟨_, s0, x, CB, dx, _, rfl, (by rw [upd_ne e3]; exact upd_same), T.cB, n5, by show 4 < 1000; decide, kk _ _ ?_ (fun y o ny hy => hide_keep y o ny (sg y o hy)) upd_same (fun z hz => ?_) rfl⟩
      · obtain ⟨se, nn, cells, h1, h2, h3⟩ := hw
        exact ⟨se, nn, cells, keep _ _ (fun z => hxa (by rw [← z]; simp)) h1, keep _ _ (fun z => hxa (by rw [← z]; simp)) h2, h3⟩
      · simp only [bookI, List.mem_cons, List.not_mem_nil, or_false] at hz
        rcases hz with rfl | rfl | rfl | rfl
        · exact ⟨v1, rfl, m r1 rfl rfl (.inr keep)⟩
        · exact ⟨v2, rfl, m r2 (py_ovs ov) (pur_ovs ov) (.inr keep)⟩
        · exact ⟨v3, rfl, m r3 (py_dates n) (pur_dates n) (.inr keep)⟩
        · exact ⟨v4, rfl, m r4 (by simp [toPy, toPys]) rfl (.inr keep)⟩

end K67
set_option Elab.async false
set_option linter.all false
set_option maxRecDepth 100000
namespace K67
open PySem PySem.Spec PyProof.Rows L2 DL RZ
/-! K19: parts of a book, == of two -/
variable {P : Program} {w : World} {K : PySem.W.Frag} {mg : Str → Option Value} {base : Heap} {CB CR : Addr}

abbrev s_parts : Stmt := inClass (top 25) 2
abbrev s_beq : Stmt := inClass (top 25) 1
abbrev N_parts : List Str := ["self"]
abbrev N_beq : List Str := ["self", "other"]
theorem sc_parts : FnScope N_parts ["self"] (defScope s_parts) := ⟨rfl, rfl, rfl, by decide +kernel, rfl, by decide +kernel, by decide +kernel⟩
theorem sc_beq : FnScope N_beq ["self", "other"] (defScope s_beq) := ⟨rfl, rfl, rfl, by decide +kernel, rfl, by decide +kernel, by decide +kernel⟩
theorem L2K.kisC {X : Cx} {K : PySem.W.Frag} {C : Addr} (h : X.K = K) (c : C8.InsC K C) : CallR X (.builtin "isinstance") (fun xs H Q => ∃ a dx fs, xs = [.ref a, .ref C] ∧ H a = some (.ins C dx fs) ∧ Q (.bl true) H) := by
  subst h
  exact C8.call_isC c
/-- the class C has the method m, which keeps sp -/
def HasMe (P : Program) (w : World) (K : PySem.W.Frag) (mg : Str → Option Value) (base : Heap) (C : Addr) (m : Str) (k : Nat) (ps : List Str) (sp : Sp) : Prop :=
  ∃ (f : Addr) (fd : FuncData), Meth K C m f ∧ FnOk P w K mg base CX0 k f fd ps sp ∧ Binds K fd ps []
/-- a method by its text -/
def DefMe (K : PySem.W.Frag) (x qual : Str) (Cs : List Addr) (st : Stmt) (ps : List Str) : Prop :=
  ∃ (f : Addr) (fd : FuncData), FunD K x qual (defArgs st) (defBody st) (defScope st) [] [] f fd ∧ Binds K fd ps [] ∧ ∀ C ∈ Cs, Meth K C x f
theorem pe_methH0 {X : Cx} {C : Addr} {m : Str} {k : Nat} {ps : List Str} {sp : Sp} {o : Expr} {ta : TE} {apos pos : Pos} {pl : Sem Bool} (c : Cls X.K C) (h : HasMe X.prog X.w X.K X.mg X.base C m k ps sp) (hr : Room k X.A) (he : PE X o ta)
    (ht : eval (.Call (.Attribute o m apos) [] [] pos) X.env = (do
      let ov ← eval o X.env
      standAt apos.atName
      let (f, first) ← holding [ov] (getMethod ov m pl)
      callWith pos f first (backTo pos (starEach [] X.env)) (backToKw pos (keywordEach [] X.env)))) : PE X (.Call (.Attribute o m apos) [] [] pos) (tMeth C m sp [] (fun _ _ _ => False) ta tNil) := by
  obtain ⟨f, fd, M, F, hb⟩ := h
  exact pe_meth0 he c M F hr hb .nil pass0 ht
section
variable {τ : List (SL Kp)} {P' : PE' Kp} {ta : TE}
def bkD (cl n : Nat) (ov : Ovs) : Dk := .obj (.ins (bookI cl n ov))
theorem de_countC (T : Tx K CB CR) (cl n : Nat) (ov : Ovs) (h : DE (Zk K CB CR) ta τ fun r τ1 => r = .v (bkD cl n ov) ∧ P' (.v (.int (n : Nat))) τ1) : DE (Zk K CB CR) (tFld K ta "count") τ P' :=
  de_fldI (Z := Zk K CB CR) (fldT T (.inl rfl)) Kp.ins (fun _ _ _ _ h => h) (DE.mono h fun r τ1 ⟨e, h⟩ => ⟨_, .int n, e, by simp [bookI], by
    show P' (.v (ofPy (.int n) : Dk)) τ1
    simp only [ofPy]
    exact h⟩)
theorem de_oversC (T : Tx K CB CR) (cl n : Nat) (ov : Ovs) (h : DE (Zk K CB CR) ta τ fun r τ1 => r = .v (bkD cl n ov) ∧ P' (.v (ovsD ov)) τ1) : DE (Zk K CB CR) (tFld K ta "overs") τ P' :=
  de_fldI (Z := Zk K CB CR) (fldT T (.inr (.inl rfl))) Kp.ins (fun _ _ _ _ h => h) (DE.mono h fun r τ1 ⟨e, h⟩ => ⟨_, pOvs ov, e, by simp [bookI], by
    have : (ofPy (pOvs ov) : Dk) = ovsD ov := by simp only [pOvs, ofPy, ofPys_map, ofPys, ovsD]; rfl
    show P' (.v (ofPy (pOvs ov) : Dk)) τ1
    rw [this]
    exact h⟩)
theorem de_datesC (T : Tx K CB CR) (cl n : Nat) (ov : Ovs) (h : DE (Zk K CB CR) ta τ fun r τ1 => r = .v (bkD cl n ov) ∧ P' (.v (datesD n)) τ1) : DE (Zk K CB CR) (tFld K ta "dates") τ P' :=
  de_fldI (Z := Zk K CB CR) (fldT T (.inr (.inr (.inl rfl)))) Kp.ins (fun _ _ _ _ h => h) (DE.mono h fun r τ1 ⟨e, h⟩ => ⟨_, pDts n, e, by simp [bookI], by
    have : (ofPy (pDts n) : Dk) = datesD n := by simp only [pDts, ofPy, ofPys_map, ofPys, datesD]; rfl
    show P' (.v (ofPy (pDts n) : Dk)) τ1
    rw [this]
    exact h⟩)
theorem de_kindsC (T : Tx K CB CR) (cl n : Nat) (ov : Ovs) (h : DE (Zk K CB CR) ta τ fun r τ1 => r = .v (bkD cl n ov) ∧ P' (.v (.tup [])) τ1) : DE (Zk K CB CR) (tFld K ta "kinds") τ P' :=
  de_fldI (Z := Zk K CB CR) (fldT T (.inr (.inr (.inr rfl)))) Kp.ins (fun _ _ _ _ h => h) (DE.mono h fun r τ1 ⟨e, h⟩ => ⟨_, .tuple [], e, by simp [bookI], by
    show P' (.v (ofPy (.tuple []) : Dk)) τ1
    simp only [ofPy, ofPys]
    exact h⟩)
/-- o.m(), o a book -/
theorem de_methB {cl n : Nat} {ov : Ovs} {C : Addr} {m : Str} {S : FS Kp} {E0 : XK} (hm : m ∈ (bookI cl n ov).no) (hC : ∀ C', ClB CB CR cl C' → C' = C) (h : DE (Zk K CB CR) ta τ fun r τ1 => r = .v (bkD cl n ov) ∧ S [bkD cl n ov] fun r => P' r τ1) : DE (Zk K CB CR) (tMeth C m (spD (Zk K CB CR) S) [] E0 ta tNil) τ P' := fun H0 w E σ H Q R c => by
  refine h H0 w E σ H _ R fun r τ1 x w1 H1 ⟨e, hs⟩ n1 q1 => ?_
  subst e
  obtain ⟨R1, v1⟩ := q1
  have v1' := v1
  replace v1 : Rp (Zk K CB CR) w1 (GR (Zk K CB CR) (.v (bkD cl n ov)) w1 E τ1 H1) x (.obj (.ins (bookI cl n ov))) := v1
  cases v1 with
  | obj ho =>
    obtain ⟨a, C', dx, fs, rfl, ea, cl', hf, no⟩ := ho
    have := hC _ cl'
    subst this
    refine ⟨a, dx, fs, rfl, hide_le _ _ ea, no m hm, ?_⟩
    refine ⟨w1, _, _, R1.ok, RVs.args R1 (rs := [.v (bkD cl n ov)]) (.cons v1' .nil), hs, fun r x H' w' hp l k s o => ?_⟩
    obtain ⟨q, sg⟩ := R1.called_out l k s o
    exact c r τ1 x w' H' hp ⟨(Zk K CB CR).trans n1.le l, n1.sm.trans sg, n1.sh⟩ q
end
section
variable {τ : List (SL Kp)} {P' : PE' Kp} {ta : TE}
/-- isinstance(o, Book), o a Book -/
theorem de_isB {C : Addr} (hC : ∀ C', ClB CB CR 0 C' → C' = C) (h : DE (Zk K CB CR) ta τ fun r τ1 => ∃ n ov, r = .v (bkD 0 n ov) ∧ P' (.v (.bl true)) τ1) :
    DE (Zk K CB CR) (tCB (fun xs H Q => ∃ a dx fs, xs = [.ref a, .ref C] ∧ H a = some (.ins C dx fs) ∧ Q (.bl true) H) (tCons ta (tCons (tC (.ref C)) tNil))) τ P' := fun H0 w E σ H Q R c => by
  refine h H0 w E σ H _ R fun r τ1 x w1 H1 ⟨n, ov, e, hp⟩ n1 q1 => ?_
  subst e
  obtain ⟨R1, v1⟩ := q1
  replace v1 : Rp (Zk K CB CR) w1 (GR (Zk K CB CR) (.v (bkD 0 n ov)) w1 E τ1 H1) x (.obj (.ins (bookI 0 n ov))) := v1
  cases v1 with
  | obj ho =>
    obtain ⟨a, C', dx, fs, rfl, ea, cl', _⟩ := ho
    have := hC _ cl'
    subst this
    exact ⟨a, dx, fs, rfl, hide_le _ _ ea, c _ τ1 _ w1 H1 hp n1 ⟨R1, .bl true⟩⟩
end
/-! ### == by the own def -/
def rEqC (K : PySem.W.Frag) (C : Addr) (sp : Sp) (E : XK) : R2 := fun x y H Q => ∃ a b dx dy fs gs C', x = .ref a ∧ y = .ref b ∧ H a = some (.ins C dx fs) ∧ H b = some (.ins C' dy gs) ∧ PySem.W.notFirst K C (.ref C') = true ∧ sp [x, y] H (fun v H' => ∃ c, v = .bl c ∧ Q v H') E
theorem op_eqC {X : Cx} {C f : Addr} {fd : FuncData} {ps : List Str} {k : Nat} {sp : Sp} {E : XK} {K : PySem.W.Frag} (hK : X.K = K) (F : FnOk X.prog X.w X.K X.mg X.base CX0 k f fd ps sp) (hs : PySem.W.findIn X.K (.ref C) "__eq__" = some (some (.ref f))) (hf : PySem.W.isFn X.K (.ref f) = true) (hb : Binds X.K fd ps []) (hx : Passes CX0 X E) (hr : Room k X.A) : OpR X (compareOp .Eq) (rEqC K C sp E) := by
  subst hK
  intro pins s σ H x y u v Q I rx ry hq
  obtain ⟨a, b, dx, dy, fs, gs, C', rfl, rfl, ha, hb', hn, hsp⟩ := hq
  cases rx
  cases ry
  obtain ⟨mA, J, _⟩ := ins_get I.hok ha
  obtain ⟨mB, J', _⟩ := ins_get I.hok hb'
  obtain ⟨od, J, _⟩ := J.look
  obtain ⟨od', J', _⟩ := J'.look
  obtain ⟨m, hF⟩ := I.fr
  show wpAny (model X.prog X.w) X.A (richCompare .Eq (.ref a) (.ref b)) (EP X pins σ Q) X.xe s
  refine PySem.W.cmp_K (op := .Eq) (tb := .ref C') hr.units0 hF I.ok.mod.kin J J'.type hn hs hf ?_
  have hl := F.len _ _ _ _ hsp
  have r2 : Vals [V.ref a, V.ref b] [Value.ref a, Value.ref b] := .cons rfl (.cons rfl .nil)
  refine wpAny_call (codeAny_mono (F.run X.A X.stack s H ⟨[.ref a, .ref b], []⟩ [.ref a, .ref b] [.ref a, .ref b] _ E hr I.env0 (by
    have := hb s [.ref a, .ref b] I.kIn (by simpa using hl)
    simpa using this) r2 hsp) fun r s' hq => ?_)
  cases r with
  | error e => exact hx pins σ H s e s' I hq
  | ok fl =>
    cases fl with
    | ret w =>
      obtain ⟨z, H', I', rz, c, ez, ex⟩ := I.after hq
      subst ez
      cases rz
      exact ⟨.bl c, H', I', rfl, ex⟩
    | next => exact False.elim hq
    | brk => exact False.elim hq
    | cont => exact False.elim hq

theorem eqvAll_refl {α : Type} (f : α → PyData) (h : ∀ a, PyData.eqv (f a) (f a) = true) : ∀ xs : List α, PyData.eqvAll (xs.map f) (xs.map f) = true
  | [] => by simp [PyData.eqvAll]
  | x :: xs => by
    rw [List.map_cons]
    simp only [PyData.eqvAll, h, eqvAll_refl f h xs, Bool.and_self]
def partsD (n : Nat) (ov : Ovs) : Dk := .tup [.int (n : Nat), ovsD ov, datesD n, .tup []]
theorem eq_parts (n : Nat) (ov : Ovs) : eqD (partsD n ov) (partsD n ov) = true := by
  have e : toPy (partsD n ov) = some (.tuple [.int (n : Nat), pOvs ov, pDts n, .tuple []]) := by
    simp [partsD, toPy, toPys, py_ovs, py_dates]
  have h1 : PyData.eqvAll (ov.map fun p => PyData.tuple [.int p.1, .int p.2]) (ov.map fun p => PyData.tuple [.int p.1, .int p.2]) = true := eqvAll_refl _ (fun a => by simp [PyData.eqv, PyData.eqvAll]) ov
  have h2 : PyData.eqvAll ((List.replicate n ()).map fun _ => PyData.tuple [.none, .none]) ((List.replicate n ()).map fun _ => PyData.tuple [.none, .none]) = true := eqvAll_refl _ (fun a => by simp [PyData.eqv, PyData.eqvAll]) _
  simp only [eqD, e]
  rw [List.map_replicate] at h2
  simp [PyData.eqv, PyData.eqvAll, pOvs, pDts, h1, h2]
theorem lay_parts (n : Nat) (ov : Ovs) : lay 60 (partsD n ov) = true := by
  have h1 : lays 58 (ov.map pairD) = true := lays_map pairD ov fun p _ => rfl
  have h2 : lays 58 ((List.replicate n ()).map fun _ => dateD) = true := lays_map _ _ fun p _ => rfl
  rw [List.map_replicate] at h2
  simp [partsD, lay, lays, ovsD, datesD, h1, h2]
def S_parts : FS Kp := fun ds Q => ∃ (cl n : Nat) (ov : Ovs), ds = [bkD cl n ov] ∧ Q (.v (partsD n ov))
theorem has_parts {k : Nat} (D : DefMe K "parts" "Book.parts" [CB, CR] s_parts ["self"]) (T : Tx K CB CR) : ∀ C ∈ [CB, CR], HasMe P w K mg base C "parts" (k + 1) ["self"] (spD (Zk K CB CR) S_parts) := by
  obtain ⟨f, fd, F, hb, M⟩ := D
  refine fun C hC => ⟨f, fd, M C hC, fn_dx F sc_parts (fun ds Q h => by obtain ⟨cl, n, ov, rfl, _⟩ := h; rfl) fun cdv A outer s H E hr => ?_, hb⟩
  refine ⟨_, (pss_one (ps_ret (pe_tup (pa_cons (kpe_fld (K := K) rfl (pv 0)) (pa_cons (kpe_fld (K := K) rfl (pv 0)) (pa_cons (kpe_fld (K := K) rfl (pv 0)) (pa_cons (kpe_fld (K := K) rfl (pv 0)) pa_nil))))))), ?_⟩
  rintro ds Q ⟨cl, n, ov, rfl, h⟩
  refine dx_ret (de_tup (da_cons (de_countC T cl n ov (de_d rfl ⟨rfl, da_cons (de_oversC T cl n ov (de_d rfl ⟨rfl, da_cons (de_datesC T cl n ov (de_d rfl ⟨rfl, da_cons (de_kindsC T cl n ov (de_d rfl ⟨rfl, da_nil ⟨[.int (n : Nat), ovsD ov, datesD n, .tup []], rfl, by simp, ?_, h⟩⟩))⟩))⟩))⟩))))
  show (partsD n ov).pur = true
  simp [partsD, DL.D.pur, DL.D.purs, pur_ovs, pur_dates]
def S_beq : FS Kp := fun ds Q => ∃ (n : Nat) (ov : Ovs), ds = [bkD 1 n ov, bkD 0 n ov] ∧ Q (.v (.bl true))
def HasEq (P : Program) (w : World) (K : PySem.W.Frag) (mg : Str → Option Value) (base : Heap) (C : Addr) (k : Nat) (ps : List Str) (sp : Sp) : Prop :=
  ∃ (f : Addr) (fd : FuncData), PySem.W.findIn K (.ref C) "__eq__" = some (some (.ref f)) ∧ PySem.W.isFn K (.ref f) = true ∧ FnOk P w K mg base CX0 k f fd ps sp ∧ Binds K fd ps []
def DefEq (K : PySem.W.Frag) (x qual : Str) (C : Addr) (st : Stmt) (ps : List Str) : Prop :=
  ∃ (f : Addr) (fd : FuncData), FunD K x qual (defArgs st) (defBody st) (defScope st) [] [] f fd ∧ Binds K fd ps [] ∧ PySem.W.findIn K (.ref C) "__eq__" = some (some (.ref f)) ∧ PySem.W.isFn K (.ref f) = true
theorem has_beq {k : Nat} (D : DefEq K "__eq__" "Book.__eq__" CR s_beq ["self", "other"]) (T : Tx K CB CR) (ne : CB ≠ CR) (z_isinstance : mg "isinstance" = none) (i_Book : C8.InsC K CB) (g_Book : ∃ u, mg "Book" = some u ∧ RelV (.ref CB) u)
    (m_partsR : HasMe P w K mg base CR "parts" k ["self"] (spD (Zk K CB CR) S_parts)) (m_partsB : HasMe P w K mg base CB "parts" k ["self"] (spD (Zk K CB CR) S_parts)) : HasEq P w K mg base CR (k + 1) ["self", "other"] (spD (Zk K CB CR) S_beq) := by
  obtain ⟨f, fd, F, hb, h1, h2⟩ := D
  refine ⟨f, fd, h1, h2, fn_dx F sc_beq (fun ds Q h => by obtain ⟨n, ov, rfl, _⟩ := h; rfl) fun cdv A outer s H E hr => ?_, hb⟩
  have hu65 := hu65_of hr
  refine ⟨_, (pss_one (ps_ret (pe_and (pe_callB (L2K.kisC (K := K) rfl i_Book) (by rfl) z_isinstance (by decide +kernel) (pa_cons (pv 1) (pa_cons (C8.pe_gc (by rfl) g_Book) pa_nil))) (pe_one (pe_cmpR (kop_eq (K := K) rfl hu65) (pe_methH0 T.cR m_partsR hr (pv 0) rfl) (pe_methH0 T.cB m_partsB hr (pv 1) rfl) (nomark _)))))), ?_⟩
  rintro ds Q ⟨n, ov, rfl, h⟩
  have c0 : ∀ C', ClB CB CR 0 C' → C' = CB := fun C' h => by rcases h with ⟨_, h⟩ | ⟨z, _⟩; exact h; cases z
  have c1 : ∀ C', ClB CB CR 1 C' → C' = CR := fun C' h => by rcases h with ⟨z, _⟩ | ⟨_, h⟩; cases z; exact h
  refine dx_ret (de_andV (de_isB c0 (de_d rfl ⟨n, ov, rfl, true, rfl, iteT' rfl ?_⟩)))
  refine de_eq (de_methB (by simp [bookI]) c1 (de_d rfl ⟨rfl, 1, n, ov, rfl, de_methB (by simp [bookI]) c0 (de_d rfl ⟨rfl, 0, n, ov, rfl, partsD n ov, partsD n ov, rfl, rfl, lay_parts n ov, lay_parts n ov, ?_⟩)⟩))
  rw [eq_parts]
  exact ⟨rfl, h⟩
section
variable {τ : List (SL Kp)} {P' : PE' Kp} {ta tb : TE}
/-- a book read off == a Book of the same parts -/
theorem de_beq {E0 : XK} (hn : PySem.W.notFirst K CR (.ref CB) = true) (h : DE (Zk K CB CR) ta τ fun r τ1 => DE (Zk K CB CR) tb τ1 fun r2 τ2 => ∃ n ov, r = .v (bkD 1 n ov) ∧ r2 = .v (bkD 0 n ov) ∧ P' (.v (.bl true)) τ2) : DE (Zk K CB CR) (tOp (rEqC K CR (spD (Zk K CB CR) S_beq) E0) ta tb) τ P' := fun H0 w E σ H Q R c => by
  refine h H0 w E σ H _ R fun r τ1 x w1 H1 hs n1 q1 => ?_
  obtain ⟨R1, v1, s1⟩ := q1.fz
  refine hs H0 w1 E σ H1 _ R1 fun r2 τ2 y w2 H2 hs2 n2 q2 => ?_
  obtain ⟨n, ov, rfl, rfl, hp⟩ := hs2
  obtain ⟨R2, v2⟩ := q2
  have n12 : Nxt (Zk K CB CR) w1 w2 (Gd (Zk K CB CR) w1 E τ1 H1) (Gd (Zk K CB CR) w2 E τ2 H2) τ1 τ2 := n2
  have v1' := v1.nxt n12
  have u1 := v1'
  have u2 := v2
  replace v1' : Rp (Zk K CB CR) w2 (Gd (Zk K CB CR) w2 E τ2 H2) x (.obj (.ins (bookI 1 n ov))) := v1'
  replace v2 : Rp (Zk K CB CR) w2 (Gd (Zk K CB CR) w2 E τ2 H2) y (.obj (.ins (bookI 0 n ov))) := v2
  cases v1' with
  | obj h1 =>
    cases v2 with
    | obj h2 =>
      obtain ⟨a, C, dx, fs, rfl, ea, cl, _⟩ := h1
      obtain ⟨b, C', dy, gs, rfl, eb, cl', _⟩ := h2
      have e1 : C = CR := by rcases cl with ⟨z, _⟩ | ⟨_, h⟩; cases z; exact h
      have e2 : C' = CB := by rcases cl' with ⟨_, h⟩ | ⟨z, _⟩; exact h; cases z
      rw [e1] at ea
      rw [e2] at eb
      refine ⟨a, b, dx, dy, fs, gs, CB, rfl, rfl, hide_le _ _ ea, hide_le _ _ eb, hn, w2, _, fun r => r = .v (.bl true), R2.ok, RVs.args R2 (rs := [.v (bkD 1 n ov), .v (bkD 0 n ov)]) (.cons u1 (.cons u2 .nil)), ⟨n, ov, rfl, rfl⟩, fun r z H' w' er l k s o => ?_⟩
      subst er
      have o2 := o
      obtain ⟨q, sg⟩ := R2.called_out l k s o
      have ez : z = .bl true := by cases o2.2; rfl
      subst ez
      exact ⟨true, rfl, c _ τ2 _ w' H' hp ⟨(Zk K CB CR).trans (Nxt.trans (Zk K CB CR) ⟨n1.le, n1.sm.trans s1, n1.sh⟩ n12).le l, (Nxt.trans (Zk K CB CR) ⟨n1.le, n1.sm.trans s1, n1.sh⟩ n12).sm.trans sg, (Nxt.trans (Zk K CB CR) ⟨n1.le, n1.sm.trans s1, n1.sh⟩ n12).sh⟩ q⟩
end

end K67
set_option Elab.async false
set_option linter.all false
set_option maxRecDepth 100000
namespace K67
open PySem PySem.Spec PyProof.Rows L2 DL RZ
/-! K20: the tape -/
variable {P : Program} {w : World} {K : PySem.W.Frag} {mg : Str → Option Value} {base : Heap} {CB CR : Addr}

abbrev s__law_tape : Stmt := top 72
abbrev N__law_tape : List Str := ["script", "seed", "cell"]
theorem sc__law_tape : FnScope N__law_tape ["script"] (defScope s__law_tape) := ⟨rfl, rfl, rfl, by decide +kernel, rfl, by decide +kernel, by decide +kernel⟩
/-- the script, as it is handed in -/
def ScrAt (K : PySem.W.Frag) (G : Hp) (a : Addr) (ns : List Int) : Prop := (∃ o, G a = some (.frz o (.lst (ns.map V.int)))) ∨ SqL K (fun _ => none) a (ns.map V.int)
theorem ScrAt.sq {K : PySem.W.Frag} {G H : Hp} {a : Addr} {ns : List Int} (h : ScrAt K G a ns) (s : Same G H) : SqL K H a (ns.map V.int) := by
  rcases h with ⟨o, h⟩ | h
  · exact .inl (.inr ⟨o, s _ _ h⟩)
  · rcases h with (h | ⟨o, h⟩) | h
    · cases h
    · cases h
    · exact .inr h
/-- a world of the script alone -/
abbrev Z1 (K : PySem.W.Frag) : Wrl K where
  κ := List Int
  W := Unit
  le := fun _ _ => True
  refl := fun _ => trivial
  trans := fun _ _ => trivial
  A := fun _ => []
  Am := fun _ a m => m
  ok := fun _ _ => True
  rob := fun _ G v ns => ∃ a, v = .ref a ∧ ScrAt K G a ns
  okm := fun _ _ _ => trivial
  okt := fun _ a m => by cases m
  robm := fun _ s ⟨a, e, h⟩ => ⟨a, e, h.imp (fun ⟨o, h⟩ => ⟨o, (gp_some (s _ _ (gp_of h rfl))).1⟩) id⟩
section
variable {τ : List (SL (List Int))} {P' : PE' (List Int)} {ta : TE} {th : TO}
theorem de_lenS (h : DE (Z1 K) ta τ fun r τ1 => ∃ ns : List Int, r = .v (.obj ns) ∧ P' (.v (.int (ns.length : Nat))) τ1) : DE (Z1 K) (tCB (fun xs H Q => ∃ p ys, xs = [V.ref p] ∧ (SqL K H p ys ∨ SqT K H p ys) ∧ Q (.int ys.length) H) (tCons ta tNil)) τ P' := fun H0 w E σ H Q R c => by
  refine h H0 w E σ H _ R fun r1 τ1 x w1 H1 ⟨ns, e, k⟩ n1 q1 => ?_
  subst e
  obtain ⟨R1, v1⟩ := q1
  cases v1 with
  | obj ho =>
    obtain ⟨a, rfl, ha⟩ := ho
    refine ⟨a, ns.map V.int, rfl, .inl (ha.sq hide_le), ?_⟩
    rw [List.length_map]
    exact c _ τ1 _ w1 H1 k n1 ⟨R1, .int _⟩
theorem de_slS (h : DE (Z1 K) ta τ fun r τ1 => DO (Z1 K) th τ1 fun hi τ2 => ∃ (ns : List Int) (k : Nat), r = .v (.obj ns) ∧ hi = some (k : Int) ∧ ∀ p, P' (.n p (.lst ((ns.take k).map .int))) τ2) : DE (Z1 K) (tSl (rSlAll K) ta tNoPart th) τ P' := fun H0 w E σ H Q R c => by
  refine h H0 w E σ H _ R fun r1 τ1 x w1 H1 h1 n1 q1 => ?_
  obtain ⟨R1, v1, s1⟩ := q1.fz
  refine h1 H0 w1 E σ H1 _ R1 fun hi τ3 w3 H3 h3 n3 R3 => ?_
  obtain ⟨ns, k, rfl, rfl, hp⟩ := h3
  have n03 := Nxt.trans (Z1 K) ⟨n1.le, n1.sm.trans s1, n1.sh⟩ n3
  have vx := v1.nxt n3
  replace vx : Rp (Z1 K) w3 (Gd (Z1 K) w3 E τ3 H3) x (.obj ns) := vx
  cases vx with
  | obj ho =>
    obtain ⟨a, rfl, ha⟩ := ho
    refine .inr ⟨a, ns.map V.int, rfl, ha.sq hide_le, fun p hp' => ?_⟩
    have e : cutL (ns.map V.int) none (some (k : Int)) = (ns.take k).map V.int := by rw [cut_to, List.map_take]
    have ov : Out (Z1 K) w3 (Gd (Z1 K) w3 E τ3 H3) H3 (.ref p) (upd H3 p (.lst ((ns.take k).map V.int))) (.n p (.lst ((ns.take k).map .int))) := .lst hp' ints_rp
    rw [← e] at ov
    obtain ⟨q, s⟩ := R3.out ov
    exact c _ τ3 _ w3 _ (hp p) ⟨n03.le, n03.sm.trans s, n03.sh⟩ q
end
/-- the tape is laid -/
def spTape (K : PySem.W.Frag) : Sp := fun vs H Q _ => ∃ (a : Addr) (ns : List Int), vs = [.ref a] ∧ ScrAt K H a ns ∧ ns.length ≤ 63 ∧
  ∀ (H' : Hp) (w : Addr × Addr), okT w H' → Q (.ref w.1) H'
theorem has__law_tape {k : Nat} (D : Def K mg "_law_tape" s__law_tape ["script"]) (z_int : mg "int" = none) (z_sum : mg "sum" = none) (z_len : mg "len" = none) (z_abs : mg "abs" = none) : Has P w K mg base "_law_tape" (k + 1) ["script"] (spTape K) := by
  obtain ⟨f, fd, F, hm, hk, hb⟩ := D
  refine ⟨f, fd, F.ok sc__law_tape (fun vs H Q E h => ?_) (fun cdv A outer s H vs Q E hr h => ?_), hm, hk, hb⟩
  · obtain ⟨a, ns, rfl, _⟩ := h
    rfl
  · obtain ⟨a, ns, rfl, ha, hl, kk⟩ := h
    refine ⟨_, PSs.nox (pss_cons (ps_set (i := 1) sc__law_tape.nd rfl (by first | exact Or.inl rfl | exact Or.inr rfl) (pe_op (kop_add (K := K) rfl) (pe_op (kop_add (K := K) rfl) (pe_op op_mod (pe_callTy call_int1 (by rfl) z_int (by decide +kernel) (pa_cons (pe_callB (ksum (K := K) rfl rfl) (by rfl) z_sum (by decide +kernel) (pa_cons (pe_slice (ksl (K := K) rfl) (pv 0) po_none (po_some pe_int)) pa_nil)) pa_nil)) pe_int) (pe_callB (klen (K := K) rfl) (by rfl) z_len (by decide +kernel) (pa_cons (pv 0) pa_nil))) pe_int))
    (pss_cons (ps_for PassesOwn.never rfl (kpi_sq (K := K) rfl (pe_slice (ksl (K := K) rfl) (pv 0) po_none (po_some pe_int))) (pg_name (i := 2) sc__law_tape.nd rfl (by first | exact Or.inl rfl | exact Or.inr rfl)) (pss_one (ps_set (i := 1) sc__law_tape.nd rfl (by first | exact Or.inl rfl | exact Or.inr rfl) (pe_op op_mod (pe_callTy call_int1 (by rfl) z_int (by decide +kernel) (pa_cons (pe_op (kop_add (K := K) rfl) (pe_op (kop_add (K := K) rfl) (pe_op (kop_mul (K := K) rfl) (pv 1) pe_int) (pe_op op_mod (pe_callTy call_int1 (by rfl) z_int (by decide +kernel) (pa_cons (pv 2) pa_nil)) pe_int)) pe_int) pa_nil)) pe_int))))
    (pss_one (ps_ret (pe_lst (pa_cons (pv 1) (pa_cons pe_int (pa_cons (pe_lc (own := [("cell", 2)]) rfl sc__law_tape.nd (kpi_sq (K := K) rfl (pe_slice (ksl (K := K) rfl) (pv 0) po_none (po_some pe_int))) (blkOk_by (N := N__law_tape) (sc := defScope s__law_tape) (by decide +kernel)) (fun _ _ _ _ _ => (pg_name (i := 2) sc__law_tape.nd rfl (by first | exact Or.inl rfl | exact Or.inr rfl))) (fun _ _ _ _ _ => (pts_one (pt_cmpR op_ge (pe_callB call_abs (by rfl) z_abs (by decide +kernel) (pa_cons (pv 2) pa_nil)) (pe_op op_pow pe_int pe_int) (nomark _)))) (fun _ _ _ _ _ => (pe_callB call_abs (by rfl) z_abs (by decide +kernel) (pa_cons (pv 2) pa_nil)))) pa_nil)))))))), ?_⟩
    have R0 := rep_init (Z := Z1 K) (w := ()) (N := N__law_tape) (ds := [.obj ns]) (vs := [.ref a]) (H := H) trivial (.cons (.obj ⟨a, rfl, ha.imp (fun ⟨o, h⟩ => ⟨o, by rw [hide_out (by simp)]; exact h⟩) id⟩) .nil)
    have go : ∀ {t : TS}, DX (Z1 K) t (init [.obj ns] N__law_tape.length) { nx := fun _ => False, rt := fun r => ∃ (p : Addr) (seed : Int) (cells : List Int), r = .n p (.lst [.int seed, .int 0, .lst (cells.map .int)]) ∧ 0 ≤ seed ∧ seed < 2147483648 ∧ cells.length ≤ 63 } → ∀ {Dc : Ends},
        (∀ (H' : Hp) (w : Addr × Addr), okT w H' → Dc.rt (.ref w.1) H') → t Dc (L2.start N__law_tape [.ref a]) H := fun hd Dc hc =>
      hd _ () _ H Dc R0 (fun _ _ _ _ q => q.elim) (fun r τ' σ' x w' H' q l R' => by
        obtain ⟨p, seed, cells, rfl, b1, b2, b3⟩ := q
        obtain ⟨rfl, R'⟩ := R'
        obtain ⟨us, hp, ru⟩ := R'.pe _ List.mem_cons_self
        cases ru with
        | cons r1 ru =>
          cases ru with
          | cons r2 ru =>
            cases ru with
            | cons r3 ru =>
              cases ru
              cases r1
              cases r2
              cases r3 with
              | @lst c us _ hc' rc =>
                rw [rp_ints rc] at hc'
                have hc2 := hide_le _ _ hc'
                refine hc H' (p, c) ⟨seed, 0, cells, hp, hc2, fun z => ?_, b1, b2, b3⟩
                have z : p = c := z
                rw [z, hc2] at hp
                have := congrArg (fun u => match u with | some (HO.lst xs) => xs[2]? | _ => none) hp
                cases cells with
                | nil => simp at this
                | cons c0 cells =>
                  cases cells with
                  | nil => simp at this
                  | cons c1 cells =>
                    cases cells with
                    | nil => simp at this
                    | cons c2 cells => simp at this) (fun _ _ _ _ q => q.elim) (fun _ _ _ _ q => q.elim)
    refine go ?_ fun H' w h => kk H' w h
    refine dx_seq (dx_asg (de_addI (de_addI (de_op bs_I (de_cb bs_int (da_cons (de_cb bs_sum (da_cons (de_slS (de_d rfl (do_some (de_int ⟨1, rfl, ns, 1, rfl, rfl, fun p => da_nil ⟨ns.take 1, rfl, da_nil ⟨_, rfl, de_int ⟨by show (0 : Int) < 1000003; decide, _, rfl, de_lenS (de_d rfl ⟨ns, rfl, _, rfl, _, rfl, de_int ⟨1, rfl, ?_⟩⟩)⟩⟩⟩⟩))))))))))))
    have hs0 : 0 ≤ (ns.take 1).sum % 1000003 + (ns.length : Nat) + 1 ∧ (ns.take 1).sum % 1000003 + (ns.length : Nat) + 1 < 2147483648 := by omega
    generalize (ns.take 1).sum % 1000003 + (ns.length : Nat) + 1 = seed0 at hs0
    refine dx_seq (dx_forE (α := Int) [2] .int (di_sq (de_slS (de_d rfl (do_some (de_int ⟨63, rfl, ns, 63, rfl, rfl, fun p => ⟨((ns.take 63).map .int, none), rfl, ns.take 63, rfl, fun i τ2 => ∃ seed x, τ2 = [.d (.obj ns), .d (.int seed), x] ∧ (x = .u ∨ ∃ d, x = .d d) ∧ 0 ≤ seed ∧ seed < 2147483648, ⟨seed0, .u, rfl, .inl rfl, hs0.1, hs0.2⟩, fun _ _ _ => trivial, ?_, ?_⟩⟩))))))
    · rintro i a τ2 hq ⟨seed, x, rfl, hx, b1, b2⟩
      refine dg_nm rfl (dx_asg (de_op bs_I (de_cb bs_int (da_cons (de_addI (de_addI (de_op bs_mul (de_d rfl (de_int ⟨?_, _, rfl, de_op bs_I (de_cb bs_int (da_cons (de_d rfl (da_nil ⟨a, rfl, de_int ⟨?_, _, rfl, _, rfl, de_int ⟨11, rfl, da_nil ⟨_, rfl, de_int ⟨?_, _, _, rfl, .inr ⟨_, rfl⟩, ?_, ?_⟩⟩⟩⟩⟩))))⟩)))))))))
      · exact .inr ⟨by decide, by decide⟩
      · show (0 : Int) < 2147483629; decide
      · show (0 : Int) < 2147483647; decide
      · omega
      · omega
    · rintro τ2 ⟨seed, x, rfl, hx, b1, b2⟩
      refine dx_ret (de_lst (da_cons (de_d rfl (da_cons (de_int (da_cons (de_lcF .int (fun c : Int => decide ((c.natAbs : Int) ≥ 10 ^ 18)) (fun c => .int (c.natAbs : Nat)) (di_sq (de_slS (de_d rfl (do_some (de_int ⟨63, rfl, ns, 63, rfl, rfl, fun p => ⟨((ns.take 63).map .int, none), rfl, ns.take 63, rfl, fun c hc => dg_nm rfl ?_, ?_, ?_, rfl, fun p2 => da_nil ⟨[.int seed, .int 0, .lst (((ns.take 63).filter fun c : Int => decide ((c.natAbs : Int) ≥ 10 ^ 18)).map fun c => .int (c.natAbs : Nat))], rfl, by simp, fun p3 => ⟨p3, seed, ((ns.take 63).filter fun c : Int => decide ((c.natAbs : Int) ≥ 10 ^ 18)).map fun c => ((c.natAbs : Nat) : Int), ?_, b1, b2, ?_⟩⟩⟩⟩))))))))))))
      · refine dt_test (de_B0 (de_cb bs_abs (da_cons (de_d rfl (da_nil ⟨c, rfl, _, rfl, de_op bs_I (de_int (de_int ⟨⟨by decide, by decide, by decide⟩, _, rfl, _, rfl, rfl, rfl, fun _ => de_cb bs_abs (da_cons (de_d rfl (da_nil ⟨c, rfl, rfl, rfl⟩)))⟩))⟩)))))
      · rcases hx with rfl | ⟨d, rfl⟩ <;> rfl
      · rw [List.length_take]; omega
      · simp [fz, OC.dat, DL.ret, Function.comp_def]
      · rw [List.length_map]
        refine Nat.le_trans (List.length_filter_le _ _) ?_
        rw [List.length_take]; omega

end K67
set_option Elab.async false
set_option linter.all false
set_option maxRecDepth 100000
namespace K67
open PySem PySem.Spec PyProof.Rows L2 DL RZ
/-! K21: a draw -/
variable {P : Program} {w : World} {K : PySem.W.Frag} {mg : Str → Option Value} {base : Heap} {CB CR : Addr}

abbrev s__law_draw : Stmt := top 73
abbrev N__law_draw : List Str := ["tape", "many", "cells", "mixed", "digit"]
theorem sc__law_draw : FnScope N__law_draw ["tape", "many"] (defScope s__law_draw) := ⟨rfl, rfl, rfl, by decide +kernel, rfl, by decide +kernel, by decide +kernel⟩
def S_draw : FS Kp := fun ds Q => ∃ m : Nat, ds = [.obj .tape, .int (m : Nat)] ∧ 1 ≤ m ∧ m ≤ 1000 ∧ ∀ i : Nat, i < m → Q (.v (.int (i : Nat)))
theorem has__law_draw {k : Nat} (D : Def K mg "_law_draw" s__law_draw ["tape", "many"]) (z_len : mg "len" = none) (z_int : mg "int" = none) : Has P w K mg base "_law_draw" (k + 1) ["tape", "many"] (spD (Zk K CB CR) S_draw) := by
  obtain ⟨f, fd, F, hm, hk, hb⟩ := D
  refine ⟨f, fd, F.ok sc__law_draw (fun vs H Q E h => ?_) (fun cdv A outer s H vs Q E hr h => ?_), hm, hk, hb⟩
  · obtain ⟨w, ds, P, _, r, ⟨m, e, _⟩, _⟩ := h
    rw [r.length, e] <;> rfl
  · obtain ⟨⟨tp, c⟩, ds, P, ok, r, ⟨m, rfl, m1, m2, hP⟩, kk⟩ := h
    have hu65 := hu65_of hr
    refine ⟨_, PSs.nox (pss_cons (ps_asg (pe_op (kop_add (K := K) rfl) (pe_ix (kix (K := K) rfl) (pv 0) pe_int (fun _ _ => rfl)) pe_int) (pg_sub (pv 0) pe_int set_list))
    (pss_cons (ps_set (i := 2) sc__law_draw.nd rfl (by first | exact Or.inl rfl | exact Or.inr rfl) (pe_ix (kix (K := K) rfl) (pv 0) pe_int (fun _ _ => rfl)))
    (pss_cons (ps_if (pt_cmpR op_gt (pe_callB (klen (K := K) rfl) (by rfl) z_len (by decide +kernel) (pa_cons (pv 2) pa_nil)) pe_int (nomark _)) (pss_cons (ps_set (i := 4) sc__law_draw.nd rfl (by first | exact Or.inl rfl | exact Or.inr rfl) (pe_op op_mod (pe_callTy call_int1 (by rfl) z_int (by decide +kernel) (pa_cons (pe_ix (kix (K := K) rfl) (pv 2) pe_int (fun _ _ => rfl)) pa_nil)) (pv 1)))
    (pss_cons (ps_asg (pe_op op_fdiv (pe_ix (kix (K := K) rfl) (pv 2) pe_int (fun _ _ => rfl)) (pv 1)) (pg_sub (pv 2) pe_int set_list))
    (pss_cons (ps_if (pt_cmpR (kop_eq (K := K) rfl hu65) (pe_ix (kix (K := K) rfl) (pv 2) pe_int (fun _ _ => rfl)) pe_int (nomark _)) (pss_one (ps_expr (kpe_bm (K := K) rfl PySem.F.plainAttrs_list PySem.F.slot_list_pop PySem.F.type_list_pop mt_popAt (pv 2) (pa_cons pe_int pa_nil)))) pss_nil)
    (pss_one (ps_ret (pv 4)))))) pss_nil)
    (pss_cons (ps_set (i := 3) sc__law_draw.nd rfl (by first | exact Or.inl rfl | exact Or.inr rfl) (pe_op op_mod (pe_callTy call_int1 (by rfl) z_int (by decide +kernel) (pa_cons (pe_op (kop_mul (K := K) rfl) (pe_op (kop_add (K := K) rfl) (pe_ix (kix (K := K) rfl) (pv 0) pe_int (fun _ _ => rfl)) (pe_op (kop_mul (K := K) rfl) pe_int (pe_ix (kix (K := K) rfl) (pv 0) pe_int (fun _ _ => rfl)))) pe_int) pa_nil)) pe_int))
    (pss_cons (ps_set (i := 3) sc__law_draw.nd rfl (by first | exact Or.inl rfl | exact Or.inr rfl) (pe_op op_mod (pe_callTy call_int1 (by rfl) z_int (by decide +kernel) (pa_cons (pe_op (kop_mul (K := K) rfl) (pv 3) (pe_op (kop_add (K := K) rfl) (pe_op op_fdiv (pv 3) pe_int) pe_int)) pa_nil)) pe_int))
    (pss_cons (ps_set (i := 3) sc__law_draw.nd rfl (by first | exact Or.inl rfl | exact Or.inr rfl) (pe_op op_mod (pe_callTy call_int1 (by rfl) z_int (by decide +kernel) (pa_cons (pe_op (kop_mul (K := K) rfl) (pv 3) (pe_op (kop_add (K := K) rfl) (pe_op op_fdiv (pv 3) pe_int) pe_int)) pa_nil)) pe_int))
    (pss_one (ps_ret (pe_op op_mod (pe_callTy call_int1 (by rfl) z_int (by decide +kernel) (pa_cons (pe_op op_fdiv (pv 3) pe_int) pa_nil)) (pv 1)))))))))), ?_⟩
    obtain ⟨seed, n, cells, h1, h2, hne, b1, b2, b3⟩ := ok
    replace h1 : H tp = some (.lst [.int seed, .int n, .ref c]) := h1
    replace h2 : H c = some (.lst (cells.map .int)) := h2
    replace hne : tp ≠ c := hne
    replace r : RpA (Zk K CB CR) (tp, c) (hide ((Zk K CB CR).A (tp, c)) H) vs [(.obj .tape : DL.D (Zk K CB CR).κ), .int (m : Nat)] := r
    cases r with
    | @cons v1 _ _ _ r1 r =>
      cases r with
      | @cons v2 _ _ _ r2 r =>
        cases r
        cases r2
        cases r1 with
        | obj ho =>
          have ho : v1 = .ref tp := ho
          subst ho
          -- what is handed back
          have fin : ∀ (i : Nat) (H' : Hp) (n' : Int) (cells' : List Int), i < m → H' tp = some (.lst [.int seed, .int n', .ref c]) → H' c = some (.lst (cells'.map .int)) → cells'.length ≤ 63 → (∀ a, a ≠ tp → a ≠ c → H' a = H a) → Q (.int (i : Nat)) H' := fun i H' n' cells' hi g1 g2 g3 g4 => by
            refine kk (.v (.int (i : Nat))) (.int (i : Nat)) H' (tp, c) (hP i hi) rfl ⟨seed, n', cells', g1, g2, hne, b1, b2, g3⟩ (fun a o h => ?_) ⟨rfl, .int _⟩
            obtain ⟨z1, z2⟩ := hide_some h
            have y1 : a ≠ tp := fun e => z1 (by rw [e]; simp)
            have y2 : a ≠ c := fun e => z1 (by rw [e]; simp)
            rw [hide_out z1, g4 a y1 y2]
            exact z2
          refine ⟨.ref tp, rfl, .inl ⟨tp, _, 1, .int n, rfl, rfl, SqL.of h1, rfl, .inl ⟨n, 1, rfl, rfl, ⟨.ref tp, rfl, tp, _, 1, 1, rfl, rfl, h1, rfl, ?_⟩⟩⟩⟩
          have k1 : upd H tp (.lst [.int seed, .int (n + 1), .ref c]) tp = some (.lst [.int seed, .int (n + 1), .ref c]) := upd_same
          have k2 : upd H tp (.lst [.int seed, .int (n + 1), .ref c]) c = some (.lst (cells.map .int)) := by rw [upd_ne hne.symm]; exact h2
          have k3 : ∀ a, a ≠ tp → a ≠ c → upd H tp (.lst [.int seed, .int (n + 1), .ref c]) a = H a := fun a x _ => upd_ne x
          show tSeq _ _ _ _ (upd H tp (.lst [.int seed, .int (n + 1), .ref c]))
          generalize upd H tp (.lst [.int seed, .int (n + 1), .ref c]) = H1 at k1 k2 k3
          refine ⟨.ref tp, rfl, .inl ⟨tp, _, 2, .ref c, rfl, rfl, SqL.of k1, rfl, ?_⟩⟩
          refine ⟨.ref c, rfl, ⟨c, _, rfl, .inl (SqL.of k2), ?_⟩⟩
          cases cells with
          | nil =>
            refine ⟨((0 : Nat) : Int), 0, rfl, rfl, false, rfl, ?_⟩
            refine iteF ?_
            refine ⟨.ref tp, rfl, .inl ⟨tp, _, 0, .int seed, rfl, rfl, SqL.of k1, rfl, ?_⟩⟩
            refine ⟨.ref tp, rfl, .inl ⟨tp, _, 1, .int (n + 1), rfl, rfl, SqL.of k1, rfl, .inl ⟨7919, n + 1, rfl, rfl, .inl ⟨by decide, by decide⟩, .inl ⟨seed, _, rfl, rfl, .inl ⟨_, 48271, rfl, rfl, .inr ⟨by decide, by decide⟩, .inl ⟨_, rfl, _, 2147483647, rfl, rfl, by show (0 : Int) < 2147483647; decide, ?_⟩⟩⟩⟩⟩⟩
            have g1 : ((seed + 7919 * (n + 1)) * 48271) % 2147483647 < 2147483647 ∧ 0 ≤ ((seed + 7919 * (n + 1)) * 48271) % 2147483647 := by omega
            show tSeq _ _ _ (List.set _ 3 (some (.int (((seed + 7919 * (n + 1)) * 48271) % 2147483647)))) _
            generalize ((seed + 7919 * (n + 1)) * 48271) % 2147483647 = x1 at g1
            have cd : ∀ j : Int, 0 < j → j < 1073741824 → CDiv x1 j := fun j a b => ⟨a, b⟩
            refine ⟨.int x1, rfl, .int x1, rfl, ⟨x1, 1009, rfl, rfl, ⟨by decide, by decide⟩, .inl ⟨_, 69621, rfl, rfl, .inl ⟨x1, _, rfl, rfl, .inl ⟨by omega, by omega⟩, .inl ⟨_, rfl, _, 2147483647, rfl, rfl, by show (0 : Int) < 2147483647; decide, ?_⟩⟩⟩⟩⟩
            have g2 : (x1 * (x1 / 1009 + 69621)) % 2147483647 < 2147483647 ∧ 0 ≤ (x1 * (x1 / 1009 + 69621)) % 2147483647 := ⟨Int.emod_lt_of_pos _ (by decide), Int.emod_nonneg _ (by decide)⟩
            show tSeq _ _ _ (List.set _ 3 (some (.int ((x1 * (x1 / 1009 + 69621)) % 2147483647)))) _
            generalize (x1 * (x1 / 1009 + 69621)) % 2147483647 = x2 at g2
            refine ⟨.int x2, rfl, .int x2, rfl, ⟨x2, 2003, rfl, rfl, ⟨by decide, by decide⟩, .inl ⟨_, 40692, rfl, rfl, .inl ⟨x2, _, rfl, rfl, .inl ⟨by omega, by omega⟩, .inl ⟨_, rfl, _, 2147483399, rfl, rfl, by show (0 : Int) < 2147483399; decide, ?_⟩⟩⟩⟩⟩
            refine ⟨.int ((x2 * (x2 / 2003 + 40692)) % 2147483399), rfl, ⟨(x2 * (x2 / 2003 + 40692)) % 2147483399, 16, rfl, rfl, ⟨by decide, by decide⟩, .inl ⟨_, rfl, .int (m : Nat), rfl, _, (m : Nat), rfl, rfl, by show (0 : Int) < (m : Nat); omega, ?_⟩⟩⟩
            generalize (x2 * (x2 / 2003 + 40692)) % 2147483399 = x3
            have e : x3 / 16 % (m : Nat) = (((x3 / 16 % (m : Nat)).toNat : Nat) : Int) := by
              have := Int.emod_nonneg (x3 / 16) (show ((m : Nat) : Int) ≠ 0 by omega)
              omega
            show Q (.int (x3 / 16 % (m : Nat))) H1
            rw [e]
            have lt : (x3 / 16 % (m : Nat)).toNat < m := by
              have := Int.emod_lt_of_pos (x3 / 16) (show (0 : Int) < (m : Nat) by omega)
              have := Int.emod_nonneg (x3 / 16) (show ((m : Nat) : Int) ≠ 0 by omega)
              omega
            exact fin _ H1 (n + 1) [] lt k1 k2 (by simp) k3
          | cons c0 cs =>
            refine ⟨(((c0 :: cs).map V.int).length : Int), 0, rfl, rfl, true, ?_, ?_⟩
            · show V.bl (decide (((c0 :: cs).map V.int).length > (0 : Int))) = _
              rw [decide_eq_true (by rw [List.length_map, List.length_cons]; omega)]
            refine iteT ?_
            refine ⟨.ref c, rfl, .inl ⟨c, _, 0, .int c0, rfl, rfl, SqL.of k2, ?_, .inl ⟨c0, rfl, .int (m : Nat), rfl, c0, (m : Nat), rfl, rfl, by show (0 : Int) < (m : Nat); omega, ?_⟩⟩⟩
            · show atI (V.int c0 :: cs.map V.int) 0 = _
              exact atI_nat (j := 0) rfl
            refine ⟨.ref c, rfl, .inl ⟨c, _, 0, .int c0, rfl, rfl, SqL.of k2, ?_, .int (m : Nat), rfl, c0, (m : Nat), rfl, rfl, ⟨by omega, by omega⟩, ⟨.ref c, rfl, c, _, 0, 0, rfl, rfl, k2, ?_, ?_⟩⟩⟩
            · show atI (V.int c0 :: cs.map V.int) 0 = _
              exact atI_nat (j := 0) rfl
            · show ixN (V.int c0 :: cs.map V.int).length 0 = _
              unfold ixN
              rw [if_pos (Int.le_refl 0), if_pos (by rw [List.length_cons]; omega)] <;> rfl
            have e : c0 % (m : Nat) = (((c0 % (m : Nat)).toNat : Nat) : Int) := by
              have := Int.emod_nonneg c0 (show ((m : Nat) : Int) ≠ 0 by omega)
              omega
            have lt : (c0 % (m : Nat)).toNat < m := by
              have := Int.emod_lt_of_pos c0 (show (0 : Int) < (m : Nat) by omega)
              have := Int.emod_nonneg c0 (show ((m : Nat) : Int) ≠ 0 by omega)
              omega
            have j1 : upd H1 c (.lst (((c0 :: cs).map V.int).set 0 (.int (c0 / (m : Nat))))) tp = some (.lst [.int seed, .int (n + 1), .ref c]) := by rw [upd_ne hne]; exact k1
            have j2 : upd H1 c (.lst (((c0 :: cs).map V.int).set 0 (.int (c0 / (m : Nat))))) c = some (.lst (((c0 / (m : Nat)) :: cs).map .int)) := upd_same
            have j3 : ∀ a, a ≠ tp → a ≠ c → upd H1 c (.lst (((c0 :: cs).map V.int).set 0 (.int (c0 / (m : Nat))))) a = H a := fun a x y => by rw [upd_ne y]; exact k3 a x y
            show tSeq _ _ _ (List.set _ 4 (some (.int (c0 % (m : Nat))))) (upd H1 c (.lst (((c0 :: cs).map V.int).set 0 (.int (c0 / (m : Nat))))))
            generalize upd H1 c (.lst (((c0 :: cs).map V.int).set 0 (.int (c0 / (m : Nat))))) = H2 at j1 j2 j3
            have hlen : cs.length ≤ 62 := by have : (c0 :: cs).length ≤ 63 := b3; rw [List.length_cons] at this; omega
            refine ⟨.ref c, rfl, .inl ⟨c, _, 0, .int (c0 / (m : Nat)), rfl, rfl, SqL.of j2, ?_, .int (c0 / (m : Nat)), .int 0, .int _, .int _, rfl, rfl, decide (c0 / (m : Nat) = 0), ?_, ?_⟩⟩
            · show atI (V.int (c0 / (m : Nat)) :: cs.map V.int) 0 = _
              exact atI_nat (j := 0) rfl
            · rw [eqv_int]
            by_cases hz : c0 / (m : Nat) = 0
            · rw [decide_eq_true hz]
              refine iteT ?_
              refine ⟨.ref c, rfl, Or.inl ⟨rfl, _, SqL.of j2⟩, c, _, 0, 0, .int (c0 / (m : Nat)), rfl, rfl, j2, by decide, by decide, ?_, rfl, ?_⟩
              · show seqIndex? 0 (V.int (c0 / (m : Nat)) :: cs.map V.int).length = _
                exact (ixN_seq (i := 0) (by unfold ixN; rw [if_pos (Int.le_refl 0), if_pos (by rw [List.length_cons]; omega)] <;> rfl)).1
              · refine ⟨_, rfl, ?_⟩
                show Q (.int (c0 % (m : Nat))) _
                rw [e]
                refine fin _ _ (n + 1) cs lt (by rw [upd_ne hne]; exact j1) upd_same (by omega) (fun a x y => by rw [upd_ne y]; exact j3 a x y)
            · rw [decide_eq_false hz]
              refine iteF ⟨_, rfl, ?_⟩
              show Q (.int (c0 % (m : Nat))) _
              rw [e]
              exact fin _ _ (n + 1) ((c0 / (m : Nat)) :: cs) lt j1 j2 (by rw [List.length_cons]; omega) j3

end K67
set_option Elab.async false
set_option linter.all false
set_option maxRecDepth 100000
namespace K67
open PySem PySem.Spec PyProof.Rows L2 DL RZ
/-! K22: the law: drawn, judged -/
variable {P : Program} {w : World} {K : PySem.W.Frag} {mg : Str → Option Value} {base : Heap} {CB CR : Addr}

theorem cut1 {α : Type} (xs : List α) : cutL xs (some (1 : Int)) none = xs.drop 1 := cut_from xs 1
theorem cutT1 {α : Type} (xs : List α) : cutL xs none (some (1 : Int)) = xs.take 1 := cut_to xs 1
def laidOk (g : Grid) (xs : List Int) : Bool := (ovG g).all fun p => decide (xs.idxOf p.2 < xs.idxOf p.1)
def wD (xs : List Int) : Dk := .wtup (xs.map .int)
theorem wld (xs : List Int) : LD (wD xs) (intsD xs) := .wtup (LDs.refl _)
theorem map_eras {α β : Type} (f : α → β) : ∀ (xs : List α) (i : Nat), (xs.map f).eraseIdx i = (xs.eraseIdx i).map f
  | [], _ => rfl
  | _ :: _, 0 => rfl
  | x :: xs, i + 1 => by
    rw [List.map_cons, List.eraseIdx_cons_succ, List.eraseIdx_cons_succ, List.map_cons, map_eras f xs i]
theorem eras_perm {xs : List Int} {i : Nat} {y : Int} (h : xs[i]? = some y) : (y :: xs.eraseIdx i).Perm xs := by
  induction xs generalizing i with
  | nil => simp at h
  | cons x xs ih =>
    cases i with
    | zero =>
      simp at h
      subst h
      exact List.Perm.refl _
    | succ i =>
      rw [List.eraseIdx_cons_succ]
      exact (List.Perm.swap x y _).trans ((ih (by simpa using h)).cons x)

def S__law_draw : FS Kp := S_draw
def S__law_shuffled : FS Kp := fun ds Q => ∃ (d : Dk) (xs : List Int), ds = [.obj .tape, d] ∧ seqD d = some (xs.map .int) ∧ xs.length ≤ 100 ∧ ∀ (ys : List Int) p, ys.Perm xs → Q (.n p (.lst (ys.map .int)))
abbrev s__law_shuffled : Stmt := top 74
abbrev N__law_shuffled : List Str := ["tape", "things", "left", "found"]
theorem sc__law_shuffled : FnScope N__law_shuffled ["tape", "things"] (defScope s__law_shuffled) := ⟨rfl, rfl, rfl, by decide +kernel, rfl, by decide +kernel, by decide +kernel⟩
theorem has__law_shuffled {k : Nat} (D : Def K mg "_law_shuffled" s__law_shuffled ["tape", "things"]) (z_list : mg "list" = none) (z_len : mg "len" = none) (h__law_draw : Has P w K mg base "_law_draw" k ["tape", "many"] (spD (Zk K CB CR) S__law_draw)) (T : Tx K CB CR) : Has P w K mg base "_law_shuffled" (k + 1) ["tape", "things"] (spD (Zk K CB CR) S__law_shuffled) := by
  refine D.has sc__law_shuffled ?hl fun f cdv A outer s H E hr => ?bod
  case bod =>
    have hu1 := hu_of hr
    have hu0 := hu0_of hr
    have hu65 := hu65_of hr
    refine ⟨_, (pss_cons (ps_par (i := 2) (j := 3) rfl sc__law_shuffled.nd rfl rfl (by decide) rfl rfl (pa_cons (pe_callTy (klist (K := K) rfl) (by rfl) z_list (by decide +kernel) (pa_cons (pv 1) pa_nil)) (pa_cons (pe_lst pa_nil) pa_nil)) (by rfl))
    (pss_cons (ps_while PassesOwn.never (pt_cmpR op_gt (pe_callB (klen (K := K) rfl) (by rfl) z_len (by decide +kernel) (pa_cons (pv 2) pa_nil)) pe_int (nomark _)) (pss_one (ps_expr (kpe_bm (K := K) rfl PySem.F.plainAttrs_list PySem.F.slot_list_append PySem.F.type_list_append mt_append (pv 3) (pa_cons (kpe_bm (K := K) rfl PySem.F.plainAttrs_list PySem.F.slot_list_pop PySem.F.type_list_pop mt_popAt (pv 2) (pa_cons (pe_callH h__law_draw hr (by rfl) (pa_cons (pv 0) (pa_cons (pe_callB (klen (K := K) rfl) (by rfl) z_len (by decide +kernel) (pa_cons (pv 2) pa_nil)) pa_nil))) pa_nil)) pa_nil)))))
    (pss_one (ps_ret (pv 3))))), ?_⟩
    rintro ds Q ⟨d, xs, rfl, hd, hx, h⟩
    refine dx_seq (dx_par (dao_cons (de_cb bs_list (da_cons (de_d rfl (da_nil ⟨_, _, rfl, hd, fun pl => ⟨rfl, dao_cons (de_lst (da_nil ⟨[], rfl, by simp, fun pf => ⟨rfl, dao_nil ⟨_, _, rfl, ?_⟩⟩⟩))⟩⟩))))))
    refine dx_seq (dx_while (fun m τ2 => ∃ left found : List Int, τ2 = [.d (.obj .tape), .d d, .own pl (.lst (left.map .int)), .own pf (.lst (found.map .int))] ∧ (found ++ left).Perm xs ∧ m = left.length) ⟨xs.length, xs, [], rfl, by simp, rfl⟩ ?_)
    rintro m τ2 ⟨left, found, rfl, hp, rfl⟩
    have hl := hp.length_eq
    rw [List.length_append] at hl
    refine dt_test (de_B0 (de_len (de_o rfl ⟨_, rfl, _, rfl, de_int ⟨0, rfl, _, rfl, ?_⟩⟩)))
    rw [List.length_map]
    cases left with
    | nil =>
      refine iteF' rfl (dx_ret (de_o rfl ⟨purs_ints _, h found pf (by simpa using hp)⟩))
    | cons a r =>
      refine iteT' (decide_eq_true (by rw [List.length_cons]; omega)) ?_
      refine dx_drop (de_append ⟨_, _, rfl⟩ (de_ml bm_pop ⟨_, _, rfl⟩ (da_cons (de_call (da_cons (de_d rfl (da_cons (de_len (de_o rfl ⟨_, rfl, da_nil ⟨(a :: r).length, ?_, by rw [List.length_cons]; omega, by omega, fun i hi => ?_⟩⟩)))))))))
      · rw [List.length_map] <;> rfl
      obtain ⟨y, hy⟩ : ∃ y, (a :: r)[i]? = some y := ⟨_, List.getElem?_eq_getElem hi⟩
      have hyd : ((a :: r).map (.int : Int → Dk))[i]? = some (.int y) := by rw [List.getElem?_map, hy] <;> rfl
      have hix : seqIndex? ((i : Nat) : Int) ((a :: r).map (.int : Int → Dk)).length = some i := (ixN_seq (i := ((i : Nat) : Int)) (by unfold ixN; rw [if_pos (by omega), if_pos (by rw [List.length_map]; omega)]; simp)).1
      have her := eras_perm hy
      have hel := her.length_eq
      rw [List.length_cons] at hel
      refine da_nil ⟨pl, (a :: r).map .int, rfl, (i : Nat), i, .int y, rfl, by omega, by omega, hix, hyd, pf, found.map .int, .int y, rfl, rfl, by rw [List.length_map]; omega, ((a :: r).eraseIdx i).length, by omega, (a :: r).eraseIdx i, found ++ [y], ?_, ?_, rfl⟩
      · rw [List.map_append, ← map_eras]
        rfl
      · rw [List.append_assoc]
        exact ((List.Perm.append_left found her)).trans hp
  case hl =>
    rintro ds Q ⟨d, xs, rfl, _⟩
    rfl


def S__law_overs : FS Kp := fun ds Q => ∃ (d : Dk) (g : Grid), ds = [d] ∧ seqD d = some (g.map intsD) ∧ (pairsOf g).length ≤ 100 ∧ (∀ c ∈ g, c.length ≤ 16) ∧ g.length ≤ 20 ∧ Q (.v (ovsD (ovG g)))
abbrev s__law_overs : Stmt := top 76
abbrev N__law_overs : List Str := ["grid", "found", "column", "a", "b"]
theorem sc__law_overs : FnScope N__law_overs ["grid"] (defScope s__law_overs) := ⟨rfl, rfl, rfl, by decide +kernel, rfl, by decide +kernel, by decide +kernel⟩
theorem has__law_overs {k : Nat} (D : Def K mg "_law_overs" s__law_overs ["grid"]) (z_zip : mg "zip" = none) (z_tuple : mg "tuple" = none) (z_sorted : mg "sorted" = none) (z_set : mg "set" = none) (T : Tx K CB CR) : Has P w K mg base "_law_overs" (k + 1) ["grid"] (spD (Zk K CB CR) S__law_overs) := by
  refine D.has sc__law_overs ?hl fun f cdv A outer s H E hr => ?bod
  case bod =>
    have hu1 := hu_of hr
    have hu0 := hu0_of hr
    have hu65 := hu65_of hr
    refine ⟨_, (pss_cons (ps_set (i := 1) sc__law_overs.nd rfl (by first | exact Or.inl rfl | exact Or.inr rfl) (pe_lst pa_nil))
    (pss_cons (ps_for PassesOwn.never rfl (kpi_sq (K := K) rfl (pv 0)) (pg_name (i := 2) sc__law_overs.nd rfl (by first | exact Or.inl rfl | exact Or.inr rfl)) (pss_one (ps_expr (kpe_bm (K := K) rfl PySem.F.plainAttrs_list PySem.F.slot_list_extend PySem.F.type_list_extend mt_extend (pv 1) (pa_cons (pe_lc (own := [("a", 3), ("b", 4)]) rfl sc__law_overs.nd (kpi_zip (K := K) rfl (by rfl) z_zip (pa_cons (pv 2) (pa_cons (pe_slice (ksl (K := K) rfl) (pv 2) (po_some pe_int) po_none) pa_nil))) (blkOk_by (N := N__law_overs) (sc := defScope s__law_overs) (by decide +kernel)) (fun _ _ _ _ _ => (kpg_tup (K := K) (n := 2) rfl rfl (pgs_cons (pg_name (i := 3) sc__law_overs.nd rfl (by first | exact Or.inl rfl | exact Or.inr rfl)) (pgs_cons (pg_name (i := 4) sc__law_overs.nd rfl (by first | exact Or.inl rfl | exact Or.inr rfl)) pgs_nil)))) (fun _ _ _ _ _ => pts_nil) (fun _ _ _ _ _ => (pe_tup (pa_cons (pv 3) (pa_cons (pv 4) pa_nil))))) pa_nil)))))
    (pss_one (ps_ret (kpe_tupleOf (K := K) rfl (by rfl) z_tuple (pe_srtSet (K := K) rfl (by rfl) z_sorted (by rfl) z_set hu65 (pv 1))))))), ?_⟩
    rintro ds Q ⟨d, g, rfl, hd, h1, h2, h3, h⟩
    refine dx_seq (dx_asg (de_lst (da_nil ⟨[], rfl, by simp, fun pf => ?_⟩)))
    refine dx_seq (dx_forE (α := List Int) [2] intsD (di_sq (de_d rfl ⟨(g.map intsD, none), len_of hd _, g, rfl, fun i τ2 => ∃ x, τ2 = [.d d, .own pf (.lst ((pairsOf (g.take i)).map pairD)), x, .u, .u], ⟨.u, rfl⟩, fun _ _ _ => trivial, ?_, ?_⟩)))
    · rintro i c τ2 hq ⟨x, rfl⟩
      have hc := h2 c (List.mem_of_getElem? hq)
      have hb := flat_le (fun c : List Int => c.zip (c.drop 1)) g i
      have hb2 : (pairsOf (g.take i)).length ≤ 100 := Nat.le_trans hb h1
      refine dg_nm rfl (dx_drop (de_extend ⟨_, _, rfl⟩ (de_lcM (α := Int × Int) (fun p => .tup [.int p.1, .int p.2]) pairD (di_zip (da_cons (de_d rfl (da_cons (de_sl (de_d rfl (do_some (de_int ⟨1, rfl, do_none ?_⟩)))))))))))
      refine da_nil ⟨_, _, (c.map .int, none), ((c.drop 1).map .int, none), rfl, rfl, ?_, rfl, .inl rfl, c.zip (c.drop 1), zip_map _ _ _ _, fun p hp => dg_tp rfl (dgs_cn (dg_nm rfl (dgs_cn (dg_nm rfl (dgs_nl (de_tup (da_cons (de_d rfl (da_cons (de_d rfl (da_nil ⟨[.int p.1, .int p.2], rfl, by simp, rfl, rfl⟩))))))))))), rfl, by rw [List.length_zip]; omega, rfl, fun q => ⟨pf, _, (c.zip (c.drop 1)).map pairD, rfl, rfl, ?_, .d (intsD c), ?_⟩⟩
      · show some (cutL (c.map (.int : Int → Dk)) (some (1 : Int)) none, none) = _
        rw [cut1, List.map_drop]
      · rw [List.length_map, List.length_map, List.length_zip]; omega
      · have := flatMap_one (fun c : List Int => c.zip (c.drop 1)) hq
        show _ = ([.d d, .own pf (.lst (((g.take (i + 1)).flatMap fun c => c.zip (c.drop 1)).map pairD)), .d (intsD c), .u, .u] : List (SL Kp))
        rw [this, List.map_append]
        rfl
    · rintro τ2 ⟨x, rfl⟩
      rw [List.take_length]
      refine dx_ret (de_tupleOf (de_srtSet (de_o rfl ⟨pairsOf g, rfl, h1, fun p => ⟨_, rfl, ?_, h⟩⟩)))
      exact pur_ovs (ovG g)
  case hl =>
    rintro ds Q ⟨d, g, rfl, _⟩
    rfl


def S__law_is_laid : FS Kp := fun ds Q => ∃ (n : Nat) (d : Dk) (g : Grid) (xs : List Int), ds = [.int (n : Nat), d, wD xs] ∧ seqD d = some (g.map intsD) ∧ okG n g ∧ xs.Perm (ups n) ∧ Q (.v (.bl (laidOk g xs)))
abbrev s__law_is_laid : Stmt := top 77
abbrev N__law_is_laid : List Str := ["count", "grid", "order", "a", "b"]
theorem sc__law_is_laid : FnScope N__law_is_laid ["count", "grid", "order"] (defScope s__law_is_laid) := ⟨rfl, rfl, rfl, by decide +kernel, rfl, by decide +kernel, by decide +kernel⟩
theorem has__law_is_laid {k : Nat} (D : Def K mg "_law_is_laid" s__law_is_laid ["count", "grid", "order"]) (z_sorted : mg "sorted" = none) (z_range : mg "range" = none) (z_list : mg "list" = none) (z_all : mg "all" = none) (h__law_overs : Has P w K mg base "_law_overs" k ["grid"] (spD (Zk K CB CR) S__law_overs)) (T : Tx K CB CR) : Has P w K mg base "_law_is_laid" (k + 1) ["count", "grid", "order"] (spD (Zk K CB CR) S__law_is_laid) := by
  refine D.has sc__law_is_laid ?hl fun f cdv A outer s H E hr => ?bod
  case bod =>
    have hu1 := hu_of hr
    have hu0 := hu0_of hr
    have hu65 := hu65_of hr
    refine ⟨_, (pss_one (ps_ret (pe_and (pe_cmpR (kop_eq (K := K) rfl hu65) (pe_callB (ksrt (K := K) rfl) (by rfl) z_sorted (by decide +kernel) (pa_cons (pv 2) pa_nil)) (pe_listRg rfl (by rfl) z_list (prg_1 (by rfl) z_range (pv 0))) (nomark _)) (pe_one (pe_callB (kall (K := K) rfl rfl) (by rfl) z_all (by decide +kernel) (pa_cons (pe_lc (own := [("a", 3), ("b", 4)]) rfl sc__law_is_laid.nd (kpi_sq (K := K) rfl (pe_callH h__law_overs hr (by rfl) (pa_cons (pv 1) pa_nil))) (blkOk_by (N := N__law_is_laid) (sc := defScope s__law_is_laid) (by decide +kernel)) (fun _ _ _ _ _ => (kpg_tup (K := K) (n := 2) rfl rfl (pgs_cons (pg_name (i := 3) sc__law_is_laid.nd rfl (by first | exact Or.inl rfl | exact Or.inr rfl)) (pgs_cons (pg_name (i := 4) sc__law_is_laid.nd rfl (by first | exact Or.inl rfl | exact Or.inr rfl)) pgs_nil)))) (fun _ _ _ _ _ => pts_nil) (fun _ _ _ _ _ => (pe_cmpR (kop_lt (K := K) rfl hu0) (pe_tm PySem.F.slot_tuple_index PySem.F.type_tuple_index (kmt_tix (K := K) rfl) (pv 2) (pa_cons (pv 4) pa_nil)) (pe_tm PySem.F.slot_tuple_index PySem.F.type_tuple_index (kmt_tix (K := K) rfl) (pv 2) (pa_cons (pv 3) pa_nil)) (nomark _)))) pa_nil)))))), ?_⟩
    rintro ds Q ⟨n, d, g, xs, rfl, hd, hg, hp, h⟩
    have g2 := hg.n2; have g3 := hg.n16; have g4 := hg.g1; have g5 := hg.g20
    refine dx_ret (de_andV (de_eq (de_cb bs_srt (da_cons (de_ld (de_d rfl ⟨wD xs, intsD xs, rfl, wld xs, da_nil ⟨_, xs, rfl, rfl, fun p => de_lstRg (drg_1 (de_d rfl ⟨(n : Int), rfl, ⟨by omega, by omega, by omega, by omega⟩, fun q => ?_⟩))⟩⟩))))))
    rw [rg_up]
    refine ⟨.lst ((srt xs).map .int), .lst ((ups n).map .int), rfl, rfl, by simp [lay, lays_ints], by simp [lay, lays_ints], true, ?_, ?_⟩
    · have e : eqD (.lst ((srt xs).map .int) : Dk) (.lst ((ups n).map .int)) = true := (eq_ints _ _).trans (decide_eq_true (srt_ups.mpr hp))
      rw [e]
    refine iteT' rfl (de_allC (α := Int × Int) pairD (fun p => decide (xs.idxOf p.2 < xs.idxOf p.1)) (di_sq (de_call (da_cons (de_d rfl ?_)))))
    refine da_nil ⟨d, g, rfl, hd, hg.few, hg.rows, g5, (List.map pairD (ovG g), none), rfl, ovG g, rfl, fun a ha => dg_tp rfl (dgs_cn (dg_nm rfl (dgs_cn (dg_nm rfl (dgs_nl ?_))))), rfl, ?_, rfl, rfl, h⟩
    · obtain ⟨m1, m2, _⟩ := ov_in hg ha
      refine de_ltI (de_tix (de_d rfl ⟨xs, rfl, de_d rfl ⟨a.2, rfl, hp.mem_iff.mpr m2, _, rfl, ?_⟩⟩))
      refine de_tix (de_d rfl ⟨xs, rfl, de_d rfl ⟨a.1, rfl, hp.mem_iff.mpr m1, _, rfl, rfl, ?_⟩⟩)
      exact congrArg (fun b => ER.v (DL.D.bl b)) (decide_eq_decide.mpr Int.ofNat_lt)
    · exact Nat.le_trans (usort_len _) (Nat.le_trans hg.few (by decide))
  case hl =>
    rintro ds Q ⟨n, d, g, xs, rfl, _⟩
    rfl


def S__law_is_ring : FS Kp := fun ds Q => ∃ (ov : Ovs) (L : List Int), ds = [ovsD ov, intsD L] ∧ ov.length ≤ 1000 ∧ RingO ov L ∧ 2 ≤ L.length ∧ Q (.v (.bl true))
abbrev s__law_is_ring : Stmt := top 78
abbrev N__law_is_ring : List Str := ["overs", "thing", "one", "other"]
theorem sc__law_is_ring : FnScope N__law_is_ring ["overs", "thing"] (defScope s__law_is_ring) := ⟨rfl, rfl, rfl, by decide +kernel, rfl, by decide +kernel, by decide +kernel⟩
theorem has__law_is_ring {k : Nat} (D : Def K mg "_law_is_ring" s__law_is_ring ["overs", "thing"]) (z_isinstance : mg "isinstance" = none) (z_tuple : mg "tuple" = none) (z_len : mg "len" = none) (z_all : mg "all" = none) (z_zip : mg "zip" = none) (T : Tx K CB CR) : Has P w K mg base "_law_is_ring" (k + 1) ["overs", "thing"] (spD (Zk K CB CR) S__law_is_ring) := by
  refine D.has sc__law_is_ring ?hl fun f cdv A outer s H E hr => ?bod
  case bod =>
    have hu1 := hu_of hr
    have hu0 := hu0_of hr
    have hu65 := hu65_of hr
    refine ⟨_, (pss_cons (ps_if (PW.pt (pw_or (pt_not (pt_val (pe_callB (kisi (K := K) rfl) (by rfl) z_isinstance (by decide +kernel) (pa_cons (pv 1) (pa_cons (pe_bltn (by rfl) z_tuple (by decide +kernel) (show RelV (.ty "tuple") _ from rfl)) pa_nil))))) (pw_or1 (pt_cmpR (kop_lt (K := K) rfl hu0) (pe_callB (klen (K := K) rfl) (by rfl) z_len (by decide +kernel) (pa_cons (pv 1) pa_nil)) pe_int (nomark _))))) (pss_one (ps_ret pe_bl)) pss_nil)
    (pss_one (ps_ret (pe_callB (kall (K := K) rfl rfl) (by rfl) z_all (by decide +kernel) (pa_cons (pe_lc (own := [("one", 2), ("other", 3)]) rfl sc__law_is_ring.nd (kpi_zip (K := K) rfl (by rfl) z_zip (pa_cons (pv 1) (pa_cons (pe_op (kop_add (K := K) rfl) (pe_slice (ksl (K := K) rfl) (pv 1) (po_some pe_int) po_none) (pe_slice (ksl (K := K) rfl) (pv 1) po_none (po_some pe_int))) pa_nil))) (blkOk_by (N := N__law_is_ring) (sc := defScope s__law_is_ring) (by decide +kernel)) (fun _ _ _ _ _ => (kpg_tup (K := K) (n := 2) rfl rfl (pgs_cons (pg_name (i := 2) sc__law_is_ring.nd rfl (by first | exact Or.inl rfl | exact Or.inr rfl)) (pgs_cons (pg_name (i := 3) sc__law_is_ring.nd rfl (by first | exact Or.inl rfl | exact Or.inr rfl)) pgs_nil)))) (fun _ _ _ _ _ => pts_nil) (fun _ _ _ _ _ => (pe_cmpR (kop_in (K := K) rfl hu65) (pe_tup (pa_cons (pv 2) (pa_cons (pv 3) pa_nil))) (pv 0) (by with_unfolding_all rfl)))) pa_nil))))), ?_⟩
    rintro ds Q ⟨ov, L, rfl, hl, hr, h2, h⟩
    have h16 := hr.few
    refine dx_seq (dx_if (dt_or (dt_not (dt_val (de_isTup (de_d rfl ⟨rfl, _, rfl, iteF' rfl (dt_test (de_ltI (de_len (de_d rfl ⟨_, rfl, _, rfl, de_int ⟨_, rfl, _, rfl, ?_⟩⟩))))⟩))))))
    rw [List.length_map]
    refine iteF' (decide_eq_false (by omega)) (dx_next ?_)
    refine dx_ret (de_allC (α := Int × Int) (fun q => .tup [.int q.1, .int q.2]) (fun q => decide (q ∈ ov)) (di_zip (da_cons (de_d rfl ?_))))
    refine da_cons (de_addT (de_sl (de_d rfl (do_some (de_int ⟨1, rfl, do_none ⟨_, rfl, ?_⟩⟩)))))
    refine de_sl (de_d rfl (do_none (do_some (de_int ⟨1, rfl, _, rfl, ?_, ?_⟩))))
    · show (cutL (L.map (.int : Int → Dk)) (some (1 : Int)) none).length + (cutL (L.map (.int : Int → Dk)) none (some (1 : Int))).length ≤ 100000
      rw [cut1, cutT1, List.length_drop, List.length_take, List.length_map]
      omega
    refine da_nil ⟨_, _, (L.map .int, none), ((L.drop 1 ++ L.take 1).map .int, none), rfl, rfl, ?_, rfl, .inl rfl, L.zip (L.drop 1 ++ L.take 1), zip_map _ _ _ _, fun q hq => dg_tp rfl (dgs_cn (dg_nm rfl (dgs_cn (dg_nm rfl (dgs_nl ?_))))), rfl, ?_, rfl, ?_⟩
    · show some (cutL (L.map (.int : Int → Dk)) (some (1 : Int)) none ++ cutL (L.map (.int : Int → Dk)) none (some (1 : Int)), _) = _
      rw [cut1, cutT1, List.map_append, List.map_drop, List.map_take]
    · refine de_in (de_tup (da_cons (de_d rfl (da_cons (de_d rfl (da_nil ⟨[.int q.1, .int q.2], rfl, by simp, ?_⟩))))))
      refine de_d rfl ⟨pairD q, ovsD ov, ov.map pairD, rfl, rfl, rfl, rfl, ?_, rfl, ?_⟩
      · exact lays_map pairD ov fun _ _ => rfl
      · exact congrArg (fun b => ER.v (DL.D.bl b)) (any_prs ov q)
    · rw [List.length_zip]; omega
    · have : ((L.zip (L.drop 1 ++ L.take 1)).all fun q => decide (q ∈ ov)) = true := List.all_eq_true.mpr fun q hq => decide_eq_true (hr.cyc q hq)
      rw [this]
      exact ⟨rfl, h⟩
  case hl =>
    rintro ds Q ⟨ov, L, rfl, _⟩
    rfl


end K67
set_option Elab.async false
set_option linter.all false
set_option maxRecDepth 100000
namespace K67
open PySem PySem.Spec PyProof.Rows L2 DL RZ
/-! K23: the law: rings of a grid -/
variable {P : Program} {w : World} {K : PySem.W.Frag} {mg : Str → Option Value} {base : Heap} {CB CR : Addr}

theorem at_row {g : Grid} {d : Dk} {f : List Int → Dk} {i : Nat} {c : List Int} (h : g[i]? = some c) : atI (g.map f) ((i : Nat) : Int) = some (f c) := atI_nat (by rw [List.getElem?_map, h] <;> rfl)
theorem at_int {c : List Int} {j : Nat} (h : j < c.length) : atI (c.map (.int : Int → Dk)) ((j : Nat) : Int) = some (.int (c.getD j 0)) := atI_nat (by
  rw [List.getElem?_map, List.getElem?_eq_getElem h, List.getD_eq_getElem?_getD, List.getElem?_eq_getElem h] <;> rfl)
theorem zipD_prs {xs ys : Ovs} : zipD (xs.map pairD) (ys.map pairD) = (xs.zip ys).map fun q => (.tup [.tup [.int q.1.1, .int q.1.2], .tup [.int q.2.1, .int q.2.2]] : Dk) := zip_map _ _ _ _
theorem cutP {α : Type} (xs : List α) (j : Nat) : cutL xs (some ((j : Int) + 1)) none = xs.drop (j + 1) := by
  have := cut_from xs (j + 1)
  rwa [show ((j + 1 : Nat) : Int) = (j : Int) + 1 by omega] at this
theorem drop_head {c : List Int} {j : Nat} (h : j < c.length) : c.drop j = c.getD j 0 :: c.drop (j + 1) := by
  rw [List.drop_eq_getElem_cons h, List.getD_eq_getElem?_getD, List.getElem?_eq_getElem h] <;> rfl

def S__law_is_way : FS Kp := fun ds Q => ∃ (d : Dk) (g : Grid) (rs : Ovs), ds = [d, .tup (rs.map pairD)] ∧ seqD d = some (g.map intsD) ∧ g.length ≤ 20 ∧ (∀ c ∈ g, c.length ≤ 16) ∧ RingS g rs ∧ Q (.v (.bl true))
abbrev s__law_is_way : Stmt := top 79
abbrev N__law_is_way : List Str := ["grid", "thing", "column", "place", "other", "there"]
theorem sc__law_is_way : FnScope N__law_is_way ["grid", "thing"] (defScope s__law_is_way) := ⟨rfl, rfl, rfl, by decide +kernel, rfl, by decide +kernel, by decide +kernel⟩
theorem has__law_is_way {k : Nat} (D : Def K mg "_law_is_way" s__law_is_way ["grid", "thing"]) (z_isinstance : mg "isinstance" = none) (z_tuple : mg "tuple" = none) (z_len : mg "len" = none) (z_zip : mg "zip" = none) (T : Tx K CB CR) : Has P w K mg base "_law_is_way" (k + 1) ["grid", "thing"] (spD (Zk K CB CR) S__law_is_way) := by
  refine D.has sc__law_is_way ?hl fun f cdv A outer s H E hr => ?bod
  case bod =>
    have hu1 := hu_of hr
    have hu0 := hu0_of hr
    have hu65 := hu65_of hr
    refine ⟨_, (pss_cons (ps_if (PW.pt (pw_or (pt_not (pt_val (pe_callB (kisi (K := K) rfl) (by rfl) z_isinstance (by decide +kernel) (pa_cons (pv 1) (pa_cons (pe_bltn (by rfl) z_tuple (by decide +kernel) (show RelV (.ty "tuple") _ from rfl)) pa_nil))))) (pw_or1 (pt_cmpR (kop_lt (K := K) rfl hu0) (pe_callB (klen (K := K) rfl) (by rfl) z_len (by decide +kernel) (pa_cons (pv 1) pa_nil)) pe_int (nomark _))))) (pss_one (ps_ret pe_bl)) pss_nil)
    (pss_cons (ps_for PassesOwn.never rfl (kpi_zip (K := K) rfl (by rfl) z_zip (pa_cons (pv 1) (pa_cons (pe_op (kop_add (K := K) rfl) (pe_slice (ksl (K := K) rfl) (pv 1) (po_some pe_int) po_none) (pe_slice (ksl (K := K) rfl) (pv 1) po_none (po_some pe_int))) pa_nil))) (kpg_tup (K := K) (n := 2) rfl rfl (pgs_cons (kpg_tup (K := K) (n := 2) rfl rfl (pgs_cons (pg_name (i := 2) sc__law_is_way.nd rfl (by first | exact Or.inl rfl | exact Or.inr rfl)) (pgs_cons (pg_name (i := 3) sc__law_is_way.nd rfl (by first | exact Or.inl rfl | exact Or.inr rfl)) pgs_nil))) (pgs_cons (kpg_tup (K := K) (n := 2) rfl rfl (pgs_cons (pg_name (i := 4) sc__law_is_way.nd rfl (by first | exact Or.inl rfl | exact Or.inr rfl)) (pgs_cons (pg_name (i := 5) sc__law_is_way.nd rfl (by first | exact Or.inl rfl | exact Or.inr rfl)) pgs_nil))) pgs_nil))) (pss_cons (ps_if (PW.pt (pw_or (pt_not (pt_chain op_le op_lt pe_int (pv 2) (pe_callB (klen (K := K) rfl) (by rfl) z_len (by decide +kernel) (pa_cons (pv 0) pa_nil)))) (pw_or1 (pt_not (pt_chain op_le op_lt pe_int (pv 3) (pe_callB (klen (K := K) rfl) (by rfl) z_len (by decide +kernel) (pa_cons (pe_ix (kix (K := K) rfl) (pv 0) (pv 2) (fun _ _ => rfl)) pa_nil))))))) (pss_one (ps_ret pe_bl)) pss_nil)
    (pss_one (ps_if (pt_cmpR (kop_nin (K := K) rfl hu65) (pe_ix (kix (K := K) rfl) (pe_ix (kix (K := K) rfl) (pv 0) (pv 4) (fun _ _ => rfl)) (pv 5) (fun _ _ => rfl)) (pe_slice (ksl (K := K) rfl) (pe_ix (kix (K := K) rfl) (pv 0) (pv 2) (fun _ _ => rfl)) (po_some (pe_op (kop_add (K := K) rfl) (pv 3) pe_int)) po_none) (by with_unfolding_all rfl)) (pss_one (ps_ret pe_bl)) pss_nil))))
    (pss_one (ps_ret pe_bl)))), ?_⟩
    rintro ds Q ⟨d, g, rs, rfl, hd, hg1, hg2, hr, h⟩
    have h16 := hr.few
    have hpos : 0 < rs.length := List.length_pos_iff.mpr hr.ne
    refine dx_seq (dx_if (dt_or (dt_not (dt_val (de_isTup (de_d rfl ⟨rfl, _, rfl, iteF' rfl (dt_test (de_ltI (de_len (de_d rfl ⟨_, rfl, _, rfl, de_int ⟨_, rfl, _, rfl, ?_⟩⟩))))⟩))))))
    rw [List.length_map]
    refine iteF' (decide_eq_false (by omega)) (dx_next ?_)
    refine dx_seq (dx_forE (α := (Int × Int) × (Int × Int)) [2, 3, 4, 5] (fun q => .tup [.tup [.int q.1.1, .int q.1.2], .tup [.int q.2.1, .int q.2.2]]) (di_zip (da_cons (de_d rfl (da_cons (de_addT (de_sl (de_d rfl (do_some (de_int ⟨1, rfl, do_none ⟨_, rfl, de_sl (de_d rfl (do_none (do_some (de_int ⟨1, rfl, _, rfl, ?_, ?_⟩))))⟩⟩))))))))))
    · show (cutL (rs.map pairD) (some (1 : Int)) none).length + (cutL (rs.map pairD) none (some (1 : Int))).length ≤ 100000
      rw [cut1, cutT1, List.length_drop, List.length_take, List.length_map]
      omega
    refine da_nil ⟨_, _, (rs.map pairD, none), ((rs.drop 1 ++ rs.take 1).map pairD, none), rfl, rfl, ?_, rfl, .inl rfl, rs.zip (rs.drop 1 ++ rs.take 1), zipD_prs, fun i τ2 => ∃ a b c e, τ2 = [.d d, .d (.tup (rs.map pairD)), a, b, c, e], ⟨_, _, _, _, rfl⟩, fun _ _ _ => trivial, ?_, ?_⟩
    · show some (cutL (rs.map pairD) (some (1 : Int)) none ++ cutL (rs.map pairD) none (some (1 : Int)), _) = _
      rw [cut1, cutT1, List.map_append, List.map_drop, List.map_take]
    · rintro k q τ2 hq ⟨xa, xb, xc, xe, rfl⟩
      have hqm := List.mem_of_getElem? hq
      obtain ⟨m1, m2⟩ := mem_rot1 hqm
      have hcy := hr.cyc q hqm
      obtain ⟨i, j, c, e1, hc, hj⟩ := hr.ok _ m1
      obtain ⟨i', j', c', e2, hc', hj'⟩ := hr.ok _ m2
      obtain ⟨s1, s2⟩ := q
      subst e1 e2
      rw [pairAt_of hc, pairAt_of hc'] at hcy
      replace hcy : c.getD (j + 1) 0 = c'.getD j' 0 := hcy
      have hi : i < g.length := (List.getElem?_eq_some_iff.mp hc).1
      refine dg_tp rfl (dgs_cn (dg_tp rfl (dgs_cn (dg_nm rfl (dgs_cn (dg_nm rfl (dgs_nl (dgs_cn (dg_tp rfl (dgs_cn (dg_nm rfl (dgs_cn (dg_nm rfl (dgs_nl (dgs_nl ?_)))))))))))))))
      refine dx_seq (dx_if (dt_or (dt_not (dt_test (de_chain (de_int ⟨0, rfl, de_d rfl ⟨(i : Int), rfl, iteT' (decide_eq_true (by omega)) (de_len (de_d rfl ⟨g.map intsD, hd, _, rfl, _, rfl, iteF' ?_ ?_⟩))⟩⟩))))))
      · rw [List.length_map, decide_eq_true (by omega)] <;> rfl
      refine dt_not (dt_test (de_chain (de_int ⟨0, rfl, de_d rfl ⟨(j : Int), rfl, iteT' (decide_eq_true (by omega)) (de_len (de_ix (de_d rfl (de_d rfl ⟨g.map intsD, (i : Int), intsD c, hd, rfl, at_row (d := d) hc, c.map .int, rfl, _, rfl, _, rfl, iteF' ?_ (dx_next ?_)⟩))))⟩⟩)))
      · rw [List.length_map, decide_eq_true (by omega)] <;> rfl
      refine dx_if (dt_test (de_nin (de_ix (de_ix (de_d rfl (de_d rfl ⟨g.map intsD, (i' : Int), intsD c', hd, rfl, at_row (d := d) hc', de_d rfl ⟨c'.map .int, (j' : Int), .int (c'.getD j' 0), rfl, rfl, at_int (by omega), ?_⟩⟩))))))
      refine de_sl (de_ix (de_d rfl (de_d rfl ⟨g.map intsD, (i : Int), intsD c, hd, rfl, at_row (d := d) hc, do_some (de_addI (de_d rfl ⟨(j : Int), rfl, de_int ⟨1, rfl, _, rfl, do_none ?_⟩⟩))⟩)))
      refine ⟨.int (c'.getD j' 0), intsD (c.drop (j + 1)), (c.drop (j + 1)).map .int, rfl, ?_, rfl, rfl, lay_intsT _, _, rfl, ?_⟩
      · show (.tup (cutL (c.map (.int : Int → Dk)) (some ((j : Int) + 1)) none) : Dk) = _
        rw [cutP, ← List.map_drop] <;> rfl
      · rw [any_ints, decide_eq_true (by rw [← hcy, drop_head hj]; exact List.mem_cons_self)]
        exact iteF' rfl (dx_next ⟨_, _, _, _, rfl⟩)
    · rintro τ2 ⟨xa, xb, xc, xe, rfl⟩
      exact dx_ret (de_bl ⟨rfl, h⟩)
  case hl =>
    rintro ds Q ⟨d, g, rs, rfl, _⟩
    rfl


def S__law_followed : FS Kp := fun ds Q => ∃ (d : Dk) (g : Grid) (rs : Ovs), ds = [d, .tup (rs.map pairD)] ∧ seqD d = some (g.map wD) ∧ g.length ≤ 20 ∧ (∀ c ∈ g, c.length ≤ 16) ∧ RingS g rs ∧ Q (.v (intsD (rs.map fun s => (pairAt g s).1)))
abbrev s__law_followed : Stmt := top 80
abbrev N__law_followed : List Str := ["grid", "ring", "found", "column", "place", "other", "there"]
theorem sc__law_followed : FnScope N__law_followed ["grid", "ring"] (defScope s__law_followed) := ⟨rfl, rfl, rfl, by decide +kernel, rfl, by decide +kernel, by decide +kernel⟩
theorem has__law_followed {k : Nat} (D : Def K mg "_law_followed" s__law_followed ["grid", "ring"]) (z_zip : mg "zip" = none) (T : Tx K CB CR) : Has P w K mg base "_law_followed" (k + 1) ["grid", "ring"] (spD (Zk K CB CR) S__law_followed) := by
  refine D.has sc__law_followed ?hl fun f cdv A outer s H E hr => ?bod
  case bod =>
    have hu1 := hu_of hr
    have hu0 := hu0_of hr
    have hu65 := hu65_of hr
    refine ⟨_, (pss_cons (ps_set (i := 2) sc__law_followed.nd rfl (by first | exact Or.inl rfl | exact Or.inr rfl) (pe_tup pa_nil))
    (pss_cons (ps_for PassesOwn.never rfl (kpi_zip (K := K) rfl (by rfl) z_zip (pa_cons (pv 1) (pa_cons (pe_op (kop_add (K := K) rfl) (pe_slice (ksl (K := K) rfl) (pv 1) (po_some pe_int) po_none) (pe_slice (ksl (K := K) rfl) (pv 1) po_none (po_some pe_int))) pa_nil))) (kpg_tup (K := K) (n := 2) rfl rfl (pgs_cons (kpg_tup (K := K) (n := 2) rfl rfl (pgs_cons (pg_name (i := 3) sc__law_followed.nd rfl (by first | exact Or.inl rfl | exact Or.inr rfl)) (pgs_cons (pg_name (i := 4) sc__law_followed.nd rfl (by first | exact Or.inl rfl | exact Or.inr rfl)) pgs_nil))) (pgs_cons (kpg_tup (K := K) (n := 2) rfl rfl (pgs_cons (pg_name (i := 5) sc__law_followed.nd rfl (by first | exact Or.inl rfl | exact Or.inr rfl)) (pgs_cons (pg_name (i := 6) sc__law_followed.nd rfl (by first | exact Or.inl rfl | exact Or.inr rfl)) pgs_nil))) pgs_nil))) (pss_one (ps_set (i := 2) sc__law_followed.nd rfl (by first | exact Or.inl rfl | exact Or.inr rfl) (pe_op (kop_add (K := K) rfl) (pv 2) (pe_slice (ksl (K := K) rfl) (pe_ix (kix (K := K) rfl) (pv 0) (pv 3) (fun _ _ => rfl)) (po_some (pv 4)) (po_some (pe_tm PySem.F.slot_tuple_index PySem.F.type_tuple_index (kmt_tix3 (K := K) rfl) (pe_ix (kix (K := K) rfl) (pv 0) (pv 3) (fun _ _ => rfl)) (pa_cons (pe_ix (kix (K := K) rfl) (pe_ix (kix (K := K) rfl) (pv 0) (pv 5) (fun _ _ => rfl)) (pv 6) (fun _ _ => rfl)) (pa_cons (pe_op (kop_add (K := K) rfl) (pv 4) pe_int) pa_nil)))))))))
    (pss_one (ps_ret (pv 2))))), ?_⟩
    rintro ds Q ⟨d, g, rs, rfl, hd, hg1, hg2, hr, h⟩
    have h16 := hr.few
    have hpos : 0 < rs.length := List.length_pos_iff.mpr hr.ne
    refine dx_seq (dx_asg (de_tup (da_nil ⟨[], rfl, by simp, ?_⟩)))
    refine dx_seq (dx_forE (α := (Int × Int) × (Int × Int)) [3, 4, 5, 6] (fun q => .tup [.tup [.int q.1.1, .int q.1.2], .tup [.int q.2.1, .int q.2.2]]) (di_zip (da_cons (de_d rfl (da_cons (de_addT (de_sl (de_d rfl (do_some (de_int ⟨1, rfl, do_none ⟨_, rfl, de_sl (de_d rfl (do_none (do_some (de_int ⟨1, rfl, _, rfl, ?_, ?_⟩))))⟩⟩))))))))))
    · show (cutL (rs.map pairD) (some (1 : Int)) none).length + (cutL (rs.map pairD) none (some (1 : Int))).length ≤ 100000
      rw [cut1, cutT1, List.length_drop, List.length_take, List.length_map]
      omega
    have hzl : (rs.zip (rs.drop 1 ++ rs.take 1)).length = rs.length := by rw [List.length_zip, List.length_append, List.length_drop, List.length_take]; omega
    refine da_nil ⟨_, _, (rs.map pairD, none), ((rs.drop 1 ++ rs.take 1).map pairD, none), rfl, rfl, ?_, rfl, .inl rfl, rs.zip (rs.drop 1 ++ rs.take 1), zipD_prs, fun i τ2 => ∃ a b c e, τ2 = [.d d, .d (.tup (rs.map pairD)), .d (intsD ((rs.take i).map fun s => (pairAt g s).1)), a, b, c, e], ⟨_, _, _, _, rfl⟩, fun _ _ _ => trivial, ?_, ?_⟩
    · show some (cutL (rs.map pairD) (some (1 : Int)) none ++ cutL (rs.map pairD) none (some (1 : Int)), _) = _
      rw [cut1, cutT1, List.map_append, List.map_drop, List.map_take]
    · rintro k q τ2 hq ⟨xa, xb, xc, xe, rfl⟩
      have hqm := List.mem_of_getElem? hq
      obtain ⟨m1, m2⟩ := mem_rot1 hqm
      have hcy := hr.cyc q hqm
      obtain ⟨i, j, c, e1, hc, hj⟩ := hr.ok _ m1
      obtain ⟨i', j', c', e2, hc', hj'⟩ := hr.ok _ m2
      obtain ⟨s1, s2⟩ := q
      subst e1 e2
      have hk : rs[k]? = some ((i : Int), (j : Int)) := by
        rw [List.getElem?_zip_eq_some] at hq
        exact hq.1
      have hkl := (List.getElem?_eq_some_iff.mp hk).1
      have hp1 := pairAt_of (j := j) hc
      rw [pairAt_of hc, pairAt_of hc'] at hcy
      replace hcy : c.getD (j + 1) 0 = c'.getD j' 0 := hcy
      have hi : i < g.length := (List.getElem?_eq_some_iff.mp hc).1
      refine dg_tp rfl (dgs_cn (dg_tp rfl (dgs_cn (dg_nm rfl (dgs_cn (dg_nm rfl (dgs_nl (dgs_cn (dg_tp rfl (dgs_cn (dg_nm rfl (dgs_cn (dg_nm rfl (dgs_nl (dgs_nl ?_)))))))))))))))
      refine dx_asg (de_addT (de_d rfl ⟨_, rfl, de_sl (de_ld (de_ix (de_d rfl (de_d rfl ⟨g.map wD, (i : Int), wD c, hd, rfl, at_row (d := d) hc, _, intsD c, rfl, wld c, do_some (de_d rfl ⟨(j : Int), rfl, do_some (de_tix3 (de_ix (de_d rfl (de_d rfl ⟨g.map wD, (i : Int), wD c, hd, rfl, at_row (d := d) hc, c, rfl, ?_⟩))))⟩)⟩))))⟩))
      refine de_ix (de_ld (de_ix (de_d rfl (de_d rfl ⟨g.map wD, (i' : Int), wD c', hd, rfl, at_row (d := d) hc', _, intsD c', rfl, wld c', de_d rfl ⟨c'.map .int, (j' : Int), .int (c'.getD j' 0), rfl, rfl, at_int (by omega), c'.getD j' 0, rfl, ?_⟩⟩))))
      refine de_addI (de_d rfl ⟨(j : Int), rfl, de_int ⟨1, rfl, j + 1, rfl, ?_, _, rfl, ?_⟩⟩)
      · rw [← hcy, drop_head hj]; exact List.mem_cons_self
      · have e0 : (c.drop (j + 1)).idxOf (c'.getD j' 0) = 0 := by
          rw [← hcy, drop_head hj]
          simp
        show semSl (intsD c) (some ((j : Nat) : Int)) (some (((j + 1 + (c.drop (j + 1)).idxOf (c'.getD j' 0) : Nat) : Int))) _
        rw [e0, Nat.add_zero]
        have e3 : cutL (c.map (.int : Int → Dk)) (some ((j : Nat) : Int)) (some ((j + 1 : Nat) : Int)) = [.int (c.getD j 0)] := by
          rw [cut_mid _ _ _ (by omega), ← List.map_drop, drop_head (show j < c.length by omega), show j + 1 - j = 1 by omega] <;> rfl
        show ∃ ys, ER.v (.tup (cutL (c.map (.int : Int → Dk)) (some ((j : Nat) : Int)) (some ((j + 1 : Nat) : Int)))) = .v (.tup ys) ∧ _
        rw [e3]
        refine ⟨_, rfl, by rw [List.length_map, List.length_map, List.length_take, List.length_singleton]; omega, .d (.int i), .d (.int j), .d (.int i'), .d (.int j'), ?_⟩
        rw [take_one hk, List.map_append, List.map_cons, List.map_nil, hp1]
        show _ = ([.d d, .d (.tup (rs.map pairD)), .d (.tup ((((rs.take k).map fun s => (pairAt g s).1) ++ [c.getD j 0]).map .int)), .d (.int i), .d (.int j), .d (.int i'), .d (.int j')] : List (SL Kp))
        rw [List.map_append]
        rfl
    · rintro τ2 ⟨xa, xb, xc, xe, rfl⟩
      rw [hzl, List.take_length]
      exact dx_ret (de_d rfl ⟨purs_ints _, h⟩)
  case hl =>
    rintro ds Q ⟨d, g, rs, rfl, _⟩
    rfl


end K67
set_option Elab.async false
set_option linter.all false
set_option maxRecDepth 100000
namespace K67
open PySem PySem.Spec PyProof.Rows L2 DL RZ
/-! K24: the law: spots, days turned, grids drawn -/
variable {P : Program} {w : World} {K : PySem.W.Frag} {mg : Str → Option Value} {base : Heap} {CB CR : Addr}

/-- the spots of a column at which a pair stands -/
def spotsC (q : Int × Int) (c : List Int) (i : Nat) : Ovs := ((List.range (c.length - 1)).filter fun j => decide ((c.drop j).take 2 = [q.1, q.2])).map fun (j : Nat) => ((i : Int), (j : Int))
def spotsG (q : Int × Int) (z : List (List Int × Nat)) : Ovs := z.flatMap fun p => spotsC q p.1 p.2
theorem mem_spots {g : Grid} {q s : Int × Int} : s ∈ spotsG q g.zipIdx ↔ stepOk g s ∧ pairAt g s = q := by
  unfold spotsG spotsC
  simp only [List.mem_flatMap, List.mem_map, List.mem_filter, List.mem_range, decide_eq_true_eq]
  constructor
  · rintro ⟨⟨c, i⟩, hm, j, ⟨hj, e⟩, rfl⟩
    have hc := zipIdx_fst_mem hm
    have hj' : j + 1 < c.length := by have : j < c.length - 1 := hj; omega
    refine ⟨⟨i, j, c, rfl, hc, hj'⟩, ?_⟩
    rw [pairAt_of hc]
    have e : (c.drop j).take 2 = [q.1, q.2] := e
    rw [take_two hj'] at e
    injection e with e1 e2
    injection e2 with e2 _
    exact Prod.ext e1 e2
  · rintro ⟨⟨i, j, c, rfl, hc, hj⟩, rfl⟩
    refine ⟨(c, i), List.mem_zipIdx_iff_getElem?.mpr hc, j, ⟨by show j < c.length - 1; omega, ?_⟩, rfl⟩
    rw [pairAt_of hc]
    exact take_two hj
theorem spots_len (q : Int × Int) : ∀ (z : List (List Int × Nat)), (∀ p ∈ z, p.1.length ≤ 16) → (spotsG q z).length ≤ z.length * 16 := fun z h => flat_bound _ 16 z fun p hp => by
  unfold spotsC
  rw [List.length_map]
  refine Nat.le_trans (List.length_filter_le _ _) ?_
  rw [List.length_range]
  have := h p hp
  omega

def S__law_spots : FS Kp := fun ds Q => ∃ (d : Dk) (g : Grid) (L : List Int), ds = [d, intsD L] ∧ seqD d = some (g.map intsD) ∧ g.length ≤ 20 ∧ (∀ c ∈ g, c.length ≤ 16) ∧ RingO (ovG g) L ∧ ∀ rs, RingS g rs → Q (.v (.tup (rs.map pairD)))
abbrev s__law_spots : Stmt := top 81
abbrev N__law_spots : List Str := ["grid", "ring", "found", "one", "other", "some", "at", "column", "place"]
theorem sc__law_spots : FnScope N__law_spots ["grid", "ring"] (defScope s__law_spots) := ⟨rfl, rfl, rfl, by decide +kernel, rfl, by decide +kernel, by decide +kernel⟩
theorem has__law_spots {k : Nat} (D : Def K mg "_law_spots" s__law_spots ["grid", "ring"]) (z_zip : mg "zip" = none) (z_enumerate : mg "enumerate" = none) (z_range : mg "range" = none) (z_len : mg "len" = none) (z_tuple : mg "tuple" = none) (T : Tx K CB CR) : Has P w K mg base "_law_spots" (k + 1) ["grid", "ring"] (spD (Zk K CB CR) S__law_spots) := by
  refine D.has sc__law_spots ?hl fun f cdv A outer s H E hr => ?bod
  case bod =>
    have hu1 := hu_of hr
    have hu0 := hu0_of hr
    have hu65 := hu65_of hr
    refine ⟨_, (pss_cons (ps_set (i := 2) sc__law_spots.nd rfl (by first | exact Or.inl rfl | exact Or.inr rfl) (pe_lst pa_nil))
    (pss_cons (ps_for PassesOwn.never rfl (kpi_zip (K := K) rfl (by rfl) z_zip (pa_cons (pv 1) (pa_cons (pe_op (kop_add (K := K) rfl) (pe_slice (ksl (K := K) rfl) (pv 1) (po_some pe_int) po_none) (pe_slice (ksl (K := K) rfl) (pv 1) po_none (po_some pe_int))) pa_nil))) (kpg_tup (K := K) (n := 2) rfl rfl (pgs_cons (pg_name (i := 3) sc__law_spots.nd rfl (by first | exact Or.inl rfl | exact Or.inr rfl)) (pgs_cons (pg_name (i := 4) sc__law_spots.nd rfl (by first | exact Or.inl rfl | exact Or.inr rfl)) pgs_nil))) (pss_cons (ps_set (i := 5) sc__law_spots.nd rfl (by first | exact Or.inl rfl | exact Or.inr rfl) (pe_lst pa_nil))
    (pss_cons (ps_for PassesOwn.never rfl (kpi_enum (K := K) rfl (by rfl) z_enumerate (pa_cons (pv 0) pa_nil)) (kpg_tup (K := K) (n := 2) rfl rfl (pgs_cons (pg_name (i := 6) sc__law_spots.nd rfl (by first | exact Or.inl rfl | exact Or.inr rfl)) (pgs_cons (pg_name (i := 7) sc__law_spots.nd rfl (by first | exact Or.inl rfl | exact Or.inr rfl)) pgs_nil))) (pss_one (ps_expr (kpe_bm (K := K) rfl PySem.F.plainAttrs_list PySem.F.slot_list_extend PySem.F.type_list_extend mt_extend (pv 5) (pa_cons (pe_lc (own := [("place", 8)]) rfl sc__law_spots.nd (pi_range1 (by rfl) z_range (pa_cons (pe_op op_sub (pe_callB (klen (K := K) rfl) (by rfl) z_len (by decide +kernel) (pa_cons (pv 7) pa_nil)) pe_int) pa_nil)) (blkOk_by (N := N__law_spots) (sc := defScope s__law_spots) (by decide +kernel)) (fun _ _ _ _ _ => (pg_name (i := 8) sc__law_spots.nd rfl (by first | exact Or.inl rfl | exact Or.inr rfl))) (fun _ _ _ _ _ => (pts_one (pt_cmpR (kop_eq (K := K) rfl hu65) (pe_slice (ksl (K := K) rfl) (pv 7) (po_some (pv 8)) (po_some (pe_op (kop_add (K := K) rfl) (pv 8) pe_int))) (pe_tup (pa_cons (pv 3) (pa_cons (pv 4) pa_nil))) (nomark _)))) (fun _ _ _ _ _ => (pe_tup (pa_cons (pv 6) (pa_cons (pv 8) pa_nil))))) pa_nil)))))
    (pss_one (ps_expr (kpe_bm (K := K) rfl PySem.F.plainAttrs_list PySem.F.slot_list_append PySem.F.type_list_append mt_append (pv 2) (pa_cons (pe_ix (kix (K := K) rfl) (pv 5) pe_int (fun _ _ => rfl)) pa_nil)))))))
    (pss_one (ps_ret (kpe_tupleOf (K := K) rfl (by rfl) z_tuple (pv 2)))))), ?_⟩
    rintro ds Q ⟨d, g, L, rfl, hd, hg1, hg2, hr, h⟩
    have h16 := hr.few
    have hpos : 0 < L.length := List.length_pos_iff.mpr hr.ne
    refine dx_seq (dx_asg (de_lst (da_nil ⟨[], rfl, by simp, fun pf => ?_⟩)))
    refine dx_seq (dx_forE (α := Int × Int) [3, 4] (fun q => .tup [.int q.1, .int q.2]) (di_zip (da_cons (de_d rfl (da_cons (de_addT (de_sl (de_d rfl (do_some (de_int ⟨1, rfl, do_none ⟨_, rfl, de_sl (de_d rfl (do_none (do_some (de_int ⟨1, rfl, _, rfl, ?_, ?_⟩))))⟩⟩))))))))))
    · show (cutL (L.map (.int : Int → Dk)) (some (1 : Int)) none).length + (cutL (L.map (.int : Int → Dk)) none (some (1 : Int))).length ≤ 100000
      rw [cut1, cutT1, List.length_drop, List.length_take, List.length_map]
      omega
    have hzl : (L.zip (L.drop 1 ++ L.take 1)).length = L.length := by rw [List.length_zip, List.length_append, List.length_drop, List.length_take]; omega
    refine da_nil ⟨_, _, (L.map .int, none), ((L.drop 1 ++ L.take 1).map .int, none), rfl, rfl, ?_, rfl, .inl rfl, L.zip (L.drop 1 ++ L.take 1), zip_map _ _ _ _, fun i τ2 => ∃ (rs : Ovs) (a b c e f : SL Kp), τ2 = [.d d, .d (intsD L), .own pf (.lst (rs.map pairD)), a, b, c, e, f, .u] ∧ rs.map (pairAt g) = (L.zip (L.drop 1 ++ L.take 1)).take i ∧ ∀ s ∈ rs, stepOk g s,
      ⟨[], _, _, _, _, _, rfl, rfl, nofun⟩, fun _ _ _ => trivial, ?_, ?_⟩
    · show some (cutL (L.map (.int : Int → Dk)) (some (1 : Int)) none ++ cutL (L.map (.int : Int → Dk)) none (some (1 : Int)), _) = _
      rw [cut1, cutT1, List.map_append, List.map_drop, List.map_take]
    · rintro k q τ2 hq ⟨rs, xa, xb, xc, xe, xf, rfl, hrs, hst⟩
      have hrl : rs.length ≤ 16 := by
        have := congrArg List.length hrs
        rw [List.length_map, List.length_take, hzl] at this
        omega
      have hqm := List.mem_of_getElem? hq
      obtain ⟨s0, hs0, es0⟩ := ov_step.mp (hr.cyc q hqm)
      have hne : spotsG q g.zipIdx ≠ [] := List.ne_nil_of_mem (mem_spots.mpr ⟨hs0, es0⟩)
      obtain ⟨s, S, hS⟩ : ∃ s S, spotsG q g.zipIdx = s :: S := by
        cases e : spotsG q g.zipIdx with
        | nil => exact absurd e hne
        | cons a b => exact ⟨a, b, rfl⟩
      obtain ⟨hs1, hs2⟩ := mem_spots.mp (show s ∈ spotsG q g.zipIdx by rw [hS]; exact List.mem_cons_self)
      have hzlen : ∀ p ∈ g.zipIdx, p.1.length ≤ 16 := fun p hp => hg2 _ (List.mem_of_getElem? (zipIdx_fst_mem hp))
      have hzn : g.zipIdx.length = g.length := List.length_zipIdx
      refine dg_tp rfl (dgs_cn (dg_nm rfl (dgs_cn (dg_nm rfl (dgs_nl ?_)))))
      refine dx_seq (dx_asg (de_lst (da_nil ⟨[], rfl, by simp, fun ps => ?_⟩)))
      refine dx_seq (dx_forE (α := List Int × Nat) [6, 7] (fun p => .tup [.int (p.2 : Nat), intsD p.1]) (di_enum (da_cons (de_d rfl (da_nil ⟨_, (g.map intsD, none), rfl, len_of hd _, g.zipIdx, enu_map _ _, fun i τ3 => ∃ (b c : SL Kp), τ3 = [.d d, .d (intsD L), .own pf (.lst (rs.map pairD)), .d (.int q.1), .d (.int q.2), .own ps (.lst ((spotsG q (g.zipIdx.take i)).map pairD)), b, c, .u], ⟨xe, xf, rfl⟩, fun _ _ _ => trivial, ?_, ?_⟩)))))
      · rintro i ⟨c, at'⟩ τ3 hq3 ⟨xb, xc, rfl⟩
        have hcm := List.mem_of_getElem? hq3
        have hcl : c.length ≤ 16 := hzlen _ hcm
        have hi20 : i < 20 := by have := (List.getElem?_eq_some_iff.mp hq3).1; omega
        have hsl : (spotsG q (g.zipIdx.take i)).length ≤ 320 := by
          refine Nat.le_trans (spots_len q _ fun p hp => hzlen p (List.mem_of_mem_take hp)) ?_
          rw [List.length_take]; omega
        have hrg : (((c.map (.int : Int → Dk)).length : Nat) - (1 : Int)).toNat = c.length - 1 := by rw [List.length_map]; omega
        refine dg_tp rfl (dgs_cn (dg_nm rfl (dgs_cn (dg_nm rfl (dgs_nl ?_)))))
        refine dx_drop (de_extend ⟨_, _, rfl⟩ (de_lcF (α := Nat) (fun j => .int (j : Nat)) (fun j => decide ((c.drop j).take 2 = [q.1, q.2])) (fun j => pairD ((at' : Int), (j : Int))) (di_rng1 (da_cons (de_I0 (de_len (de_d rfl ⟨c.map .int, rfl, _, rfl, de_int ⟨1, rfl, da_nil ⟨((c.map (.int : Int → Dk)).length : Nat) - (1 : Int), rfl, by rw [List.length_map]; omega, by rw [List.length_map]; omega, List.range (c.length - 1), ?_, fun j hj => dg_nm rfl ?_, rfl, by rw [List.length_range]; omega, rfl, fun p => ?_⟩⟩⟩)))))))
        · rw [hrg]
        · refine dt_test (de_eq (de_sl (de_d rfl (do_some (de_d rfl ⟨(j : Int), rfl, do_some (de_addI (de_d rfl ⟨(j : Int), rfl, de_int ⟨2, rfl, _, rfl, ?_⟩⟩))⟩)))))
          refine de_tup (da_cons (de_d rfl (da_cons (de_d rfl (da_nil ⟨[.int q.1, .int q.2], rfl, by simp, intsD ((c.drop j).take 2), intsD [q.1, q.2], ?_, rfl, lay_intsT _, lay_intsT _, _, rfl, rfl, ?_, fun _ => ?_⟩)))))
          · show (.tup (cutL (c.map (.int : Int → Dk)) (some (j : Int)) (some ((j : Int) + 2))) : Dk) = _
            have := cut_mid (c.map (.int : Int → Dk)) j (j + 2) (by omega)
            rw [show ((j + 2 : Nat) : Int) = (j : Int) + 2 by omega, show j + 2 - j = 2 by omega] at this
            rw [this, ← List.map_drop, ← List.map_take] <;> rfl
          · exact eq_intsT _ _
          · exact de_tup (da_cons (de_d rfl (da_cons (de_d rfl (da_nil ⟨[.int (at' : Nat), .int (j : Nat)], rfl, by simp, rfl, rfl⟩)))))
        · refine ⟨ps, _, (spotsC q c at').map pairD, rfl, ?_, ?_, .d (.int (at' : Nat)), .d (intsD c), ?_⟩
          · unfold spotsC
            rw [List.map_map] <;> rfl
          · rw [List.length_map, List.length_map]
            have : (spotsC q c at').length ≤ 16 := by
              unfold spotsC
              rw [List.length_map]
              refine Nat.le_trans (List.length_filter_le _ _) ?_
              rw [List.length_range]; omega
            omega
          · have := flatMap_one (fun p : List Int × Nat => spotsC q p.1 p.2) hq3
            unfold spotsG
            rw [this, List.map_append]
            rfl
      · rintro τ3 ⟨xb, xc, rfl⟩
        rw [List.take_length, hS]
        refine dx_drop (de_append ⟨_, _, rfl⟩ (de_ix (de_o rfl (de_int ⟨(s :: S).map pairD, 0, pairD s, rfl, rfl, atI_nat (j := 0) rfl, pf, rs.map pairD, pairD s, rfl, rfl, by rw [List.length_map]; omega, rs ++ [s], .d (.int q.1), .d (.int q.2), .own ps (.lst ((s :: S).map pairD)), xb, xc, ?_, ?_, ?_⟩))))
        · rw [List.map_append]
          rfl
        · rw [List.map_append, hrs, take_one hq, List.map_cons, List.map_nil, hs2]
        · intro s' hs'
          rcases List.mem_append.mp hs' with z | z
          · exact hst s' z
          · rw [List.mem_singleton.mp z]; exact hs1
    · rintro τ2 ⟨rs, xa, xb, xc, xe, xf, rfl, hrs, hst⟩
      rw [List.take_length] at hrs
      have hrl : rs.length = L.length := by
        have := congrArg List.length hrs
        rwa [List.length_map, hzl] at this
      refine dx_ret (de_tupleOf (de_o rfl ⟨_, rfl, purs_map _ _ fun _ _ => rfl, h rs ⟨fun z => ?_, hst, fun z hz => ?_, by omega⟩⟩))
      · rw [z] at hrl; simp at hrl; omega
      · obtain ⟨i, hi, f1, f2⟩ := mem_rot.mp hz
        rw [hrl] at f2
        have gp : ∀ (k : Nat) s, rs[k]? = some s → (L.zip (L.drop 1 ++ L.take 1))[k]? = some (pairAt g s) := fun k s hk => by
          rw [← hrs, List.getElem?_map, hk] <;> rfl
        have h1 := gp _ _ f1
        have h2 := gp _ _ f2
        rw [List.getElem?_zip_eq_some] at h1 h2
        have hiL : i < L.length := by omega
        have h3 := h1.2
        rw [rot_get hiL] at h3
        rw [h2.1] at h3
        injection h3 with h3
        exact h3.symm
  case hl =>
    rintro ds Q ⟨d, g, L, rfl, _⟩
    rfl


end K67
set_option Elab.async false
set_option linter.all false
set_option maxRecDepth 100000
namespace K67
open PySem PySem.Spec PyProof.Rows L2 DL RZ
/-! K25: the law: days turned, grids drawn -/
variable {P : Program} {w : World} {K : PySem.W.Frag} {mg : Str → Option Value} {base : Heap} {CB CR : Addr}

/-- days turned about, each in whatever order -/
def Turned (days yss : Grid) : Prop := yss.length = days.length ∧ ∀ (i : Nat) y e, yss[i]? = some y → days.reverse[i]? = some e → y.Perm e
theorem pairs_few {n : Nat} (hn : n ≤ 12) : ∀ g : Grid, (∀ c ∈ g, okC n c) → (pairsOf g).length ≤ g.length * 11
  | g, h => flat_bound _ 11 g fun c hc => by
    obtain ⟨h1, h2, _⟩ := h c hc
    rw [List.length_zip, List.length_drop]; omega

def S__law_turned : FS Kp := fun ds Q => ∃ days : Grid, ds = [.obj .tape, daysD days] ∧ days.length ≤ 16 ∧ (∀ d ∈ days, d.length ≤ 16) ∧ ∀ yss, Turned days yss → Q (.v (wD yss.flatten))
abbrev s__law_turned : Stmt := top 82
abbrev N__law_turned : List Str := ["tape", "plan", "found", "day"]
theorem sc__law_turned : FnScope N__law_turned ["tape", "plan"] (defScope s__law_turned) := ⟨rfl, rfl, rfl, by decide +kernel, rfl, by decide +kernel, by decide +kernel⟩
theorem has__law_turned {k : Nat} (D : Def K mg "_law_turned" s__law_turned ["tape", "plan"]) (z_tuple : mg "tuple" = none) (h__law_shuffled : Has P w K mg base "_law_shuffled" k ["tape", "things"] (spD (Zk K CB CR) S__law_shuffled)) (T : Tx K CB CR) : Has P w K mg base "_law_turned" (k + 1) ["tape", "plan"] (spD (Zk K CB CR) S__law_turned) := by
  refine D.has sc__law_turned ?hl fun f cdv A outer s H E hr => ?bod
  case bod =>
    have hu1 := hu_of hr
    have hu0 := hu0_of hr
    have hu65 := hu65_of hr
    refine ⟨_, (pss_cons (ps_set (i := 2) sc__law_turned.nd rfl (by first | exact Or.inl rfl | exact Or.inr rfl) (pe_lst pa_nil))
    (pss_cons (ps_for PassesOwn.never rfl (kpi_sq (K := K) rfl (kpe_revT (K := K) rfl (pv 1))) (pg_name (i := 3) sc__law_turned.nd rfl (by first | exact Or.inl rfl | exact Or.inr rfl)) (pss_one (ps_set (i := 2) sc__law_turned.nd rfl (by first | exact Or.inl rfl | exact Or.inr rfl) (pe_op (kop_add (K := K) rfl) (pv 2) (pe_callH h__law_shuffled hr (by rfl) (pa_cons (pv 0) (pa_cons (pv 3) pa_nil)))))))
    (pss_one (ps_ret (kpe_tupW (K := K) rfl (by rfl) z_tuple (pv 2)))))), ?_⟩
    rintro ds Q ⟨days, rfl, hl, h16, h⟩
    refine dx_seq (dx_asg (de_lst (da_nil ⟨[], rfl, by simp, fun pf => ?_⟩)))
    refine dx_seq (dx_forE (α := List Int) [3] intsD (di_sq (de_revT (de_d rfl ⟨days.map intsD, rfl, ((days.map intsD).reverse, none), rfl, days.reverse, by rw [List.map_reverse], fun i τ2 => ∃ (yss : Grid) (p : Addr) (x : SL Kp), τ2 = [.d (.obj .tape), .d (daysD days), .own p (.lst (yss.flatten.map .int)), x] ∧ yss.length = i ∧ ∀ (j : Nat) y e, yss[j]? = some y → days.reverse[j]? = some e → y.Perm e, ⟨[], pf, .u, rfl, rfl, fun j y e z => by simp at z⟩, fun _ _ _ => trivial, ?_, ?_⟩))))
    · rintro i d τ2 hq ⟨yss, p, x, rfl, hy, hp⟩
      have hdl := h16 d (List.mem_reverse.mp (List.mem_of_getElem? hq))
      have hil : i < 16 := by have := (List.getElem?_eq_some_iff.mp hq).1; rw [List.length_reverse] at this; omega
      have hyl : yss.flatten.length ≤ 256 := by
        have go : ∀ (k : Nat) (l : Grid), l.length = k → (∀ y ∈ l, y.length ≤ 16) → l.flatten.length ≤ k * 16 := by
          intro k l
          induction l generalizing k with
          | nil => intro _ _; simp
          | cons a l ih =>
            intro hk ha
            rw [List.length_cons] at hk
            subst hk
            rw [List.flatten_cons, List.length_append]
            have := ih l.length rfl fun y hy => ha y (List.mem_cons_of_mem _ hy)
            have := ha a List.mem_cons_self
            omega
        have := go i yss hy fun y hyy => by
          obtain ⟨j, hj⟩ := List.getElem?_of_mem hyy
          have hj2 : j < days.reverse.length := by have := (List.getElem?_eq_some_iff.mp hj).1; have := (List.getElem?_eq_some_iff.mp hq).1; omega
          have := hp j y _ hj (List.getElem?_eq_getElem hj2)
          rw [this.length_eq]
          exact h16 _ (List.mem_reverse.mp (List.getElem_mem hj2))
        omega
      refine dg_nm rfl (dx_asg (de_addL (de_o rfl (de_call (da_cons (de_d rfl (da_cons (de_d rfl (da_nil ⟨intsD d, d, rfl, rfl, by omega, fun ys p2 hys => ⟨yss.flatten.map .int, ys.map .int, rfl, rfl, by rw [List.length_map, List.length_map, hys.length_eq]; omega, fun q => ⟨yss ++ [ys], q, .d (intsD d), ?_, by rw [List.length_append, hy] <;> rfl, fun j y e e1 e2 => ?_⟩⟩⟩)))))))))
      · rw [List.flatten_append, List.map_append]
        simp
        rfl
      · by_cases hj : j < yss.length
        · rw [List.getElem?_append_left hj] at e1
          exact hp j y e e1 e2
        · have hj2 : j = i := by
            have := (List.getElem?_eq_some_iff.mp e1).1
            rw [List.length_append, List.length_singleton] at this
            omega
          subst hj2
          rw [List.getElem?_append_right (by omega), show j - yss.length = 0 by omega] at e1
          cases e1
          rw [hq] at e2
          cases e2
          exact hys
    · rintro τ2 ⟨yss, p, x, rfl, hy, hp⟩
      rw [List.length_reverse] at hy
      exact dx_ret (de_tupW (de_o rfl ⟨_, rfl, purs_ints _, h yss ⟨hy, hp⟩⟩))
  case hl =>
    rintro ds Q ⟨days, rfl, _⟩
    rfl


def S__law_grid : FS Kp := fun ds Q => ∃ n : Nat, ds = [.obj .tape, .int (n : Nat)] ∧ 2 ≤ n ∧ n ≤ 12 ∧ ∀ g p, okG n g → Q (.n p (.lst (g.map wD)))
abbrev s__law_grid : Stmt := top 75
abbrev N__law_grid : List Str := ["tape", "count", "order", "found", "wild", "turn", "some", "rows", "layer"]
theorem sc__law_grid : FnScope N__law_grid ["tape", "count"] (defScope s__law_grid) := ⟨rfl, rfl, rfl, by decide +kernel, rfl, by decide +kernel, by decide +kernel⟩
theorem has__law_grid {k : Nat} (D : Def K mg "_law_grid" s__law_grid ["tape", "count"]) (z_range : mg "range" = none) (z_list : mg "list" = none) (z_tuple : mg "tuple" = none) (h__law_shuffled : Has P w K mg base "_law_shuffled" k ["tape", "things"] (spD (Zk K CB CR) S__law_shuffled)) (h__law_draw : Has P w K mg base "_law_draw" k ["tape", "many"] (spD (Zk K CB CR) S__law_draw)) (T : Tx K CB CR) : Has P w K mg base "_law_grid" (k + 1) ["tape", "count"] (spD (Zk K CB CR) S__law_grid) := by
  refine D.has sc__law_grid ?hl fun f cdv A outer s H E hr => ?bod
  case bod =>
    have hu1 := hu_of hr
    have hu0 := hu0_of hr
    have hu65 := hu65_of hr
    refine ⟨_, (pss_cons (ps_par (i := 2) (j := 3) rfl sc__law_grid.nd rfl rfl (by decide) rfl rfl (pa_cons (pe_callH h__law_shuffled hr (by rfl) (pa_cons (pv 0) (pa_cons (pe_listRg rfl (by rfl) z_list (prg_1 (by rfl) z_range (pv 1))) pa_nil))) (pa_cons (pe_lst pa_nil) pa_nil)) (by rfl))
    (pss_cons (ps_set (i := 4) sc__law_grid.nd rfl (by first | exact Or.inl rfl | exact Or.inr rfl) (pe_cmpR (kop_eq (K := K) rfl hu65) (pe_callH h__law_draw hr (by rfl) (pa_cons (pv 0) (pa_cons pe_int pa_nil))) pe_int (nomark _)))
    (pss_cons (ps_for PassesOwn.never rfl (pi_range1 (by rfl) z_range (pa_cons (pe_op (kop_add (K := K) rfl) pe_int (pe_callH h__law_draw hr (by rfl) (pa_cons (pv 0) (pa_cons pe_int pa_nil)))) pa_nil)) (pg_name (i := 5) sc__law_grid.nd rfl (by first | exact Or.inl rfl | exact Or.inr rfl)) (pss_cons (ps_set (i := 6) sc__law_grid.nd rfl (by first | exact Or.inl rfl | exact Or.inr rfl) (pe_slice (ksl (K := K) rfl) (pe_callH h__law_shuffled hr (by rfl) (pa_cons (pv 0) (pa_cons (pe_listRg rfl (by rfl) z_list (prg_1 (by rfl) z_range (pv 1))) pa_nil))) po_none (po_some (pe_op (kop_add (K := K) rfl) pe_int (pe_callH h__law_draw hr (by rfl) (pa_cons (pv 0) (pa_cons (pv 1) pa_nil)))))))
    (pss_cons (ps_setLc (i := 7) (own := [("layer", 8)]) rfl sc__law_grid.nd rfl rfl (sw_true rfl rfl rfl (by decide +kernel)) (kpi_sq (K := K) rfl (kpe_revL (K := K) rfl (pv 2))) (blkOk_by (N := N__law_grid) (sc := defScope s__law_grid) (by decide +kernel)) (fun _ _ _ _ _ => (pg_name (i := 8) sc__law_grid.nd rfl (by first | exact Or.inl rfl | exact Or.inr rfl))) (fun _ _ _ _ _ => (pts_one (pt_cmpR (kop_in (K := K) rfl hu65) (pv 8) (pv 6) (by with_unfolding_all rfl)))) (fun _ _ _ _ _ => (pv 8)))
    (pss_one (ps_expr (kpe_bm (K := K) rfl PySem.F.plainAttrs_list PySem.F.slot_list_append PySem.F.type_list_append mt_append (pv 3) (pa_cons (kpe_tupW (K := K) rfl (by rfl) z_tuple (pe_ifExp (PW.pt (pw_and (pt_val (pv 4)) (pw_and1 (pt_cmpR (kop_eq (K := K) rfl hu65) (pe_callH h__law_draw hr (by rfl) (pa_cons (pv 0) (pa_cons pe_int pa_nil))) pe_int (nomark _))))) (pv 6) (pv 7))) pa_nil)))))))
    (pss_one (ps_ret (pv 3)))))), ?_⟩
    rintro ds Q ⟨n, rfl, h2, h12, h⟩
    refine dx_seq (dx_par (dao_cons (de_call (da_cons (de_d rfl (da_cons (de_lstRg (drg_1 (de_d rfl ⟨(n : Int), rfl, ⟨by omega, by omega, by omega, by omega⟩, fun q => da_nil ⟨.lst (rgD 0 (n : Int)), ups n, rfl, by rw [rg_up] <;> rfl, by rw [ups_len]; omega, fun ord po hord => ⟨rfl, dao_cons (de_lst (da_nil ⟨[], rfl, by simp, fun pf => ⟨rfl, dao_nil ⟨_, _, rfl, ?_⟩⟩⟩))⟩⟩⟩)))))))))
    have hol : ord.length = n := by rw [hord.length_eq, ups_len]
    refine dx_seq (dx_asg (de_eq (de_call (da_cons (de_d rfl (da_cons (de_int (da_nil ⟨3, rfl, by omega, by omega, fun i3 hi3 => de_int ⟨.int ((i3 : Nat) : Int), .int 0, rfl, rfl, rfl, rfl, ?_⟩⟩))))))))
    generalize eqD (.int ((i3 : Nat) : Int) : Dk) (.int 0) = wild
    refine dx_seq (dx_forE (α := Nat) [5] (fun i => .int (i : Nat)) (di_rng1 (da_cons (de_addI (de_int ⟨1, rfl, de_call (da_cons (de_d rfl (da_cons (de_int (da_nil ⟨8, rfl, by omega, by omega, fun i8 hi8 => ⟨(i8 : Int), rfl, da_nil ⟨1 + (i8 : Int), rfl, by omega, by omega, List.range (1 + i8), ?_, fun i τ2 => ∃ (g : Grid) (a b c : SL Kp), τ2 = [.d (.obj .tape), .d (.int (n : Nat)), .own po (.lst (ord.map .int)), .own pf (.lst (g.map wD)), .d (.bl wild), a, b, c, .u] ∧ g.length = i ∧ ∀ c ∈ g, okC n c, ⟨[], .u, .u, .u, rfl, rfl, nofun⟩, fun _ _ _ => trivial, ?_, ?_⟩⟩⟩)))))⟩)))))
    · rw [show ((1 : Int) + (i8 : Int)).toNat = 1 + i8 by omega]
    · rintro i a τ2 hq ⟨g, xa, xb, xc, rfl, hgl, hg⟩
      have hi : i < 9 := by have := (List.getElem?_eq_some_iff.mp hq).1; rw [List.length_range] at this; omega
      refine dg_nm rfl (dx_seq (dx_asg (de_sl (de_call (da_cons (de_d rfl (da_cons (de_lstRg (drg_1 (de_d rfl ⟨(n : Int), rfl, ⟨by omega, by omega, by omega, by omega⟩, fun q => da_nil ⟨.lst (rgD 0 (n : Int)), ups n, rfl, by rw [rg_up] <;> rfl, by rw [ups_len]; omega, fun ys py hys => do_none (do_some (de_addI (de_int ⟨1, rfl, de_call (da_cons (de_d rfl (da_cons (de_d rfl (da_nil ⟨n, rfl, by omega, by omega, fun k hk => ⟨(k : Int), rfl, _, rfl, ?_⟩⟩)))))⟩)))⟩⟩))))))))))
      intro ps
      have ec : cutL (ys.map (.int : Int → Dk)) none (some (1 + (k : Int))) = (ys.take (1 + k)).map .int := by
        have := cut_to (ys.map (.int : Int → Dk)) (1 + k)
        rw [show ((1 + k : Nat) : Int) = 1 + (k : Int) by omega] at this
        rw [this, List.map_take]
      show DX (Zk K CB CR) _ (sto _ 6 (.n ps (.lst (cutL (ys.map (.int : Int → Dk)) none (some (1 + (k : Int))))))) _
      rw [ec]
      have hyl : ys.length = n := by rw [hys.length_eq, ups_len]
      have hsm : okC n (ys.take (1 + k)) := by
        refine ⟨by rw [List.length_take]; omega, by rw [List.length_take]; omega, fun a ha => mem_ups.mp (hys.mem_iff.mp (List.mem_of_mem_take ha)), (hys.nodup_iff.mpr (ups_nodup n)).sublist (List.take_sublist _ _)⟩
      have hrw : okC n (ord.reverse.filter fun a => decide (a ∈ ys.take (1 + k))) := by
        refine ⟨?_, ?_, fun a ha => mem_ups.mp (hord.mem_iff.mp (List.mem_reverse.mp (List.mem_filter.mp ha).1)), (((List.reverse_perm ord).trans hord).nodup_iff.mpr (ups_nodup n)).sublist List.filter_sublist⟩
        · refine List.length_pos_iff.mpr (List.ne_nil_of_mem (a := ys[0]'(by omega)) ?_)
          rw [List.mem_filter]
          refine ⟨List.mem_reverse.mpr (hord.mem_iff.mpr (hys.mem_iff.mp (List.getElem_mem _))), decide_eq_true ?_⟩
          rw [List.mem_take_iff_getElem]
          exact ⟨0, by omega, rfl⟩
        · refine Nat.le_trans (List.length_filter_le _ _) ?_
          rw [List.length_reverse]; omega
      generalize ys.take (1 + k) = sm at hsm hrw
      refine dx_seq (dx_asg (de_lcF .int (fun a => decide (a ∈ sm)) .int (di_sq (de_revL (de_o rfl ⟨ord.map .int, rfl, fun p => ⟨((ord.map .int).reverse, none), rfl, ord.reverse, by rw [List.map_reverse], fun a ha => dg_nm rfl ?_, rfl, by rw [List.length_reverse]; omega, rfl, fun pw => ?_⟩⟩)))))
      · refine dt_test (de_in (de_d rfl (de_o rfl ⟨_, _, _, rfl, rfl, rfl, rfl, lay_intsL sm, _, rfl, rfl, ?_, fun _ => de_d rfl ⟨rfl, rfl⟩⟩)))
        exact any_ints sm a
      have hgf : (g.map wD).length < 100000 := by rw [List.length_map]; omega
      refine dx_drop (de_append ⟨_, _, rfl⟩ (de_tupW (de_ifx ?_)))
      have yes : ∀ (c : List Int) (xb xc : SL Kp), okC n c → ∃ (p' : Addr) (xs : List Dk) (d : Dk), ([.d (.obj .tape), .d (.int (n : Nat)), .own po (.lst (ord.map .int)), .own pf (.lst (g.map wD)), .d (.bl wild), .d (.int (a : Nat)), xb, xc, .u] : List (SL Kp))[3]? = some (.own p' (.lst xs)) ∧ fz (ER.v (wD c) : ER Kp) = .v d ∧ xs.length < 100000 ∧
          ∃ (g' : Grid) (a' b' c' : SL Kp), ([.d (.obj .tape), .d (.int (n : Nat)), .own po (.lst (ord.map .int)), .own pf (.lst (g.map wD)), .d (.bl wild), .d (.int (a : Nat)), xb, xc, .u] : List (SL Kp)).set 3 (.own p' (.lst (xs ++ [d]))) = [.d (.obj .tape), .d (.int (n : Nat)), .own po (.lst (ord.map .int)), .own pf (.lst (g'.map wD)), .d (.bl wild), a', b', c', .u] ∧ g'.length = i + 1 ∧ ∀ c ∈ g', okC n c := fun c xb xc hc => by
        refine ⟨pf, g.map wD, wD c, rfl, rfl, hgf, g ++ [c], .d (.int (a : Nat)), xb, xc, ?_, by rw [List.length_append, hgl] <;> rfl, fun z hz => ?_⟩
        · rw [List.map_append]
          rfl
        · rcases List.mem_append.mp hz with q | q
          · exact hg z q
          · rw [List.mem_singleton.mp q]; exact hc
      refine dt_and (dt_val (de_d rfl ⟨wild, rfl, ?_⟩))
      cases wild with
      | false => exact iteF' rfl (iteF' rfl (de_o rfl ⟨_, rfl, yes _ _ _ hrw⟩))
      | true =>
        refine iteT' rfl (dt_test (de_eq (de_call (da_cons (de_d rfl (da_cons (de_int (da_nil ⟨2, rfl, by omega, by omega, fun i2 hi2 => de_int ⟨.int ((i2 : Nat) : Int), .int 0, rfl, rfl, rfl, rfl, _, rfl, ?_⟩⟩))))))))
        generalize eqD (.int ((i2 : Nat) : Int) : Dk) (.int 0) = b2
        cases b2 with
        | true => exact iteT' rfl (de_o rfl ⟨_, rfl, yes _ _ _ hsm⟩)
        | false => exact iteF' rfl (de_o rfl ⟨_, rfl, yes _ _ _ hrw⟩)
    · rintro τ2 ⟨g, xa, xb, xc, rfl, hgl, hg⟩
      rw [List.length_range] at hgl
      have hfew := pairs_few h12 g hg
      exact dx_ret (de_o rfl ⟨purs_map _ _ fun _ _ => purs_ints _, h g pf ⟨h2, by omega, by omega, by omega, hg, by omega⟩⟩)
  case hl =>
    rintro ds Q ⟨n, rfl, _⟩
    rfl


end K67
set_option Elab.async false
set_option linter.all false
set_option maxRecDepth 100000
namespace K67
open PySem PySem.Spec PyProof.Rows L2 DL RZ
/-! K26: the law: an order laid right, a ring right -/
variable {P : Program} {w : World} {K : PySem.W.Frag} {mg : Str → Option Value} {base : Heap} {CB CR : Addr}

section
variable {τ : List (SL Kp)} {P' : PE' Kp} {ta tb : TE}
theorem de_isT (h : DE (Zk K CB CR) ta τ fun r τ1 => ∃ a, r = .v (.bl a) ∧ P' (.v (.bl a)) τ1) : DE (Zk K CB CR) (tOp rIsB ta (tC (.bl true))) τ P' :=
  de_op (r := rIsB) (sem := fun d e P => ∃ a b, d = .bl a ∧ e = .bl b ∧ P (.v (.bl (decide (a = b))))) (fun w G H x y dx dy Q P s hx hy ⟨a, b, e1, e2, h⟩ k => by
    subst e1 e2
    refine ⟨a, b, hx.bl, hy.bl, ?_⟩
    have := k _ _ _ h (.same (.bl _))
    simpa using this) (DE.mono h fun r τ1 ⟨a, e, h⟩ => de_bl ⟨a, true, by rw [e] <;> rfl, rfl, by
      have : decide (a = true) = a := by cases a <;> rfl
      rw [this]
      exact h⟩)
theorem de_notT (h : DE (Zk K CB CR) ta τ fun r τ1 => ∃ a, r = .v (.bl a) ∧ P' (.v (.bl (!a))) τ1) : DE (Zk K CB CR) (tOp rNotB ta (tC (.bl true))) τ P' :=
  de_op (r := rNotB) (sem := fun d e P => ∃ a b, d = .bl a ∧ e = .bl b ∧ P (.v (.bl (!decide (a = b))))) (fun w G H x y dx dy Q P s hx hy ⟨a, b, e1, e2, h⟩ k => by
    subst e1 e2
    refine ⟨a, b, hx.bl, hy.bl, ?_⟩
    have := k _ _ _ h (.same (.bl _))
    simpa using this) (DE.mono h fun r τ1 ⟨a, e, h⟩ => de_bl ⟨a, true, by rw [e] <;> rfl, rfl, by
      have : (!decide (a = true)) = !a := by cases a <;> rfl
      rw [this]
      exact h⟩)
end
theorem chain_pw {α : Type} {R : α → α → Prop} (tr : ∀ a b c, R a b → R b c → R a c) : ∀ {c : List α}, (∀ q ∈ c.zip (c.drop 1), R q.1 q.2) → c.Pairwise R
  | [], _ => .nil
  | [a], _ => by simp
  | a :: b :: r, h => by
    have ih := chain_pw tr (c := b :: r) fun q hq => h q (List.mem_cons_of_mem _ hq)
    have hab := h (a, b) List.mem_cons_self
    refine List.pairwise_cons.mpr ⟨fun x hx => ?_, ih⟩
    rcases List.mem_cons.mp hx with e | hx
    · rw [e]; exact hab
    · exact tr _ _ _ hab ((List.pairwise_cons.mp ih).1 x hx)
theorem idx_of {xs : List Int} (h : xs.Nodup) {i : Nat} {a : Int} (e : xs[i]? = some a) : xs.idxOf a = i := by
  obtain ⟨hi, ea⟩ := List.getElem?_eq_some_iff.mp e
  have hm : a ∈ xs := List.mem_of_getElem? e
  have hl := List.idxOf_lt_length_iff.mpr hm
  have h2 : xs[xs.idxOf a]? = some a := by rw [List.getElem?_eq_getElem hl, List.getElem_idxOf hl]
  exact (List.getElem?_inj hl h).mp (h2.trans e.symm)
theorem pw_idx {xs : List Int} (h : xs.Nodup) : xs.Pairwise fun a b => xs.idxOf a < xs.idxOf b := by
  rw [List.pairwise_iff_getElem]
  intro i j hi hj hij
  rw [idx_of h (List.getElem?_eq_getElem hi), idx_of h (List.getElem?_eq_getElem hj)]
  exact hij
theorem laid_pair {g : Grid} {xs : List Int} (h : laidOk g xs = true) {p : Int × Int} (hp : p ∈ ovG g) : xs.idxOf p.2 < xs.idxOf p.1 := by
  have := List.all_eq_true.mp h p hp
  exact of_decide_eq_true this
theorem laid_col {n : Nat} {g : Grid} {xs : List Int} (hp : xs.Perm (ups n)) (hl : laidOk g xs = true) {c : List Int} (hc : c ∈ g) (ok : okC n c) : xs.reverse.filter (fun a => decide (a ∈ srt c)) = c := by
  have hn : xs.Nodup := hp.nodup_iff.mpr (ups_nodup n)
  have h1 : c.Pairwise fun a b => xs.idxOf b < xs.idxOf a := chain_pw (R := fun a b => xs.idxOf b < xs.idxOf a) (fun a b c h1 h2 => Nat.lt_trans h2 h1) fun q hq => laid_pair hl (usort_mem.mpr (List.mem_flatMap.mpr ⟨c, hc, hq⟩))
  have h2 : (xs.reverse.filter fun a => decide (a ∈ srt c)).Pairwise fun a b => xs.idxOf b < xs.idxOf a := (List.pairwise_reverse.mpr (pw_idx hn)).sublist List.filter_sublist
  have n2 : (xs.reverse.filter fun a => decide (a ∈ srt c)).Nodup := (((List.reverse_perm xs).nodup_iff.mpr hn)).sublist List.filter_sublist
  have pm : (xs.reverse.filter fun a => decide (a ∈ srt c)).Perm c := (List.perm_ext_iff_of_nodup n2 ok.2.2.2).mpr fun a => by
    rw [List.mem_filter, List.mem_reverse, decide_eq_true_eq, (srt_perm c).mem_iff]
    exact ⟨fun h => h.2, fun h => ⟨hp.mem_iff.mpr (mem_ups.mpr (ok.2.2.1 a h)), h⟩⟩
  exact pm.eq_of_pairwise (fun a b _ _ h1 h2 => absurd h1 (Nat.lt_asymm h2)) h2 h1
theorem srt_lot {n : Nat} {c : List Int} (ok : okC n c) : isLot (srt c) n = true := by
  refine isLot_of (fun a ha => ok.2.2.1 a ((srt_perm c).mem_iff.mp ha)) ?_
  have h1 := srt_pw c
  have h2 : (srt c).Nodup := (srt_perm c).nodup_iff.mpr ok.2.2.2
  exact (h1.and h2).imp fun ⟨a, b⟩ => by omega
theorem laid_fits {n : Nat} {g : Grid} (hg : okG n g) {xs : List Int} (hl : laidOk g xs = true) : fitsO (ovG g) xs = true := by
  unfold fitsO
  rw [List.all_eq_true]
  intro p hp
  have := laid_pair hl hp
  simp
  omega
theorem rev_at {xs : List Int} (hn : xs.Nodup) {i : Nat} {a : Int} (e : xs.reverse[i]? = some a) : i < xs.length ∧ xs.idxOf a = xs.length - 1 - i := by
  have hi : i < xs.length := by have := (List.getElem?_eq_some_iff.mp e).1; rwa [List.length_reverse] at this
  rw [List.getElem?_reverse hi] at e
  exact ⟨hi, idx_of hn e⟩
theorem laid_plan {n : Nat} {g : Grid} (hg : okG n g) {xs : List Int} (hp : xs.Perm (ups n)) (hl : laidOk g xs = true) {cr : Nat} (hc : 1 ≤ cr) : PlanS n (ovG g) cr (xs.reverse.map fun a => [a]) := by
  have hn : xs.Nodup := hp.nodup_iff.mpr (ups_nodup n)
  refine ⟨fun d hd => ?_, ?_, fun p hpo i j d e e1 e2 m1 m2 => ?_⟩
  · obtain ⟨a, ha, rfl⟩ := List.mem_map.mp hd
    refine ⟨isLot_of (fun b hb => ?_) (by simp), by simp, by simpa using hc⟩
    rw [List.mem_singleton.mp hb]
    exact mem_ups.mp (hp.mem_iff.mp (List.mem_reverse.mp ha))
  · have : (xs.reverse.map fun a => [a]).flatten = xs.reverse := by
      induction xs.reverse with
      | nil => rfl
      | cons a r ih => rw [List.map_cons, List.flatten_cons, ih] <;> rfl
    rw [this]
    exact (List.reverse_perm xs).trans hp
  · rw [List.getElem?_map] at e1 e2
    obtain ⟨a, ea, rfl⟩ := Option.map_eq_some_iff.mp e1
    obtain ⟨b, eb, rfl⟩ := Option.map_eq_some_iff.mp e2
    have := laid_pair hl hpo
    rw [List.mem_singleton.mp m1, List.mem_singleton.mp m2] at this
    obtain ⟨f1, f2⟩ := rev_at hn ea
    obtain ⟨f3, f4⟩ := rev_at hn eb
    omega
theorem ring_over {n : Nat} {g : Grid} (hg : okG n g) {rs : Ovs} (hr : RingS g rs) : RingO (ovG g) (rs.map fun s => (pairAt g s).1) ∧ 2 ≤ rs.length := by
  have hpos : 0 < rs.length := List.length_pos_iff.mpr hr.ne
  refine ⟨⟨by simpa using hr.ne, by rw [List.length_map]; exact hr.few, fun q hq => ?_⟩, ?_⟩
  · obtain ⟨i, hi, e1, e2⟩ := mem_rot.mp hq
    rw [List.length_map] at hi e2
    rw [List.getElem?_map] at e1 e2
    obtain ⟨s1, f1, g1⟩ := Option.map_eq_some_iff.mp e1
    obtain ⟨s2, f2, g2⟩ := Option.map_eq_some_iff.mp e2
    have := hr.cyc (s1, s2) (mem_rot.mpr ⟨i, hi, f1, f2⟩)
    refine ov_step.mpr ⟨s1, hr.ok s1 (List.mem_of_getElem? f1), ?_⟩
    exact Prod.ext g1 (this.trans g2)
  · rcases Nat.lt_or_ge 1 rs.length with h | h
    · exact h
    · obtain ⟨s, rfl⟩ := List.length_eq_one_iff.mp (show rs.length = 1 by omega)
      have := hr.cyc (s, s) (by simp)
      obtain ⟨i, j, c, rfl, hc, hj⟩ := hr.ok s (by simp)
      rw [pairAt_of hc] at this
      replace this : c.getD (j + 1) 0 = c.getD j 0 := this
      have hnd := (hg.col c (List.mem_of_getElem? hc)).2.2.2
      rw [List.getD_eq_getElem?_getD, List.getD_eq_getElem?_getD, List.getElem?_eq_getElem hj, List.getElem?_eq_getElem (show j < c.length by omega)] at this
      have := (List.getElem?_inj (i := j + 1) (j := j) hj hnd).mp (by rw [List.getElem?_eq_getElem hj, List.getElem?_eq_getElem (show j < c.length by omega)]; exact congrArg some this)
      omega
theorem eq_grid (a b : Grid) : eqD (.tup (a.map intsD) : Dk) (.tup (b.map intsD)) = decide (a = b) := by
  have e : ∀ z : Grid, toPy (.tup (z.map intsD) : Dk) = some (.tuple (z.map fun xs => .tuple (xs.map .int))) := fun z => by
    have : toPys (z.map intsD) = some (z.map fun xs => PyData.tuple (xs.map .int)) := toPys_map _ _ _ fun xs _ => by simp [intsD, toPy, toPys_ints]
    simp [toPy, this]
  simp only [eqD, e, PyData.eqv]
  exact eqvs_map _ (fun xs ys => by simp only [PyData.eqv]; exact eqvs_map _ eqv_int xs ys) a b
theorem lay_grid (a : Grid) : lay 60 (.tup (a.map intsD) : Dk) = true := by
  have : lays 59 (a.map intsD) = true := lays_map intsD a fun xs _ => by simp [intsD, lay, lays_ints]
  simpa [lay] using this
theorem gld (g : Grid) : LD (.lst (g.map wD)) (.lst (g.map intsD)) := .lst (LDs.map fun c _ => wld c)
theorem gldT (g : Grid) : LD (.tup (g.map wD)) (.tup (g.map intsD)) := .tup (LDs.map fun c _ => wld c)
theorem okG.inO {n : Nat} {g : Grid} (hg : okG n g) : inO (ovG g) (ups n) := fun p hp => by
  obtain ⟨m1, m2, _⟩ := ov_in hg hp
  exact ⟨m1, m2⟩
theorem okG.ovl {n : Nat} {g : Grid} (hg : okG n g) : (ovG g).length ≤ 100 := Nat.le_trans (usort_len _) hg.few

def S__law_laid_right : FS Kp := fun ds Q => ∃ (n : Nat) (g : Grid) (xs : List Int), ds = [.obj .tape, .int (n : Nat), .lst (g.map wD), bookD n (ovG g), wD xs] ∧ okG n g ∧ xs.Perm (ups n) ∧ laidOk g xs = true ∧ Q (.v (.bl true))
abbrev s__law_laid_right : Stmt := top 83
abbrev N__law_laid_right : List Str := ["tape", "count", "grid", "book", "order", "whole", "squares", "days", "column", "layer"]
theorem sc__law_laid_right : FnScope N__law_laid_right ["tape", "count", "grid", "book", "order"] (defScope s__law_laid_right) := ⟨rfl, rfl, rfl, by decide +kernel, rfl, by decide +kernel, by decide +kernel⟩
theorem has__law_laid_right {k : Nat} (D : Def K mg "_law_laid_right" s__law_laid_right ["tape", "count", "grid", "book", "order"]) (z_range : mg "range" = none) (z_tuple : mg "tuple" = none) (z_sorted : mg "sorted" = none) (h_is_plan : Has P w K mg base "is_plan" k ["book", "crews", "wanted", "thing"] (spD (Zk K CB CR) S_is_plan)) (h__law_draw : Has P w K mg base "_law_draw" k ["tape", "many"] (spD (Zk K CB CR) S__law_draw)) (h_amiss : Has P w K mg base "amiss" k ["book", "order"] (spD (Zk K CB CR) S_amiss)) (h_shown : Has P w K mg base "shown" k ["book", "order", "squares"] (spD (Zk K CB CR) S_shown)) (h_is_history : Has P w K mg base "is_history" k ["count", "grid", "thing"] (spD (Zk K CB CR) S_is_history)) (T : Tx K CB CR) : Has P w K mg base "_law_laid_right" (k + 1) ["tape", "count", "grid", "book", "order"] (spD (Zk K CB CR) S__law_laid_right) := by
  refine D.has sc__law_laid_right ?hl fun f cdv A outer s H E hr => ?bod
  case bod =>
    have hu1 := hu_of hr
    have hu0 := hu0_of hr
    have hu65 := hu65_of hr
    refine ⟨_, (pss_cons (ps_par (i := 5) (j := 6) rfl sc__law_laid_right.nd rfl rfl (by decide) rfl rfl (pa_cons (pe_tupRg rfl (by rfl) z_tuple (prg_1 (by rfl) z_range (pv 1))) (pa_cons (pe_lc (own := [("column", 8)]) rfl sc__law_laid_right.nd (kpi_sq (K := K) rfl (pv 2)) (blkOk_by (N := N__law_laid_right) (sc := defScope s__law_laid_right) (by decide +kernel)) (fun _ _ _ _ _ => (pg_name (i := 8) sc__law_laid_right.nd rfl (by first | exact Or.inl rfl | exact Or.inr rfl))) (fun _ _ _ _ _ => pts_nil) (fun _ _ _ _ _ => (kpe_tupleOf (K := K) rfl (by rfl) z_tuple (pe_callB (ksrt (K := K) rfl) (by rfl) z_sorted (by decide +kernel) (pa_cons (pv 8) pa_nil))))) pa_nil)) (by rfl))
    (pss_cons (ps_set (i := 7) sc__law_laid_right.nd rfl (by first | exact Or.inl rfl | exact Or.inr rfl) (kpe_tupleOf (K := K) rfl (by rfl) z_tuple (pe_lc (own := [("layer", 9)]) rfl sc__law_laid_right.nd (kpi_sq (K := K) rfl (kpe_revT (K := K) rfl (pv 4))) (blkOk_by (N := N__law_laid_right) (sc := defScope s__law_laid_right) (by decide +kernel)) (fun _ _ _ _ _ => (pg_name (i := 9) sc__law_laid_right.nd rfl (by first | exact Or.inl rfl | exact Or.inr rfl))) (fun _ _ _ _ _ => pts_nil) (fun _ _ _ _ _ => (pe_tup (pa_cons (pv 9) pa_nil))))))
    (pss_cons (ps_if (PW.pt (pw_or (pt_cmpR op_notBl (pe_callH h_is_plan hr (by rfl) (pa_cons (pv 3) (pa_cons (pe_op (kop_add (K := K) rfl) pe_int (pe_callH h__law_draw hr (by rfl) (pa_cons (pv 0) (pa_cons pe_int pa_nil)))) (pa_cons (pv 5) (pa_cons (pv 7) pa_nil))))) pe_bl (nomark _)) (pw_or1 (pt_cmp (pc_notN (pe_callH h_amiss hr (by rfl) (pa_cons (pv 3) (pa_cons (pv 4) pa_nil)))))))) (pss_one (ps_ret pe_bl)) pss_nil)
    (pss_cons (ps_if (PW.pt (pw_or (pt_cmpR (kop_ne (K := K) rfl hu65) (pe_callH h_shown hr (by rfl) (pa_cons (pv 3) (pa_cons (pv 4) (pa_cons (pv 6) pa_nil)))) (kpe_tupleOf (K := K) rfl (by rfl) z_tuple (pv 2)) (nomark _)) (pw_or1 (pt_cmpR (kop_ne (K := K) rfl hu65) (pe_callH h_shown hr (by rfl) (pa_cons (pv 3) (pa_cons (pv 4) (pa_cons (kpe_tupleOf (K := K) rfl (by rfl) z_tuple (pv 6)) pa_nil)))) (kpe_tupleOf (K := K) rfl (by rfl) z_tuple (pv 2)) (nomark _))))) (pss_one (ps_ret pe_bl)) pss_nil)
    (pss_one (ps_ret (pe_cmpR op_isBl (pe_callH h_is_history hr (by rfl) (pa_cons (pv 1) (pa_cons (pv 2) (pa_cons (pe_tup (pa_cons pe_str (pa_cons (pv 4) pa_nil))) pa_nil)))) pe_bl (nomark _)))))))), ?_⟩
    rintro ds Q ⟨n, g, xs, rfl, hg, hp, hl, h⟩
    have g2 := hg.n2; have g3 := hg.n16; have g4 := hg.g1; have g5 := hg.g20
    have hxl : xs.length = n := by rw [hp.length_eq, ups_len]
    have hov := hg.ovl
    refine dx_seq (dx_par (dao_cons (de_tupRg (drg_1 (de_d rfl ⟨(n : Int), rfl, ⟨by omega, by omega, by omega, by omega⟩, rfl, dao_cons (de_lcM (α := List Int) wD (fun c => intsD (srt c)) (di_sq (de_d rfl ⟨(g.map wD, none), rfl, g, rfl, fun c hc => dg_nm rfl ?_, rfl, by omega, rfl, fun p => ⟨rfl, dao_nil ⟨_, _, rfl, ?_⟩⟩⟩)))⟩)))))
    · exact de_tupleOf (de_cb bs_srt (da_cons (de_ld (de_d rfl ⟨wD c, intsD c, rfl, wld c, da_nil ⟨_, c, rfl, rfl, fun q => ⟨_, rfl, rfl, rfl⟩⟩⟩))))
    have er : (rgD 0 (n : Int) : List Dk) = (ups n).map .int := rg_up n
    show DX (Zk K CB CR) _ [.d (.obj .tape), .d (.int (n : Nat)), .d (.lst (g.map wD)), .d (bookD n (ovG g)), .d (wD xs), .d (.tup (rgD 0 (n : Int))), .own p (.lst (g.map fun c => intsD (srt c))), .u, .u, .u] _
    rw [er]
    refine dx_seq (dx_asg (de_tupleOf (de_lcM (α := Int) .int (fun a => intsD [a]) (di_sq (de_revT (de_ld (de_d rfl ⟨wD xs, intsD xs, rfl, wld xs, xs.map .int, rfl, ((xs.map .int).reverse, none), rfl, xs.reverse, by rw [List.map_reverse], fun a ha => dg_nm rfl (de_tup (da_cons (de_d rfl (da_nil ⟨[.int a], rfl, by simp, rfl, rfl⟩)))), rfl, by rw [List.length_reverse]; omega, rfl, fun q => ⟨_, rfl, ?_⟩⟩)))))))
    have ed : ((xs.reverse.map fun a => intsD [a]) : List Dk) = (xs.reverse.map fun a => [a]).map intsD := by rw [List.map_map] <;> rfl
    have hdays : (DL.D.tup (xs.reverse.map fun a => intsD [a]) : Dk) = daysD (xs.reverse.map fun a => [a]) := by rw [ed] <;> rfl
    show DX (Zk K CB CR) _ [.d (.obj .tape), .d (.int (n : Nat)), .d (.lst (g.map wD)), .d (bookD n (ovG g)), .d (wD xs), .d (intsD (ups n)), .own p (.lst (g.map fun c => intsD (srt c))), .d (.tup (xs.reverse.map fun a => intsD [a])), .u, .u] _
    rw [hdays]
    refine dx_seq (dx_if (dt_or (dt_test (de_notT (de_call (da_cons (de_d rfl (da_cons (de_addI (de_int ⟨1, rfl, de_call (da_cons (de_d rfl (da_cons (de_int (da_nil ⟨4, rfl, by omega, by omega, fun i hi => ⟨(i : Int), rfl, da_cons (de_d rfl (da_cons (de_d rfl (da_nil ⟨n, ovG g, 1 + i, xs.reverse.map fun a => [a], ?_, by omega, by omega, by omega, by omega, hg.inO, laid_plan hg hp hl (by omega), true, rfl, _, rfl, iteF' rfl ?_⟩))))⟩⟩)))))⟩))))))))))
    · show [(bookD n (ovG g) : Dk), .int (1 + (i : Int)), intsD (ups n), daysD (xs.reverse.map fun a => [a])] = _
      rw [show ((1 + i : Nat) : Int) = 1 + (i : Int) by omega]
    have hin : inO (ovG g) xs := fun p hp' => ⟨hp.mem_iff.mpr (hg.inO p hp').1, hp.mem_iff.mpr (hg.inO p hp').2⟩
    refine dt_test (de_nnN (de_call (da_cons (de_d rfl (da_cons (de_ld (de_d rfl ⟨wD xs, intsD xs, rfl, wld xs, da_nil ⟨n, ovG g, xs, rfl, by omega, hp, hin, by omega, fun _ => ⟨.non, rfl, rfl, _, rfl, iteF' rfl (dx_next ?_)⟩, fun z => ?_⟩⟩)))))))
    rotate_left
    · rw [laid_fits hg hl] at z; cases z
    have hlots : ∀ s ∈ g.map srt, isLot s n = true ∧ s ≠ [] ∧ s.length ≤ 16 := fun s hs => by
      obtain ⟨c, hc, rfl⟩ := List.mem_map.mp hs
      have ok := hg.col c hc
      have e := (srt_perm c).length_eq
      refine ⟨srt_lot ok, fun z => ?_, by have := ok.2.1; omega⟩
      have := ok.1
      rw [z] at e
      simp at e
      omega
    have hsh : ((g.map srt).map fun s => intsD (xs.reverse.filter fun a => decide (a ∈ s))) = g.map intsD := by
      rw [List.map_map]
      refine List.map_congr_left fun c hc => ?_
      show intsD (xs.reverse.filter fun a => decide (a ∈ srt c)) = intsD c
      rw [laid_col hp hl hc (hg.col c hc)]
    have esq : (g.map fun c => intsD (srt c)) = (g.map srt).map intsD := by rw [List.map_map] <;> rfl
    rw [esq]
    refine dx_seq (dx_if (dt_or (dt_test (de_ne (de_call (da_cons (de_d rfl (da_cons (de_ld (de_d rfl ⟨wD xs, intsD xs, rfl, wld xs, da_cons (de_o rfl (da_nil ⟨n, ovG g, xs, .lst ((g.map srt).map intsD), g.map srt, rfl, hp, rfl, by rw [List.length_map]; omega, by rw [List.length_map]; omega, by omega, hlots, ?_⟩))⟩))))))))))
    rw [hsh]
    refine de_ld (de_tupleOf (de_d rfl ⟨g.map wD, rfl, .tup (g.map wD), .tup (g.map intsD), rfl, gldT g, .tup (g.map intsD), .tup (g.map intsD), rfl, rfl, lay_grid g, lay_grid g, ?_⟩))
    rw [eq_grid, decide_eq_true rfl]
    refine ⟨false, rfl, iteF' rfl (dt_test (de_ne (de_call (da_cons (de_d rfl (da_cons (de_ld (de_d rfl ⟨wD xs, intsD xs, rfl, wld xs, da_cons (de_tupleOf (de_o rfl ⟨(g.map srt).map intsD, rfl, da_nil ⟨n, ovG g, xs, .tup ((g.map srt).map intsD), g.map srt, rfl, hp, rfl, by rw [List.length_map]; omega, by rw [List.length_map]; omega, by omega, hlots, ?_⟩⟩))⟩))))))))⟩
    rw [hsh]
    refine de_ld (de_tupleOf (de_d rfl ⟨g.map wD, rfl, .tup (g.map wD), .tup (g.map intsD), rfl, gldT g, .tup (g.map intsD), .tup (g.map intsD), rfl, rfl, lay_grid g, lay_grid g, ?_⟩))
    rw [eq_grid, decide_eq_true rfl]
    refine ⟨false, rfl, iteF' rfl (dx_next ?_)⟩
    refine dx_ret (de_isT (de_call (da_cons (de_d rfl (da_cons (de_ld (de_d rfl ⟨.lst (g.map wD), .lst (g.map intsD), rfl, gld g, da_cons (de_tup (da_cons (de_str (da_cons (de_d rfl (da_nil ⟨[.str "laid", wD xs], rfl, by simp, da_nil ⟨n, .lst (g.map intsD), g, .tup [.str "laid", wD xs], rfl, rfl, hg, .inr ⟨xs, rfl, hp, true, ?_, rfl, h⟩⟩⟩))))))⟩)))))))
    exact congrArg (fun b => ER.v (DL.D.bl b)) hl
  case hl =>
    rintro ds Q ⟨n, g, xs, rfl, _⟩
    rfl


def S__law_ring_right : FS Kp := fun ds Q => ∃ (n : Nat) (g : Grid) (rs : Ovs), ds = [.int (n : Nat), .lst (g.map wD), bookD n (ovG g), .tup (rs.map pairD)] ∧ okG n g ∧ RingS g rs ∧ Q (.v (.bl true))
abbrev s__law_ring_right : Stmt := top 84
abbrev N__law_ring_right : List Str := ["count", "grid", "book", "ring", "overs", "whole", "layers"]
theorem sc__law_ring_right : FnScope N__law_ring_right ["count", "grid", "book", "ring"] (defScope s__law_ring_right) := ⟨rfl, rfl, rfl, by decide +kernel, rfl, by decide +kernel, by decide +kernel⟩
theorem has__law_ring_right {k : Nat} (D : Def K mg "_law_ring_right" s__law_ring_right ["count", "grid", "book", "ring"]) (z_range : mg "range" = none) (z_tuple : mg "tuple" = none) (h__law_overs : Has P w K mg base "_law_overs" k ["grid"] (spD (Zk K CB CR) S__law_overs)) (h__law_is_way : Has P w K mg base "_law_is_way" k ["grid", "thing"] (spD (Zk K CB CR) S__law_is_way)) (h_is_history : Has P w K mg base "is_history" k ["count", "grid", "thing"] (spD (Zk K CB CR) S_is_history)) (h__law_followed : Has P w K mg base "_law_followed" k ["grid", "ring"] (spD (Zk K CB CR) S__law_followed)) (h__law_is_ring : Has P w K mg base "_law_is_ring" k ["overs", "thing"] (spD (Zk K CB CR) S__law_is_ring)) (h_is_stuck : Has P w K mg base "is_stuck" k ["book", "wanted", "thing"] (spD (Zk K CB CR) S_is_stuck)) (T : Tx K CB CR) : Has P w K mg base "_law_ring_right" (k + 1) ["count", "grid", "book", "ring"] (spD (Zk K CB CR) S__law_ring_right) := by
  refine D.has sc__law_ring_right ?hl fun f cdv A outer s H E hr => ?bod
  case bod =>
    have hu1 := hu_of hr
    have hu0 := hu0_of hr
    have hu65 := hu65_of hr
    refine ⟨_, (pss_cons (ps_par (i := 4) (j := 5) rfl sc__law_ring_right.nd rfl rfl (by decide) rfl rfl (pa_cons (pe_callH h__law_overs hr (by rfl) (pa_cons (pv 1) pa_nil)) (pa_cons (pe_tupRg rfl (by rfl) z_tuple (prg_1 (by rfl) z_range (pv 0))) pa_nil)) (by rfl))
    (pss_cons (ps_if (PW.pt (pw_or (pt_not (pt_val (pe_callH h__law_is_way hr (by rfl) (pa_cons (pv 1) (pa_cons (pv 3) pa_nil))))) (pw_or1 (pt_cmpR op_notBl (pe_callH h_is_history hr (by rfl) (pa_cons (pv 0) (pa_cons (pv 1) (pa_cons (pe_tup (pa_cons pe_str (pa_cons (pv 3) pa_nil))) pa_nil)))) pe_bl (nomark _))))) (pss_one (ps_ret pe_bl)) pss_nil)
    (pss_cons (ps_set (i := 6) sc__law_ring_right.nd rfl (by first | exact Or.inl rfl | exact Or.inr rfl) (pe_callH h__law_followed hr (by rfl) (pa_cons (pv 1) (pa_cons (pv 3) pa_nil))))
    (pss_one (ps_ret (pe_and (pe_callH h__law_is_ring hr (by rfl) (pa_cons (pv 4) (pa_cons (pv 6) pa_nil))) (pe_one (pe_cmpR op_isBl (pe_callH h_is_stuck hr (by rfl) (pa_cons (pv 2) (pa_cons (pv 5) (pa_cons (pv 6) pa_nil)))) pe_bl (nomark _))))))))), ?_⟩
    rintro ds Q ⟨n, g, rs, rfl, hg, hr, h⟩
    have g2 := hg.n2; have g3 := hg.n16; have g4 := hg.g1; have g5 := hg.g20
    have hov := hg.ovl
    obtain ⟨ho, h2⟩ := ring_over hg hr
    refine dx_seq (dx_par (dao_cons (de_call (da_cons (de_ld (de_d rfl ⟨.lst (g.map wD), .lst (g.map intsD), rfl, gld g, da_nil ⟨.lst (g.map intsD), g, rfl, rfl, hg.few, hg.rows, g5, rfl, dao_cons (de_tupRg (drg_1 (de_d rfl ⟨(n : Int), rfl, ⟨by omega, by omega, by omega, by omega⟩, rfl, dao_nil ⟨_, _, rfl, ?_⟩⟩)))⟩⟩))))))
    have er : (rgD 0 (n : Int) : List Dk) = (ups n).map .int := rg_up n
    show DX (Zk K CB CR) _ [.d (.int (n : Nat)), .d (.lst (g.map wD)), .d (bookD n (ovG g)), .d (.tup (rs.map pairD)), .d (ovsD (ovG g)), .d (.tup (rgD 0 (n : Int))), .u] _
    rw [er]
    refine dx_seq (dx_if (dt_or (dt_not (dt_val (de_call (da_cons (de_ld (de_d rfl ⟨.lst (g.map wD), .lst (g.map intsD), rfl, gld g, da_cons (de_d rfl (da_nil ⟨.lst (g.map intsD), g, rs, rfl, rfl, g5, hg.rows, hr, true, rfl, iteF' rfl ?_⟩))⟩))))))))
    refine dt_test (de_notT (de_call (da_cons (de_d rfl (da_cons (de_ld (de_d rfl ⟨.lst (g.map wD), .lst (g.map intsD), rfl, gld g, da_cons (de_tup (da_cons (de_str (da_cons (de_d rfl (da_nil ⟨[.str "ring", .tup (rs.map pairD)], rfl, by simp, da_nil ⟨n, .lst (g.map intsD), g, .tup [.str "ring", .tup (rs.map pairD)], rfl, rfl, hg, .inl ⟨rs, rfl, hr, true, rfl, _, rfl, iteF' rfl (dx_next ?_)⟩⟩⟩))))))⟩)))))))
    refine dx_seq (dx_asg (de_call (da_cons (de_d rfl (da_cons (de_d rfl (da_nil ⟨.lst (g.map wD), g, rs, rfl, rfl, g5, hg.rows, hr, ?_⟩)))))))
    refine dx_ret (de_andV (de_call (da_cons (de_d rfl (da_cons (de_d rfl (da_nil ⟨ovG g, _, rfl, by omega, ho, by rw [List.length_map]; exact h2, true, rfl, iteT' rfl ?_⟩)))))))
    refine de_isT (de_call (da_cons (de_d rfl (da_cons (de_d rfl (da_cons (de_d rfl (da_nil ⟨n, ovG g, _, rfl, by omega, hg.inO, by omega, ho, by rw [List.length_map]; exact h2, true, rfl, rfl, h⟩))))))))
  case hl =>
    rintro ds Q ⟨n, g, rs, rfl, _⟩
    rfl


end K67
set_option Elab.async false
set_option linter.all false
set_option maxRecDepth 100000
namespace K67
open PySem PySem.Spec PyProof.Rows L2 DL RZ
/-! K27: orders, plans and rings go with one another -/
variable {P : Program} {w : World} {K : PySem.W.Frag} {mg : Str → Option Value} {base : Heap} {CB CR : Addr}

theorem laid_before {ov : Ovs} {a b : Int} (hab : (a, b) ∈ ov) : ∀ (f : Nat) (left : List Int), left.Nodup → b ∈ left → a ∈ laidF ov f left → b ∈ laidF ov f left ∧ (laidF ov f left).idxOf b < (laidF ov f left).idxOf a
  | 0, _, _, _, h => by cases h
  | f + 1, left, hn, hb, h => by
    unfold laidF at h ⊢
    split at h
    · cases h
    · rename_i c r e
      have hc := List.mem_filter.mp (show c ∈ left.filter (freeL ov left) from by rw [e]; exact List.mem_cons_self)
      have nca : c ≠ a := fun z => by
        have := hc.2
        unfold freeL at this
        rw [Bool.not_eq_true', List.any_eq_false] at this
        have := this (a, b) hab
        simp [z, hb] at this
      have ha : a ∈ laidF ov f (left.erase c) := by
        rcases List.mem_cons.mp h with q | q
        · exact absurd q.symm nca
        · exact q
      have i1 : (c :: laidF ov f (left.erase c)).idxOf a = (laidF ov f (left.erase c)).idxOf a + 1 := by
        rw [List.idxOf_cons, show (c == a) = false from beq_eq_false_iff_ne.mpr nca] <;> rfl
      rw [i1]
      by_cases ncb : c = b
      · subst ncb
        refine ⟨List.mem_cons_self, ?_⟩
        rw [List.idxOf_cons, show (c == c) = true from beq_self_eq_true c]
        exact Nat.succ_pos _
      · have ih := laid_before hab f (left.erase c) (hn.erase c) ((List.mem_erase_of_ne fun z => ncb z.symm).mpr hb) ha
        refine ⟨List.mem_cons_of_mem _ ih.1, ?_⟩
        have i2 : (c :: laidF ov f (left.erase c)).idxOf b = (laidF ov f (left.erase c)).idxOf b + 1 := by
          rw [List.idxOf_cons, show (c == b) = false from beq_eq_false_iff_ne.mpr ncb] <;> rfl
        rw [i2]
        exact Nat.succ_lt_succ ih.2
theorem laid_perm {n : Nat} {ov : Ovs} (h : (laidL n ov).length = n) : (laidL n ov).Perm (ups n) := by
  obtain ⟨r1, r2, _⟩ := laid_rest n ov
  refine (List.perm_ext_iff_of_nodup r2 (ups_nodup n)).mpr fun a => ⟨laid_mem, fun ha => ?_⟩
  have e0 : ((ups n).filter fun b => decide (b ∉ laidL n ov)).length = 0 := by omega
  have := List.filter_eq_nil_iff.mp (List.eq_nil_of_length_eq_zero e0) a ha
  simpa using this
theorem laid_idx {n : Nat} {ov : Ovs} (h : (laidL n ov).length = n) {a b : Int} (hab : (a, b) ∈ ov) (ha : a ∈ ups n) (hb : b ∈ ups n) : (laidL n ov).idxOf b < (laidL n ov).idxOf a :=
  (laid_before hab n (ups n) (ups_nodup n) hb ((laid_perm h).mem_iff.mpr ha)).2
theorem swp_swp (ov : Ovs) : swp (swp ov) = ov := by
  unfold swp
  rw [List.map_map]
  exact (List.map_congr_left fun p _ => rfl).trans (List.map_id ov)
theorem mem_swp {ov : Ovs} {a b : Int} : (a, b) ∈ swp ov ↔ (b, a) ∈ ov := by
  unfold swp
  rw [List.mem_map]
  constructor
  · rintro ⟨q, hq, e⟩
    injection e with e1 e2
    subst e1 e2
    exact hq
  · intro h
    exact ⟨(b, a), h, rfl⟩
/-- what is laid whole one way is so the other way -/
theorem no_stuck {n : Nat} {ov : Ovs} (h : (laidL n ov).length = n) {S : List Int} (hs : stuckL (swp ov) S) (hS : ∀ a ∈ S, a ∈ ups n) (hne : S ≠ []) : False := by
  have go : ∀ (m : Nat) (a : Int), a ∈ S → n - (laidL n ov).idxOf a ≤ m → False := by
    intro m
    induction m with
    | zero =>
      intro a ha hm
      have := List.idxOf_lt_length_iff.mpr ((laid_perm h).mem_iff.mpr (hS a ha))
      omega
    | succ m ih =>
      intro a ha hm
      obtain ⟨b, hab, hb⟩ := hs a ha
      have := laid_idx h (mem_swp.mp hab) (hS b hb) (hS a ha)
      exact ih b hb (by omega)
  obtain ⟨a, ha⟩ := List.exists_mem_of_ne_nil S hne
  exact go _ a ha (Nat.le_refl _)
theorem whole_iff {n : Nat} {ov : Ovs} : (laidL n ov).length = n ↔ (rowL n ov).length = n := by
  have half : ∀ ov : Ovs, (laidL n ov).length = n → (laidL n (swp ov)).length = n := fun ov h => by
    obtain ⟨r1, r2, r3⟩ := laid_rest n (swp ov)
    by_cases z : ((ups n).filter fun b => decide (b ∉ laidL n (swp ov))) = []
    · rw [z] at r1; simpa using r1
    · exact (no_stuck h r3 (fun a ha => (List.mem_filter.mp ha).1) z).elim
  refine ⟨half ov, fun h => ?_⟩
  have := half (swp ov) h
  rwa [swp_swp] at this
theorem laid_laidOk {n : Nat} {g : Grid} (hg : okG n g) (h : (laidL n (ovG g)).length = n) : laidOk g (laidL n (ovG g)) = true := by
  unfold laidOk
  rw [List.all_eq_true]
  intro p hp
  exact decide_eq_true (laid_idx h hp (hg.inO p hp).1 (hg.inO p hp).2)
theorem fits_laid {n : Nat} {g : Grid} (hg : okG n g) {xs : List Int} (hp : xs.Perm (ups n)) : fitsO (ovG g) xs = laidOk g xs := by
  have hn : xs.Nodup := hp.nodup_iff.mpr (ups_nodup n)
  unfold fitsO laidOk
  have key : ∀ p ∈ ovG g, (!decide (((xs.idxOf p.1 : Nat) : Int) < ((xs.idxOf p.2 : Nat) : Int))) = decide (xs.idxOf p.2 < xs.idxOf p.1) := fun p hpo => by
    obtain ⟨m1, m2, m3⟩ := ov_in hg hpo
    have h1 := List.idxOf_lt_length_iff.mpr (hp.mem_iff.mpr m1)
    have h2 := List.idxOf_lt_length_iff.mpr (hp.mem_iff.mpr m2)
    have ne : xs.idxOf p.1 ≠ xs.idxOf p.2 := fun z => m3 (by
      have e1 := List.getElem_idxOf h1
      have e2 := List.getElem_idxOf h2
      rw [← e1, ← e2]
      congr 1)
    by_cases q : xs.idxOf p.2 < xs.idxOf p.1
    · rw [decide_eq_true q, decide_eq_false (by omega)] <;> rfl
    · rw [decide_eq_false q, decide_eq_true (by omega)] <;> rfl
  have go : ∀ l : Ovs, (∀ p ∈ l, p ∈ ovG g) → (l.all fun p => !decide (((xs.idxOf p.1 : Nat) : Int) < ((xs.idxOf p.2 : Nat) : Int))) = l.all fun p => decide (xs.idxOf p.2 < xs.idxOf p.1) := by
    intro l
    induction l with
    | nil => intro _; rfl
    | cons p l ih =>
      intro hl
      rw [List.all_cons, List.all_cons, key p (hl p List.mem_cons_self), ih fun q hq => hl q (List.mem_cons_of_mem _ hq)]
  exact go _ fun p hp => hp
/-! ### a plan turned about -/
theorem perm_flat : ∀ {a b : Grid}, a.length = b.length → (∀ (i : Nat) y e, a[i]? = some y → b[i]? = some e → y.Perm e) → a.flatten.Perm b.flatten
  | [], [], _, _ => List.Perm.refl _
  | [], _ :: _, h, _ => by simp at h
  | _ :: _, [], h, _ => by simp at h
  | x :: a, y :: b, h, hp => by
    rw [List.flatten_cons, List.flatten_cons]
    exact (hp 0 x y rfl rfl).append (perm_flat (by simpa using h) fun i u v h1 h2 => hp (i + 1) u v (by simpa using h1) (by simpa using h2))
theorem flat_idx {yss : Grid} (hn : yss.flatten.Nodup) {i j : Nat} {y z : List Int} {a b : Int} (hj : yss[j]? = some z) (hi : yss[i]? = some y) (hb : b ∈ z) (ha : a ∈ y) (hij : j < i) : yss.flatten.idxOf b < yss.flatten.idxOf a := by
  have e : yss.flatten = (yss.take i).flatten ++ (yss.drop i).flatten := by rw [← List.flatten_append, List.take_append_drop]
  have m1 : b ∈ (yss.take i).flatten := List.mem_flatten.mpr ⟨z, List.mem_of_getElem? (i := j) (by rw [List.getElem?_take_of_lt hij]; exact hj), hb⟩
  have m2 : a ∈ (yss.drop i).flatten := List.mem_flatten.mpr ⟨y, List.mem_of_getElem? (i := 0) (by rw [List.getElem?_drop]; exact hi), ha⟩
  rw [e] at hn ⊢
  have na : a ∉ (yss.take i).flatten := fun h => (List.nodup_append.mp hn).2.2 a h a m2 rfl
  rw [List.idxOf_append, List.idxOf_append, if_pos m1, if_neg na]
  have := List.idxOf_lt_length_iff.mpr m1
  omega
theorem turned_ok {n : Nat} {g : Grid} (hg : okG n g) {cr : Nat} {days yss : Grid} (hp : PlanS n (ovG g) cr days) (ht : Turned days yss) : yss.flatten.Perm (ups n) ∧ laidOk g yss.flatten = true := by
  obtain ⟨t1, t2⟩ := ht
  have pm : yss.flatten.Perm (ups n) := by
    refine (perm_flat (b := days.reverse) (by rw [List.length_reverse]; exact t1) t2).trans (List.Perm.trans ?_ hp.perm)
    exact List.Perm.flatten (List.reverse_perm days)
  refine ⟨pm, ?_⟩
  have hn : yss.flatten.Nodup := pm.nodup_iff.mpr (ups_nodup n)
  unfold laidOk
  rw [List.all_eq_true]
  intro p hpo
  refine decide_eq_true ?_
  have ma := hp.perm.mem_iff.mpr (hg.inO p hpo).1
  have mb := hp.perm.mem_iff.mpr (hg.inO p hpo).2
  obtain ⟨d, hd, had⟩ := List.mem_flatten.mp ma
  obtain ⟨e, he, hbe⟩ := List.mem_flatten.mp mb
  obtain ⟨i, hi⟩ := List.getElem?_of_mem hd
  obtain ⟨j, hj⟩ := List.getElem?_of_mem he
  have hij := hp.ord p hpo i j d e hi hj had hbe
  have hil := (List.getElem?_eq_some_iff.mp hi).1
  have hjl := (List.getElem?_eq_some_iff.mp hj).1
  have ri : days.reverse[days.length - 1 - i]? = some d := by
    rw [List.getElem?_reverse (by omega), ← hi]
    congr 1
    omega
  have rj : days.reverse[days.length - 1 - j]? = some e := by
    rw [List.getElem?_reverse (by omega), ← hj]
    congr 1
    omega
  have yi : days.length - 1 - i < yss.length := by omega
  have yj : days.length - 1 - j < yss.length := by omega
  have p1 := t2 _ _ _ (List.getElem?_eq_getElem yi) ri
  have p2 := t2 _ _ _ (List.getElem?_eq_getElem yj) rj
  exact flat_idx hn (List.getElem?_eq_getElem yj) (List.getElem?_eq_getElem yi) (p2.mem_iff.mpr hbe) (p1.mem_iff.mpr had) (by omega)
/-! ### what is known by hand -/
def known : Grid := [[2, 1, 0], [3, 1], [2, 3]]
theorem known_ov : ovG known = [(1, 0), (2, 1), (2, 3), (3, 1)] := (usort_eq (fun q => (show List.Perm [(1, 0), (2, 1), (2, 3), (3, 1)] (pairsOf known) from by decide).mem_iff) (by unfold ltPr; decide)).symm
theorem known_laid : laidL 4 (ovG known) = [0, 1, 3, 2] := by rw [known_ov]; decide +kernel
theorem known_ok : okG 4 known := by
  refine ⟨by decide, by decide, by decide, by decide, ?_, by decide⟩
  intro c hc
  simp only [known, List.mem_cons, List.not_mem_nil, or_false] at hc
  rcases hc with rfl | rfl | rfl
  · exact ⟨by decide, by decide, by decide, by decide⟩
  · exact ⟨by decide, by decide, by decide, by decide⟩
  · exact ⟨by decide, by decide, by decide, by decide⟩
def rg3 : Grid := [[0, 1], [1, 2], [2, 0]]
theorem rg3_ov : ovG rg3 = [(0, 1), (1, 2), (2, 0)] := (usort_eq (fun q => (show List.Perm [(0, 1), (1, 2), (2, 0)] (pairsOf rg3) from by decide).mem_iff) (by unfold ltPr; decide)).symm
theorem rg3_laid : (laidL 3 (ovG rg3)).length ≠ 3 := by rw [rg3_ov]; decide +kernel
theorem rg3_ok : okG 3 rg3 := by
  refine ⟨by decide, by decide, by decide, by decide, ?_, by decide⟩
  intro c hc
  simp only [rg3, List.mem_cons, List.not_mem_nil, or_false] at hc
  rcases hc with rfl | rfl | rfl
  · exact ⟨by decide, by decide, by decide, by decide⟩
  · exact ⟨by decide, by decide, by decide, by decide⟩
  · exact ⟨by decide, by decide, by decide, by decide⟩
def two : Grid := [[0], [1], [1, 0]]
theorem two_ov : ovG two = [(1, 0)] := (usort_eq (fun q => (show List.Perm [(1, 0)] (pairsOf two) from by decide).mem_iff) (by unfold ltPr; decide)).symm
theorem two_laid : laidL 2 (ovG two) = [0, 1] := by rw [two_ov]; decide +kernel
theorem two_ok : okG 2 two := by
  refine ⟨by decide, by decide, by decide, by decide, ?_, by decide⟩
  intro c hc
  simp only [two, List.mem_cons, List.not_mem_nil, or_false] at hc
  rcases hc with rfl | rfl | rfl
  · exact ⟨by decide, by decide, by decide, by decide⟩
  · exact ⟨by decide, by decide, by decide, by decide⟩
  · exact ⟨by decide, by decide, by decide, by decide⟩
theorem known_plan {days : Grid} (h : PlanS 4 (ovG known) 4 days) : days = [[2], [3], [1], [0]] := by
  have hm := h.many
  have at_ : ∀ a : Int, a ∈ ups 4 → ∃ (i : Nat) (d : List Int), days[i]? = some d ∧ a ∈ d := fun a ha => by
    obtain ⟨d, hd, had⟩ := List.mem_flatten.mp (h.perm.mem_iff.mpr ha)
    obtain ⟨i, hi⟩ := List.getElem?_of_mem hd
    exact ⟨i, d, hi, had⟩
  obtain ⟨i2, d2, e2, m2⟩ := at_ 2 (by decide)
  obtain ⟨i3, d3, e3, m3⟩ := at_ 3 (by decide)
  obtain ⟨i1, d1, e1, m1⟩ := at_ 1 (by decide)
  obtain ⟨i0, d0, e0, m0⟩ := at_ 0 (by decide)
  have o := h.ord
  rw [known_ov] at o
  have h23 := o (2, 3) (by decide) i2 i3 d2 d3 e2 e3 m2 m3
  have h31 := o (3, 1) (by decide) i3 i1 d3 d1 e3 e1 m3 m1
  have h10 := o (1, 0) (by decide) i1 i0 d1 d0 e1 e0 m1 m0
  have hl := (List.getElem?_eq_some_iff.mp e0).1
  have hlen := h.perm.length_eq
  rw [ups_len] at hlen
  match days, hm, e2, e3, e1, e0, hl, hlen, h with
  | [x, y, z, t], _, e2, e3, e1, e0, hl, hlen, h =>
    have hl : i0 < 4 := hl
    obtain rfl : i2 = 0 := by omega
    obtain rfl : i3 = 1 := by omega
    obtain rfl : i1 = 2 := by omega
    obtain rfl : i0 = 3 := by omega
    cases e2; cases e3; cases e1; cases e0
    have lx := (h.lot d2 (by simp)).2.1
    have ly := (h.lot d3 (by simp)).2.1
    have lz := (h.lot d1 (by simp)).2.1
    have lt := (h.lot d0 (by simp)).2.1
    simp only [List.flatten_cons, List.flatten_nil, List.length_append, List.length_nil] at hlen
    have one : ∀ {d : List Int} {a : Int}, a ∈ d → d.length = 1 → d = [a] := fun {d a} ha hd => by
      obtain ⟨b, rfl⟩ := List.length_eq_one_iff.mp hd
      rw [List.mem_singleton.mp ha]
    rw [one m2 (by omega), one m3 (by omega), one m1 (by omega), one m0 (by omega)]
  | [], _, _, _, _, _, hl, _, _ => exfalso; simp at hl
  | [_], _, _, _, _, _, hl, _, _ => exfalso; simp at hl; try omega
  | [_, _], _, _, _, _, _, hl, _, _ => exfalso; simp at hl; try omega
  | [_, _, _], _, _, _, _, _, hl, _, _ => exfalso; simp at hl; try omega
  | _ :: _ :: _ :: _ :: _ :: _, hm, _, _, _, _, _, _, _ => exfalso; simp at hm; try omega

end K67
set_option Elab.async false
set_option linter.all false
set_option maxRecDepth 100000
namespace K67
open PySem PySem.Spec PyProof.Rows L2 DL RZ
/-! K28: the law: a grid right -/
variable {P : Program} {w : World} {K : PySem.W.Frag} {mg : Str → Option Value} {base : Heap} {CB CR : Addr}

theorem kop_eqB {X : Cx} {C : Addr} {k : Nat} {ps : List Str} {sp : Sp} (h : X.K = K) (q : HasEq X.prog X.w X.K X.mg X.base C k ps sp) (hr : Room k X.A) : OpR X (compareOp .Eq) (rEqC K C sp (fun _ _ _ => False)) := by
  obtain ⟨f, fd, h1, h2, F, hb⟩ := q
  exact op_eqC h F h1 h2 hb pass0 hr
section
variable {τ : List (SL Kp)} {P' : PE' Kp} {tr : TA}
/-- Book(..) of right parts -/
theorem de_mkBok {E0 : XK} (h : DA (Zk K CB CR) tr τ fun rs τ1 => ∃ (n : Nat) (ov : Ovs), rs = [.v (.int (n : Nat)), .v (ovsD ov), .v (datesD n), .v (.tup [])] ∧ 1 ≤ n ∧ n ≤ 16 ∧ okOv n ov ∧ P' (.v (bkD 0 n ov)) τ1) :
    DE (Zk K CB CR) (tMake CB (spBok K CB CR) [] E0 tr) τ P' := fun H0 w E σ H Q R c => by
  refine h H0 w E σ H _ R fun rs τ1 xs w1 H1 h1 n1 R1 va => ?_
  obtain ⟨n, ov, rfl, hn1, hn2, hov, k⟩ := h1
  have va' := RVs.args R1 va
  intro x dx hx hd ne
  rw [List.append_nil]
  let Hs := upd (upd H1 dx (.own x)) x (.ins CB dx [])
  have sm : Same H1 Hs := fun y o hy => by
    show upd (upd H1 dx (.own x)) x (.ins CB dx []) y = some o
    rw [upd_ne (ne_of_none hy hx), upd_ne (ne_of_none hy hd)]
    exact hy
  obtain ⟨R2, s2⟩ := R1.ext sm
  have nf := R1.fresh hx
  have nA : x ∉ (Zk K CB CR).A w1 := fun m => nf (mem_HL.mpr (.inl m))
  have va2 : RpA (Zk K CB CR) w1 (hide ((Zk K CB CR).A w1) Hs) xs [.int (n : Nat), ovsD ov, datesD n, .tup []] := va'.mono ((Zk K CB CR).refl w1) (hide_mono (fun _ h => h) sm)
  cases va2 with
  | @cons a _ _ _ r1 va2 =>
    cases va2 with
    | @cons b _ _ _ r2 va2 =>
      cases va2 with
      | @cons c' _ _ _ r3 va2 =>
        cases va2 with
        | @cons d _ _ _ r4 va2 =>
          cases va2
          refine ⟨w1, x, dx, a, b, c', d, n, ov, rfl, R2.ok, upd_same, nA, .cons r1 (.cons r2 (.cons r3 (.cons r4 .nil))), hn1, hn2, hov, fun H' fs ok' keep hx' hf hno => ⟨rfl, ?_⟩⟩
          have s3 : Same (hide ((Zk K CB CR).A w1) H1) (hide ((Zk K CB CR).A w1) H') := fun y o hy => by
            obtain ⟨z1, z2⟩ := hide_some hy
            exact keep y o (ne_of_none z2 hx) (by rw [hide_out z1]; exact sm y o z2)
          obtain ⟨R', sg⟩ := R1.called ((Zk K CB CR).refl w1) ok' s3
          refine c _ τ1 _ w1 H' k ⟨n1.le, n1.sm.trans sg, n1.sh⟩ ⟨R', .obj ?_⟩
          have pm : Same (gp (hide ((Zk K CB CR).A w1) H')) (gp (Gd (Zk K CB CR) w1 E τ1 H')) := fun a u h => by
            obtain ⟨h1, h2⟩ := gp_some h
            obtain ⟨h3, h4⟩ := hide_some h1
            refine gp_of ?_ h2
            rw [Gd, hide_out fun m => ?_]
            · exact h4
            · rcases mem_HL.mp m with m | m
              · exact h3 m
              · obtain ⟨u', e, i⟩ := R'.ocs m
                rw [h4] at e
                cases e
                rw [h2] at i
                cases i
          refine ⟨x, CB, dx, fs, rfl, (hide_out nf).trans hx', .inl ⟨rfl, rfl⟩, fun q hq => ?_, fun f hf' => ?_⟩
          · obtain ⟨u, e1, e2⟩ := hf q hq
            exact ⟨u, e1, e2.mono pm⟩
          · have e : f = "parts" := by simpa [bookI] using hf'
            rw [e]
            exact hno
end
theorem ovG_ok {n : Nat} {g : Grid} (hg : okG n g) : okOv n (ovG g) := by
  refine ⟨fun p hp => ?_, usort_pw _, Nat.le_trans hg.ovl (by decide)⟩
  obtain ⟨m1, m2, m3⟩ := ov_in hg hp
  exact ⟨mem_ups.mp m1, mem_ups.mp m2, m3⟩
theorem at2a (x : Str) (d : Dk) : atI ([.str x, d] : List Dk) 0 = some (.str x) := atI_nat (j := 0) rfl
theorem at2b (x : Str) (d : Dk) : atI ([.str x, d] : List Dk) 1 = some d := atI_nat (j := 1) rfl
def words2 : Dk := .tup [.tup [.str "laid", .str "plan"], .tup [.str "ring", .str "stuck"]]
theorem w_lp : ([.tup [.str "laid", .str "plan"], .tup [.str "ring", .str "stuck"]] : List Dk).any (fun z => eqD z (.tup [.str "laid", .str "plan"])) = true := by
  simp [eqD, toPy, toPys, PyData.eqv, PyData.eqvAll]
theorem w_rs : ([.tup [.str "laid", .str "plan"], .tup [.str "ring", .str "stuck"]] : List Dk).any (fun z => eqD z (.tup [.str "ring", .str "stuck"])) = true := by
  simp [eqD, toPy, toPys, PyData.eqv, PyData.eqvAll]
theorem lay_w : lay 60 words2 = true := by decide +kernel
theorem lay_p1 : lay 60 (.tup [.str "laid", .str "plan"] : Dk) = true := by decide +kernel
theorem lay_p2 : lay 60 (.tup [.str "ring", .str "stuck"] : Dk) = true := by decide +kernel
theorem ringO_two {n : Nat} {g : Grid} (hg : okG n g) {L : List Int} (h : RingO (ovG g) L) : 2 ≤ L.length := by
  have hp : 0 < L.length := List.length_pos_iff.mpr h.ne
  rcases Nat.lt_or_ge 1 L.length with q | q
  · exact q
  · obtain ⟨a, rfl⟩ := List.length_eq_one_iff.mp (show L.length = 1 by omega)
    have := h.cyc (a, a) (by simp)
    exact absurd rfl (ov_in hg this).2.2

theorem ls1 : lay 60 (.str "laid" : Dk) = true := by decide +kernel
theorem ls2 : lay 60 (.str "ring" : Dk) = true := by decide +kernel
theorem ne_lr : eqD (.str "laid" : Dk) (.str "ring") = false := (eqD_str _ _).trans (by decide)
theorem eq_rr : eqD (.str "ring" : Dk) (.str "ring") = true := (eqD_str _ _).trans (by decide)
theorem eqb (f : Bool) : eqD (.bl f : Dk) (.bl f) = true := by rw [eqD_bl]; simp
theorem okG.fin {n : Nat} {g : Grid} (hg : okG n g) {xs : List Int} (hp : xs.Perm (ups n)) : K67.inO (ovG g) xs := fun p hp' => ⟨hp.mem_iff.mpr (hg.inO p hp').1, hp.mem_iff.mpr (hg.inO p hp').2⟩

def S__law_grid_right : FS Kp := fun ds Q => ∃ (n : Nat) (g : Grid), ds = [.obj .tape, .int (n : Nat), .lst (g.map wD)] ∧ okG n g ∧ n ≤ 12 ∧ Q (.v (.bl true))
abbrev s__law_grid_right : Stmt := top 85
abbrev N__law_grid_right : List Str := ["tape", "count", "grid", "book", "told", "whole", "crews", "plan", "turn", "order", "flag"]
theorem sc__law_grid_right : FnScope N__law_grid_right ["tape", "count", "grid"] (defScope s__law_grid_right) := ⟨rfl, rfl, rfl, by decide +kernel, rfl, by decide +kernel, by decide +kernel⟩
theorem has__law_grid_right {k : Nat} (D : Def K mg "_law_grid_right" s__law_grid_right ["tape", "count", "grid"]) (z_range : mg "range" = none) (z_tuple : mg "tuple" = none) (h_read_off : Has P w K mg base "read_off" (k + 1) ["count", "grid"] (spD (Zk K CB CR) S_read_off)) (h_history : Has P w K mg base "history" (k + 1) ["count", "grid"] (spD (Zk K CB CR) S_history)) (h__law_overs : Has P w K mg base "_law_overs" (k + 1) ["grid"] (spD (Zk K CB CR) S__law_overs)) (h_needed : Has P w K mg base "needed" (k + 1) ["book", "wanted"] (spD (Zk K CB CR) S_needed)) (h__law_draw : Has P w K mg base "_law_draw" (k + 1) ["tape", "many"] (spD (Zk K CB CR) S__law_draw)) (h_least_plan : Has P w K mg base "least_plan" (k + 1) ["book", "crews", "wanted"] (spD (Zk K CB CR) S_least_plan)) (h__law_shuffled : Has P w K mg base "_law_shuffled" (k + 1) ["tape", "things"] (spD (Zk K CB CR) S__law_shuffled)) (h_is_history : Has P w K mg base "is_history" (k + 1) ["count", "grid", "thing"] (spD (Zk K CB CR) S_is_history)) (h__law_is_laid : Has P w K mg base "_law_is_laid" (k + 1) ["count", "grid", "order"] (spD (Zk K CB CR) S__law_is_laid)) (h_amiss : Has P w K mg base "amiss" (k + 1) ["book", "order"] (spD (Zk K CB CR) S_amiss)) (h__law_ring_right : Has P w K mg base "_law_ring_right" (k + 1) ["count", "grid", "book", "ring"] (spD (Zk K CB CR) S__law_ring_right)) (h__law_is_ring : Has P w K mg base "_law_is_ring" (k + 1) ["overs", "thing"] (spD (Zk K CB CR) S__law_is_ring)) (h__law_spots : Has P w K mg base "_law_spots" (k + 1) ["grid", "ring"] (spD (Zk K CB CR) S__law_spots)) (h__law_laid_right : Has P w K mg base "_law_laid_right" (k + 1) ["tape", "count", "grid", "book", "order"] (spD (Zk K CB CR) S__law_laid_right)) (h__law_turned : Has P w K mg base "_law_turned" (k + 1) ["tape", "plan"] (spD (Zk K CB CR) S__law_turned)) (h_is_plan : Has P w K mg base "is_plan" (k + 1) ["book", "crews", "wanted", "thing"] (spD (Zk K CB CR) S_is_plan)) (m_Book : HasMk P w K mg base "Book" CB k bks (spBok K CB CR)) (T : Tx K CB CR) (nf_Book : PySem.W.notFirst K CR (.ref CB) = true) (q_Book : HasEq P w K mg base CR (k + 1) ["self", "other"] (spD (Zk K CB CR) S_beq)) : Has P w K mg base "_law_grid_right" ((k + 1) + 1) ["tape", "count", "grid"] (spD (Zk K CB CR) S__law_grid_right) := by
  refine D.has sc__law_grid_right ?hl fun f cdv A outer s H E hr => ?bod
  case bod =>
    have hu1 := hu_of hr
    have hu0 := hu0_of hr
    have hu65 := hu65_of hr
    refine ⟨_, (pss_cons (ps_par3 (i := 3) (j := 4) (l := 5) rfl sc__law_grid_right.nd rfl rfl rfl (by decide) (by decide) (by decide) rfl rfl rfl (pa_cons (pe_callH h_read_off hr (by rfl) (pa_cons (pv 1) (pa_cons (pv 2) pa_nil))) (pa_cons (pe_callH h_history hr (by rfl) (pa_cons (pv 1) (pa_cons (pv 2) pa_nil))) (pa_cons (pe_tupRg rfl (by rfl) z_tuple (prg_1 (by rfl) z_range (pv 1))) pa_nil))) (by rfl))
    (pss_cons (ps_if (PW.pt (pw_or (pt_not (pt_cmpR (kop_eqB (K := K) rfl q_Book hr) (pv 3) (pe_makeH m_Book hr (by rfl) (pa_cons (pv 1) (pa_cons (pe_callH h__law_overs hr (by rfl) (pa_cons (pv 2) pa_nil)) (pa_cons (pe_op (kop_mul (K := K) rfl) (pe_tup (pa_cons (pe_tup (pa_cons pe_non (pa_cons pe_non pa_nil))) pa_nil)) (pv 1)) (pa_cons (pe_tup pa_nil) pa_nil))))) (nomark _))) (pw_or1 (pt_cmpR (kop_ne (K := K) rfl hu65) (pe_callH h_needed hr (by rfl) (pa_cons (pv 3) (pa_cons (pv 5) pa_nil))) (pv 5) (nomark _))))) (pss_one (ps_ret pe_bl)) pss_nil)
    (pss_cons (ps_set (i := 6) sc__law_grid_right.nd rfl (by first | exact Or.inl rfl | exact Or.inr rfl) (pe_op (kop_add (K := K) rfl) pe_int (pe_callH h__law_draw hr (by rfl) (pa_cons (pv 0) (pa_cons pe_int pa_nil)))))
    (pss_cons (ps_set (i := 7) sc__law_grid_right.nd rfl (by first | exact Or.inl rfl | exact Or.inr rfl) (pe_callH h_least_plan hr (by rfl) (pa_cons (pv 3) (pa_cons (pv 6) (pa_cons (pv 5) pa_nil)))))
    (pss_cons (ps_if (pt_cmpR (kop_nin (K := K) rfl hu65) (pe_tup (pa_cons (pe_ix (kix (K := K) rfl) (pv 4) pe_int (fun _ _ => rfl)) (pa_cons (pe_ix (kix (K := K) rfl) (pv 7) pe_int (fun _ _ => rfl)) pa_nil))) (pe_tup (pa_cons (pe_tup (pa_cons pe_str (pa_cons pe_str pa_nil))) (pa_cons (pe_tup (pa_cons pe_str (pa_cons pe_str pa_nil))) pa_nil))) (by with_unfolding_all rfl)) (pss_one (ps_ret pe_bl)) pss_nil)
    (pss_cons (ps_for PassesOwn.never rfl (pi_range1 (by rfl) z_range (pa_cons pe_int pa_nil)) (pg_name (i := 8) sc__law_grid_right.nd rfl (by first | exact Or.inl rfl | exact Or.inr rfl)) (pss_cons (ps_set (i := 9) sc__law_grid_right.nd rfl (by first | exact Or.inl rfl | exact Or.inr rfl) (kpe_tupW (K := K) rfl (by rfl) z_tuple (pe_callH h__law_shuffled hr (by rfl) (pa_cons (pv 0) (pa_cons (pv 5) pa_nil)))))
    (pss_cons (ps_set (i := 10) sc__law_grid_right.nd rfl (by first | exact Or.inl rfl | exact Or.inr rfl) (pe_callH h_is_history hr (by rfl) (pa_cons (pv 1) (pa_cons (pv 2) (pa_cons (pe_tup (pa_cons pe_str (pa_cons (pv 9) pa_nil))) pa_nil)))))
    (pss_one (ps_if (PW.pt (pw_or (pt_cmpR (kop_ne (K := K) rfl hu65) (pv 10) (pe_callH h__law_is_laid hr (by rfl) (pa_cons (pv 1) (pa_cons (pv 2) (pa_cons (pv 9) pa_nil)))) (nomark _)) (pw_or1 (pt_cmpR (kop_ne (K := K) rfl hu65) (pe_cmp (pc_isN (pe_callH h_amiss hr (by rfl) (pa_cons (pv 3) (pa_cons (pv 9) pa_nil))))) (pv 10) (nomark _))))) (pss_one (ps_ret pe_bl)) pss_nil)))))
    (pss_cons (ps_if (pt_cmpR (kop_eq (K := K) rfl hu65) (pe_ix (kix (K := K) rfl) (pv 4) pe_int (fun _ _ => rfl)) pe_str (nomark _)) (pss_cons (ps_if (PW.pt (pw_or (pt_not (pt_val (pe_callH h__law_ring_right hr (by rfl) (pa_cons (pv 1) (pa_cons (pv 2) (pa_cons (pv 3) (pa_cons (pe_ix (kix (K := K) rfl) (pv 4) pe_int (fun _ _ => rfl)) pa_nil))))))) (pw_or1 (pt_not (pt_val (pe_callH h__law_is_ring hr (by rfl) (pa_cons (pe_callH h__law_overs hr (by rfl) (pa_cons (pv 2) pa_nil)) (pa_cons (pe_ix (kix (K := K) rfl) (pv 7) pe_int (fun _ _ => rfl)) pa_nil)))))))) (pss_one (ps_ret pe_bl)) pss_nil)
    (pss_one (ps_ret (pe_callH h__law_ring_right hr (by rfl) (pa_cons (pv 1) (pa_cons (pv 2) (pa_cons (pv 3) (pa_cons (pe_callH h__law_spots hr (by rfl) (pa_cons (pv 2) (pa_cons (pe_ix (kix (K := K) rfl) (pv 7) pe_int (fun _ _ => rfl)) pa_nil))) pa_nil)))))))) pss_nil)
    (pss_cons (ps_if (PW.pt (pw_or (pt_not (pt_val (pe_callH h__law_is_laid hr (by rfl) (pa_cons (pv 1) (pa_cons (pv 2) (pa_cons (pe_ix (kix (K := K) rfl) (pv 4) pe_int (fun _ _ => rfl)) pa_nil)))))) (pw_or1 (pt_not (pt_val (pe_callH h__law_laid_right hr (by rfl) (pa_cons (pv 0) (pa_cons (pv 1) (pa_cons (pv 2) (pa_cons (pv 3) (pa_cons (pe_ix (kix (K := K) rfl) (pv 4) pe_int (fun _ _ => rfl)) pa_nil))))))))))) (pss_one (ps_ret pe_bl)) pss_nil)
    (pss_cons (ps_for PassesOwn.never rfl (pi_range1 (by rfl) z_range (pa_cons pe_int pa_nil)) (pg_name (i := 8) sc__law_grid_right.nd rfl (by first | exact Or.inl rfl | exact Or.inr rfl)) (pss_cons (ps_set (i := 9) sc__law_grid_right.nd rfl (by first | exact Or.inl rfl | exact Or.inr rfl) (pe_callH h__law_turned hr (by rfl) (pa_cons (pv 0) (pa_cons (pe_ix (kix (K := K) rfl) (pv 7) pe_int (fun _ _ => rfl)) pa_nil))))
    (pss_one (ps_if (PW.pt (pw_or (pt_not (pt_val (pe_callH h__law_is_laid hr (by rfl) (pa_cons (pv 1) (pa_cons (pv 2) (pa_cons (pv 9) pa_nil)))))) (pw_or1 (pt_not (pt_val (pe_callH h__law_laid_right hr (by rfl) (pa_cons (pv 0) (pa_cons (pv 1) (pa_cons (pv 2) (pa_cons (pv 3) (pa_cons (pv 9) pa_nil))))))))))) (pss_one (ps_ret pe_bl)) pss_nil))))
    (pss_one (ps_ret (pe_cmpR op_isBl (pe_callH h_is_plan hr (by rfl) (pa_cons (pv 3) (pa_cons (pv 6) (pa_cons (pv 5) (pa_cons (pe_ix (kix (K := K) rfl) (pv 7) pe_int (fun _ _ => rfl)) pa_nil))))) pe_bl (nomark _))))))))))))), ?_⟩
    rintro ds Q ⟨n, g, rfl, hg, h12, h⟩
    have g2 := hg.n2; have g3 := hg.n16; have g4 := hg.g1; have g5 := hg.g20
    have hov := hg.ovl
    have er : (rgD 0 (n : Int) : List Dk) = (ups n).map .int := rg_up n
    refine dx_seq (dx_par3 (dao_cons (de_call (da_cons (de_d rfl (da_cons (de_ld (de_d rfl ⟨.lst (g.map wD), .lst (g.map intsD), rfl, gld g, da_nil ⟨n, .lst (g.map intsD), g, rfl, rfl, hg, rfl, dao_cons (de_call (da_cons (de_d rfl (da_cons (de_ld (de_d rfl ⟨.lst (g.map wD), .lst (g.map intsD), rfl, gld g, da_nil ⟨n, .lst (g.map intsD), g, rfl, rfl, hg, fun hw => ?_, fun hw rs hrs => ?_⟩⟩))))))⟩⟩))))))))
    · -- laid
      have hrow := whole_iff.mp hw
      have hpL := laid_perm hw
      have hok := laid_laidOk hg hw
      generalize laidL n (ovG g) = lo at hpL hok
      refine ⟨rfl, dao_cons (de_tupRg (drg_1 (de_d rfl ⟨(n : Int), rfl, ⟨by omega, by omega, by omega, by omega⟩, rfl, dao_nil ⟨_, _, _, rfl, ?_⟩⟩)))⟩
      show DX (Zk K CB CR) _ [.d (.obj .tape), .d (.int (n : Nat)), .d (.lst (g.map wD)), .d (bookD n (ovG g)), .d (.tup [.str "laid", wD lo]), .d (.tup (rgD 0 (n : Int))), .u, .u, .u, .u, .u] _
      rw [er]
      show DX (Zk K CB CR) _ [.d (.obj .tape), .d (.int (n : Nat)), .d (.lst (g.map wD)), .d (bookD n (ovG g)), .d (.tup [.str "laid", wD lo]), .d (intsD (ups n)), .u, .u, .u, .u, .u] _
      refine dx_seq (dx_if (dt_or (dt_not (dt_test (de_beq nf_Book (de_d rfl (de_mkBok (da_cons (de_d rfl (da_cons (de_call (da_cons (de_ld (de_d rfl ⟨.lst (g.map wD), .lst (g.map intsD), rfl, gld g, da_nil ⟨.lst (g.map intsD), g, rfl, rfl, hg.few, hg.rows, g5, da_cons (de_op bs_mul (de_tup (da_cons (de_tup (da_cons (de_non (da_cons (de_non (da_nil ⟨[.non, .non], rfl, by simp, da_nil ⟨[dateD], rfl, by simp, de_d rfl ⟨nofun, by omega, by omega, by simp, da_cons (de_tup (da_nil ⟨[], rfl, by simp, da_nil ⟨n, ovG g, ?_, by omega, g3, ovG_ok hg, n, ovG g, rfl, rfl, true, rfl, iteF' rfl ?_⟩⟩))⟩⟩⟩)))))))))⟩⟩))))))))))))))
      · rw [Int.toNat_natCast, dates_flat]
        rfl
      refine dt_test (de_ne (de_ld (de_call (da_cons (de_d rfl (da_cons (de_d rfl (da_nil ⟨n, ovG g, rfl, g3, hg.inO, by omega, .ktup ((ups n).map .int), intsD (ups n), rfl, .ktup (LDs.refl _), de_d rfl ⟨intsD (ups n), intsD (ups n), rfl, rfl, lay_intsT _, lay_intsT _, false, ?_, iteF' rfl (dx_next ?_)⟩⟩))))))))
      · show ER.v (.bl (!eqD (.tup ((ups n).map .int) : Dk) (.tup ((ups n).map .int)))) = _
        rw [eq_intsT, decide_eq_true rfl]
        rfl
      refine dx_seq (dx_asg (de_addI (de_int ⟨1, rfl, de_call (da_cons (de_d rfl (da_cons (de_int (da_nil ⟨4, rfl, by omega, by omega, fun i4 hi4 => ⟨(i4 : Int), rfl, ?_⟩⟩)))))⟩)))
      refine dx_seq (dx_asg (de_call (da_cons (de_d rfl (da_cons (de_d rfl (da_cons (de_d rfl (da_nil ⟨n, ovG g, 1 + i4, ?_, h12, by omega, by omega, by omega, hg.inO, fun _ days hd => ?_, fun hnr => absurd hrow hnr⟩)))))))))
      · show [(bookD n (ovG g) : Dk), .int (1 + (i4 : Int)), intsD (ups n)] = _
        rw [show ((1 + i4 : Nat) : Int) = 1 + (i4 : Int) by omega]
      refine dx_seq (dx_if (dt_test (de_nin (de_tup (da_cons (de_ix (de_d rfl (de_int ⟨_, 0, .str "laid", rfl, rfl, at2a _ _, da_cons (de_ix (de_d rfl (de_int ⟨_, 0, .str "plan", rfl, rfl, at2a _ _, da_nil ⟨[.str "laid", .str "plan"], rfl, by simp, de_tup (da_cons (de_tup (da_cons (de_str (da_cons (de_str (da_nil ⟨[.str "laid", .str "plan"], rfl, by simp, da_cons (de_tup (da_cons (de_str (da_cons (de_str (da_nil ⟨[.str "ring", .str "stuck"], rfl, by simp, da_nil ⟨[.tup [.str "laid", .str "plan"], .tup [.str "ring", .str "stuck"]], rfl, by simp, .tup [.str "laid", .str "plan"], words2, _, rfl, rfl, rfl, lay_p1, lay_w, false, ?_, iteF' rfl (dx_next ?_)⟩⟩))))))⟩)))))))⟩⟩)))⟩))))))))
      · rw [w_lp] <;> rfl
      refine dx_seq (dx_forE (α := Nat) [8] (fun i => .int (i : Nat)) (di_rng1 (da_cons (de_int (da_nil ⟨6, rfl, by omega, by omega, List.range 6, rfl, fun i τ2 => ∃ a b c : SL Kp, τ2 = [.d (.obj .tape), .d (.int (n : Nat)), .d (.lst (g.map wD)), .d (bookD n (ovG g)), .d (.tup [.str "laid", wD lo]), .d (intsD (ups n)), .d (.int (1 + (i4 : Int))), .d (.tup [.str "plan", daysD days]), a, b, c], ⟨_, _, _, rfl⟩, fun _ _ _ => trivial, ?_, ?_⟩)))))
      · rintro i a τ2 hq ⟨xa, xb, xc, rfl⟩
        refine dg_nm rfl (dx_seq (dx_asg (de_tupW (de_call (da_cons (de_d rfl (da_cons (de_d rfl (da_nil ⟨intsD (ups n), ups n, rfl, rfl, by rw [ups_len]; omega, fun ys p hys => ⟨_, rfl, ?_⟩⟩)))))))))
        refine dx_seq (dx_asg (de_call (da_cons (de_d rfl (da_cons (de_ld (de_d rfl ⟨.lst (g.map wD), .lst (g.map intsD), rfl, gld g, da_cons (de_tup (da_cons (de_str (da_cons (de_d rfl (da_nil ⟨[.str "laid", wD ys], rfl, by simp, da_nil ⟨n, .lst (g.map intsD), g, .tup [.str "laid", wD ys], rfl, rfl, hg, .inr ⟨ys, rfl, hys, ?_⟩⟩⟩))))))⟩)))))))
        have hfl := fits_laid hg hys
        show DX (Zk K CB CR) _ [.d (.obj .tape), .d (.int (n : Nat)), .d (.lst (g.map wD)), .d (bookD n (ovG g)), .d (.tup [.str "laid", wD lo]), .d (intsD (ups n)), .d (.int (1 + (i4 : Int))), .d (.tup [.str "plan", daysD days]), .d (.int (a : Nat)), .d (wD ys), .d (.bl (laidOk g ys))] _
        refine dx_if (dt_or (dt_test (de_ne (de_d rfl (de_call (da_cons (de_d rfl (da_cons (de_ld (de_d rfl ⟨.lst (g.map wD), .lst (g.map intsD), rfl, gld g, da_cons (de_d rfl (da_nil ⟨n, .lst (g.map intsD), g, ys, rfl, rfl, hg, hys, .bl (laidOk g ys), .bl (laidOk g ys), rfl, rfl, rfl, rfl, false, ?_, iteF' rfl ?_⟩))⟩))))))))))
        · rw [eqb] <;> rfl
        refine dt_test (de_ne (de_nN (de_call (da_cons (de_d rfl (da_cons (de_ld (de_d rfl ⟨wD ys, intsD ys, rfl, wld ys, da_nil ⟨n, ovG g, ys, rfl, by omega, hys, hg.fin hys, by omega, fun hf => ⟨.non, rfl, rfl, ?_⟩, fun hf x y => ⟨.tup [.str "over", .int x, .int y], rfl, rfl, ?_⟩⟩⟩))))))))
        · rw [← hfl, hf]
          refine de_d rfl ⟨.bl true, .bl true, rfl, rfl, rfl, rfl, false, ?_, iteF' rfl (dx_next ⟨_, _, _, rfl⟩)⟩
          rw [eqb] <;> rfl
        · rw [← hfl, hf]
          refine de_d rfl ⟨.bl false, .bl false, rfl, rfl, rfl, rfl, false, ?_, iteF' rfl (dx_next ⟨_, _, _, rfl⟩)⟩
          rw [eqb] <;> rfl
      · rintro τ2 ⟨xa, xb, xc, rfl⟩
        refine dx_seq (dx_if (dt_test (de_eq (de_ix (de_d rfl (de_int ⟨_, 0, .str "laid", rfl, rfl, at2a _ _, de_str ⟨.str "laid", .str "ring", rfl, rfl, ls1, ls2, false, ?_, iteF' rfl (dx_next ?_)⟩⟩))))))
        · rw [ne_lr]
        refine dx_seq (dx_if (dt_or (dt_not (dt_val (de_call (da_cons (de_d rfl (da_cons (de_ld (de_d rfl ⟨.lst (g.map wD), .lst (g.map intsD), rfl, gld g, da_cons (de_ix (de_d rfl (de_int ⟨_, 1, wD lo, rfl, rfl, at2b _ _, da_nil ⟨n, .lst (g.map intsD), g, lo, rfl, rfl, hg, hpL, true, by rw [hok], iteF' rfl ?_⟩⟩)))⟩))))))))))
        refine dt_not (dt_val (de_call (da_cons (de_d rfl (da_cons (de_d rfl (da_cons (de_d rfl (da_cons (de_d rfl (da_cons (de_ix (de_d rfl (de_int ⟨_, 1, wD lo, rfl, rfl, at2b _ _, da_nil ⟨n, g, lo, rfl, hg, hpL, hok, true, rfl, iteF' rfl (dx_next ?_)⟩⟩))))))))))))))
        refine dx_seq (dx_forE (α := Nat) [8] (fun i => .int (i : Nat)) (di_rng1 (da_cons (de_int (da_nil ⟨3, rfl, by omega, by omega, List.range 3, rfl, fun i τ2 => ∃ a b c : SL Kp, τ2 = [.d (.obj .tape), .d (.int (n : Nat)), .d (.lst (g.map wD)), .d (bookD n (ovG g)), .d (.tup [.str "laid", wD lo]), .d (intsD (ups n)), .d (.int (1 + (i4 : Int))), .d (.tup [.str "plan", daysD days]), a, b, c], ⟨_, _, _, rfl⟩, fun _ _ _ => trivial, ?_, ?_⟩)))))
        · rintro i a τ3 hq ⟨xa, xb, xc, rfl⟩
          refine dg_nm rfl (dx_seq (dx_asg (de_call (da_cons (de_d rfl (da_cons (de_ix (de_d rfl (de_int ⟨_, 1, daysD days, rfl, rfl, at2b _ _, da_nil ⟨days, rfl, by have := hd.many; omega, fun d hdd => by have := hd.one hdd; omega, fun yss ht => ?_⟩⟩)))))))))
          obtain ⟨t1, t2⟩ := turned_ok hg hd ht
          refine dx_if (dt_or (dt_not (dt_val (de_call (da_cons (de_d rfl (da_cons (de_ld (de_d rfl ⟨.lst (g.map wD), .lst (g.map intsD), rfl, gld g, da_cons (de_d rfl (da_nil ⟨n, .lst (g.map intsD), g, yss.flatten, rfl, rfl, hg, t1, true, by rw [t2], iteF' rfl ?_⟩))⟩)))))))))
          exact dt_not (dt_val (de_call (da_cons (de_d rfl (da_cons (de_d rfl (da_cons (de_d rfl (da_cons (de_d rfl (da_cons (de_d rfl (da_nil ⟨n, g, yss.flatten, rfl, hg, t1, t2, true, rfl, iteF' rfl (dx_next ⟨_, _, _, rfl⟩)⟩)))))))))))))
        · rintro τ3 ⟨xa, xb, xc, rfl⟩
          refine dx_ret (de_isT (de_call (da_cons (de_d rfl (da_cons (de_d rfl (da_cons (de_d rfl (da_cons (de_ix (de_d rfl (de_int ⟨_, 1, daysD days, rfl, rfl, at2b _ _, da_nil ⟨n, ovG g, 1 + i4, days, ?_, g3, by omega, by omega, by omega, hg.inO, hd, true, rfl, rfl, h⟩⟩))))))))))))
          show [(bookD n (ovG g) : Dk), .int (1 + (i4 : Int)), intsD (ups n), daysD days] = _
          rw [show ((1 + i4 : Nat) : Int) = 1 + (i4 : Int) by omega]
    · -- a ring
      have hrow : (rowL n (ovG g)).length ≠ n := fun z => hw (whole_iff.mpr z)
      refine ⟨rfl, dao_cons (de_tupRg (drg_1 (de_d rfl ⟨(n : Int), rfl, ⟨by omega, by omega, by omega, by omega⟩, rfl, dao_nil ⟨_, _, _, rfl, ?_⟩⟩)))⟩
      show DX (Zk K CB CR) _ [.d (.obj .tape), .d (.int (n : Nat)), .d (.lst (g.map wD)), .d (bookD n (ovG g)), .d (.tup [.str "ring", .tup (rs.map pairD)]), .d (.tup (rgD 0 (n : Int))), .u, .u, .u, .u, .u] _
      rw [er]
      show DX (Zk K CB CR) _ [.d (.obj .tape), .d (.int (n : Nat)), .d (.lst (g.map wD)), .d (bookD n (ovG g)), .d (.tup [.str "ring", .tup (rs.map pairD)]), .d (intsD (ups n)), .u, .u, .u, .u, .u] _
      refine dx_seq (dx_if (dt_or (dt_not (dt_test (de_beq nf_Book (de_d rfl (de_mkBok (da_cons (de_d rfl (da_cons (de_call (da_cons (de_ld (de_d rfl ⟨.lst (g.map wD), .lst (g.map intsD), rfl, gld g, da_nil ⟨.lst (g.map intsD), g, rfl, rfl, hg.few, hg.rows, g5, da_cons (de_op bs_mul (de_tup (da_cons (de_tup (da_cons (de_non (da_cons (de_non (da_nil ⟨[.non, .non], rfl, by simp, da_nil ⟨[dateD], rfl, by simp, de_d rfl ⟨nofun, by omega, by omega, by simp, da_cons (de_tup (da_nil ⟨[], rfl, by simp, da_nil ⟨n, ovG g, ?_, by omega, g3, ovG_ok hg, n, ovG g, rfl, rfl, true, rfl, iteF' rfl ?_⟩⟩))⟩⟩⟩)))))))))⟩⟩))))))))))))))
      · rw [Int.toNat_natCast, dates_flat]
        rfl
      refine dt_test (de_ne (de_ld (de_call (da_cons (de_d rfl (da_cons (de_d rfl (da_nil ⟨n, ovG g, rfl, g3, hg.inO, by omega, .ktup ((ups n).map .int), intsD (ups n), rfl, .ktup (LDs.refl _), de_d rfl ⟨intsD (ups n), intsD (ups n), rfl, rfl, lay_intsT _, lay_intsT _, false, ?_, iteF' rfl (dx_next ?_)⟩⟩))))))))
      · show ER.v (.bl (!eqD (.tup ((ups n).map .int) : Dk) (.tup ((ups n).map .int)))) = _
        rw [eq_intsT, decide_eq_true rfl]
        rfl
      refine dx_seq (dx_asg (de_addI (de_int ⟨1, rfl, de_call (da_cons (de_d rfl (da_cons (de_int (da_nil ⟨4, rfl, by omega, by omega, fun i4 hi4 => ⟨(i4 : Int), rfl, ?_⟩⟩)))))⟩)))
      refine dx_seq (dx_asg (de_call (da_cons (de_d rfl (da_cons (de_d rfl (da_cons (de_d rfl (da_nil ⟨n, ovG g, 1 + i4, ?_, h12, by omega, by omega, by omega, hg.inO, fun hr => absurd hr hrow, fun _ L hL => ?_⟩)))))))))
      · show [(bookD n (ovG g) : Dk), .int (1 + (i4 : Int)), intsD (ups n)] = _
        rw [show ((1 + i4 : Nat) : Int) = 1 + (i4 : Int) by omega]
      refine dx_seq (dx_if (dt_test (de_nin (de_tup (da_cons (de_ix (de_d rfl (de_int ⟨_, 0, .str "ring", rfl, rfl, at2a _ _, da_cons (de_ix (de_d rfl (de_int ⟨_, 0, .str "stuck", rfl, rfl, at2a _ _, da_nil ⟨[.str "ring", .str "stuck"], rfl, by simp, de_tup (da_cons (de_tup (da_cons (de_str (da_cons (de_str (da_nil ⟨[.str "laid", .str "plan"], rfl, by simp, da_cons (de_tup (da_cons (de_str (da_cons (de_str (da_nil ⟨[.str "ring", .str "stuck"], rfl, by simp, da_nil ⟨[.tup [.str "laid", .str "plan"], .tup [.str "ring", .str "stuck"]], rfl, by simp, .tup [.str "ring", .str "stuck"], words2, _, rfl, rfl, rfl, lay_p2, lay_w, false, ?_, iteF' rfl (dx_next ?_)⟩⟩))))))⟩)))))))⟩⟩)))⟩))))))))
      · rw [w_rs] <;> rfl
      refine dx_seq (dx_forE (α := Nat) [8] (fun i => .int (i : Nat)) (di_rng1 (da_cons (de_int (da_nil ⟨6, rfl, by omega, by omega, List.range 6, rfl, fun i τ2 => ∃ a b c : SL Kp, τ2 = [.d (.obj .tape), .d (.int (n : Nat)), .d (.lst (g.map wD)), .d (bookD n (ovG g)), .d (.tup [.str "ring", .tup (rs.map pairD)]), .d (intsD (ups n)), .d (.int (1 + (i4 : Int))), .d (.tup [.str "stuck", intsD L]), a, b, c], ⟨_, _, _, rfl⟩, fun _ _ _ => trivial, ?_, ?_⟩)))))
      · rintro i a τ2 hq ⟨xa, xb, xc, rfl⟩
        refine dg_nm rfl (dx_seq (dx_asg (de_tupW (de_call (da_cons (de_d rfl (da_cons (de_d rfl (da_nil ⟨intsD (ups n), ups n, rfl, rfl, by rw [ups_len]; omega, fun ys p hys => ⟨_, rfl, ?_⟩⟩)))))))))
        refine dx_seq (dx_asg (de_call (da_cons (de_d rfl (da_cons (de_ld (de_d rfl ⟨.lst (g.map wD), .lst (g.map intsD), rfl, gld g, da_cons (de_tup (da_cons (de_str (da_cons (de_d rfl (da_nil ⟨[.str "laid", wD ys], rfl, by simp, da_nil ⟨n, .lst (g.map intsD), g, .tup [.str "laid", wD ys], rfl, rfl, hg, .inr ⟨ys, rfl, hys, ?_⟩⟩⟩))))))⟩)))))))
        have hfl := fits_laid hg hys
        show DX (Zk K CB CR) _ [.d (.obj .tape), .d (.int (n : Nat)), .d (.lst (g.map wD)), .d (bookD n (ovG g)), .d (.tup [.str "ring", .tup (rs.map pairD)]), .d (intsD (ups n)), .d (.int (1 + (i4 : Int))), .d (.tup [.str "stuck", intsD L]), .d (.int (a : Nat)), .d (wD ys), .d (.bl (laidOk g ys))] _
        refine dx_if (dt_or (dt_test (de_ne (de_d rfl (de_call (da_cons (de_d rfl (da_cons (de_ld (de_d rfl ⟨.lst (g.map wD), .lst (g.map intsD), rfl, gld g, da_cons (de_d rfl (da_nil ⟨n, .lst (g.map intsD), g, ys, rfl, rfl, hg, hys, .bl (laidOk g ys), .bl (laidOk g ys), rfl, rfl, rfl, rfl, false, ?_, iteF' rfl ?_⟩))⟩))))))))))
        · rw [eqb] <;> rfl
        refine dt_test (de_ne (de_nN (de_call (da_cons (de_d rfl (da_cons (de_ld (de_d rfl ⟨wD ys, intsD ys, rfl, wld ys, da_nil ⟨n, ovG g, ys, rfl, by omega, hys, hg.fin hys, by omega, fun hf => ⟨.non, rfl, rfl, ?_⟩, fun hf x y => ⟨.tup [.str "over", .int x, .int y], rfl, rfl, ?_⟩⟩⟩))))))))
        · rw [← hfl, hf]
          refine de_d rfl ⟨.bl true, .bl true, rfl, rfl, rfl, rfl, false, ?_, iteF' rfl (dx_next ⟨_, _, _, rfl⟩)⟩
          rw [eqb] <;> rfl
        · rw [← hfl, hf]
          refine de_d rfl ⟨.bl false, .bl false, rfl, rfl, rfl, rfl, false, ?_, iteF' rfl (dx_next ⟨_, _, _, rfl⟩)⟩
          rw [eqb] <;> rfl
      · rintro τ2 ⟨xa, xb, xc, rfl⟩
        refine dx_seq (dx_if (dt_test (de_eq (de_ix (de_d rfl (de_int ⟨_, 0, .str "ring", rfl, rfl, at2a _ _, de_str ⟨.str "ring", .str "ring", rfl, rfl, ls2, ls2, true, ?_, iteT' rfl ?_⟩⟩))))))
        · rw [eq_rr]
        refine dx_seq (dx_if (dt_or (dt_not (dt_val (de_call (da_cons (de_d rfl (da_cons (de_d rfl (da_cons (de_d rfl (da_cons (de_ix (de_d rfl (de_int ⟨_, 1, .tup (rs.map pairD), rfl, rfl, at2b _ _, da_nil ⟨n, g, rs, rfl, hg, hrs, true, rfl, iteF' rfl ?_⟩⟩)))))))))))))))
        refine dt_not (dt_val (de_call (da_cons (de_call (da_cons (de_ld (de_d rfl ⟨.lst (g.map wD), .lst (g.map intsD), rfl, gld g, da_nil ⟨.lst (g.map intsD), g, rfl, rfl, hg.few, hg.rows, g5, da_cons (de_ix (de_d rfl (de_int ⟨_, 1, intsD L, rfl, rfl, at2b _ _, da_nil ⟨ovG g, L, rfl, by omega, hL, ringO_two hg hL, true, rfl, iteF' rfl (dx_next ?_)⟩⟩)))⟩⟩)))))))
        refine dx_ret (de_call (da_cons (de_d rfl (da_cons (de_d rfl (da_cons (de_d rfl (da_cons (de_call (da_cons (de_ld (de_d rfl ⟨.lst (g.map wD), .lst (g.map intsD), rfl, gld g, da_cons (de_ix (de_d rfl (de_int ⟨_, 1, intsD L, rfl, rfl, at2b _ _, da_nil ⟨.lst (g.map intsD), g, L, rfl, rfl, g5, hg.rows, hL, fun rs2 h2 => da_nil ⟨n, g, rs2, rfl, hg, h2, rfl, h⟩⟩⟩)))⟩))))))))))))
  case hl =>
    rintro ds Q ⟨n, g, rfl, _⟩
    rfl


end K67
set_option Elab.async false
set_option linter.all false
set_option maxRecDepth 100000
namespace K67
open PySem PySem.Spec PyProof.Rows L2 DL RZ
/-! K29: the law -/
variable {P : Program} {w : World} {K : PySem.W.Frag} {mg : Str → Option Value} {base : Heap} {CB CR : Addr}

abbrev s_law : Stmt := top 86
abbrev N_law : List Str := ["script", "tape", "known", "turn", "count"]
theorem sc_law : FnScope N_law ["script"] (defScope s_law) := ⟨rfl, rfl, rfl, by decide +kernel, rfl, by decide +kernel, by decide +kernel⟩
def d_l1 : Dk := .tup [.str "laid", .tup [.int 0, .int 1, .int 3, .int 2]]
theorem e_l1 : eqD (.tup [.str "laid", .tup [.int 0, .int 1, .int 3, .int 2]] : Dk) (.tup [.str "laid", .tup [.int 0, .int 1, .int 3, .int 2]]) = true := by simp [eqD, toPy, toPys, PyData.eqv, PyData.eqvAll]
theorem e_l2 : eqD (.tup [.str "laid", .tup [.int 0, .int 1]] : Dk) (.tup [.str "laid", .tup [.int 0, .int 1]]) = true := by simp [eqD, toPy, toPys, PyData.eqv, PyData.eqvAll]
theorem e_p1 : eqD (.tup [.str "plan", .tup [.tup [.int 2], .tup [.int 3], .tup [.int 1], .tup [.int 0]]] : Dk) (.tup [.str "plan", .tup [.tup [.int 2], .tup [.int 3], .tup [.int 1], .tup [.int 0]]]) = true := by simp [eqD, toPy, toPys, PyData.eqv, PyData.eqvAll]
theorem l_l1 : lay 60 (.tup [.str "laid", .tup [.int 0, .int 1, .int 3, .int 2]] : Dk) = true := by decide +kernel
theorem l_l2 : lay 60 (.tup [.str "laid", .tup [.int 0, .int 1]] : Dk) = true := by decide +kernel
theorem l_p1 : lay 60 (.tup [.str "plan", .tup [.tup [.int 2], .tup [.int 3], .tup [.int 1], .tup [.int 0]]] : Dk) = true := by decide +kernel
theorem ld2 (x : Str) (xs : List Int) : LD (.tup [.str x, wD xs] : Dk) (.tup [.str x, intsD xs]) := .tup (.cons (.refl _) (.cons (wld xs) .nil))
def spLaw (K : PySem.W.Frag) : Sp := fun vs H Q _ => ∃ (a : Addr) (ns : List Int), vs = [.ref a] ∧ ScrAt K H a ns ∧ ns.length ≤ 63 ∧ ∀ H', Q (.bl true) H'
theorem law_ok {k : Nat} {f : Addr} {fd : FuncData} (F : FunD K "law" "law" (defArgs s_law) (defBody s_law) (defScope s_law) [] [] f fd) (z_range : mg "range" = none) (h__law_tape : Has P w K mg base "_law_tape" k ["script"] (spTape K)) (h_history : Has P w K mg base "history" k ["count", "grid"] (spD (Zk K CB CR) S_history)) (h_least_plan : Has P w K mg base "least_plan" k ["book", "crews", "wanted"] (spD (Zk K CB CR) S_least_plan)) (h_read_off : Has P w K mg base "read_off" k ["count", "grid"] (spD (Zk K CB CR) S_read_off)) (h__law_draw : Has P w K mg base "_law_draw" k ["tape", "many"] (spD (Zk K CB CR) S_draw)) (h__law_grid_right : Has P w K mg base "_law_grid_right" k ["tape", "count", "grid"] (spD (Zk K CB CR) S__law_grid_right)) (h__law_grid : Has P w K mg base "_law_grid" k ["tape", "count"] (spD (Zk K CB CR) S__law_grid)) : FnOk P w K mg base CX0 (k + 1) f fd ["script"] (spLaw K) := by
  refine F.ok sc_law (fun vs H Q E h => ?_) (fun cdv A outer s H vs Q E hr h => ?_)
  · obtain ⟨a, ns, rfl, _⟩ := h
    rfl
  · obtain ⟨a, ns, rfl, ha, hl, kk⟩ := h
    have hu65 := hu65_of hr
    refine ⟨_, PSs.nox (pss_cons (ps_set (i := 1) sc_law.nd rfl (by first | exact Or.inl rfl | exact Or.inr rfl) (pe_callH h__law_tape hr (by rfl) (pa_cons (pv 0) pa_nil)))
    (pss_cons (ps_set (i := 2) sc_law.nd rfl (by first | exact Or.inl rfl | exact Or.inr rfl) (pe_tup (pa_cons (pe_tup (pa_cons pe_int (pa_cons pe_int (pa_cons pe_int pa_nil)))) (pa_cons (pe_tup (pa_cons pe_int (pa_cons pe_int pa_nil))) (pa_cons (pe_tup (pa_cons pe_int (pa_cons pe_int pa_nil))) pa_nil)))))
    (pss_cons (ps_if (pt_cmpR (kop_ne (K := K) rfl hu65) (pe_callH h_history hr (by rfl) (pa_cons pe_int (pa_cons (pv 2) pa_nil))) (pe_tup (pa_cons pe_str (pa_cons (pe_tup (pa_cons pe_int (pa_cons pe_int (pa_cons pe_int (pa_cons pe_int pa_nil))))) pa_nil))) (nomark _)) (pss_one (ps_ret pe_bl)) pss_nil)
    (pss_cons (ps_if (pt_cmpR (kop_ne (K := K) rfl hu65) (pe_callH h_least_plan hr (by rfl) (pa_cons (pe_callH h_read_off hr (by rfl) (pa_cons pe_int (pa_cons (pv 2) pa_nil))) (pa_cons pe_int (pa_cons (pe_tup (pa_cons pe_int (pa_cons pe_int (pa_cons pe_int (pa_cons pe_int pa_nil))))) pa_nil)))) (pe_tup (pa_cons pe_str (pa_cons (pe_tup (pa_cons (pe_tup (pa_cons pe_int pa_nil)) (pa_cons (pe_tup (pa_cons pe_int pa_nil)) (pa_cons (pe_tup (pa_cons pe_int pa_nil)) (pa_cons (pe_tup (pa_cons pe_int pa_nil)) pa_nil))))) pa_nil))) (nomark _)) (pss_one (ps_ret pe_bl)) pss_nil)
    (pss_cons (ps_if (PW.pt (pw_or (pt_cmpR (kop_ne (K := K) rfl hu65) (pe_ix (kix (K := K) rfl) (pe_callH h_history hr (by rfl) (pa_cons pe_int (pa_cons (pe_tup (pa_cons (pe_tup (pa_cons pe_int (pa_cons pe_int pa_nil))) (pa_cons (pe_tup (pa_cons pe_int (pa_cons pe_int pa_nil))) (pa_cons (pe_tup (pa_cons pe_int (pa_cons pe_int pa_nil))) pa_nil)))) pa_nil))) pe_int (fun _ _ => rfl)) pe_str (nomark _)) (pw_or1 (pt_cmpR (kop_ne (K := K) rfl hu65) (pe_callH h_history hr (by rfl) (pa_cons pe_int (pa_cons (pe_lst (pa_cons (pe_tup (pa_cons pe_int pa_nil)) (pa_cons (pe_tup (pa_cons pe_int pa_nil)) (pa_cons (pe_tup (pa_cons pe_int (pa_cons pe_int pa_nil))) pa_nil)))) pa_nil))) (pe_tup (pa_cons pe_str (pa_cons (pe_tup (pa_cons pe_int (pa_cons pe_int pa_nil))) pa_nil))) (nomark _))))) (pss_one (ps_ret pe_bl)) pss_nil)
    (pss_cons (ps_for PassesOwn.never rfl (pi_range1 (by rfl) z_range (pa_cons pe_int pa_nil)) (pg_name (i := 3) sc_law.nd rfl (by first | exact Or.inl rfl | exact Or.inr rfl)) (pss_cons (ps_set (i := 4) sc_law.nd rfl (by first | exact Or.inl rfl | exact Or.inr rfl) (pe_ifExp (pt_cmpR op_gt (pe_callH h__law_draw hr (by rfl) (pa_cons (pv 1) (pa_cons pe_int pa_nil))) pe_int (nomark _)) (pe_op (kop_add (K := K) rfl) pe_int (pe_callH h__law_draw hr (by rfl) (pa_cons (pv 1) (pa_cons pe_int pa_nil)))) pe_int))
    (pss_one (ps_if (pt_not (pt_val (pe_callH h__law_grid_right hr (by rfl) (pa_cons (pv 1) (pa_cons (pv 4) (pa_cons (pe_callH h__law_grid hr (by rfl) (pa_cons (pv 1) (pa_cons (pv 4) pa_nil))) pa_nil)))))) (pss_one (ps_ret pe_bl)) pss_nil))))
    (pss_one (ps_ret pe_bl)))))))), ?_⟩
    refine ⟨.ref a, rfl, a, ns, rfl, ha, hl, fun H' w hok => ?_⟩
    have R0 : Rep (Zk K CB CR) (hide ((Zk K CB CR).A w) H') w [] [.u, .d (.obj .tape), .u, .u, .u] [some (.ref a), some (.ref w.1), none, none, none] H' := by
      refine ⟨List.nodup_nil, nofun, hok, hide_mono (fun a h => (mem_HL.mp h).elim id fun z => by cases z) (Same.refl _), nofun, .cons trivial (.cons ⟨.ref w.1, rfl, .obj rfl⟩ (.cons trivial (.cons trivial (.cons trivial .nil))))⟩
    have go : ∀ {t : TS}, DX (Zk K CB CR) t [.u, .d (.obj .tape), .u, .u, .u] { nx := fun _ => False, rt := fun r => r = .v (.bl true) } → ∀ {Dc : Ends}, (∀ H2, Dc.rt (.bl true) H2) → t Dc [some (.ref a), some (.ref w.1), none, none, none] H' := fun hd Dc hc =>
      hd _ w _ H' Dc R0 (fun _ _ _ _ q => q.elim) (fun r τ' σ' x w' H2 q l R' => by
        subst q
        have : x = .bl true := by cases R'.2; rfl
        subst this
        exact hc H2) (fun _ _ _ _ q => q.elim) (fun _ _ _ _ q => q.elim)
    dsimp only [gName]
    refine go (Dc := { nx := fun _ H' => Q .non H', rt := Q }) ?_ fun H2 => kk H2
    refine dx_seq (dx_asg (de_tup (da_cons (de_tup (da_cons (de_int (da_cons (de_int (da_cons (de_int (da_nil ⟨[.int 2, .int 1, .int 0], rfl, by simp, da_cons (de_tup (da_cons (de_int (da_cons (de_int (da_nil ⟨[.int 3, .int 1], rfl, by simp, da_cons (de_tup (da_cons (de_int (da_cons (de_int (da_nil ⟨[.int 2, .int 3], rfl, by simp, da_nil ⟨[.tup [.int 2, .int 1, .int 0], .tup [.int 3, .int 1], .tup [.int 2, .int 3]], rfl, by simp, ?_⟩⟩))))))⟩))))))⟩)))))))))))
    refine dx_seq (dx_if (dt_test (de_ne (de_ld (de_call (da_cons (de_int (da_cons (de_d rfl (da_nil ⟨4, .tup (known.map intsD), known, rfl, rfl, known_ok, fun hw => ?_, fun hw => absurd (by rw [known_laid] <;> rfl) hw⟩))))))))))
    rw [known_laid]
    refine ⟨.tup [.str "laid", wD [0, 1, 3, 2]], .tup [.str "laid", intsD [0, 1, 3, 2]], rfl, ld2 _ _, de_tup (da_cons (de_str (da_cons (de_tup (da_cons (de_int (da_cons (de_int (da_cons (de_int (da_cons (de_int (da_nil ⟨[.int 0, .int 1, .int 3, .int 2], rfl, by simp, da_nil ⟨[.str "laid", .tup [.int 0, .int 1, .int 3, .int 2]], rfl, by simp, ⟨.tup [.str "laid", .tup [.int 0, .int 1, .int 3, .int 2]], .tup [.str "laid", .tup [.int 0, .int 1, .int 3, .int 2]], rfl, rfl, l_l1, l_l1, false, ?_, iteF' rfl (dx_next ?_)⟩⟩⟩)))))))))))))⟩
    · rw [e_l1] <;> rfl
    refine dx_seq (dx_if (dt_test (de_ne (de_call (da_cons (de_call (da_cons (de_int (da_cons (de_d rfl (da_nil ⟨4, .tup (known.map intsD), known, rfl, rfl, known_ok, da_cons (de_int (da_cons (de_tup (da_cons (de_int (da_cons (de_int (da_cons (de_int (da_cons (de_int (da_nil ⟨[.int 0, .int 1, .int 2, .int 3], rfl, by simp, da_nil ⟨4, ovG known, 4, rfl, by decide, by decide, by decide, by rw [known_ov]; decide, known_ok.inO, fun _ days hd => ?_, fun hz => absurd (whole_iff.mp (by rw [known_laid] <;> rfl)) hz⟩⟩))))))))))))⟩)))))))))))
    rw [known_plan hd]
    refine de_tup (da_cons (de_str (da_cons (de_tup (da_cons (de_tup (da_cons (de_int (da_nil ⟨[.int 2], rfl, by simp, da_cons (de_tup (da_cons (de_int (da_nil ⟨[.int 3], rfl, by simp, da_cons (de_tup (da_cons (de_int (da_nil ⟨[.int 1], rfl, by simp, da_cons (de_tup (da_cons (de_int (da_nil ⟨[.int 0], rfl, by simp, da_nil ⟨[.tup [.int 2], .tup [.int 3], .tup [.int 1], .tup [.int 0]], rfl, by simp, da_nil ⟨[.str "plan", .tup [.tup [.int 2], .tup [.int 3], .tup [.int 1], .tup [.int 0]]], rfl, by simp, ⟨.tup [.str "plan", .tup [.tup [.int 2], .tup [.int 3], .tup [.int 1], .tup [.int 0]]], .tup [.str "plan", .tup [.tup [.int 2], .tup [.int 3], .tup [.int 1], .tup [.int 0]]], rfl, rfl, l_p1, l_p1, false, ?_, iteF' rfl (dx_next ?_)⟩⟩⟩⟩))))⟩))))⟩))))⟩)))))))))
    · rw [e_p1] <;> rfl
    refine dx_seq (dx_if (dt_or (dt_test (de_ne (de_ix (de_call (da_cons (de_int (da_cons (de_tup (da_cons (de_tup (da_cons (de_int (da_cons (de_int (da_nil ⟨[.int 0, .int 1], rfl, by simp, da_cons (de_tup (da_cons (de_int (da_cons (de_int (da_nil ⟨[.int 1, .int 2], rfl, by simp, da_cons (de_tup (da_cons (de_int (da_cons (de_int (da_nil ⟨[.int 2, .int 0], rfl, by simp, da_nil ⟨[.tup [.int 0, .int 1], .tup [.int 1, .int 2], .tup [.int 2, .int 0]], rfl, by simp, da_nil ⟨3, .tup (rg3.map intsD), rg3, rfl, rfl, rg3_ok, fun hw => absurd hw rg3_laid, fun _ rs hrs => ?_⟩⟩⟩))))))⟩))))))⟩)))))))))))))))))
    refine de_int ⟨[.str "ring", .tup (rs.map pairD)], 0, .str "ring", rfl, rfl, at2a _ _, de_str ⟨.str "ring", .str "ring", rfl, rfl, ls2, ls2, false, ?_, iteF' rfl ?_⟩⟩
    · rw [eq_rr] <;> rfl
    refine dt_test (de_ne (de_ld (de_call (da_cons (de_int (da_cons (de_lst (da_cons (de_tup (da_cons (de_int (da_nil ⟨[.int 0], rfl, by simp, da_cons (de_tup (da_cons (de_int (da_nil ⟨[.int 1], rfl, by simp, da_cons (de_tup (da_cons (de_int (da_cons (de_int (da_nil ⟨[.int 1, .int 0], rfl, by simp, da_nil ⟨[.tup [.int 0], .tup [.int 1], .tup [.int 1, .int 0]], rfl, by simp, fun _ => da_nil ⟨2, .lst (two.map intsD), two, rfl, rfl, two_ok, fun hw => ?_, fun hw => absurd (by rw [two_laid] <;> rfl) hw⟩⟩⟩))))))⟩))))⟩))))))))))))
    rw [two_laid]
    refine ⟨.tup [.str "laid", wD [0, 1]], .tup [.str "laid", intsD [0, 1]], rfl, ld2 _ _, de_tup (da_cons (de_str (da_cons (de_tup (da_cons (de_int (da_cons (de_int (da_nil ⟨[.int 0, .int 1], rfl, by simp, da_nil ⟨[.str "laid", .tup [.int 0, .int 1]], rfl, by simp, ⟨.tup [.str "laid", .tup [.int 0, .int 1]], .tup [.str "laid", .tup [.int 0, .int 1]], rfl, rfl, l_l2, l_l2, false, ?_, iteF' rfl (dx_next ?_)⟩⟩⟩)))))))))⟩
    · rw [e_l2] <;> rfl
    refine dx_seq (dx_forE (α := Nat) [3] (fun i => .int (i : Nat)) (di_rng1 (da_cons (de_int (da_nil ⟨4, rfl, by omega, by omega, List.range 4, rfl, fun i τ2 => ∃ a b : SL Kp, τ2 = [.u, .d (.obj .tape), .d (.tup (known.map intsD)), a, b], ⟨_, _, rfl⟩, fun _ _ _ => trivial, ?_, ?_⟩)))))
    · rintro i a τ2 hq ⟨xa, xb, rfl⟩
      refine dg_nm rfl (dx_seq (dx_asg (de_ifx (dt_test (de_B0 (de_call (da_cons (de_d rfl (da_cons (de_int (da_nil ⟨8, rfl, by omega, by omega, fun i8 hi8 => ⟨(i8 : Int), rfl, de_int ⟨0, rfl, _, rfl, ?_⟩⟩⟩)))))))))))
      refine iteB (fun c => ?_) (fun c => ?_)
      · refine de_addI (de_int ⟨2, rfl, de_call (da_cons (de_d rfl (da_cons (de_int (da_nil ⟨7, rfl, by omega, by omega, fun i7 hi7 => ⟨(i7 : Int), rfl, ?_⟩⟩)))))⟩)
        have e7 : (2 : Int) + (i7 : Int) = ((2 + i7 : Nat) : Int) := by omega
        rw [e7]
        exact dx_if (dt_not (dt_val (de_call (da_cons (de_d rfl (da_cons (de_d rfl (da_cons (de_call (da_cons (de_d rfl (da_cons (de_d rfl (da_nil ⟨2 + i7, rfl, by omega, by omega, fun g p hg => da_nil ⟨2 + i7, g, rfl, hg, by omega, true, rfl, iteF' rfl (dx_next ⟨_, _, rfl⟩)⟩⟩))))))))))))))
      · refine de_int ?_
        exact dx_if (dt_not (dt_val (de_call (da_cons (de_d rfl (da_cons (de_d rfl (da_cons (de_call (da_cons (de_d rfl (da_cons (de_d rfl (da_nil ⟨12, rfl, by omega, by omega, fun g p hg => da_nil ⟨12, g, rfl, hg, by omega, true, rfl, iteF' rfl (dx_next ⟨_, _, rfl⟩)⟩⟩))))))))))))))
    · rintro τ2 ⟨xa, xb, rfl⟩
      exact dx_ret (de_bl rfl)

end K67
set_option Elab.async false
set_option linter.all false
set_option maxRecDepth 100000
/-! E1: all defs together. Printed by k67end.py. -/
namespace K67
open PySem PySem.Spec PyProof.Rows L2 DL RZ H67
section
variable {P : Program} {w : World} {K : PySem.W.Frag} {h : Heap} {mg : Str → Option Value} {base : Heap}
theorem upEq {C : Addr} {j k : Nat} {ps : List Str} {sp : Sp} (h : HasEq P w K mg base C j ps sp) (l : j ≤ k) : HasEq P w K mg base C k ps sp := by
  obtain ⟨f, fd, h1, h2, F, h3⟩ := h
  exact ⟨f, fd, h1, h2, F.mono l, h3⟩
theorem def_of (X : K.In h) (G : h.Ns mainGlobals mg) (d : He.SaysD fa fn K) (i j : Nat) {x : Str} {st : Stmt} {ps : List Str} (hd : fn[i]? = some (dG x st)) (hf : fa[j]? = some (.glo x))
    (hb : ∀ (kV doc pm : Value) (an : Option Addr) (cdv ct : Value) (us : List Value), us.length = ps.length → bindArgs (PySem.W.fnOf x x (defArgs st) (defBody st) (defScope st) .none kV doc pm an cdv ct) ⟨us, []⟩ = pure (ps.zip us)) : Def K mg x st ps := by
  obtain ⟨fd, F⟩ := d.def_ i hd
  exact ⟨He.ga K x, fd, F, He.glo_ok X G (d.fact j hf), F.kp, F.bindsN hb⟩
theorem met_of (d : He.SaysD fa fn K) (i : Nat) {C m q : Str} {st : Stmt} {ps : List Str} (hd : fn[i]? = some (dM C m q st))
    (hb : ∀ (kV doc pm : Value) (an : Option Addr) (cdv ct : Value) (us : List Value), us.length = ps.length → bindArgs (PySem.W.fnOf m q (defArgs st) (defBody st) (defScope st) .none kV doc pm an cdv ct) ⟨us, []⟩ = pure (ps.zip us)) :
    ∃ fd : FuncData, FunD K m q (defArgs st) (defBody st) (defScope st) [] [] (He.ma K (He.ga K C) m) fd ∧ Binds K fd ps [] := by
  obtain ⟨fd, F⟩ := d.def_ i hd
  exact ⟨fd, F, F.bindsN hb⟩
set_option maxHeartbeats 0 in
theorem whole (X : K.In h) (G : h.Ns mainGlobals mg) {h0 : Heap} (c : He.SaysX fa fn [] [] ex w h0 K) {fd : FuncData} (F : FunD K "law" "law" (defArgs s_law) (defBody s_law) (defScope s_law) [] [] (He.ga K "law") fd) (base : Heap) : FnOk P w K mg base CX0 10 (He.ga K "law") fd ["script"] (spLaw K) := by
  have d : He.SaysD fa fn K := c.t.d
  obtain ⟨e1, e⟩ := He.ba (show (_ && _) = true from c.more)
  obtain ⟨e2, e⟩ := He.ba e
  obtain ⟨e3, e⟩ := He.ba e
  obtain ⟨e4, e⟩ := He.ba e
  obtain ⟨e5, e⟩ := He.ba e
  obtain ⟨e6, e⟩ := He.ba e
  obtain ⟨e7, e8⟩ := He.ba e
  have e1 := of_decide_eq_true e1
  have e2 := of_decide_eq_true e2
  have e3 := of_decide_eq_true e3
  have e4 := of_decide_eq_true e4
  have e5 := of_decide_eq_true e5
  have e7 := of_decide_eq_true e7
  have e8 := of_decide_eq_true e8
  have cB : Cls K (cb K) := He.cls_ok (d.fact 89 (f := .cls "Book") rfl)
  have cR : Cls K (cr K) := He.cls_ok (d.fact 90 (f := .cls "RawBook") rfl)
  have T : Tx K (cb K) (cr K) := ⟨cB, cR, fun C hC => by
    rcases hC with rfl | rfl
    · exact ⟨He.noat_ok (d.fact 91 (f := .noat "Book" "count") rfl), He.noat_ok (d.fact 92 (f := .noat "Book" "overs") rfl), He.noat_ok (d.fact 93 (f := .noat "Book" "dates") rfl), He.noat_ok (d.fact 94 (f := .noat "Book" "kinds") rfl), He.noat_ok (d.fact 95 (f := .noat "Book" "looked") rfl)⟩
    · exact ⟨He.noat_ok (d.fact 96 (f := .noat "RawBook" "count") rfl), He.noat_ok (d.fact 97 (f := .noat "RawBook" "overs") rfl), He.noat_ok (d.fact 98 (f := .noat "RawBook" "dates") rfl), He.noat_ok (d.fact 99 (f := .noat "RawBook" "kinds") rfl), He.noat_ok (d.fact 100 (f := .noat "RawBook" "looked") rfl)⟩⟩
  have ic : C8.InsC K (cb K) := ⟨cB, e1, e2, e3, e4, e5⟩
  have gB : mg "Book" = some (.ref (cb K)) := He.glo_ok X G (d.fact 63 (f := .glo "Book") rfl)
  have gR : mg "RawBook" = some (.ref (cr K)) := He.glo_ok X G (d.fact 64 (f := .glo "RawBook") rfl)
  have z_int : mg "int" = none := He.free_ok X G (d.fact 65 (f := .free "int") rfl)
  have z_sum : mg "sum" = none := He.free_ok X G (d.fact 66 (f := .free "sum") rfl)
  have z_len : mg "len" = none := He.free_ok X G (d.fact 67 (f := .free "len") rfl)
  have z_abs : mg "abs" = none := He.free_ok X G (d.fact 68 (f := .free "abs") rfl)
  have z_isinstance : mg "isinstance" = none := He.free_ok X G (d.fact 69 (f := .free "isinstance") rfl)
  have z_bool : mg "bool" = none := He.free_ok X G (d.fact 70 (f := .free "bool") rfl)
  have z_list : mg "list" = none := He.free_ok X G (d.fact 71 (f := .free "list") rfl)
  have z_tuple : mg "tuple" = none := He.free_ok X G (d.fact 72 (f := .free "tuple") rfl)
  have z_all : mg "all" = none := He.free_ok X G (d.fact 73 (f := .free "all") rfl)
  have z_set : mg "set" = none := He.free_ok X G (d.fact 74 (f := .free "set") rfl)
  have z_range : mg "range" = none := He.free_ok X G (d.fact 75 (f := .free "range") rfl)
  have z_any : mg "any" = none := He.free_ok X G (d.fact 76 (f := .free "any") rfl)
  have z_enumerate : mg "enumerate" = none := He.free_ok X G (d.fact 77 (f := .free "enumerate") rfl)
  have z_sorted : mg "sorted" = none := He.free_ok X G (d.fact 78 (f := .free "sorted") rfl)
  have z_zip : mg "zip" = none := He.free_ok X G (d.fact 79 (f := .free "zip") rfl)
  have z_min : mg "min" = none := He.free_ok X G (d.fact 80 (f := .free "min") rfl)
  have z_str : mg "str" = none := He.free_ok X G (d.fact 81 (f := .free "str") rfl)
  have z_max : mg "max" = none := He.free_ok X G (d.fact 82 (f := .free "max") rfl)
  have c_MOST_LAYERS : ∃ t, mg "MOST_LAYERS" = some (.int 16 t) := He.int_ok X G (d.fact 83 (f := .int "MOST_LAYERS" 16) rfl)
  have c_MOST_COLUMNS : ∃ t, mg "MOST_COLUMNS" = some (.int 20 t) := He.int_ok X G (d.fact 84 (f := .int "MOST_COLUMNS" 20) rfl)
  have c_MOST_CREWS : ∃ t, mg "MOST_CREWS" = some (.int 4 t) := He.int_ok X G (d.fact 85 (f := .int "MOST_CREWS" 4) rfl)
  have c_MOST_NEEDED : ∃ t, mg "MOST_NEEDED" = some (.int 12 t) := He.int_ok X G (d.fact 86 (f := .int "MOST_NEEDED" 12) rfl)
  have c_FARTHEST : ∃ t, mg "FARTHEST" = some (.int 100000 t) := He.int_ok X G (d.fact 87 (f := .int "FARTHEST" 100000) rfl)
  have c_MOST_KINDS : ∃ t, mg "MOST_KINDS" = some (.int 16 t) := He.int_ok X G (d.fact 88 (f := .int "MOST_KINDS" 16) rfl)
  have y_has__law_tape := has__law_tape (P := P) (w := w) (mg := mg) (base := base) (k := 0) (def_of X G d 0 0 rfl rfl (fun _ _ _ _ _ _ us hl => match us, hl with | [_], _ => rfl)) z_int z_sum z_len z_abs
  have y_has_is_integer := has_is_integer (P := P) (w := w) (mg := mg) (base := base) (Z := Zk K (cb K) (cr K)) (k := 0) (def_of X G d 1 1 rfl rfl (fun _ _ _ _ _ _ us hl => match us, hl with | [_], _ => rfl)) z_isinstance z_int z_bool
  have y_has_is_within := has_is_within (P := P) (w := w) (mg := mg) (base := base) (Z := Zk K (cb K) (cr K)) (k := 1) (def_of X G d 2 2 rfl rfl (fun _ _ _ _ _ _ us hl => match us, hl with | [_, _, _], _ => rfl)) y_has_is_integer
  have y_has_is_row := has_is_row (P := P) (w := w) (mg := mg) (base := base) (Z := Zk K (cb K) (cr K)) (k := 0) (def_of X G d 3 3 rfl rfl (fun _ _ _ _ _ _ us hl => match us, hl with | [_, _, _], _ => rfl)) z_isinstance z_list z_tuple z_len
  have y_has_is_tuple := has_is_tuple (P := P) (w := w) (mg := mg) (base := base) (Z := Zk K (cb K) (cr K)) (k := 0) (def_of X G d 4 4 rfl rfl (fun _ _ _ _ _ _ us hl => match us, hl with | [_, _, _], _ => rfl)) z_isinstance z_tuple z_len
  have y_has_is_column := has_is_column (P := P) (w := w) (mg := mg) (base := base) (k := 2) (def_of X G d 5 5 rfl rfl (fun _ _ _ _ _ _ us hl => match us, hl with | [_, _], _ => rfl)) z_all z_len z_set (y_has_is_tuple.up (by decide)) y_has_is_within T
  have y_has_check_grid := has_check_grid (P := P) (w := w) (mg := mg) (base := base) (k := 3) (def_of X G d 6 6 rfl rfl (fun _ _ _ _ _ _ us hl => match us, hl with | [_, _], _ => rfl)) c_MOST_LAYERS c_MOST_COLUMNS z_all (y_has_is_within.up (by decide)) (y_has_is_row.up (by decide)) y_has_is_column T
  have y_has_laid := has_laid (P := P) (w := w) (mg := mg) (base := base) (k := 0) (def_of X G d 7 7 rfl rfl (fun _ _ _ _ _ _ us hl => match us, hl with | [_, _], _ => rfl)) z_range z_list z_any z_len z_tuple T
  have y_has_steps_of := has_steps_of (P := P) (w := w) (mg := mg) (base := base) (k := 0) (def_of X G d 8 8 rfl rfl (fun _ _ _ _ _ _ us hl => match us, hl with | [_], _ => rfl)) z_enumerate z_range z_len T
  have y_has_pair_at := has_pair_at (P := P) (w := w) (mg := mg) (base := base) (k := 0) (def_of X G d 9 9 rfl rfl (fun _ _ _ _ _ _ us hl => match us, hl with | [_, _], _ => rfl)) T
  have y_has_overs_of := has_overs_of (P := P) (w := w) (mg := mg) (base := base) (k := 1) (def_of X G d 10 10 rfl rfl (fun _ _ _ _ _ _ us hl => match us, hl with | [_], _ => rfl)) z_tuple z_sorted z_set y_has_steps_of y_has_pair_at T
  have y_has_ring_in := has_ring_in (P := P) (w := w) (mg := mg) (base := base) (k := 1) (def_of X G d 11 11 rfl rfl (fun _ _ _ _ _ _ us hl => match us, hl with | [_, _], _ => rfl)) z_tuple y_has_steps_of y_has_pair_at T
  have y_has_history := has_history (P := P) (w := w) (mg := mg) (base := base) (k := 4) (def_of X G d 12 12 rfl rfl (fun _ _ _ _ _ _ us hl => match us, hl with | [_, _], _ => rfl)) z_len z_range y_has_check_grid (y_has_laid.up (by decide)) (y_has_overs_of.up (by decide)) (y_has_ring_in.up (by decide)) T
  have y_has_check_crews := has_check_crews (P := P) (w := w) (mg := mg) (base := base) (k := 2) (def_of X G d 13 13 rfl rfl (fun _ _ _ _ _ _ us hl => match us, hl with | [_], _ => rfl)) c_MOST_CREWS y_has_is_within T
  have y_has_is_lot := has_is_lot (P := P) (w := w) (mg := mg) (base := base) (Z := Zk K (cb K) (cr K)) (k := 2) (def_of X G d 14 14 rfl rfl (fun _ _ _ _ _ _ us hl => match us, hl with | [_, _], _ => rfl)) z_isinstance z_tuple z_all z_zip y_has_is_within
  have y_has_check_set := has_check_set (P := P) (w := w) (mg := mg) (base := base) (k := 3) (def_of X G d 15 15 rfl rfl (fun _ _ _ _ _ _ us hl => match us, hl with | [_, _], _ => rfl)) y_has_is_lot T
  have y_has_needed_by := has_needed_by (P := P) (w := w) (mg := mg) (base := base) (k := 0) (def_of X G d 16 16 rfl rfl (fun _ _ _ _ _ _ us hl => match us, hl with | [_, _], _ => rfl)) z_list z_len z_tuple z_sorted T
  have y_has_row_of := has_row_of (P := P) (w := w) (mg := mg) (base := base) (k := 0) (def_of X G d 17 17 rfl rfl (fun _ _ _ _ _ _ us hl => match us, hl with | [_, _], _ => rfl)) z_list z_any z_len z_tuple T
  have y_has_ring_among := has_ring_among (P := P) (w := w) (mg := mg) (base := base) (k := 0) (def_of X G d 18 18 rfl rfl (fun _ _ _ _ _ _ us hl => match us, hl with | [_, _], _ => rfl)) z_tuple T
  have y_has_stuck_ring := has_stuck_ring (P := P) (w := w) (mg := mg) (base := base) (k := 1) (def_of X G d 19 19 rfl rfl (fun _ _ _ _ _ _ us hl => match us, hl with | [_, _], _ => rfl)) z_len y_has_row_of y_has_ring_among T
  have y_has_check_few := has_check_few (P := P) (w := w) (mg := mg) (base := base) (k := 0) (def_of X G d 20 20 rfl rfl (fun _ _ _ _ _ _ us hl => match us, hl with | [_], _ => rfl)) c_MOST_NEEDED z_len T
  have y_has_bare_in := has_bare_in (P := P) (w := w) (mg := mg) (base := base) (k := 0) (def_of X G d 21 21 rfl rfl (fun _ _ _ _ _ _ us hl => match us, hl with | [_, _], _ => rfl)) z_any T
  have Dc : Def K mg "choices" s_choices ["things", "many"] := (def_of X G d 22 22 rfl rfl (fun _ _ _ _ _ _ us hl => match us, hl with | [_, _], _ => rfl))
  have y_ch0 : Has P w K mg base "choices" 1 ["things", "many"] (spD (Zk K (cb K) (cr K)) (S_choices 0)) := Has.none Dc sc_choices
  have y_ch1 : Has P w K mg base "choices" 2 ["things", "many"] (spD (Zk K (cb K) (cr K)) (S_choices 1)) := has_choices (P := P) (w := w) (base := base) (k := 1) Dc z_range z_len y_ch0 T
  have y_ch2 : Has P w K mg base "choices" 3 ["things", "many"] (spD (Zk K (cb K) (cr K)) (S_choices 2)) := has_choices (P := P) (w := w) (base := base) (k := 2) Dc z_range z_len y_ch1 T
  have y_ch3 : Has P w K mg base "choices" 4 ["things", "many"] (spD (Zk K (cb K) (cr K)) (S_choices 3)) := has_choices (P := P) (w := w) (base := base) (k := 3) Dc z_range z_len y_ch2 T
  have y_ch4 : Has P w K mg base "choices" 5 ["things", "many"] (spD (Zk K (cb K) (cr K)) (S_choices 4)) := has_choices (P := P) (w := w) (base := base) (k := 4) Dc z_range z_len y_ch3 T
  have y_ch5 : Has P w K mg base "choices" 6 ["things", "many"] (spD (Zk K (cb K) (cr K)) (S_choices 5)) := has_choices (P := P) (w := w) (base := base) (k := 5) Dc z_range z_len y_ch4 T
  have y_has_choices := y_ch5
  have y_has_fewest := has_fewest (P := P) (w := w) (mg := mg) (base := base) (k := 6) (def_of X G d 23 23 rfl rfl (fun _ _ _ _ _ _ us hl => match us, hl with | [_, _, _], _ => rfl)) z_min z_len z_tuple (y_has_bare_in.up (by decide)) y_has_choices T
  have y_has_least_plan := has_least_plan (P := P) (w := w) (mg := mg) (base := base) (k := 7) (def_of X G d 24 24 rfl rfl (fun _ _ _ _ _ _ us hl => match us, hl with | [_, _, _], _ => rfl)) (y_has_check_crews.up (by decide)) (y_has_check_set.up (by decide)) (y_has_needed_by.up (by decide)) (y_has_stuck_ring.up (by decide)) (y_has_check_few.up (by decide)) y_has_fewest T
  obtain ⟨fd_mk_raw, F_mk_raw, B_mk_raw⟩ := met_of (ps := bks) d 25 (C := "RawBook") rfl (fun _ _ _ _ _ _ us hl => match us, hl with | [_, _, _, _, _], _ => rfl)
  have D_mk_raw : DefM K "__init__" "RawBook.__init__" (cr K) s_raw bks := ⟨_, fd_mk_raw, F_mk_raw, B_mk_raw, He.mkr_ok (d.fact 102 (f := .mkr "RawBook") rfl)⟩
  have y_mk_raw := mk_raw (P := P) (w := w) (mg := mg) (base := base) (k := 0) D_mk_raw gR T
  have y_has_read_off := has_read_off (P := P) (w := w) (mg := mg) (base := base) (k := 3) (def_of X G d 26 25 rfl rfl (fun _ _ _ _ _ _ us hl => match us, hl with | [_, _], _ => rfl)) y_has_check_grid (y_has_overs_of.up (by decide)) (y_mk_raw.up (by decide)) T
  have y_has__law_draw := has__law_draw (P := P) (w := w) (mg := mg) (base := base) (CB := cb K) (CR := cr K) (k := 0) (def_of X G d 27 26 rfl rfl (fun _ _ _ _ _ _ us hl => match us, hl with | [_, _], _ => rfl)) z_len z_int
  have y_has__law_overs := has__law_overs (P := P) (w := w) (mg := mg) (base := base) (k := 0) (def_of X G d 28 27 rfl rfl (fun _ _ _ _ _ _ us hl => match us, hl with | [_], _ => rfl)) z_zip z_tuple z_sorted z_set T
  have y_has_needed := has_needed (P := P) (w := w) (mg := mg) (base := base) (k := 4) (def_of X G d 29 28 rfl rfl (fun _ _ _ _ _ _ us hl => match us, hl with | [_, _], _ => rfl)) y_has_check_set (y_has_needed_by.up (by decide)) T
  have y_has__law_shuffled := has__law_shuffled (P := P) (w := w) (mg := mg) (base := base) (k := 1) (def_of X G d 30 29 rfl rfl (fun _ _ _ _ _ _ us hl => match us, hl with | [_, _], _ => rfl)) z_list z_len y_has__law_draw T
  have y_has_is_ring := has_is_ring (P := P) (w := w) (mg := mg) (base := base) (k := 2) (def_of X G d 31 30 rfl rfl (fun _ _ _ _ _ _ us hl => match us, hl with | [_, _], _ => rfl)) z_isinstance z_tuple z_len z_all z_zip (y_has_is_tuple.up (by decide)) y_has_is_within (y_has_pair_at.up (by decide)) T
  have y_has_is_order := has_is_order (P := P) (w := w) (mg := mg) (base := base) (k := 2) (def_of X G d 32 31 rfl rfl (fun _ _ _ _ _ _ us hl => match us, hl with | [_, _], _ => rfl)) z_all z_sorted z_range z_list (y_has_is_tuple.up (by decide)) y_has_is_within T
  have y_has_is_history := has_is_history (P := P) (w := w) (mg := mg) (base := base) (k := 5) (def_of X G d 33 32 rfl rfl (fun _ _ _ _ _ _ us hl => match us, hl with | [_, _, _], _ => rfl)) z_isinstance z_str z_all (y_has_check_grid.up (by decide)) (y_has_is_tuple.up (by decide)) (y_has_is_ring.up (by decide)) (y_has_is_order.up (by decide)) y_has_read_off (y_has_overs_of.up (by decide)) T
  have y_has__law_is_laid := has__law_is_laid (P := P) (w := w) (mg := mg) (base := base) (k := 1) (def_of X G d 34 33 rfl rfl (fun _ _ _ _ _ _ us hl => match us, hl with | [_, _, _], _ => rfl)) z_sorted z_range z_list z_all y_has__law_overs T
  have y_has_check_order := has_check_order (P := P) (w := w) (mg := mg) (base := base) (k := 3) (def_of X G d 35 34 rfl rfl (fun _ _ _ _ _ _ us hl => match us, hl with | [_, _], _ => rfl)) y_has_is_order T
  have y_has_place_of := has_place_of (P := P) (w := w) (mg := mg) (base := base) (k := 0) (def_of X G d 36 35 rfl rfl (fun _ _ _ _ _ _ us hl => match us, hl with | [_], _ => rfl)) z_enumerate T
  have y_has_over_amiss := has_over_amiss (P := P) (w := w) (mg := mg) (base := base) (k := 0) (def_of X G d 37 36 rfl rfl (fun _ _ _ _ _ _ us hl => match us, hl with | [_, _], _ => rfl)) T
  have y_has_kind_amiss := has_kind_amiss (P := P) (w := w) (mg := mg) (base := base) (k := 0) (def_of X G d 38 37 rfl rfl (fun _ _ _ _ _ _ us hl => match us, hl with | [_, _, _], _ => rfl)) z_enumerate z_min z_max T
  have y_has_is_dated := has_is_dated (P := P) (w := w) (mg := mg) (base := base) (k := 0) (def_of X G d 39 38 rfl rfl (fun _ _ _ _ _ _ us hl => match us, hl with | [_, _, _], _ => rfl)) T
  have y_has_date_amiss := has_date_amiss (P := P) (w := w) (mg := mg) (base := base) (k := 1) (def_of X G d 40 39 rfl rfl (fun _ _ _ _ _ _ us hl => match us, hl with | [_, _], _ => rfl)) z_range y_has_is_dated T
  have y_has_amiss_in := has_amiss_in (P := P) (w := w) (mg := mg) (base := base) (k := 2) (def_of X G d 41 40 rfl rfl (fun _ _ _ _ _ _ us hl => match us, hl with | [_, _], _ => rfl)) (y_has_place_of.up (by decide)) (y_has_over_amiss.up (by decide)) (y_has_kind_amiss.up (by decide)) y_has_date_amiss T
  have y_has_amiss := has_amiss (P := P) (w := w) (mg := mg) (base := base) (k := 4) (def_of X G d 42 41 rfl rfl (fun _ _ _ _ _ _ us hl => match us, hl with | [_, _], _ => rfl)) y_has_check_order (y_has_amiss_in.up (by decide)) T
  have y_has__law_is_way := has__law_is_way (P := P) (w := w) (mg := mg) (base := base) (k := 0) (def_of X G d 43 42 rfl rfl (fun _ _ _ _ _ _ us hl => match us, hl with | [_, _], _ => rfl)) z_isinstance z_tuple z_len z_zip T
  have y_has__law_followed := has__law_followed (P := P) (w := w) (mg := mg) (base := base) (k := 0) (def_of X G d 44 43 rfl rfl (fun _ _ _ _ _ _ us hl => match us, hl with | [_, _], _ => rfl)) z_zip T
  have y_has__law_is_ring := has__law_is_ring (P := P) (w := w) (mg := mg) (base := base) (k := 0) (def_of X G d 45 44 rfl rfl (fun _ _ _ _ _ _ us hl => match us, hl with | [_, _], _ => rfl)) z_isinstance z_tuple z_len z_all z_zip T
  have y_has_is_ring_of := has_is_ring_of (P := P) (w := w) (mg := mg) (base := base) (k := 2) (def_of X G d 46 45 rfl rfl (fun _ _ _ _ _ _ us hl => match us, hl with | [_, _, _], _ => rfl)) z_isinstance z_tuple z_len z_all z_zip (y_has_needed_by.up (by decide)) y_has_is_within T
  have y_has_is_stuck := has_is_stuck (P := P) (w := w) (mg := mg) (base := base) (k := 4) (def_of X G d 47 46 rfl rfl (fun _ _ _ _ _ _ us hl => match us, hl with | [_, _, _], _ => rfl)) y_has_check_set (y_has_is_ring_of.up (by decide)) T
  have y_has__law_ring_right := has__law_ring_right (P := P) (w := w) (mg := mg) (base := base) (k := 6) (def_of X G d 48 47 rfl rfl (fun _ _ _ _ _ _ us hl => match us, hl with | [_, _, _, _], _ => rfl)) z_range z_tuple (y_has__law_overs.up (by decide)) (y_has__law_is_way.up (by decide)) y_has_is_history (y_has__law_followed.up (by decide)) (y_has__law_is_ring.up (by decide)) (y_has_is_stuck.up (by decide)) T
  have y_has__law_spots := has__law_spots (P := P) (w := w) (mg := mg) (base := base) (k := 0) (def_of X G d 49 48 rfl rfl (fun _ _ _ _ _ _ us hl => match us, hl with | [_, _], _ => rfl)) z_zip z_enumerate z_range z_len z_tuple T
  have y_has_are_days := has_are_days (P := P) (w := w) (mg := mg) (base := base) (k := 3) (def_of X G d 50 49 rfl rfl (fun _ _ _ _ _ _ us hl => match us, hl with | [_, _, _], _ => rfl)) z_isinstance z_tuple z_all z_len z_set y_has_is_lot T
  have y_has_is_plan := has_is_plan (P := P) (w := w) (mg := mg) (base := base) (k := 4) (def_of X G d 51 50 rfl rfl (fun _ _ _ _ _ _ us hl => match us, hl with | [_, _, _, _], _ => rfl)) z_enumerate z_all (y_has_check_crews.up (by decide)) y_has_check_set y_has_are_days T
  have y_has_check_squares := has_check_squares (P := P) (w := w) (mg := mg) (base := base) (k := 3) (def_of X G d 52 51 rfl rfl (fun _ _ _ _ _ _ us hl => match us, hl with | [_, _], _ => rfl)) c_MOST_COLUMNS z_all z_len (y_has_is_row.up (by decide)) y_has_is_lot T
  have y_has_shown := has_shown (P := P) (w := w) (mg := mg) (base := base) (k := 4) (def_of X G d 53 52 rfl rfl (fun _ _ _ _ _ _ us hl => match us, hl with | [_, _, _], _ => rfl)) z_tuple y_has_check_order y_has_check_squares T
  have y_has__law_laid_right := has__law_laid_right (P := P) (w := w) (mg := mg) (base := base) (k := 6) (def_of X G d 54 53 rfl rfl (fun _ _ _ _ _ _ us hl => match us, hl with | [_, _, _, _, _], _ => rfl)) z_range z_tuple z_sorted (y_has_is_plan.up (by decide)) (y_has__law_draw.up (by decide)) (y_has_amiss.up (by decide)) (y_has_shown.up (by decide)) y_has_is_history T
  have y_has__law_turned := has__law_turned (P := P) (w := w) (mg := mg) (base := base) (k := 2) (def_of X G d 55 54 rfl rfl (fun _ _ _ _ _ _ us hl => match us, hl with | [_, _], _ => rfl)) z_tuple y_has__law_shuffled T
  have y_has_is_pair := has_is_pair (P := P) (w := w) (mg := mg) (base := base) (k := 2) (def_of X G d 56 55 rfl rfl (fun _ _ _ _ _ _ us hl => match us, hl with | [_, _], _ => rfl)) z_all (y_has_is_tuple.up (by decide)) y_has_is_within T
  have y_has_are_overs := has_are_overs (P := P) (w := w) (mg := mg) (base := base) (k := 3) (def_of X G d 57 56 rfl rfl (fun _ _ _ _ _ _ us hl => match us, hl with | [_, _], _ => rfl)) z_isinstance z_tuple z_all z_zip y_has_is_pair T
  have y_has_is_bound := has_is_bound (P := P) (w := w) (mg := mg) (base := base) (k := 1) (def_of X G d 58 57 rfl rfl (fun _ _ _ _ _ _ us hl => match us, hl with | [_], _ => rfl)) c_FARTHEST y_has_is_integer T
  have y_has_is_date := has_is_date (P := P) (w := w) (mg := mg) (base := base) (k := 2) (def_of X G d 59 58 rfl rfl (fun _ _ _ _ _ _ us hl => match us, hl with | [_], _ => rfl)) z_all (y_has_is_tuple.up (by decide)) y_has_is_bound T
  have y_has_is_kind := has_is_kind (P := P) (w := w) (mg := mg) (base := base) (k := 3) (def_of X G d 60 59 rfl rfl (fun _ _ _ _ _ _ us hl => match us, hl with | [_, _], _ => rfl)) z_len y_has_is_lot T
  obtain ⟨fd_mk_bok, F_mk_bok, B_mk_bok⟩ := met_of (ps := bks) d 61 (C := "Book") rfl (fun _ _ _ _ _ _ us hl => match us, hl with | [_, _, _, _, _], _ => rfl)
  have D_mk_bok : DefM K "__init__" "Book.__init__" (cb K) s_bok bks := ⟨_, fd_mk_bok, F_mk_bok, B_mk_bok, He.mkr_ok (d.fact 101 (f := .mkr "Book") rfl)⟩
  have y_mk_bok := mk_bok (P := P) (w := w) (mg := mg) (base := base) (k := 4) D_mk_bok gB T c_MOST_LAYERS c_MOST_KINDS z_all (y_has_is_within.up (by decide)) y_has_are_overs (y_has_is_tuple.up (by decide)) (y_has_is_date.up (by decide)) y_has_is_kind
  obtain ⟨fd_has_parts, F_has_parts, B_has_parts⟩ := met_of (ps := ["self"]) d 62 (C := "Book") rfl (fun _ _ _ _ _ _ us hl => match us, hl with | [_], _ => rfl)
  have D_has_parts : DefMe K "parts" "Book.parts" [cb K, cr K] s_parts ["self"] := ⟨_, fd_has_parts, F_has_parts, B_has_parts, fun C hC => by
    rcases List.mem_cons.mp hC with e | hC
    · rw [e]; exact He.meth_ok (d.fact 103 (f := .meth "Book" "parts") rfl)
    · rw [List.mem_singleton.mp hC, show He.ma K (He.ga K "Book") "parts" = _ from e8]; exact He.meth_ok (d.fact 104 (f := .meth "RawBook" "parts") rfl)⟩
  have y_has_parts := has_parts (P := P) (w := w) (mg := mg) (base := base) (k := 0) D_has_parts T
  obtain ⟨fd_has_beq, F_has_beq, B_has_beq⟩ := met_of (ps := ["self", "other"]) d 63 (C := "RawBook") rfl (fun _ _ _ _ _ _ us hl => match us, hl with | [_, _], _ => rfl)
  have D_has_beq : DefEq K "__eq__" "Book.__eq__" (cr K) s_beq ["self", "other"] := ⟨_, fd_has_beq, F_has_beq, B_has_beq, (He.meth_ok (d.fact 105 (f := .meth "RawBook" "__eq__") rfl)).at_, (He.meth_ok (d.fact 105 (f := .meth "RawBook" "__eq__") rfl)).fn⟩
  have y_has_beq := has_beq (P := P) (w := w) (mg := mg) (base := base) (k := 1) D_has_beq T e7 z_isinstance ic ⟨_, gB, rfl⟩ (y_has_parts _ (List.mem_cons_of_mem _ List.mem_cons_self)) (y_has_parts _ List.mem_cons_self)
  have y_has__law_grid_right := has__law_grid_right (P := P) (w := w) (mg := mg) (base := base) (k := 7) (def_of X G d 64 60 rfl rfl (fun _ _ _ _ _ _ us hl => match us, hl with | [_, _, _], _ => rfl)) z_range z_tuple (y_has_read_off.up (by decide)) (y_has_history.up (by decide)) (y_has__law_overs.up (by decide)) (y_has_needed.up (by decide)) (y_has__law_draw.up (by decide)) y_has_least_plan (y_has__law_shuffled.up (by decide)) (y_has_is_history.up (by decide)) (y_has__law_is_laid.up (by decide)) (y_has_amiss.up (by decide)) (y_has__law_ring_right.up (by decide)) (y_has__law_is_ring.up (by decide)) (y_has__law_spots.up (by decide)) (y_has__law_laid_right.up (by decide)) (y_has__law_turned.up (by decide)) (y_has_is_plan.up (by decide)) (y_mk_bok.up (by decide)) T e6 (upEq y_has_beq (by decide))
  have y_has__law_grid := has__law_grid (P := P) (w := w) (mg := mg) (base := base) (k := 2) (def_of X G d 65 61 rfl rfl (fun _ _ _ _ _ _ us hl => match us, hl with | [_, _], _ => rfl)) z_range z_list z_tuple y_has__law_shuffled (y_has__law_draw.up (by decide)) T
  exact law_ok (P := P) (w := w) (mg := mg) (base := base) (CB := cb K) (CR := cr K) (k := 9) F z_range (y_has__law_tape.up (by decide)) (y_has_history.up (by decide)) (y_has_least_plan.up (by decide)) (y_has_read_off.up (by decide)) (y_has__law_draw.up (by decide)) y_has__law_grid_right (y_has__law_grid.up (by decide))
end
end K67
set_option Elab.async false
set_option linter.all false
set_option maxRecDepth 100000
set_option maxHeartbeats 0
open PySem PySem.W PySem.Calls PyProof.Rows in
theorem PySem.Challenge.cw_earthtold_k67_whole_plans_and_histories_holds : PySem.Challenge.rw_earthtold_k67_whole_plans_and_histories.Holds := by
  w_on; o_law
  refine HandSHeadRun.head_any (r := OpenLaw.row PySem.Challenge.rw_earthtold_k67_whole_plans_and_histories) (q := view (OpenLaw.row PySem.Challenge.rw_earthtold_k67_whole_plans_and_histories).prog [86]) (H := H67.hk) (ob := H67.ob) (M := 8000) (loose := H67.names) (d := HandSHeadRun.topDef (OpenLaw.row PySem.Challenge.rw_earthtold_k67_whole_plans_and_histories).prog 86) (kwd := []) H67.ob_eq
    (by kernel_rfl) (fun s => by kernel_rfl) H67.run (by kernel_rfl) (by kernel_rfl) (by kernel_rfl) (by rfl) (by first | assumption | decide +kernel) (by decide +kernel) ⟨rfl, rfl, rfl, rfl, rfl, by decide +kernel⟩ ?hw ?hc
  case hw => w_witness2
  case hc =>
    refine L2.walk_ofE (l := PySem.Challenge.rw_earthtold_k67_whole_plans_and_histories) (n := 63) (k := 10) (x := "script") (CX := L2.CX0) rfl (by decide) (by kernel_rfl) ⟨rfl, by decide, by decide⟩ ?F (fun _ _ _ _ z => z)
    intro w mg fa h Y G hmg0
    obtain ⟨K, KX, c⟩ := Y
    have hmg : mg ("law" : PySem.Str) = some (.ref fa) := by
      have e : (HandSHeadRun.topDef (OpenLaw.row PySem.Challenge.rw_earthtold_k67_whole_plans_and_histories).prog 86).name = ("law" : PySem.Str) := by kernel_rfl
      rw [← e]
      exact hmg0
    have hl : mg ("law" : PySem.Str) = some (.ref (He.ga K "law")) := He.glo_ok KX G (c.t.d.fact 62 (f := .glo "law") rfl)
    obtain ⟨fd, F⟩ := c.t.d.def_ 66 (d := H67.dG "law" K67.s_law) rfl
    have e := hmg.symm.trans hl
    have efa : fa = He.ga K "law" := by
      have := Option.some.inj e
      injection this
    subst efa
    have b := L2.FunD.bindsA (ps := ["script"]) F fun _ _ _ _ _ _ us hl => match us, hl with | [_], _ => rfl
    refine ⟨K, fd, K67.spLaw K, KX, fun s v => b s [v] rfl, fun H a ns hl hO hS => ⟨a, ns, rfl, ?_, hl, fun _ => rfl⟩, fun base hb hn => ?_⟩
    · rcases hS with (h1 | ⟨o, h1⟩) | h1
      · rcases hO a with h2 | ⟨o, xs, h2⟩
        · rw [h2] at h1; cases h1
        · rw [h2] at h1; cases h1
      · exact .inl ⟨o, h1⟩
      · exact .inr (.inr h1)
    · exact K67.whole (P := (PySem.Challenge.rw_earthtold_k67_whole_plans_and_histories).prog) KX G c F base
