import PyProof.Rows.All
import Wide.All
import OpenK.AllK
import Wide.FinOn
import HandS.ForMost
import HandS.Codes
import HandS.Property
import HandS.IsInst
import HandS.TupLe
import HandS.SetFor
import HandS.Walk
import HandS.SortInts
import HandS.Strs
import HandS.SetKeys
import KE.KDictWalk
import KE.DataMinMax
import KE.SortData
import HandS.Style
import PyProof.ListStr
import KE.KStateDown
import HandS.Head0
import HandS.Head1
import HandS.Head2
import HandS.HeadHook1
import HandS.Ends
import PySem.Challenge.RW_closerworks_k40_whole_topologies_that_ar
set_option Elab.async false
set_option linter.all false
set_option maxRecDepth 100000
set_option maxHeartbeats 0
/-! the head: what the top has made, by one run -/
namespace Cw
open PySem PySem.Spec PyProof.Rows L2
def topS (i : Nat) : Stmt := PySem.Challenge.pw_closerworks_k40_whole_topologies_that_ar.main.body.getD i (.Pass ⟨0, 0, 0, 0⟩)
abbrev R : PySem.W.OpenRow := PySem.W.OpenLaw.row PySem.Challenge.rw_closerworks_k40_whole_topologies_that_ar
abbrev qv : Program := PySem.W.view R.prog [94]
def names0 : List PySem.Str := ["_wall", "WrongValue", "InvalidText", "InvalidThings", "InvalidLot", "NotACloser", "InvalidClosed", "InvalidLeads", "NotPossible", "Swapped", "MOST_THINGS", "LETTERS", "is_letter", "is_rising"]
def names1 : List PySem.Str := ["are_things", "check_things", "is_lot", "check_lot", "wrong_in_family", "mask_of", "lot_of", "whole_of", "masks_of", "family_of", "is_inside", "meets_of", "is_closed_family", "check_closed"]
def names2 : List PySem.Str := ["rounds_of", "sign_of", "lot_told", "closer_told", "Closer", "lot_around", "closed_masks", "closer_of_masks", "check_closer", "outside_of", "swap_of", "is_convex", "end_mask", "ends"]
def names3 : List PySem.Str := ["barring_of", "has_exchange", "covers_of", "span_of", "root_masks", "roots", "count_down", "pentagon_masks", "diamond_lots", "is_distributive", "corner_masks", "check_convex", "is_closed_mask", "counts_by_lots"]
def names4 : List PySem.Str := ["peels_from", "peels", "count_peels", "try_to_join", "joined_corners", "fewest_rows", "wrong_union_of", "is_topology", "leads_of", "leads", "is_lead", "go_on", "check_leads", "by_leads"]
def names5 : List PySem.Str := ["_law_brew", "_law_tap", "_law_of", "_law_is_in", "_law_packs", "_law_crew", "_law_drawn_leads", "_law_led_halls", "_law_line", "_law_about", "_law_orders", "_law_most_free", "_law_leads_right", "_law_right"]
def names : List PySem.Str := names0 ++ (names1 ++ (names2 ++ (names3 ++ (names4 ++ (names5)))))
def dF (i : Nat) (x : Str) : He.FnD := ⟨(x, none), x, x, defArgs (topS i), defBody (topS i), defScope (topS i)⟩
def dI : He.FnD := ⟨("Closer", some "__init__"), "__init__", "Closer.__init__", defArgs (inClass (topS 35) 0), defBody (inClass (topS 35) 0), defScope (inClass (topS 35) 0)⟩
def hnm0 : List PySem.Str := ["is_letter", "mask_of", "lot_of", "whole_of", "is_inside", "masks_of", "is_rising", "are_things", "check_things", "is_lot", "check_lot", "wrong_in_family", "family_of", "meets_of"]
def hnm1 : List PySem.Str := ["is_closed_family", "check_closed", "rounds_of", "check_closer", "closed_masks", "is_closed_mask", "span_of", "outside_of", "end_mask", "ends", "swap_of", "is_convex", "barring_of", "has_exchange"]
def hnm2 : List PySem.Str := ["check_convex", "corner_masks", "wrong_union_of", "is_topology", "leads_of", "leads", "is_lead", "go_on", "check_leads", "_law_is_in", "_law_packs", "_law_led_halls", "_law_most_free", "_law_orders"]
def hnm3 : List PySem.Str := ["closer_of_masks", "by_leads", "covers_of", "counts_by_lots", "root_masks", "roots", "count_down", "peels_from", "peels", "count_peels", "try_to_join", "joined_corners", "fewest_rows", "pentagon_masks"]
def hnm4 : List PySem.Str := ["diamond_lots", "is_distributive", "_law_about", "_law_leads_right", "_law_tap", "_law_of", "_law_crew", "_law_line", "_law_drawn_leads", "_law_right", "_law_brew", "law"]
def hnm : List PySem.Str := hnm0 ++ (hnm1 ++ (hnm2 ++ (hnm3 ++ (hnm4))))
def hfn0 : List He.FnD := [dF 14 "is_letter", dF 21 "mask_of", dF 22 "lot_of", dF 23 "whole_of", dF 26 "is_inside", dF 24 "masks_of", dF 15 "is_rising", dF 16 "are_things", dF 17 "check_things", dF 18 "is_lot", dF 19 "check_lot", dF 20 "wrong_in_family"]
def hfn1 : List He.FnD := [dF 25 "family_of", dF 27 "meets_of", dF 29 "is_closed_family", dF 30 "check_closed", dF 31 "rounds_of", dF 39 "check_closer", dF 37 "closed_masks", dF 62 "is_closed_mask", dF 51 "span_of", dF 41 "outside_of", dF 44 "end_mask", dF 45 "ends"]
def hfn2 : List He.FnD := [dF 42 "swap_of", dF 43 "is_convex", dF 47 "barring_of", dF 48 "has_exchange", dF 61 "check_convex", dF 59 "corner_masks", dF 71 "wrong_union_of", dF 72 "is_topology", dF 73 "leads_of", dF 74 "leads", dF 75 "is_lead", dF 76 "go_on"]
def hfn3 : List He.FnD := [dF 77 "check_leads", dF 83 "_law_is_in", dF 84 "_law_packs", dF 87 "_law_led_halls", dF 91 "_law_most_free", dF 90 "_law_orders", dF 38 "closer_of_masks", dF 78 "by_leads", dF 50 "covers_of", dF 63 "counts_by_lots", dF 52 "root_masks", dF 53 "roots"]
def hfn4 : List He.FnD := [dF 54 "count_down", dF 64 "peels_from", dF 65 "peels", dF 66 "count_peels", dF 67 "try_to_join", dF 68 "joined_corners", dF 69 "fewest_rows", dF 55 "pentagon_masks", dF 56 "diamond_lots", dF 57 "is_distributive", dF 89 "_law_about", dF 92 "_law_leads_right"]
def hfn5 : List He.FnD := [dF 81 "_law_tap", dF 82 "_law_of", dF 85 "_law_crew", dF 88 "_law_line", dF 86 "_law_drawn_leads", dF 93 "_law_right", dF 80 "_law_brew", dF 94 "law", dI]
def hfn : List He.FnD := hfn0 ++ (hfn1 ++ (hfn2 ++ (hfn3 ++ (hfn4 ++ (hfn5)))))
def hfa0 : List He.Fa := [.glo "is_letter", .keep "is_letter", .glo "mask_of", .keep "mask_of", .glo "lot_of", .keep "lot_of", .glo "whole_of", .keep "whole_of", .glo "is_inside", .keep "is_inside", .glo "masks_of", .keep "masks_of"]
def hfa1 : List He.Fa := [.glo "is_rising", .keep "is_rising", .glo "are_things", .keep "are_things", .glo "check_things", .keep "check_things", .glo "is_lot", .keep "is_lot", .glo "check_lot", .keep "check_lot", .glo "wrong_in_family", .keep "wrong_in_family"]
def hfa2 : List He.Fa := [.glo "family_of", .keep "family_of", .glo "meets_of", .keep "meets_of", .glo "is_closed_family", .keep "is_closed_family", .glo "check_closed", .keep "check_closed", .glo "rounds_of", .keep "rounds_of", .glo "check_closer", .keep "check_closer"]
def hfa3 : List He.Fa := [.glo "closed_masks", .keep "closed_masks", .glo "is_closed_mask", .keep "is_closed_mask", .glo "span_of", .keep "span_of", .glo "outside_of", .keep "outside_of", .glo "end_mask", .keep "end_mask", .glo "ends", .keep "ends"]
def hfa4 : List He.Fa := [.glo "swap_of", .keep "swap_of", .glo "is_convex", .keep "is_convex", .glo "barring_of", .keep "barring_of", .glo "has_exchange", .keep "has_exchange", .glo "check_convex", .keep "check_convex", .glo "corner_masks", .keep "corner_masks"]
def hfa5 : List He.Fa := [.glo "wrong_union_of", .keep "wrong_union_of", .glo "is_topology", .keep "is_topology", .glo "leads_of", .keep "leads_of", .glo "leads", .keep "leads", .glo "is_lead", .keep "is_lead", .glo "go_on", .keep "go_on"]
def hfa6 : List He.Fa := [.glo "check_leads", .keep "check_leads", .glo "_law_is_in", .keep "_law_is_in", .glo "_law_packs", .keep "_law_packs", .glo "_law_led_halls", .keep "_law_led_halls", .glo "_law_most_free", .keep "_law_most_free", .glo "_law_orders", .keep "_law_orders"]
def hfa7 : List He.Fa := [.glo "closer_of_masks", .keep "closer_of_masks", .glo "by_leads", .keep "by_leads", .glo "covers_of", .keep "covers_of", .glo "counts_by_lots", .keep "counts_by_lots", .glo "root_masks", .keep "root_masks", .glo "roots", .keep "roots"]
def hfa8 : List He.Fa := [.glo "count_down", .keep "count_down", .glo "peels_from", .keep "peels_from", .glo "peels", .keep "peels", .glo "count_peels", .keep "count_peels", .glo "try_to_join", .keep "try_to_join", .glo "joined_corners", .keep "joined_corners"]
def hfa9 : List He.Fa := [.glo "fewest_rows", .keep "fewest_rows", .glo "pentagon_masks", .keep "pentagon_masks", .glo "diamond_lots", .keep "diamond_lots", .glo "is_distributive", .keep "is_distributive", .glo "_law_about", .keep "_law_about", .glo "_law_leads_right", .keep "_law_leads_right"]
def hfa10 : List He.Fa := [.glo "_law_tap", .keep "_law_tap", .glo "_law_of", .keep "_law_of", .glo "_law_crew", .keep "_law_crew", .glo "_law_line", .keep "_law_line", .glo "_law_drawn_leads", .keep "_law_drawn_leads", .glo "_law_right", .keep "_law_right"]
def hfa11 : List He.Fa := [.glo "_law_brew", .keep "_law_brew", .glo "law", .keep "law", .free "len", .free "range", .free "all", .free "any", .free "sum", .free "sorted", .free "set", .free "tuple"]
def hfa12 : List He.Fa := [.free "list", .free "isinstance", .free "str", .free "max", .free "min", .free "abs", .free "int", .free "divmod", .free "repr", .glo "Closer", .cls "Closer", .mkr "Closer"]
def hfa13 : List He.Fa := [.meth "Closer" "__init__", .noat "Closer" "letters", .noat "Closer" "family", .noat "Closer" "table", .int "MOST_THINGS" 7, .str "LETTERS" "abcdefghijklmnopqrstuvwxyz"]
def hfa : List He.Fa := hfa0 ++ (hfa1 ++ (hfa2 ++ (hfa3 ++ (hfa4 ++ (hfa5 ++ (hfa6 ++ (hfa7 ++ (hfa8 ++ (hfa9 ++ (hfa10 ++ (hfa11 ++ (hfa12 ++ (hfa13)))))))))))))
/-- the property m of the class, its getter -/
def pAd (K : PySem.W.Frag) (m : Str) : Addr := He.ma K (He.ga K "Closer") m
def gAd (K : PySem.W.Frag) (m : Str) : Addr := match PySem.W.recIn K (pAd K m) "property" with
  | some (.ref g :: _) => g
  | _ => 0
def fnAt (K : PySem.W.Frag) (a : Addr) : He.FnV := match K.lookup a with
  | some ⟨_, _, .func fd, _⟩ => some (fd.name, fd.qualname, fd.params, fd.body, fd.scope, fd.globals, fd.closure, fd.defaults, fd.builtins)
  | _ => none
def cdAt (K : PySem.W.Frag) (a : Addr) (q : Str) : Bool := match K.lookup a with
  | some ⟨_, _, .func fd, _⟩ => PySem.W.codeIn K fd.code q
  | _ => false
def gVal (m q : Str) (i : Nat) : He.FnV := some (m, q, defArgs (inClass (topS 35) i), .stmts (defBody (inClass (topS 35) i)), defScope (inClass (topS 35) i), mainGlobals, [], .none, builtinsNs)
def prB (K : PySem.W.Frag) (m q : Str) : Bool :=
  He.eqO (PySem.W.findIn K (.ref (He.ga K "Closer")) m) (some (some (.ref (pAd K m)))) && (He.eqO (PySem.W.specialIn K (.ref (pAd K m)) "__get__") (some (some (.builtin "property.__get__"))) && (decide (PySem.W.takesIn K (.ref (pAd K m)) = some true) &&
  ((match PySem.W.recIn K (pAd K m) "property" with
    | some (.ref _ :: _) => true
    | _ => false) && (PySem.W.keepIn K (.ref (gAd K m)) && cdAt K (gAd K m) q))))
def inB (K : PySem.W.Frag) : Bool :=
  He.eqO (PySem.W.findIn K (.ref (He.ga K "Closer")) "__class__") (some (some (.builtin "object.__class__"))) && (He.eqO (PySem.W.specialIn K (.builtin "object.__class__") "__get__") (some (some (.builtin "getset_descriptor.__get__"))) && (decide (PySem.W.takesIn K (.builtin "object.__class__") = some true) &&
  (decide (PySem.W.mroIn K (He.ga K "Closer") (.type "object") = some true) && decide (PySem.W.kitOne K (.ref (He.ga K "Closer")) (.ref (He.ga K "Closer")) = some true))))
def more (K : PySem.W.Frag) : Bool := inB K && (prB K "things" "Closer.things" && prB K "closed" "Closer.closed")
/-- where all this stands: the defs, their codes, the class and what it has -/
def rAt (g : Addr → Option Obj) (a : Addr) : List Addr := match g a with
  | some o => He.refsO o
  | none => []
def asX (g : Addr → Option Obj) : List Addr :=
  let K0 := He.frG g [mainGlobals]
  let fs := hnm.map fun x => He.ga K0 x
  let C := He.ga K0 "Closer"
  let l1 := rAt g C
  let l2 := l1.flatMap (rAt g)
  let l3 := l2.flatMap (rAt g)
  let l4 := l3.flatMap (rAt g)
  mainGlobals :: (C :: (fs ++ (fs.flatMap (rAt g) ++ (l1 ++ (l2 ++ (l3 ++ l4))))))
abbrev AlX : Type := Bool × He.Al × (He.FnV × He.FnV)
def obsX (K : PySem.W.Frag) : AlX := (more K, He.obsE hfa hfn K, (fnAt K (gAd K "things"), fnAt K (gAd K "closed")))
def valX : AlX := (true, He.valE hfn, (gVal "things" "Closer.things" 2, gVal "closed" "Closer.closed" 3))
def hookX : PySem.W.Hook where
  α := AlX
  obs := fun s => obsX (He.frG s.heap.get? (asX s.heap.get?))
  val := fun _ => valX
  says := fun _ h => ∃ K : PySem.W.Frag, K.In h ∧ obsX K = valX
  of := fun _ _ z => ⟨_, He.frG_in, z⟩
  keeps := fun _ _ _ ⟨K, i, z⟩ k => ⟨K, i.keeps k, z⟩
def obT (s : PySem.W.SharedT) : AlX := obsX (He.frG (HandSHeadRun.getT s) (asX (HandSHeadRun.getT s)))
theorem obT_eq (s : PySem.W.SharedT) : obT s = hookX.obs s.abs := by
  have h : HandSHeadRun.getT s = s.abs.heap.get? := funext fun a => HandSHeadRun.getT_eq s a
  unfold obT
  rw [h]
  rfl
theorem runX (w : World) : HandSHeadRun.RunEq R qv hookX obT 9000 names w := by
  intro os
  kernel_rfl
end Cw
/-! The layer of this claim: semantic transformers, representation types, pure evaluation with mirrors in Option. -/
namespace Ly
open PySem PySem.Spec PyProof.Rows L2

/-! ### transformers -/
section
variable (X : Cx)
def wE (e : Expr) : TE := fun σ H Q => ∀ pins s, L2.Inv X pins σ H s → wpAny (model X.prog X.w) X.A (eval e X.env) (EP X pins σ Q) X.xe s
def wT (e : Expr) : TT := fun σ H Q => ∀ pins s, L2.Inv X pins σ H s → wpAny (model X.prog X.w) X.A (PySem.isTrue e X.env (eval e X.env)) (TP X pins σ Q) X.xe s
def wW (e : Expr) : TT := fun σ H Q => ∀ (whole : Sem Value) pins s, L2.Inv X pins σ H s → wpAny (model X.prog X.w) X.A (PySem.isTrue e X.env whole) (TP X pins σ Q) X.xe s
def wA (es : List Expr) : TA := fun σ H Q => ∀ (pos : Pos) pins s, L2.Inv X pins σ H s → wpAny (model X.prog X.w) X.A (spliced (backTo pos (starEach es X.env))) (AP X pins σ Q) X.xe s
def wS (st : Stmt) : TS := fun D σ H => ∀ pins s, L2.Inv X pins σ H s → wpAny (model X.prog X.w) X.A (exec st X.env) (SP X pins D) X.xe s
def wSs (st : List Stmt) : TS := fun D σ H => ∀ pins s, L2.Inv X pins σ H s → wpAny (model X.prog X.w) X.A (execs st X.env) (SP X pins D) X.xe s
end
section
variable {X : Cx} {e : Expr} {es : List Expr} {st : Stmt} {sts : List Stmt} {σ : L2.St} {H : Hp}
theorem p_e : PE X e (wE X e) := ⟨fun pins s _ _ _ I h => h pins s I⟩
theorem p_t : PT X e (wT X e) := ⟨fun pins s _ _ _ I h => h pins s I⟩
theorem p_w : PW X e (wW X e) := ⟨fun wh pins s _ _ _ I h => h wh pins s I⟩
theorem p_a : PA X es (wA X es) := ⟨fun pos pins s _ _ _ I h => h pos pins s I⟩
theorem p_s : PS X st (wS X st) := ⟨fun pins s _ _ _ I h => h pins s I⟩
theorem p_ss : PSs X sts (wSs X sts) := ⟨fun pins s _ _ _ I h => h pins s I⟩
theorem of_e {t : TE} {Q : VK} (h : PE X e t) (q : t σ H Q) : wE X e σ H Q := fun pins s I => h.run pins s σ H Q I q
theorem of_t {t : TT} {Q : Bool → Hp → Prop} (h : PT X e t) (q : t σ H Q) : wT X e σ H Q := fun pins s I => h.run pins s σ H Q I q
theorem of_w {t : TT} {Q : Bool → Hp → Prop} (h : PW X e t) (q : t σ H Q) : wW X e σ H Q := fun wh pins s I => h.run wh pins s σ H Q I q
theorem of_a {t : TA} {Q : List V → Hp → Prop} (h : PA X es t) (q : t σ H Q) : wA X es σ H Q := fun pos pins s I => h.run pos pins s σ H Q I q
theorem of_s {t : TS} {D : Ends} (h : PS X st t) (q : t D σ H) : wS X st D σ H := fun pins s I => h.run pins s σ H D I q
theorem of_ss {t : TS} {D : Ends} (h : PSs X sts t) (q : t D σ H) : wSs X sts D σ H := fun pins s I => h.run pins s σ H D I q
theorem wE_mono {Q Q' : VK} (h : wE X e σ H Q) (k : ∀ v H', Q v H' → Q' v H') : wE X e σ H Q' := fun pins s I =>
  thn (h pins s I) fun _ _ ⟨v, H', I', r, q⟩ => ⟨v, H', I', r, k _ _ q⟩
theorem wT_mono {Q Q' : Bool → Hp → Prop} (h : wT X e σ H Q) (k : ∀ v H', Q v H' → Q' v H') : wT X e σ H Q' := fun pins s I =>
  thn (h pins s I) fun _ _ ⟨H', I', q⟩ => ⟨H', I', k _ _ q⟩
end

/-! ### heaps: B holds what never changes, H is what stands -/
def Ex (H H' : Hp) : Prop := ∀ a o, H a = some o → H' a = some o
theorem Ex.refl (H : Hp) : Ex H H := fun _ _ h => h
theorem Ex.trans {H H1 H2 : Hp} (a : Ex H H1) (b : Ex H1 H2) : Ex H H2 := fun x o h => b x o (a x o h)
theorem Ex.new {H : Hp} {p : Addr} {o : HO} (h : H p = none) : Ex H (upd H p o) := fun a u e => by
  rw [upd_ne (ne_of_none e h)]
  exact e
theorem Ex.free {H H' : Hp} {p : Addr} (e : Ex H H') (h : H' p = none) : H p = none := by
  cases h1 : H p with
  | none => rfl
  | some o =>
    rw [e p o h1] at h
    cases h
/-- an object that H does not know may change -/
theorem Ex.mut {H H' : Hp} {p : Addr} {o : HO} (e : Ex H H') (h : H p = none) : Ex H (upd H' p o) := fun a u ha => by
  rw [upd_ne (ne_of_none ha h)]
  exact e a u ha
theorem Ex.both {H H' : Hp} {p : Addr} {o : HO} (e : Ex H H') : Ex (upd H p o) (upd H' p o) := fun a u ha => by
  by_cases z : a = p
  · subst z
    rw [upd_same] at ha ⊢
    exact ha
  · rw [upd_ne z] at ha ⊢
    exact e a u ha
theorem Ex.put {H H' : Hp} {p : Addr} {o : HO} (e : Ex H H') (h : H' p = some o) : Ex (upd H p o) H' := fun a u ha => by
  by_cases z : a = p
  · subst z
    rw [upd_same] at ha
    rw [h]
    exact ha
  · rw [upd_ne z] at ha
    exact e a u ha

/-- one step: B grows to B', H to H'; what is new in B' was free in H -/
structure Go (B H B' H' : Hp) : Prop where
  eb : Ex B B'
  eh : Ex H H'
  bh : Ex B' H'
  fr : ∀ a o, B' a = some o → B a = some o ∨ H a = none
abbrev Own := List (Addr × HO)
structure In (B : Hp) (O : Own) (H : Hp) : Prop where
  ex : Ex B H
  ow : ∀ p ∈ O, H p.1 = some p.2 ∧ B p.1 = none
theorem Go.refl {B H : Hp} (e : Ex B H) : Go B H B H := ⟨Ex.refl _, Ex.refl _, e, fun _ _ h => .inl h⟩
theorem Go.trans {B H B1 H1 B2 H2 : Hp} (g : Go B H B1 H1) (k : Go B1 H1 B2 H2) : Go B H B2 H2 :=
  ⟨g.eb.trans k.eb, g.eh.trans k.eh, k.bh, fun a o h => (k.fr a o h).elim (fun z => g.fr a o z) fun z => .inr (g.eh.free z)⟩
theorem In.go {B H B' H' : Hp} {O : Own} (I : In B O H) (g : Go B H B' H') : In B' O H' :=
  ⟨g.bh, fun p hp => ⟨g.eh _ _ (I.ow p hp).1, by
    cases h : B' p.1 with
    | none => rfl
    | some o => exact ((g.fr _ _ h).elim (fun z => by rw [(I.ow p hp).2] at z; cases z) fun z => by rw [(I.ow p hp).1] at z; cases z)⟩⟩
/-- a new object that never changes -/
theorem Go.lay {B H : Hp} {p : Addr} {o : HO} (e : Ex B H) (h : H p = none) : Go B H (upd B p o) (upd H p o) :=
  ⟨Ex.new (e.free h), Ex.new h, e.both, fun a u ha => by
    by_cases z : a = p
    · subst z
      exact .inr h
    · rw [upd_ne z] at ha
      exact .inl ha⟩
theorem Go.tmp {B H : Hp} {p : Addr} {o : HO} (e : Ex B H) (h : H p = none) : Go B H B (upd H p o) :=
  ⟨Ex.refl _, Ex.new h, e.trans (Ex.new h), fun a u ha => .inl ha⟩

/-! ### representation -/
structure Ty (α : Type) where
  rep : Hp → V → α → Prop
  mono : ∀ {B B' : Hp} {v : V} {x : α}, Ex B B' → rep B v x → rep B' v x
inductive Reps {α : Type} (T : Ty α) (B : Hp) : List V → List α → Prop where
  | nil : Reps T B [] []
  | cons {v x vs xs} : T.rep B v x → Reps T B vs xs → Reps T B (v :: vs) (x :: xs)
section
variable {α β : Type} {T : Ty α} {U : Ty β} {B B' : Hp}
theorem Reps.mono (e : Ex B B') : ∀ {vs : List V} {xs : List α}, Reps T B vs xs → Reps T B' vs xs
  | _, _, .nil => .nil
  | _, _, .cons h t => .cons (T.mono e h) (t.mono e)
theorem Reps.len : ∀ {vs : List V} {xs : List α}, Reps T B vs xs → vs.length = xs.length
  | _, _, .nil => rfl
  | _, _, .cons _ t => by rw [List.length_cons, List.length_cons, t.len]
theorem Reps.get : ∀ {vs : List V} {xs : List α} {i : Nat} {v : V}, Reps T B vs xs → vs[i]? = some v → ∃ x, xs[i]? = some x ∧ T.rep B v x
  | _, _, _, _, .nil, h => by simp at h
  | _, _, 0, _, .cons h _, e => by
    cases (Option.some.inj e)
    exact ⟨_, rfl, h⟩
  | _, _, i + 1, _, .cons _ t, e => by
    obtain ⟨x, h1, h2⟩ := t.get (i := i) e
    exact ⟨x, h1, h2⟩
theorem Reps.get' : ∀ {vs : List V} {xs : List α} {i : Nat} {x : α}, Reps T B vs xs → xs[i]? = some x → ∃ v, vs[i]? = some v ∧ T.rep B v x
  | _, _, _, _, .nil, h => by simp at h
  | _, _, 0, _, .cons h _, e => by
    cases (Option.some.inj e)
    exact ⟨_, rfl, h⟩
  | _, _, i + 1, _, .cons _ t, e => by
    obtain ⟨x, h1, h2⟩ := t.get' (i := i) e
    exact ⟨x, h1, h2⟩
theorem Reps.app : ∀ {vs ws : List V} {xs ys : List α}, Reps T B vs xs → Reps T B ws ys → Reps T B (vs ++ ws) (xs ++ ys)
  | _, _, _, _, .nil, k => k
  | _, _, _, _, .cons h t, k => .cons h (t.app k)
theorem Reps.map {f : α → V} (hf : ∀ v x, T.rep B v x → v = f x) : ∀ {vs : List V} {xs : List α}, Reps T B vs xs → vs = xs.map f
  | _, _, .nil => rfl
  | _, _, .cons h t => by rw [List.map_cons, hf _ _ h, t.map hf]
theorem Reps.of {f : α → V} (hf : ∀ x, T.rep B (f x) x) : ∀ xs : List α, Reps T B (xs.map f) xs
  | [] => .nil
  | x :: xs => .cons (hf x) (Reps.of hf xs)
theorem Reps.ofP {f : α → V} : ∀ {xs : List α}, (∀ x ∈ xs, T.rep B (f x) x) → Reps T B (xs.map f) xs
  | [], _ => .nil
  | x :: xs, hf => .cons (hf x (List.mem_cons_self)) (Reps.ofP fun y hy => hf y (List.mem_cons_of_mem _ hy))
theorem Reps.mem : ∀ {vs : List V} {xs : List α}, Reps T B vs xs → ∀ x ∈ xs, ∃ v, T.rep B v x
  | _, _, .nil, x, h => by cases h
  | _, _, .cons h t, x, hx => by
    rcases List.mem_cons.mp hx with e | e
    · subst e
      exact ⟨_, h⟩
    · exact t.mem x e
theorem Reps.set {v : V} {x : α} (h : T.rep B v x) : ∀ {vs : List V} {xs : List α} (j : Nat), Reps T B vs xs → Reps T B (vs.set j v) (xs.set j x)
  | _, _, _, .nil => .nil
  | _, _, 0, .cons _ t => .cons h t
  | _, _, j + 1, .cons k t => .cons k (Reps.set h j t)
end
/-- the drawn letters, ascending -/
structure Crew where
  l : List Nat
  asc : l.Pairwise (· < ·)
  low : ∀ c ∈ l, 97 ≤ c ∧ c ≤ 122
/-- a text over the crew: places in it -/
def str (cw : Crew) (s : List Nat) : Str := ⟨(s.map fun i => cw.l.getD i 0).toArray⟩
def tN : Ty Nat := ⟨fun _ v n => v = .int (n : Int), fun _ h => h⟩
def tB : Ty Bool := ⟨fun _ v b => v = .bl b, fun _ h => h⟩
def tU : Ty Unit := ⟨fun _ v _ => v = .non, fun _ h => h⟩
/-- one letter, a text -/
def tC (cw : Crew) : Ty Nat := ⟨fun _ v i => v = .str (str cw [i]) ∧ i < cw.l.length, fun _ h => h⟩
def tS (cw : Crew) : Ty (List Nat) := ⟨fun _ v s => v = .str (str cw s) ∧ (∀ i ∈ s, i < cw.l.length) ∧ s.length ≤ 100, fun _ h => h⟩
def tL {α : Type} (T : Ty α) : Ty (List α) := ⟨fun B v xs => ∃ a vs, v = .ref a ∧ B a = some (.lst vs) ∧ Reps T B vs xs ∧ vs.length ≤ 40000, fun e ⟨a, vs, h1, h2, h3, h4⟩ => ⟨a, vs, h1, e _ _ h2, h3.mono e, h4⟩⟩
def tT {α : Type} (T : Ty α) : Ty (List α) := ⟨fun B v xs => ∃ a vs, v = .ref a ∧ B a = some (.tup vs) ∧ Reps T B vs xs ∧ vs.length ≤ 40000, fun e ⟨a, vs, h1, h2, h3, h4⟩ => ⟨a, vs, h1, e _ _ h2, h3.mono e, h4⟩⟩
def tP {α β : Type} (T : Ty α) (U : Ty β) : Ty (α × β) := ⟨fun B v p => ∃ a x y, v = .ref a ∧ B a = some (.tup [x, y]) ∧ T.rep B x p.1 ∧ U.rep B y p.2, fun e ⟨a, x, y, h1, h2, h3, h4⟩ => ⟨a, x, y, h1, e _ _ h2, T.mono e h3, U.mono e h4⟩⟩

/-! ### pure evaluation -/
section
variable (X : Cx) (σ : L2.St) (B : Hp) (O : Own)
def GE (e : Expr) (R : Hp → Hp → V → Prop) : Prop := ∀ B1 H, Ex B B1 → In B1 O H → ∀ Q : VK, (∀ v B' H', Go B1 H B' H' → R B' H' v → Q v H') → wE X e σ H Q
def EV {α : Type} (e : Expr) (T : Ty α) (m : Option α) : Prop := ∀ x, m = some x → GE X σ B O e fun B' _ v => T.rep B' v x
/-- a list, own or not -/
def ES {α : Type} (e : Expr) (T : Ty α) (m : Option (List α)) : Prop := ∀ xs, m = some xs → GE X σ B O e fun B' H' v => ∃ a vs, v = .ref a ∧ H' a = some (.lst vs) ∧ Reps T B' vs xs ∧ vs.length ≤ 40000 ∧ (B' a = some (.lst vs) ∨ (a, HO.lst vs) ∈ O)
def TV (e : Expr) (m : Option Bool) : Prop := ∀ b, m = some b → ∀ B1 H, Ex B B1 → In B1 O H → ∀ Q : Bool → Hp → Prop, (∀ B' H', Go B1 H B' H' → Q b H') → wT X e σ H Q
def WV (e : Expr) (m : Option Bool) : Prop := ∀ b, m = some b → ∀ B1 H, Ex B B1 → In B1 O H → ∀ Q : Bool → Hp → Prop, (∀ B' H', Go B1 H B' H' → Q b H') → wW X e σ H Q
def AV (es : List Expr) (R : Hp → List V → Prop) : Prop := ∀ B1 H, Ex B B1 → In B1 O H → ∀ Q : List V → Hp → Prop, (∀ vs B' H', Go B1 H B' H' → R B' vs → Q vs H') → wA X es σ H Q
end
/-- two parts, a value of both -/
@[reducible] def op2 {α β γ : Type} (f : α → β → Option γ) (a : Option α) (b : Option β) : Option γ := a.bind fun x => b.bind fun y => f x y
theorem op2_some {α β γ : Type} {f : α → β → Option γ} {a : Option α} {b : Option β} {z : γ} (h : op2 f a b = some z) : ∃ x y, a = some x ∧ b = some y ∧ f x y = some z := by
  cases a with
  | none => cases h
  | some x =>
    cases b with
    | none => cases h
    | some y => exact ⟨x, y, rfl, rfl, h⟩
section
variable {X : Cx} {σ : L2.St} {B : Hp} {O : Own} {a b e : Expr} {pos : Pos}
/-- an operator by values -/
theorem ev_op {α β γ : Type} {T : Ty α} {U : Ty β} {S : Ty γ} {f : α → β → Option γ} {ma : Option α} {mb : Option β} {op : Operator} {r : R2} (ho : OpR X (binaryOp op) r) (ha : EV X σ B O a T ma) (hb : EV X σ B O b U mb)
    (hr : ∀ x y z B' H' v w, f x y = some z → Ex B' H' → T.rep B' v x → U.rep B' w y → ∀ Q : VK, (∀ u B2 H2, Go B' H' B2 H2 → S.rep B2 u z → Q u H2) → r v w H' Q) : EV X σ B O (.BinOp a op b pos) S (op2 f ma mb) := by
  intro z hz B1 H e I Q q
  obtain ⟨x, y, rfl, rfl, hf⟩ := op2_some hz
  refine of_e (pe_op ho p_e p_e) ?_
  refine ha x rfl B1 H e I _ fun v B2 H2 g2 r2 => ?_
  refine hb y rfl B2 H2 (e.trans g2.eb) (I.go g2) _ fun w B3 H3 g3 r3 => ?_
  exact hr x y z B3 H3 v w hf g3.bh (T.mono g3.eb r2) r3 Q fun u B4 H4 g4 r4 => q u B4 H4 ((g2.trans g3).trans g4) r4
/-- a comparison: its value, its truth -/
def CV (X : Cx) (σ : L2.St) (B : Hp) (O : Own) (e : Expr) (m : Option Bool) : Prop := EV X σ B O e tB m ∧ TV X σ B O e m
theorem cv_of {m : Option Bool} {op : CmpOp} {r : R2} {tb : TE} (ho : OpR X (compareOp op) r) (hm : behindInMarks op b = false) (hb : PE X b tb)
    (h : ∀ z, m = some z → ∀ B1 H, Ex B B1 → In B1 O H → ∀ Q : VK, (∀ B' H', Go B1 H B' H' → Q (.bl z) H') → wE X a σ H fun v H1 => tb σ H1 fun w H2 => r v w H2 Q) : CV X σ B O (.Compare a [op] [b] pos) m :=
  ⟨fun z hz B1 H e I Q q => of_e (pe_cmpR ho p_e hb hm) (h z hz B1 H e I Q fun B' H' g => q _ B' H' g rfl),
    fun z hz B1 H e I Q q => of_t (pt_cmpR ho p_e hb hm) (h z hz B1 H e I (fun x H' => ∃ k, x = .bl k ∧ Q k H') fun B' H' g => ⟨z, rfl, q B' H' g⟩)⟩
theorem ev_cmp {α β : Type} {T : Ty α} {U : Ty β} {f : α → β → Option Bool} {ma : Option α} {mb : Option β} {op : CmpOp} {r : R2} (ho : OpR X (compareOp op) r) (hm : behindInMarks op b = false) (ha : EV X σ B O a T ma) (hb : EV X σ B O b U mb)
    (hr : ∀ x y z B' H' v w, f x y = some z → Ex B' H' → T.rep B' v x → U.rep B' w y → ∀ Q : VK, Q (.bl z) H' → r v w H' Q) : CV X σ B O (.Compare a [op] [b] pos) (op2 f ma mb) := by
  refine cv_of ho hm p_e fun z hz B1 H e I Q q => ?_
  obtain ⟨x, y, rfl, rfl, hf⟩ := op2_some hz
  refine ha x rfl B1 H e I _ fun v B2 H2 g2 r2 => ?_
  refine hb y rfl B2 H2 (e.trans g2.eb) (I.go g2) _ fun w B3 H3 g3 r3 => ?_
  exact hr x y z B3 H3 v w hf g3.bh (T.mono g3.eb r2) r3 Q (q B3 H3 (g2.trans g3))
end
end Ly
namespace Ly
open PySem PySem.Spec PyProof.Rows L2
/-! ### letters and texts -/
section
variable {cw : Crew} {s t : List Nat}
theorem code_lt : ∀ {l : List Nat}, l.Pairwise (· < ·) → ∀ {i j : Nat}, i < l.length → j < l.length → (l.getD i 0 < l.getD j 0 ↔ i < j) := by
  intro l h i j hi hj
  have key : ∀ {i j : Nat}, i < j → j < l.length → l.getD i 0 < l.getD j 0 := by
    intro i j hij hj
    have hi : i < l.length := Nat.lt_trans hij hj
    rw [List.getD_eq_getElem?_getD, List.getD_eq_getElem?_getD, List.getElem?_eq_getElem hi, List.getElem?_eq_getElem hj]
    exact List.pairwise_iff_getElem.mp h i j hi hj hij
  constructor
  · intro h1
    rcases Nat.lt_trichotomy i j with e | e | e
    · exact e
    · subst e
      exact absurd h1 (Nat.lt_irrefl _)
    · exact absurd (Nat.lt_trans h1 (key e hi)) (Nat.lt_irrefl _)
  · intro h1
    exact key h1 hj
theorem code_inj {i j : Nat} (hi : i < cw.l.length) (hj : j < cw.l.length) (h : cw.l.getD i 0 = cw.l.getD j 0) : i = j := by
  rcases Nat.lt_trichotomy i j with e | e | e
  · have := (code_lt cw.asc hi hj).mpr e
    omega
  · exact e
  · have := (code_lt cw.asc hj hi).mpr e
    omega
theorem code_eq {i j : Nat} (hi : i < cw.l.length) (hj : j < cw.l.length) : decide (cw.l.getD i 0 = cw.l.getD j 0) = (i == j) := by
  by_cases e : i = j
  · subst e
    simp
  · rw [decide_eq_false fun h => e (code_inj hi hj h)]
    simp [e]
theorem map_inj : ∀ {s t : List Nat}, (∀ i ∈ s, i < cw.l.length) → (∀ i ∈ t, i < cw.l.length) → (s.map fun i => cw.l.getD i 0) = (t.map fun i => cw.l.getD i 0) → s = t
  | [], [], _, _, _ => rfl
  | [], _ :: _, _, _, h => by simp at h
  | _ :: _, [], _, _, h => by simp at h
  | a :: s, b :: t, hs, ht, h => by
    rw [List.map_cons, List.map_cons] at h
    have h1 := (List.cons.inj h).1
    have h2 := (List.cons.inj h).2
    rw [code_inj (hs a List.mem_cons_self) (ht b List.mem_cons_self) h1, map_inj (fun i hi => hs i (List.mem_cons_of_mem _ hi)) (fun i hi => ht i (List.mem_cons_of_mem _ hi)) h2]
theorem str_inj (hs : ∀ i ∈ s, i < cw.l.length) (ht : ∀ i ∈ t, i < cw.l.length) : str cw s = str cw t ↔ s = t := by
  constructor
  · intro h
    unfold str at h
    have h1 := congrArg Str.cps h
    have h2 : (s.map fun i => cw.l.getD i 0) = (t.map fun i => cw.l.getD i 0) := by
      have := congrArg Array.toList h1
      simpa using this
    exact map_inj hs ht h2
  · intro h
    rw [h]
theorem str_dec (hs : ∀ i ∈ s, i < cw.l.length) (ht : ∀ i ∈ t, i < cw.l.length) : decide (V.str (str cw s) = V.str (str cw t)) = (s == t) := by
  by_cases e : s = t
  · subst e
    simp
  · rw [decide_eq_false fun h => e ((str_inj hs ht).mp (V.str.inj h))]
    simp [e]
theorem str_list : (str cw s).cps.toList = s.map fun i => cw.l.getD i 0 := by
  unfold str
  simp
theorem str_len : (str cw s).length = s.length := by
  show (s.map fun i => cw.l.getD i 0).toArray.size = _
  simp
theorem str_one {i : Nat} : str cw [i] = ⟨#[cw.l.getD i 0]⟩ := rfl
theorem str_app : str cw s ++ str cw t = str cw (s ++ t) := by
  show Str.append _ _ = _
  unfold Str.append str
  simp
theorem str_nil : ("" : Str) = str cw [] := by
  unfold str
  show Str.ofString "" = _
  rfl
/-- the order of lists of places -/
def lexB : List Nat → List Nat → Bool
  | [], [] => false
  | [], _ :: _ => true
  | _ :: _, [] => false
  | a :: s, b :: t => Nat.blt a b || (Nat.beq a b && lexB s t)
theorem lex_map : ∀ {s t : List Nat}, (∀ i ∈ s, i < cw.l.length) → (∀ i ∈ t, i < cw.l.length) → decide ((s.map fun i => cw.l.getD i 0) < (t.map fun i => cw.l.getD i 0)) = lexB s t
  | [], [], _, _ => by simp [lexB]
  | [], b :: t, _, _ => by simp [lexB]
  | a :: s, [], _, _ => by simp [lexB]
  | a :: s, b :: t, hs, ht => by
    have ha := hs a List.mem_cons_self
    have hb := ht b List.mem_cons_self
    have ih := lex_map (s := s) (t := t) (fun i hi => hs i (List.mem_cons_of_mem _ hi)) (fun i hi => ht i (List.mem_cons_of_mem _ hi))
    rw [List.map_cons, List.map_cons]
    unfold lexB
    rw [← ih]
    rw [Bool.eq_iff_iff]
    simp only [decide_eq_true_eq, Bool.or_eq_true, Bool.and_eq_true, Nat.blt_eq, Nat.beq_eq, List.cons_lt_cons_iff]
    rw [code_lt cw.asc ha hb]
    constructor
    · rintro (h | ⟨h, k⟩)
      · exact .inl h
      · exact .inr ⟨code_inj ha hb h, k⟩
    · rintro (h | ⟨h, k⟩)
      · exact .inl h
      · exact .inr ⟨by rw [h], k⟩
theorem str_lt (hs : ∀ i ∈ s, i < cw.l.length) (ht : ∀ i ∈ t, i < cw.l.length) : decide ((str cw s).cps.toList < (str cw t).cps.toList) = lexB s t := by
  rw [str_list, str_list]
  exact lex_map hs ht
theorem code_mem {i : Nat} (hi : i < cw.l.length) (hs : ∀ i ∈ s, i < cw.l.length) : decide (cw.l.getD i 0 ∈ (str cw s).cps.toList) = s.contains i := by
  rw [str_list, Bool.eq_iff_iff]
  simp only [decide_eq_true_eq, List.mem_map, List.contains_iff_mem]
  constructor
  · rintro ⟨j, hj, e⟩
    rw [← code_inj (hs j hj) hi e]
    exact hj
  · exact fun h => ⟨i, h, rfl⟩
end
/-! ### what a for or a comprehension walks -/
def wI (X : Cx) (tg iter : Expr) : TI := fun σ H R => ∀ pins s, L2.Inv X pins σ H s →
  wpAny (model X.prog X.w) X.A (eval iter X.env) (fun v s1 => wpAny (model X.prog X.w) X.A (pyIter v) (PIE X pins σ tg R) X.xe s1) X.xe s
theorem p_i {X : Cx} {tg iter : Expr} : PI X tg iter (wI X tg iter) := ⟨fun pins s _ _ _ I h => h pins s I⟩
theorem of_i {X : Cx} {tg iter : Expr} {σ : L2.St} {H : Hp} {t : TI} {R : It → Hp → Prop} (h : PI X tg iter t) (q : t σ H R) : wI X tg iter σ H R := fun pins s I => h.run pins s σ H R I q
structure Src (J : It) (B : Hp) (O : Own) (vs : List V) : Prop where
  ex : ∃ G : Hp → Prop, Walk J vs.length G (YAt vs) ∧ ∀ H, Ex B H → (∀ p ∈ O, H p.1 = some p.2) → G H
def IV (X : Cx) (σ : L2.St) (B : Hp) (O : Own) {α : Type} (tg iter : Expr) (T : Ty α) (m : Option (List α)) : Prop := ∀ xs, m = some xs → ∀ B1 H, Ex B B1 → In B1 O H → ∀ R : It → Hp → Prop,
  (∀ J B' H' vs, Go B1 H B' H' → Src J B' O vs → Reps T B' vs xs → vs.length ≤ 40000 → R J H') → wI X tg iter σ H R
section
variable {X : Cx} {σ : L2.St} {B : Hp} {O : Own} {a b c e tg : Expr} {pos p : Pos} {α β γ : Type} {T : Ty α} {U : Ty β} {S : Ty γ}
/-! ### names, constants -/
theorem ev_var (i : Nat) {x : Str} {v : V} {z : α} (r : T.rep B v z) (hN : X.N[i]? = some x := by rfl) (hv : Vis X.env.scope x := by first | exact Or.inl rfl | exact Or.inr (Or.inl rfl) | exact Or.inr (Or.inr rfl)) (h : σ[i]? = some (some v) := by rfl) (hd : (x == ("__debug__" : Str)) = false := by decide)
    (hcd : (x == ("__classdict__" : Str)) = false := by decide) : EV X σ B O (.Name x pos) T (some z) := by
  intro z' hz B1 H e I Q q
  cases hz
  exact of_e (pe_var hN hv hd hcd) ⟨v, h, q v B1 H (Go.refl I.ex) (T.mono e r)⟩
/-- an own list's name -/
theorem es_var (i : Nat) {x : Str} {a : Addr} {vs : List V} {xs : List α} (ho : (a, HO.lst vs) ∈ O) (r : Reps T B vs xs) (hl : vs.length ≤ 40000) (hN : X.N[i]? = some x := by rfl) (hv : Vis X.env.scope x := by first | exact Or.inl rfl | exact Or.inr (Or.inl rfl) | exact Or.inr (Or.inr rfl)) (h : σ[i]? = some (some (.ref a)) := by rfl)
    (hd : (x == ("__debug__" : Str)) = false := by decide) (hcd : (x == ("__classdict__" : Str)) = false := by decide) : ES X σ B O (.Name x pos) T (some xs) := by
  intro z' hz B1 H e I Q q
  cases hz
  exact of_e (pe_var hN hv hd hcd) ⟨_, h, q _ B1 H (Go.refl I.ex) ⟨a, vs, rfl, (I.ow _ ho).1, r.mono e, hl, .inr ho⟩⟩
theorem es_of {m : Option (List α)} (h : EV X σ B O a (tL T) m) : ES X σ B O a T m := by
  intro z hz B1 H e I Q q
  exact h z hz B1 H e I Q fun v B' H' g r => q v B' H' g (by
    obtain ⟨a, vs, h1, h2, h3, h4⟩ := r
    exact ⟨a, vs, h1, g.bh _ _ h2, h3, h4, .inl h2⟩)
theorem ev_int {n : Nat} {j : Nat} : EV X σ B O (.Constant (.int n) j pos) tN (some n) := by
  intro z hz B1 H e I Q q
  cases hz
  exact of_e pe_int (q _ B1 H (Go.refl I.ex) rfl)
theorem ev_bool {b : Bool} {j : Nat} : EV X σ B O (.Constant (.bool b) j pos) tB (some b) := by
  intro z hz B1 H e I Q q
  cases hz
  exact of_e pe_bl (q _ B1 H (Go.refl I.ex) rfl)
theorem ev_none {j : Nat} : EV X σ B O (.Constant .none j pos) tU (some ()) := by
  intro z hz B1 H e I Q q
  cases hz
  exact of_e pe_non (q _ B1 H (Go.refl I.ex) rfl)
theorem ev_nil {cw : Crew} {j : Nat} : EV X σ B O (.Constant (.str "") j pos) (tS cw) (some []) := by
  intro z hz B1 H e I Q q
  cases hz
  exact of_e pe_str (q _ B1 H (Go.refl I.ex) ⟨by rw [← str_nil], (by intro i h; cases h), by decide⟩)
/-- a number of the module -/
theorem ev_glob {n : Nat} {x : Str} {t : Tok} (hg : Gl X x) (hm : X.mg x = some (.int (n : Int) t)) (hd : (x == ("__debug__" : Str)) = false := by decide) : EV X σ B O (.Name x pos) tN (some n) := by
  intro z hz B1 H e I Q q
  cases hz
  exact of_e (pe_glob (v := .int (n : Int)) hg hm ⟨t, rfl⟩ hd) (q _ B1 H (Go.refl I.ex) rfl)
/-! ### arithmetic -/
theorem bitAnd_nat (x y : Nat) : Builtin.bitAnd (x : Int) (y : Int) = ((x &&& y : Nat) : Int) := by
  unfold Builtin.bitAnd
  rw [decide_eq_true (Int.natCast_nonneg x), decide_eq_true (Int.natCast_nonneg y)]
  rfl
theorem bitOr_nat (x y : Nat) : Builtin.bitOr (x : Int) (y : Int) = ((x ||| y : Nat) : Int) := by
  have hx : decide (0 ≤ Builtin.bitNot (x : Int)) = false := decide_eq_false (by unfold Builtin.bitNot; omega)
  have hy : decide (0 ≤ Builtin.bitNot (y : Int)) = false := decide_eq_false (by unfold Builtin.bitNot; omega)
  have ex : Builtin.bitNot (Builtin.bitNot (x : Int)) = (x : Int) := by unfold Builtin.bitNot; omega
  have ey : Builtin.bitNot (Builtin.bitNot (y : Int)) = (y : Int) := by unfold Builtin.bitNot; omega
  unfold Builtin.bitOr Builtin.bitAnd
  rw [hx, hy, ex, ey]
  show Builtin.bitNot (Builtin.bitNot _) = _
  unfold Builtin.bitNot
  simp only [Int.toNat_natCast]
  omega
@[reducible] def fAdd (x y : Nat) : Option Nat := some (x + y)
@[reducible] def fSub (x y : Nat) : Option Nat := if Nat.ble y x then some (x - y) else none
@[reducible] def fAnd (x y : Nat) : Option Nat := some (x &&& y)
@[reducible] def fOr (x y : Nat) : Option Nat := some (x ||| y)
@[reducible] def fShl (x y : Nat) : Option Nat := if Nat.ble y 64 && Nat.ble x 1000 then some (x <<< y) else none
@[reducible] def fShr (x y : Nat) : Option Nat := some (x >>> y)
variable {ma mb : Option Nat}
theorem ev_add (ha : EV X σ B O a tN ma) (hb : EV X σ B O b tN mb) : EV X σ B O (.BinOp a .Add b pos) tN (op2 fAdd ma mb) :=
  ev_op op_add ha hb fun x y z B' H' v w hf e r1 r2 Q q => by
    cases hf; cases r1; cases r2
    exact ⟨_, _, rfl, rfl, q _ B' H' (Go.refl e) rfl⟩
theorem ev_sub (ha : EV X σ B O a tN ma) (hb : EV X σ B O b tN mb) : EV X σ B O (.BinOp a .Sub b pos) tN (op2 fSub ma mb) :=
  ev_op op_sub ha hb fun x y z B' H' v w hf e r1 r2 Q q => by
    cases r1; cases r2
    unfold fSub at hf
    split at hf
    · rename_i h
      have h := Nat.le_of_ble_eq_true h
      cases hf
      exact ⟨_, _, rfl, rfl, q _ B' H' (Go.refl e) (congrArg V.int (by omega))⟩
    · cases hf
theorem ev_and (ha : EV X σ B O a tN ma) (hb : EV X σ B O b tN mb) : EV X σ B O (.BinOp a .BitAnd b pos) tN (op2 fAnd ma mb) :=
  ev_op op_and ha hb fun x y z B' H' v w hf e r1 r2 Q q => by
    cases hf; cases r1; cases r2
    exact ⟨_, _, rfl, rfl, q _ B' H' (Go.refl e) (congrArg V.int (bitAnd_nat x y))⟩
theorem ev_or (ha : EV X σ B O a tN ma) (hb : EV X σ B O b tN mb) : EV X σ B O (.BinOp a .BitOr b pos) tN (op2 fOr ma mb) :=
  ev_op op_or ha hb fun x y z B' H' v w hf e r1 r2 Q q => by
    cases hf; cases r1; cases r2
    exact ⟨_, _, rfl, rfl, q _ B' H' (Go.refl e) (congrArg V.int (bitOr_nat x y))⟩
theorem ev_shl (ha : EV X σ B O a tN ma) (hb : EV X σ B O b tN mb) : EV X σ B O (.BinOp a .LShift b pos) tN (op2 fShl ma mb) :=
  ev_op op_shl ha hb fun x y z B' H' v w hf e r1 r2 Q q => by
    cases r1; cases r2
    unfold fShl at hf
    split at hf
    · rename_i h
      rw [Bool.and_eq_true] at h
      have h1 := Nat.le_of_ble_eq_true h.1
      have h2 := Nat.le_of_ble_eq_true h.2
      cases hf
      refine ⟨_, _, rfl, rfl, ⟨Int.natCast_nonneg _, by omega, by omega⟩, q _ B' H' (Go.refl e) (congrArg V.int ?_)⟩
      rw [Nat.shiftLeft_eq]
      simp
    · cases hf
theorem ev_shr (ha : EV X σ B O a tN ma) (hb : EV X σ B O b tN mb) : EV X σ B O (.BinOp a .RShift b pos) tN (op2 fShr ma mb) :=
  ev_op op_shr ha hb fun x y z B' H' v w hf e r1 r2 Q q => by
    cases hf; cases r1; cases r2
    refine ⟨_, _, rfl, rfl, Int.natCast_nonneg _, q _ B' H' (Go.refl e) (congrArg V.int ?_)⟩
    rw [Nat.shiftRight_eq_div_pow]
    simp
end
end Ly
namespace Ly
open PySem PySem.Spec PyProof.Rows L2
/-- the built-in names that the module leaves -/
structure Bt (mg : Str → Option Value) : Prop where
  len : mg "len" = none
  range : mg "range" = none
  all : mg "all" = none
  any : mg "any" = none
  sum : mg "sum" = none
  sorted : mg "sorted" = none
  set : mg "set" = none
  tuple : mg "tuple" = none
  list : mg "list" = none
  isinstance : mg "isinstance" = none
  str : mg "str" = none
  max : mg "max" = none
  min : mg "min" = none
  abs : mg "abs" = none
  int : mg "int" = none
  divmod : mg "divmod" = none
  repr : mg "repr" = none
section
variable {X : Cx} {σ : L2.St} {B : Hp} {O : Own} {a b c e tg : Expr} {pos p : Pos} {α β γ : Type} {T : Ty α} {U : Ty β} {S : Ty γ}
/-! ### comparisons -/
variable {ma mb : Option Nat}
theorem ev_eqN (ha : EV X σ B O a tN ma) (hb : EV X σ B O b tN mb) : CV X σ B O (.Compare a [.Eq] [b] pos) (op2 (fun x y => some (Nat.beq x y)) ma mb) :=
  ev_cmp op_eq (nomark _) ha hb fun x y z B' H' v w hf e r1 r2 Q q => by
    cases hf; cases r1; cases r2
    refine ⟨rfl, ?_⟩
    have e1 : decide (V.int (x : Int) = V.int (y : Int)) = Nat.beq x y := by
      rw [Bool.eq_iff_iff, decide_eq_true_eq, Nat.beq_eq]
      exact ⟨fun h => Int.ofNat.inj (V.int.inj h), fun h => by rw [h]⟩
    rw [e1]
    exact q
theorem ev_neN (ha : EV X σ B O a tN ma) (hb : EV X σ B O b tN mb) : CV X σ B O (.Compare a [.NotEq] [b] pos) (op2 (fun x y => some (!Nat.beq x y)) ma mb) :=
  ev_cmp op_ne (nomark _) ha hb fun x y z B' H' v w hf e r1 r2 Q q => by
    cases hf; cases r1; cases r2
    refine ⟨rfl, ?_⟩
    have e1 : decide (V.int (x : Int) = V.int (y : Int)) = Nat.beq x y := by
      rw [Bool.eq_iff_iff, decide_eq_true_eq, Nat.beq_eq]
      exact ⟨fun h => Int.ofNat.inj (V.int.inj h), fun h => by rw [h]⟩
    rw [e1]
    exact q
theorem ev_ltN (ha : EV X σ B O a tN ma) (hb : EV X σ B O b tN mb) : CV X σ B O (.Compare a [.Lt] [b] pos) (op2 (fun x y => some (Nat.blt x y)) ma mb) :=
  ev_cmp op_lt (nomark _) ha hb fun x y z B' H' v w hf e r1 r2 Q q => by
    cases hf; cases r1; cases r2
    have e1 : decide ((x : Int) < (y : Int)) = Nat.blt x y := by
      rw [Bool.eq_iff_iff, decide_eq_true_eq, Nat.blt_eq]
      exact Int.ofNat_lt
    exact ⟨_, _, rfl, rfl, by show Q (.bl (decide ((x : Int) < (y : Int)))) H'; rw [e1]; exact q⟩
theorem ev_gtN (ha : EV X σ B O a tN ma) (hb : EV X σ B O b tN mb) : CV X σ B O (.Compare a [.Gt] [b] pos) (op2 (fun x y => some (Nat.blt y x)) ma mb) :=
  ev_cmp op_gt (nomark _) ha hb fun x y z B' H' v w hf e r1 r2 Q q => by
    cases hf; cases r1; cases r2
    have e1 : decide ((y : Int) < (x : Int)) = Nat.blt y x := by
      rw [Bool.eq_iff_iff, decide_eq_true_eq, Nat.blt_eq]
      exact Int.ofNat_lt
    exact ⟨_, _, rfl, rfl, by show Q (.bl (decide ((y : Int) < (x : Int)))) H'; rw [e1]; exact q⟩
theorem tC_ok {cw : Crew} {B : Hp} {v : V} {i : Nat} (r : (tC cw).rep B v i) : v = .str (str cw [i]) ∧ ∀ j ∈ [i], j < cw.l.length := ⟨r.1, fun j hj => by rw [List.mem_singleton.mp hj]; exact r.2⟩
variable {cw : Crew} {ms mt : Option (List Nat)}
theorem ev_eqC (ha : EV X σ B O a (tC cw) ma) (hb : EV X σ B O b (tC cw) mb) : CV X σ B O (.Compare a [.Eq] [b] pos) (op2 (fun x y => some (Nat.beq x y)) ma mb) :=
  ev_cmp op_eq (nomark _) ha hb fun x y z B' H' v w hf e r1 r2 Q q => by
    cases hf
    obtain ⟨rfl, h1⟩ := tC_ok r1
    obtain ⟨rfl, h2⟩ := tC_ok r2
    refine ⟨rfl, ?_⟩
    rw [str_dec h1 h2, show (([x] : List Nat) == [y]) = Nat.beq x y by rw [Bool.eq_iff_iff]; simp]
    exact q
theorem ev_neC (ha : EV X σ B O a (tC cw) ma) (hb : EV X σ B O b (tC cw) mb) : CV X σ B O (.Compare a [.NotEq] [b] pos) (op2 (fun x y => some (!Nat.beq x y)) ma mb) :=
  ev_cmp op_ne (nomark _) ha hb fun x y z B' H' v w hf e r1 r2 Q q => by
    cases hf
    obtain ⟨rfl, h1⟩ := tC_ok r1
    obtain ⟨rfl, h2⟩ := tC_ok r2
    refine ⟨rfl, ?_⟩
    rw [str_dec h1 h2, show (([x] : List Nat) == [y]) = Nat.beq x y by rw [Bool.eq_iff_iff]; simp]
    exact q
theorem ev_ltC (ha : EV X σ B O a (tC cw) ma) (hb : EV X σ B O b (tC cw) mb) : CV X σ B O (.Compare a [.Lt] [b] pos) (op2 (fun x y => some (Nat.blt x y)) ma mb) :=
  ev_cmp op_lt_str (nomark _) ha hb fun x y z B' H' v w hf e r1 r2 Q q => by
    cases hf
    obtain ⟨rfl, h1⟩ := tC_ok r1
    obtain ⟨rfl, h2⟩ := tC_ok r2
    refine ⟨_, _, rfl, rfl, ?_⟩
    rw [str_lt h1 h2, show lexB [x] [y] = Nat.blt x y by unfold lexB; simp [lexB]]
    exact q
theorem ev_leS (ha : EV X σ B O a (tS cw) ms) (hb : EV X σ B O b (tS cw) mt) : CV X σ B O (.Compare a [.LtE] [b] pos) (op2 (fun x y => some (!lexB y x)) ms mt) :=
  ev_cmp op_le_str (nomark _) ha hb fun x y z B' H' v w hf e r1 r2 Q q => by
    cases hf
    obtain ⟨rfl, h1, _⟩ := r1
    obtain ⟨rfl, h2, _⟩ := r2
    refine ⟨_, _, rfl, rfl, ?_⟩
    rw [str_lt h2 h1]
    exact q
theorem ev_neS (ha : EV X σ B O a (tS cw) ms) (hb : EV X σ B O b (tS cw) mt) : CV X σ B O (.Compare a [.NotEq] [b] pos) (op2 (fun x y => some (!(x == y))) ms mt) :=
  ev_cmp op_ne (nomark _) ha hb fun x y z B' H' v w hf e r1 r2 Q q => by
    cases hf
    obtain ⟨rfl, h1, _⟩ := r1
    obtain ⟨rfl, h2, _⟩ := r2
    refine ⟨rfl, ?_⟩
    rw [str_dec h1 h2]
    exact q
theorem ev_neB {m1 m2 : Option Bool} (ha : EV X σ B O a tB m1) (hb : EV X σ B O b tB m2) : CV X σ B O (.Compare a [.NotEq] [b] pos) (op2 (fun x y => some (!(x == y))) m1 m2) :=
  ev_cmp op_ne (nomark _) ha hb fun x y z B' H' v w hf e r1 r2 Q q => by
    cases hf; cases r1; cases r2
    refine ⟨rfl, ?_⟩
    rw [dec_bl]
    exact q
/-! ### in -/
theorem ev_inCS (ha : EV X σ B O a (tC cw) ma) (hb : EV X σ B O b (tS cw) mt) (hm : behindInMarks .In b = false := by rfl) : CV X σ B O (.Compare a [.In] [b] pos) (op2 (fun x y => some (y.contains x)) ma mt) :=
  ev_cmp op_in_sign hm ha hb fun x y z B' H' v w hf e r1 r2 Q q => by
    cases hf
    obtain ⟨rfl, h1⟩ := r1
    obtain ⟨rfl, h2, _⟩ := r2
    refine ⟨_, _, rfl, rfl, ?_⟩
    rw [code_mem h1 h2]
    exact q
theorem ev_niCS (ha : EV X σ B O a (tC cw) ma) (hb : EV X σ B O b (tS cw) mt) (hm : behindInMarks .NotIn b = false := by rfl) : CV X σ B O (.Compare a [.NotIn] [b] pos) (op2 (fun x y => some (!y.contains x)) ma mt) :=
  ev_cmp op_notIn_sign hm ha hb fun x y z B' H' v w hf e r1 r2 Q q => by
    cases hf
    obtain ⟨rfl, h1⟩ := r1
    obtain ⟨rfl, h2, _⟩ := r2
    refine ⟨_, _, rfl, rfl, ?_⟩
    rw [code_mem h1 h2]
    exact q
/-- flat things: found by == -/
structure Flat (T : Ty α) (eq : α → α → Bool) : Prop where
  flat : ∀ {B v x}, T.rep B v x → flatV v = true
  eqv : ∀ {B B' v x w y}, T.rep B v x → T.rep B' w y → eqV v w = eq x y
theorem flatN : Flat tN Nat.beq := ⟨fun h => by cases h; rfl, fun {B B' v x w y} h k => by
  cases h; cases k
  show ((x : Int) == (y : Int)) = Nat.beq x y
  rw [Bool.eq_iff_iff]
  simp only [beq_iff_eq, Nat.beq_eq]
  exact ⟨fun h => Int.ofNat.inj h, fun h => by rw [h]⟩⟩
theorem beq_str {s t : Str} : (s == t) = decide (s = t) := by
  rw [Bool.eq_iff_iff]
  simp
theorem flatS : Flat (tS cw) (fun x y => x == y) := ⟨fun h => by cases h.1; rfl, fun {B B' v x w y} h k => by
  cases h.1; cases k.1
  show ((str cw x : Str) == str cw y) = (x == y)
  rw [← str_dec h.2.1 k.2.1, dec_str]⟩
theorem any_reps {eq : α → α → Bool} (F : Flat T eq) {v : V} {x : α} {B B' : Hp} (r : T.rep B v x) : ∀ {vs : List V} {xs : List α}, Reps T B' vs xs → inV v vs = xs.any (fun y => eq y x) ∧ vs.all flatV = true
  | _, _, .nil => ⟨rfl, rfl⟩
  | _, _, .cons h t => by
    obtain ⟨h1, h2⟩ := any_reps F r t
    refine ⟨?_, by rw [List.all_cons, F.flat h, h2]; rfl⟩
    unfold inV at h1 ⊢
    rw [List.any_cons, List.any_cons, h1, F.eqv h r]
variable {mx : Option α} {mxs : Option (List α)} {eq : α → α → Bool}
theorem gen_in {op : CmpOp} {neg : Bool} {R : Hp → Hp → V → Prop} (F : Flat T eq) (ho : OpR X (compareOp op) (rIn X.K neg)) (hm : behindInMarks op b = false) (ha : EV X σ B O a T mx) (hb : ∀ xs, mxs = some xs → GE X σ B O b fun B' H' v => ∃ a vs, v = .ref a ∧ (H' a = some (.lst vs) ∨ H' a = some (.tup vs)) ∧ Reps T B' vs xs) :
    CV X σ B O (.Compare a [op] [b] pos) (op2 (fun x y => some (if neg then !(y.any fun z => eq z x) else y.any fun z => eq z x)) mx mxs) := by
  refine cv_of ho hm p_e fun z hz B1 H e I Q q => ?_
  obtain ⟨x, y, rfl, rfl, hf⟩ := op2_some hz
  cases hf
  refine ha x rfl B1 H e I _ fun v B2 H2 g2 r2 => ?_
  refine hb y rfl B2 H2 (e.trans g2.eb) (I.go g2) _ fun w B3 H3 g3 ⟨p, vs, hw, hp, r3⟩ => ?_
  obtain ⟨h1, h2⟩ := any_reps F r2 r3
  refine ⟨p, vs, hw, hp.elim (fun h => .inl (SqL.of h)) fun h => .inr (SqT.of h), F.flat r2, h2, ?_⟩
  rw [h1]
  exact q B3 H3 (g2.trans g3)
theorem ge_T {m : Option (List α)} (h : EV X σ B O b (tT T) m) : ∀ xs, m = some xs → GE X σ B O b fun B' H' v => ∃ a vs, v = .ref a ∧ (H' a = some (.lst vs) ∨ H' a = some (.tup vs)) ∧ Reps T B' vs xs :=
  fun xs hx B1 H e I Q q => h xs hx B1 H e I Q fun v B' H' g ⟨a, vs, h1, h2, h3, _⟩ => q v B' H' g ⟨a, vs, h1, .inr (g.bh _ _ h2), h3⟩
theorem ge_L {m : Option (List α)} (h : ES X σ B O b T m) : ∀ xs, m = some xs → GE X σ B O b fun B' H' v => ∃ a vs, v = .ref a ∧ (H' a = some (.lst vs) ∨ H' a = some (.tup vs)) ∧ Reps T B' vs xs :=
  fun xs hx B1 H e I Q q => h xs hx B1 H e I Q fun v B' H' g ⟨a, vs, h1, h2, h3, _, _⟩ => q v B' H' g ⟨a, vs, h1, .inl h2, h3⟩
theorem ev_inT (F : Flat T eq) (ha : EV X σ B O a T mx) (hb : EV X σ B O b (tT T) mxs) (hm : behindInMarks .In b = false := by rfl) : CV X σ B O (.Compare a [.In] [b] pos) (op2 (fun x y => some (y.any fun z => eq z x)) mx mxs) :=
  gen_in (R := fun _ _ _ => True) (neg := false) F op_in_seq hm ha (ge_T hb)
theorem ev_niT (F : Flat T eq) (ha : EV X σ B O a T mx) (hb : EV X σ B O b (tT T) mxs) (hm : behindInMarks .NotIn b = false := by rfl) : CV X σ B O (.Compare a [.NotIn] [b] pos) (op2 (fun x y => some (!y.any fun z => eq z x)) mx mxs) :=
  gen_in (R := fun _ _ _ => True) (neg := true) F op_notIn_seq hm ha (ge_T hb)
theorem ev_inL (F : Flat T eq) (ha : EV X σ B O a T mx) (hb : ES X σ B O b T mxs) (hm : behindInMarks .In b = false := by rfl) : CV X σ B O (.Compare a [.In] [b] pos) (op2 (fun x y => some (y.any fun z => eq z x)) mx mxs) :=
  gen_in (R := fun _ _ _ => True) (neg := false) F op_in_seq hm ha (ge_L hb)
theorem ev_niL (F : Flat T eq) (ha : EV X σ B O a T mx) (hb : ES X σ B O b T mxs) (hm : behindInMarks .NotIn b = false := by rfl) : CV X σ B O (.Compare a [.NotIn] [b] pos) (op2 (fun x y => some (!y.any fun z => eq z x)) mx mxs) :=
  gen_in (R := fun _ _ _ => True) (neg := true) F op_notIn_seq hm ha (ge_L hb)
/-! ### is None -/
/-- a value told by its options: none is None -/
def tO (T : Ty α) : Ty (Option α) := ⟨fun B v o => match o with | none => v = .non | some x => T.rep B v x ∧ v ≠ .non, fun {B B' v o} e h => by
  cases o with
  | none => exact h
  | some x => exact ⟨T.mono e h.1, h.2⟩⟩
theorem ev_isN {m : Option (Option α)} {j : Nat} {p2 : Pos} (ha : EV X σ B O a (tO T) m) : CV X σ B O (.Compare a [.Is] [.Constant .none j p2] pos) (m.bind fun x => some x.isNone) := by
  refine cv_of op_isN (nomark _) pe_non fun z hz B1 H e I Q q => ?_
  cases m with
  | none => cases hz
  | some x =>
    cases hz
    refine ha x rfl B1 H e I _ fun v B2 H2 g2 r2 => ⟨rfl, ?_⟩
    cases x with
    | none =>
      cases (show v = .non from r2)
      exact q B2 H2 g2
    | some y =>
      rw [decide_eq_false r2.2]
      exact q B2 H2 g2
theorem ev_notN {m : Option (Option α)} {j : Nat} {p2 : Pos} (ha : EV X σ B O a (tO T) m) : CV X σ B O (.Compare a [.IsNot] [.Constant .none j p2] pos) (m.bind fun x => some x.isSome) := by
  refine cv_of op_notN (nomark _) pe_non fun z hz B1 H e I Q q => ?_
  cases m with
  | none => cases hz
  | some x =>
    cases hz
    refine ha x rfl B1 H e I _ fun v B2 H2 g2 r2 => ⟨rfl, ?_⟩
    cases x with
    | none =>
      cases (show v = .non from r2)
      exact q B2 H2 g2
    | some y =>
      rw [decide_eq_false r2.2]
      exact q B2 H2 g2
/-! ### and, or, not as values; tests -/
@[reducible] def andO (m1 m2 : Option Bool) : Option Bool := m1.bind fun x => bif x then m2 else some false
@[reducible] def orO (m1 m2 : Option Bool) : Option Bool := m1.bind fun x => bif x then some true else m2
@[reducible] def notO (m1 : Option Bool) : Option Bool := m1.bind fun x => some (!x)
variable {m1 m2 : Option Bool} {rest : List Expr}
theorem ev_one {op : BoolOp} (h : EV X σ B O a tB m1) : EV X σ B O (.BoolOp op [a] pos) tB m1 := by
  intro z hz B1 H e I Q q
  exact of_e (pe_one p_e) (h z hz B1 H e I Q q)
theorem ev_andV (h1 : EV X σ B O a tB m1) (h2 : EV X σ B O (.BoolOp .And (b :: rest) pos) tB m2) : EV X σ B O (.BoolOp .And (a :: b :: rest) pos) tB (andO m1 m2) := by
  intro z hz B1 H e I Q q
  cases m1 with
  | none => cases hz
  | some x =>
    refine of_e (pe_and p_e p_e) ?_
    refine h1 x rfl B1 H e I _ fun v B2 H2 g2 r2 => ⟨x, r2, ?_⟩
    cases x with
    | true =>
      refine iteT ?_
      exact h2 z hz B2 H2 (e.trans g2.eb) (I.go g2) Q fun v B3 H3 g3 r3 => q v B3 H3 (g2.trans g3) r3
    | false =>
      refine iteF ?_
      cases hz
      exact q _ B2 H2 g2 rfl
theorem ev_orV (h1 : EV X σ B O a tB m1) (h2 : EV X σ B O (.BoolOp .Or (b :: rest) pos) tB m2) : EV X σ B O (.BoolOp .Or (a :: b :: rest) pos) tB (orO m1 m2) := by
  intro z hz B1 H e I Q q
  cases m1 with
  | none => cases hz
  | some x =>
    refine of_e (pe_or p_e p_e) ?_
    refine h1 x rfl B1 H e I _ fun v B2 H2 g2 r2 => ⟨x, r2, ?_⟩
    cases x with
    | true =>
      refine iteT ?_
      cases hz
      exact q _ B2 H2 g2 rfl
    | false =>
      refine iteF ?_
      exact h2 z hz B2 H2 (e.trans g2.eb) (I.go g2) Q fun v B3 H3 g3 r3 => q v B3 H3 (g2.trans g3) r3
theorem ev_notV (h1 : EV X σ B O a tB m1) : EV X σ B O (.UnaryOp .Not a pos) tB (notO m1) := by
  intro z hz B1 H e I Q q
  cases m1 with
  | none => cases hz
  | some x =>
    cases hz
    refine of_e (pe_not p_e) ?_
    exact h1 x rfl B1 H e I _ fun v B2 H2 g2 r2 => ⟨x, r2, q _ B2 H2 g2 rfl⟩
/-- a test whose value is its truth -/
theorem tv_of (h : EV X σ B O a tB m1) (ht : ∀ whole : Sem Value, PySem.isTrue a X.env whole = (do let v ← whole; standAt a.pos; holding [v] (truthy v)) := by intro _; rfl) : TV X σ B O a m1 := by
  intro z hz B1 H e I Q q
  refine of_t (pt_val p_e ht) ?_
  exact h z hz B1 H e I _ fun v B2 H2 g2 r2 => ⟨z, r2, q B2 H2 g2⟩
theorem tv_not (h : TV X σ B O a m1) : TV X σ B O (.UnaryOp .Not a pos) (notO m1) := by
  intro z hz B1 H e I Q q
  cases m1 with
  | none => cases hz
  | some x =>
    cases hz
    refine of_t (pt_not p_t) ?_
    exact h x rfl B1 H e I _ fun B2 H2 g2 => q B2 H2 g2
theorem tv_w (h : WV X σ B O a m1) : TV X σ B O a m1 := by
  intro z hz B1 H e I Q q
  exact of_t (PW.pt p_w) (h z hz B1 H e I Q q)
theorem wv_and1 (h : TV X σ B O a m1) : WV X σ B O (.BoolOp .And [a] pos) m1 := by
  intro z hz B1 H e I Q q
  exact of_w (pw_and1 p_t) (h z hz B1 H e I Q q)
theorem wv_or1 (h : TV X σ B O a m1) : WV X σ B O (.BoolOp .Or [a] pos) m1 := by
  intro z hz B1 H e I Q q
  exact of_w (pw_or1 p_t) (h z hz B1 H e I Q q)
theorem wv_and (h1 : TV X σ B O a m1) (h2 : WV X σ B O (.BoolOp .And (b :: rest) pos) m2) : WV X σ B O (.BoolOp .And (a :: b :: rest) pos) (andO m1 m2) := by
  intro z hz B1 H e I Q q
  cases m1 with
  | none => cases hz
  | some x =>
    refine of_w (pw_and p_t p_w) ?_
    refine h1 x rfl B1 H e I _ fun B2 H2 g2 => ?_
    cases x with
    | true =>
      refine iteT ?_
      exact h2 z hz B2 H2 (e.trans g2.eb) (I.go g2) Q fun B3 H3 g3 => q B3 H3 (g2.trans g3)
    | false =>
      refine iteF ?_
      cases hz
      exact q B2 H2 g2
theorem wv_or (h1 : TV X σ B O a m1) (h2 : WV X σ B O (.BoolOp .Or (b :: rest) pos) m2) : WV X σ B O (.BoolOp .Or (a :: b :: rest) pos) (orO m1 m2) := by
  intro z hz B1 H e I Q q
  cases m1 with
  | none => cases hz
  | some x =>
    refine of_w (pw_or p_t p_w) ?_
    refine h1 x rfl B1 H e I _ fun B2 H2 g2 => ?_
    cases x with
    | true =>
      refine iteT ?_
      cases hz
      exact q B2 H2 g2
    | false =>
      refine iteF ?_
      exact h2 z hz B2 H2 (e.trans g2.eb) (I.go g2) Q fun B3 H3 g3 => q B3 H3 (g2.trans g3)
end
end Ly
namespace Ly
open PySem PySem.Spec PyProof.Rows L2
section
variable {X : Cx} {σ : L2.St} {B : Hp} {O : Own} {a b c e tg : Expr} {es : List Expr} {pos p apos : Pos} {α β γ δ : Type} {T : Ty α} {U : Ty β} {S : Ty γ} {W : Ty δ} {cw : Crew}
/-! ### arguments -/
theorem av_nil : AV X σ B O [] fun _ vs => vs = [] := fun B1 H e I Q q => of_a pa_nil (q [] B1 H (Go.refl I.ex) rfl)
theorem av_cons {R : Hp → Hp → V → Prop} {R2 : Hp → List V → Prop} {R3 : Hp → List V → Prop} (ha : GE X σ B O a R) (hr : AV X σ B O es R2) (hR : ∀ {B1 H1 B2 H2 v vs}, R B1 H1 v → Go B1 H1 B2 H2 → R2 B2 vs → R3 B2 (v :: vs))
    (hs : starEach (a :: es) X.env = (false, eval a X.env) :: starEach es X.env := by rfl) : AV X σ B O (a :: es) R3 := fun B1 H e I Q q =>
  of_a (pa_cons p_e p_a hs) (ha B1 H e I _ fun v B2 H2 g2 r2 => hr B2 H2 (e.trans g2.eb) (I.go g2) _ fun vs B3 H3 g3 r3 => q _ B3 H3 (g2.trans g3) (hR r2 g3 r3))
theorem pa1 (hs : starEach [a] X.env = (false, eval a X.env) :: starEach [] X.env) : PA X [a] (tCons (wE X a) tNil) := pa_cons p_e pa_nil hs
/-! ### the defs: a promise by a mirror -/
def Sp1 (T : Ty α) (W : Ty δ) (f : α → Option δ) : Sp := fun vs H Q _ => ∃ v x B r, vs = [v] ∧ T.rep B v x ∧ Ex B H ∧ f x = some r ∧ ∀ u B' H', Go B H B' H' → W.rep B' u r → Q u H'
def Sp2 (T : Ty α) (U : Ty β) (W : Ty δ) (f : α → β → Option δ) : Sp := fun vs H Q _ => ∃ v w x y B r, vs = [v, w] ∧ T.rep B v x ∧ U.rep B w y ∧ Ex B H ∧ f x y = some r ∧ ∀ u B' H', Go B H B' H' → W.rep B' u r → Q u H'
def Sp3 (T : Ty α) (U : Ty β) (S : Ty γ) (W : Ty δ) (f : α → β → γ → Option δ) : Sp := fun vs H Q _ => ∃ v w z x y u B r, vs = [v, w, z] ∧ T.rep B v x ∧ U.rep B w y ∧ S.rep B z u ∧ Ex B H ∧ f x y u = some r ∧ ∀ u B' H', Go B H B' H' → W.rep B' u r → Q u H'
/-- a def of the module that keeps a promise -/
structure Cal (P : Program) (w : World) (K : PySem.W.Frag) (mg : Str → Option Value) (base : Heap) (x : Str) (k : Nat) (ps : List Str) (sp : Sp) : Prop where
  ex : ∃ (f : Addr) (fd : FuncData), FnOk P w K mg base CX0 k f fd ps sp ∧ mg x = some (.ref f) ∧ PySem.W.keepIn K (.ref f) = true ∧ Binds K fd ps []
variable {k : Nat} {ps : List Str} {x : Str}
theorem Cal.mono {P : Program} {w : World} {K : PySem.W.Frag} {mg : Str → Option Value} {base : Heap} {sp : Sp} {j : Nat} (C : Cal P w K mg base x k ps sp) (h : k ≤ j) : Cal P w K mg base x j ps sp := by
  obtain ⟨f, fd, F, r⟩ := C.ex
  exact ⟨f, fd, F.mono h, r⟩
theorem call_of {sp : Sp} {Q : VK} {H : Hp} (C : Cal X.prog X.w X.K X.mg X.base x k ps sp) (hr : Room k X.A) (hg : Gl X x) (hdb : (x == ("__debug__" : Str)) = false) (he : starEach (a :: es) X.env = (false, eval a X.env) :: starEach es X.env) (hpl : (backTo pos (starEach es X.env)).any (·.1) = false)
    (h : wA X (a :: es) σ H fun vs H1 => sp vs H1 Q E0) : wE X (.Call (.Name x p) (a :: es) [] pos) σ H Q := by
  obtain ⟨f, fd, F, m, kp, b⟩ := C.ex
  refine of_e (pe_call F hr hg m kp b .nil pass0 p_a hdb he hpl) ?_
  show wA X (a :: es) σ H fun vs H1 => sp (vs ++ []) H1 Q E0
  have e : (fun (vs : List V) (H1 : Hp) => sp (vs ++ []) H1 Q E0) = fun vs H1 => sp vs H1 Q E0 := by
    funext vs H1
    rw [List.append_nil]
  rw [e]
  exact h
theorem ev_call1 {f : α → Option δ} {m : Option α} (C : Cal X.prog X.w X.K X.mg X.base x k ps (Sp1 T W f)) (hr : Room k X.A) (ha : EV X σ B O a T m) (hg : Gl X x := by rfl) (hdb : (x == ("__debug__" : Str)) = false := by decide)
    (he : starEach [a] X.env = (false, eval a X.env) :: starEach [] X.env := by rfl) : EV X σ B O (.Call (.Name x p) [a] [] pos) W (m.bind f) := by
  intro z hz B1 H e I Q q
  cases m with
  | none => cases hz
  | some y =>
    refine call_of C hr hg hdb he rfl (av_cons (ha y rfl) av_nil (R3 := fun B vs => ∃ v, vs = [v] ∧ T.rep B v y) (fun r g h => ⟨_, by rw [h], T.mono g.eb r⟩) he B1 H e I _ fun vs B2 H2 g2 r2 => ?_)
    obtain ⟨v, rfl, r⟩ := r2
    exact ⟨v, y, B2, z, rfl, r, g2.bh, hz, fun u B' H' g r' => q u B' H' (g2.trans g) r'⟩
theorem ev_call2 {f : α → β → Option δ} {m : Option α} {n : Option β} (C : Cal X.prog X.w X.K X.mg X.base x k ps (Sp2 T U W f)) (hr : Room k X.A) (ha : EV X σ B O a T m) (hb : EV X σ B O b U n) (hg : Gl X x := by rfl) (hdb : (x == ("__debug__" : Str)) = false := by decide)
    (he : starEach [a, b] X.env = (false, eval a X.env) :: starEach [b] X.env := by rfl) (he2 : starEach [b] X.env = (false, eval b X.env) :: starEach [] X.env := by rfl) (hpl : (backTo pos (starEach [b] X.env)).any (·.1) = false := by rfl) : EV X σ B O (.Call (.Name x p) [a, b] [] pos) W (op2 f m n) := by
  intro z hz B1 H e I Q q
  obtain ⟨y, y2, rfl, rfl, hf⟩ := op2_some hz
  refine call_of C hr hg hdb he hpl (av_cons (ha y rfl) (av_cons (hb y2 rfl) av_nil (R3 := fun B vs => ∃ v, vs = [v] ∧ U.rep B v y2) (fun r g h => ⟨_, by rw [h], U.mono g.eb r⟩) he2) (R3 := fun B vs => ∃ v w, vs = [v, w] ∧ T.rep B v y ∧ U.rep B w y2)
    (fun r g h => by
      obtain ⟨w, rfl, r2⟩ := h
      exact ⟨_, w, rfl, T.mono g.eb r, r2⟩) he B1 H e I _ fun vs B2 H2 g2 r2 => ?_)
  obtain ⟨v, w, rfl, r, r'⟩ := r2
  exact ⟨v, w, y, y2, B2, z, rfl, r, r', g2.bh, hf, fun u B' H' g r' => q u B' H' (g2.trans g) r'⟩
@[reducible] def op3 {α β γ δ : Type} (f : α → β → γ → Option δ) (a : Option α) (b : Option β) (c : Option γ) : Option δ := a.bind fun x => b.bind fun y => c.bind fun z => f x y z
theorem op3_some {α β γ δ : Type} {f : α → β → γ → Option δ} {a : Option α} {b : Option β} {c : Option γ} {z : δ} (h : op3 f a b c = some z) : ∃ x y u, a = some x ∧ b = some y ∧ c = some u ∧ f x y u = some z := by
  cases a with
  | none => cases h
  | some x =>
    cases b with
    | none => cases h
    | some y =>
      cases c with
      | none => cases h
      | some u => exact ⟨x, y, u, rfl, rfl, rfl, h⟩
theorem ev_call3 {f : α → β → γ → Option δ} {m : Option α} {n : Option β} {l : Option γ} (C : Cal X.prog X.w X.K X.mg X.base x k ps (Sp3 T U S W f)) (hr : Room k X.A) (ha : EV X σ B O a T m) (hb : EV X σ B O b U n) (hc : EV X σ B O c S l) (hg : Gl X x := by rfl) (hdb : (x == ("__debug__" : Str)) = false := by decide)
    (he : starEach [a, b, c] X.env = (false, eval a X.env) :: starEach [b, c] X.env := by rfl) (he2 : starEach [b, c] X.env = (false, eval b X.env) :: starEach [c] X.env := by rfl) (he3 : starEach [c] X.env = (false, eval c X.env) :: starEach [] X.env := by rfl) (hpl : (backTo pos (starEach [b, c] X.env)).any (·.1) = false := by rfl) :
    EV X σ B O (.Call (.Name x p) [a, b, c] [] pos) W (op3 f m n l) := by
  intro z hz B1 H e I Q q
  obtain ⟨y, y2, y3, rfl, rfl, rfl, hf⟩ := op3_some hz
  refine call_of C hr hg hdb he hpl (av_cons (ha y rfl) (av_cons (hb y2 rfl) (av_cons (hc y3 rfl) av_nil (R3 := fun B vs => ∃ v, vs = [v] ∧ S.rep B v y3) (fun r g h => ⟨_, by rw [h], S.mono g.eb r⟩) he3)
      (R3 := fun B vs => ∃ v w, vs = [v, w] ∧ U.rep B v y2 ∧ S.rep B w y3) (fun r g h => by
        obtain ⟨w, rfl, r2⟩ := h
        exact ⟨_, w, rfl, U.mono g.eb r, r2⟩) he2) (R3 := fun B vs => ∃ v w u, vs = [v, w, u] ∧ T.rep B v y ∧ U.rep B w y2 ∧ S.rep B u y3)
    (fun r g h => by
      obtain ⟨w, u, rfl, r2, r3⟩ := h
      exact ⟨_, w, u, rfl, T.mono g.eb r, r2, r3⟩) he B1 H e I _ fun vs B2 H2 g2 r2 => ?_)
  obtain ⟨v, w, u, rfl, r, r', r3⟩ := r2
  exact ⟨v, w, u, y, y2, y3, B2, z, rfl, r, r', r3, g2.bh, hf, fun u B' H' g r' => q u B' H' (g2.trans g) r'⟩

/-! ### built-in calls of one argument -/
theorem builtin1 {id : String} {r : List V → Hp → VK → Prop} {R : Hp → Hp → V → Prop} {Q : VK} {B1 H : Hp} (hc : CallR X (.builtin id) r) (hg : Gl X x) (hm : X.mg x = none) (hv : bootBuiltins x = some (.builtin id)) (hn : x ≠ "__name__") (hd : (x == ("__debug__" : Str)) = false) (he : starEach [a] X.env = (false, eval a X.env) :: starEach [] X.env)
    (ha : GE X σ B O a R) (e : Ex B B1) (I : In B1 O H) (q : ∀ v B' H', Go B1 H B' H' → R B' H' v → r [v] H' Q) : wE X (.Call (.Name x p) [a] [] pos) σ H Q :=
  of_e (pe_callB hc hg hm hv (pa1 he) hn hd he rfl) (ha B1 H e I _ fun v B2 H2 g2 r2 => q v B2 H2 g2 r2)
theorem type1 {ty : String} {r : List V → Hp → VK → Prop} {R : Hp → Hp → V → Prop} {Q : VK} {B1 H : Hp} (hc : CallR X (.type ty) r) (hg : Gl X x) (hm : X.mg x = none) (hv : bootBuiltins x = some (.type ty)) (hn : x ≠ "__name__") (hd : (x == ("__debug__" : Str)) = false) (he : starEach [a] X.env = (false, eval a X.env) :: starEach [] X.env)
    (ha : GE X σ B O a R) (e : Ex B B1) (I : In B1 O H) (q : ∀ v B' H', Go B1 H B' H' → R B' H' v → r [v] H' Q) : wE X (.Call (.Name x p) [a] [] pos) σ H Q :=
  of_e (pe_callTy hc hg hm hv (pa1 he) hn hd he rfl) (ha B1 H e I _ fun v B2 H2 g2 r2 => q v B2 H2 g2 r2)
theorem sz_of {n : Nat} (h : n ≤ 40000) : n ≤ sizeLine := Nat.le_trans h (by decide)
theorem ev_lenL {m : Option (List α)} (hb : Bt X.mg) (ha : ES X σ B O a T m) (hg : Gl X "len" := by rfl) (he : starEach [a] X.env = (false, eval a X.env) :: starEach [] X.env := by rfl) : EV X σ B O (.Call (.Name "len" p) [a] [] pos) tN (m.bind fun l => some l.length) := by
  intro z hz B1 H e I Q q
  cases m with
  | none => cases hz
  | some xs =>
    cases hz
    refine builtin1 call_len_seq hg hb.len PySem.boot_len (by decide) (by decide) he (ha xs rfl) e I fun v B2 H2 g2 ⟨l, vs, h1, h2, h3, h4, h5⟩ => ?_
    subst h1
    exact ⟨l, vs, rfl, .inl (SqL.of h2), q _ B2 H2 g2 (by rw [h3.len]; rfl)⟩
theorem ev_lenT {m : Option (List α)} (hb : Bt X.mg) (ha : EV X σ B O a (tT T) m) (hg : Gl X "len" := by rfl) (he : starEach [a] X.env = (false, eval a X.env) :: starEach [] X.env := by rfl) : EV X σ B O (.Call (.Name "len" p) [a] [] pos) tN (m.bind fun l => some l.length) := by
  intro z hz B1 H e I Q q
  cases m with
  | none => cases hz
  | some xs =>
    cases hz
    refine builtin1 call_len_seq hg hb.len PySem.boot_len (by decide) (by decide) he (ha xs rfl) e I fun v B2 H2 g2 ⟨l, vs, h1, h2, h3, h4⟩ => ?_
    subst h1
    exact ⟨l, vs, rfl, .inr (SqT.of (g2.bh _ _ h2)), q _ B2 H2 g2 (by rw [h3.len]; rfl)⟩
theorem ev_lenS {m : Option (List Nat)} (hb : Bt X.mg) (ha : EV X σ B O a (tS cw) m) (hg : Gl X "len" := by rfl) (he : starEach [a] X.env = (false, eval a X.env) :: starEach [] X.env := by rfl) : EV X σ B O (.Call (.Name "len" p) [a] [] pos) tN (m.bind fun l => some l.length) := by
  intro z hz B1 H e I Q q
  cases m with
  | none => cases hz
  | some xs =>
    cases hz
    refine builtin1 call_len_str hg hb.len PySem.boot_len (by decide) (by decide) he (ha xs rfl) e I fun v B2 H2 g2 ⟨h1, h2, h3⟩ => ?_
    subst h1
    exact ⟨_, rfl, by rw [str_len]; exact sz_of (by omega), q _ B2 H2 g2 (by rw [str_len]; rfl)⟩
theorem repsB {vs : List V} {xs : List Bool} (h : Reps tB B vs xs) : vs = xs.map V.bl := h.map fun _ _ h => h
theorem repsN {vs : List V} {xs : List Nat} (h : Reps tN B vs xs) : vs = (xs.map fun n : Nat => (n : Int)).map V.int := by
  rw [List.map_map]
  exact h.map fun _ _ h => h
theorem repsS {vs : List V} {xs : List (List Nat)} (h : Reps (tS cw) B vs xs) : vs = (xs.map (str cw)).map V.str := by
  rw [List.map_map]
  exact Reps.map (T := tS cw) (f := fun x => V.str (str cw x)) (fun v x (k : v = .str (str cw x) ∧ _) => k.1) h
theorem ev_all {m : Option (List Bool)} (hb : Bt X.mg) (hc : X.calm = true) (ha : ES X σ B O a tB m) (hg : Gl X "all" := by rfl) (he : starEach [a] X.env = (false, eval a X.env) :: starEach [] X.env := by rfl) : EV X σ B O (.Call (.Name "all" p) [a] [] pos) tB (m.bind fun l => some (l.all id)) := by
  intro z hz B1 H e I Q q
  cases m with
  | none => cases hz
  | some xs =>
    cases hz
    refine builtin1 (cr_all hc) hg hb.all (by decide +kernel) (by decide) (by decide) he (ha xs rfl) e I fun v B2 H2 g2 ⟨l, vs, h1, h2, h3, h4, h5⟩ => ?_
    subst h1
    exact ⟨l, xs, rfl, by rw [← repsB h3]; exact SqL.of h2, q _ B2 H2 g2 rfl⟩
theorem ev_any {m : Option (List Bool)} (hb : Bt X.mg) (hc : X.calm = true) (ha : ES X σ B O a tB m) (hg : Gl X "any" := by rfl) (he : starEach [a] X.env = (false, eval a X.env) :: starEach [] X.env := by rfl) : EV X σ B O (.Call (.Name "any" p) [a] [] pos) tB (m.bind fun l => some (l.any id)) := by
  intro z hz B1 H e I Q q
  cases m with
  | none => cases hz
  | some xs =>
    cases hz
    refine builtin1 (cr_any hc) hg hb.any (by decide +kernel) (by decide) (by decide) he (ha xs rfl) e I fun v B2 H2 g2 ⟨l, vs, h1, h2, h3, h4, h5⟩ => ?_
    subst h1
    exact ⟨l, xs, rfl, by rw [← repsB h3]; exact SqL.of h2, q _ B2 H2 g2 rfl⟩
theorem sum_cast : ∀ xs : List Nat, (xs.map fun n : Nat => (n : Int)).sum = ((xs.sum : Nat) : Int)
  | [] => rfl
  | x :: xs => by rw [List.map_cons, List.sum_cons, List.sum_cons, sum_cast xs]; omega
theorem ev_sum {m : Option (List Nat)} (hb : Bt X.mg) (hc : X.calm = true) (ha : ES X σ B O a tN m) (hg : Gl X "sum" := by rfl) (he : starEach [a] X.env = (false, eval a X.env) :: starEach [] X.env := by rfl) : EV X σ B O (.Call (.Name "sum" p) [a] [] pos) tN (m.bind fun l => some l.sum) := by
  intro z hz B1 H e I Q q
  cases m with
  | none => cases hz
  | some xs =>
    cases hz
    refine builtin1 (cr_sum hc) hg hb.sum (by decide +kernel) (by decide) (by decide) he (ha xs rfl) e I fun v B2 H2 g2 ⟨l, vs, h1, h2, h3, h4, h5⟩ => ?_
    subst h1
    exact ⟨l, _, rfl, by rw [← repsN h3]; exact SqL.of h2, q _ B2 H2 g2 (by rw [sum_cast]; rfl)⟩
/-- tuple(a list) -/
theorem ev_tuple {m : Option (List α)} (hb : Bt X.mg) (ha : ES X σ B O a T m) (hg : Gl X "tuple" := by rfl) (he : starEach [a] X.env = (false, eval a X.env) :: starEach [] X.env := by rfl) : EV X σ B O (.Call (.Name "tuple" p) [a] [] pos) (tT T) m := by
  intro z hz B1 H e I Q q
  subst hz
  refine type1 call_tuple_of hg hb.tuple (by decide +kernel) (by decide) (by decide) he (ha z rfl) e I fun v B2 H2 g2 ⟨l, vs, h1, h2, h3, h4, h5⟩ => ?_
  subst h1
  exact ⟨l, vs, rfl, .inl ⟨SqL.of h2, fun p np => q _ _ _ (g2.trans (Go.lay g2.bh np)) ⟨p, vs, rfl, upd_same, h3.mono (Ex.new (g2.bh.free np)), h4⟩⟩⟩
/-- list(a tuple) -/
theorem ev_listT {m : Option (List α)} (hb : Bt X.mg) (ha : EV X σ B O a (tT T) m) (hg : Gl X "list" := by rfl) (he : starEach [a] X.env = (false, eval a X.env) :: starEach [] X.env := by rfl) : EV X σ B O (.Call (.Name "list" p) [a] [] pos) (tL T) m := by
  intro z hz B1 H e I Q q
  subst hz
  refine type1 call_list_of hg hb.list (by decide +kernel) (by decide) (by decide) he (ha z rfl) e I fun v B2 H2 g2 ⟨l, vs, h1, h2, h3, h4⟩ => ?_
  subst h1
  exact ⟨l, vs, rfl, .inr (SqT.of (g2.bh _ _ h2)), fun p np => q _ _ _ (g2.trans (Go.lay g2.bh np)) ⟨p, vs, rfl, upd_same, h3.mono (Ex.new (g2.bh.free np)), h4⟩⟩
/-! ### displays -/
theorem ev_listD {R : Hp → List V → Prop} {xs : List α} (ha : AV X σ B O es R) (hR : ∀ {B vs}, R B vs → Reps T B vs xs) (hl : xs.length ≤ 40000) : EV X σ B O (.List es pos) (tL T) (some xs) := by
  intro z hz B1 H e I Q q
  cases hz
  refine of_e (pe_lst p_a) (ha B1 H e I _ fun vs B2 H2 g2 r2 => ?_)
  have r := hR r2
  have hv : vs.length ≤ 40000 := by rw [r.len]; exact hl
  exact ⟨sz_of hv, fun p np => q _ _ _ (g2.trans (Go.lay g2.bh np)) ⟨p, vs, rfl, upd_same, r.mono (Ex.new (g2.bh.free np)), hv⟩⟩
theorem ev_list0 : EV X σ B O (.List [] pos) (tL T) (some []) := ev_listD (R := fun _ vs => vs = []) av_nil (fun h => by subst h; exact .nil) (Nat.zero_le _)
theorem ev_list1 {m : Option α} (ha : EV X σ B O a T m) (he : starEach [a] X.env = (false, eval a X.env) :: starEach [] X.env := by rfl) : EV X σ B O (.List [a] pos) (tL T) (m.bind fun x => some [x]) := by
  intro z hz B1 H e I Q q
  cases m with
  | none => cases hz
  | some x =>
    cases hz
    exact ev_listD (R := fun B vs => ∃ v, vs = [v] ∧ T.rep B v x) (av_cons (ha x rfl) av_nil (fun r g h => ⟨_, by rw [h], T.mono g.eb r⟩) he) (fun h => by
      obtain ⟨v, rfl, r⟩ := h
      exact .cons r .nil) (by simp) _ rfl B1 H e I Q q
theorem ev_pair {m : Option α} {n : Option β} {k : Nat} (ha : EV X σ B O a T m) (hb : EV X σ B O b U n) (he : starEach [a, b] X.env = (false, eval a X.env) :: starEach [b] X.env := by rfl) (he2 : starEach [b] X.env = (false, eval b X.env) :: starEach [] X.env := by rfl) :
    EV X σ B O (.Tuple [a, b] k pos) (tP T U) (op2 (fun x y => some (x, y)) m n) := by
  intro z hz B1 H e I Q q
  obtain ⟨x, y, rfl, rfl, hf⟩ := op2_some hz
  cases hf
  refine of_e (pe_tup p_a) (av_cons (ha x rfl) (av_cons (hb y rfl) av_nil (R3 := fun B vs => ∃ v, vs = [v] ∧ U.rep B v y) (fun r g h => ⟨_, by rw [h], U.mono g.eb r⟩) he2) (R3 := fun B vs => ∃ v w, vs = [v, w] ∧ T.rep B v x ∧ U.rep B w y)
    (fun r g h => by
      obtain ⟨w, rfl, r2⟩ := h
      exact ⟨_, w, rfl, T.mono g.eb r, r2⟩) he B1 H e I _ fun vs B2 H2 g2 r2 => ?_)
  obtain ⟨v, w, rfl, r, r'⟩ := r2
  exact ⟨by show 2 ≤ sizeLine; decide, fun p np => q _ _ _ (g2.trans (Go.lay g2.bh np)) ⟨p, v, w, rfl, upd_same, T.mono (Ex.new (g2.bh.free np)) r, U.mono (Ex.new (g2.bh.free np)) r'⟩⟩
/-! ### subscripts -/
theorem atI_of {xs : List V} {n : Nat} {v : V} (h : xs[n]? = some v) : atI xs (n : Int) = some v := by
  unfold atI ixN
  have hl : n < xs.length := (List.getElem?_eq_some_iff.mp h).1
  rw [if_pos (Int.natCast_nonneg n), if_pos (by omega)]
  exact h
theorem atN_of {xs : List Nat} {n : Nat} {v : Nat} (h : xs[n]? = some v) : atI xs (n : Int) = some v := by
  unfold atI ixN
  have hl : n < xs.length := (List.getElem?_eq_some_iff.mp h).1
  rw [if_pos (Int.natCast_nonneg n), if_pos (by omega)]
  exact h
theorem ev_ixL {m : Option (List α)} {n : Option Nat} (ha : ES X σ B O a T m) (hb : EV X σ B O b tN n) (hs : PlainIx b := by exact fun _ _ => rfl) : EV X σ B O (.Subscript a b pos) T (op2 (fun xs i => xs[i]?) m n) := by
  intro z hz B1 H e I Q q
  obtain ⟨xs, i, rfl, rfl, hf⟩ := op2_some hz
  refine of_e (pe_ix ix_list p_e p_e hs) ?_
  refine ha xs rfl B1 H e I _ fun v B2 H2 g2 ⟨l, vs, h1, h2, h3, h4, h5⟩ => ?_
  refine hb i rfl B2 H2 (e.trans g2.eb) (I.go g2) _ fun w B3 H3 g3 r3 => ?_
  cases r3
  obtain ⟨v', hv, r⟩ := h3.get' hf
  exact ⟨l, vs, _, v', h1, rfl, SqL.of (g3.eh _ _ h2), atI_of hv, q _ B3 H3 (g2.trans g3) (T.mono g3.eb r)⟩
theorem ev_ixT {m : Option (List α)} {n : Option Nat} (ha : EV X σ B O a (tT T) m) (hb : EV X σ B O b tN n) (hs : PlainIx b := by exact fun _ _ => rfl) : EV X σ B O (.Subscript a b pos) T (op2 (fun xs i => xs[i]?) m n) := by
  intro z hz B1 H e I Q q
  obtain ⟨xs, i, rfl, rfl, hf⟩ := op2_some hz
  refine of_e (pe_ix ix_tup p_e p_e hs) ?_
  refine ha xs rfl B1 H e I _ fun v B2 H2 g2 ⟨l, vs, h1, h2, h3, h4⟩ => ?_
  refine hb i rfl B2 H2 (e.trans g2.eb) (I.go g2) _ fun w B3 H3 g3 r3 => ?_
  cases r3
  obtain ⟨v', hv, r⟩ := h3.get' hf
  exact ⟨l, vs, _, v', h1, rfl, SqT.of (g3.bh _ _ (g3.eb _ _ h2)), atI_of hv, q _ B3 H3 (g2.trans g3) (T.mono g3.eb r)⟩
theorem ev_ixS {m : Option (List Nat)} {n : Option Nat} (ha : EV X σ B O a (tS cw) m) (hb : EV X σ B O b tN n) (hs : PlainIx b := by exact fun _ _ => rfl) : EV X σ B O (.Subscript a b pos) (tC cw) (op2 (fun xs i => xs[i]?) m n) := by
  intro z hz B1 H e I Q q
  obtain ⟨xs, i, rfl, rfl, hf⟩ := op2_some hz
  refine of_e (pe_ix ix_str p_e p_e hs) ?_
  refine ha xs rfl B1 H e I _ fun v B2 H2 g2 ⟨h1, h2, h3⟩ => ?_
  refine hb i rfl B2 H2 (e.trans g2.eb) (I.go g2) _ fun w B3 H3 g3 r3 => ?_
  cases r3
  refine ⟨_, _, cw.l.getD z 0, h1, rfl, by rw [str_len]; exact sz_of (by omega), atN_of ?_, q _ B3 H3 (g2.trans g3) ⟨rfl, h2 z (List.mem_of_getElem? hf)⟩⟩
  rw [str_list, List.getElem?_map, hf]
  rfl
theorem ev_fst {m : Option (α × β)} {j : Nat} {p2 : Pos} (ha : EV X σ B O a (tP T U) m) : EV X σ B O (.Subscript a (.Constant (.int 0) j p2) pos) T (m.bind fun x => some x.1) := by
  intro z hz B1 H e I Q q
  cases m with
  | none => cases hz
  | some x =>
    cases hz
    refine of_e (pe_ix ix_tup p_e pe_int (fun _ _ => rfl)) ?_
    refine ha x rfl B1 H e I _ fun v B2 H2 g2 ⟨l, w1, w2, h1, h2, h3, h4⟩ => ?_
    exact ⟨l, _, 0, w1, h1, rfl, SqT.of (g2.bh _ _ h2), rfl, q _ B2 H2 g2 h3⟩
theorem ev_snd {m : Option (α × β)} {j : Nat} {p2 : Pos} (ha : EV X σ B O a (tP T U) m) : EV X σ B O (.Subscript a (.Constant (.int 1) j p2) pos) U (m.bind fun x => some x.2) := by
  intro z hz B1 H e I Q q
  cases m with
  | none => cases hz
  | some x =>
    cases hz
    refine of_e (pe_ix ix_tup p_e pe_int (fun _ _ => rfl)) ?_
    refine ha x rfl B1 H e I _ fun v B2 H2 g2 ⟨l, w1, w2, h1, h2, h3, h4⟩ => ?_
    exact ⟨l, _, 1, w2, h1, rfl, SqT.of (g2.bh _ _ h2), rfl, q _ B2 H2 g2 h4⟩
/-! ### texts and lists joined -/
@[reducible] def fCatS (x y : List Nat) : Option (List Nat) := if Nat.ble (x.length + y.length) 100 then some (x ++ y) else none
theorem ev_catS {m n : Option (List Nat)} (ha : EV X σ B O a (tS cw) m) (hb : EV X σ B O b (tS cw) n) : EV X σ B O (.BinOp a .Add b pos) (tS cw) (op2 fCatS m n) :=
  ev_op op_add_str ha hb fun x y z B' H' v w hf e r1 r2 Q q => by
    obtain ⟨rfl, a1, b1⟩ := r1
    obtain ⟨rfl, a2, b2⟩ := r2
    unfold fCatS at hf
    split at hf
    · rename_i h
      have h := Nat.le_of_ble_eq_true h
      cases hf
      refine ⟨_, _, rfl, rfl, by rw [str_len, str_len]; exact sz_of (by omega), q _ B' H' (Go.refl e) ⟨by rw [str_app], fun i hi => (List.mem_append.mp hi).elim (a1 i) (a2 i), by rw [List.length_append]; exact h⟩⟩
    · cases hf
theorem ev_toS {m : Option Nat} (ha : EV X σ B O a (tC cw) m) : EV X σ B O a (tS cw) (m.bind fun i => some [i]) := by
  intro z hz B1 H e I Q q
  cases m with
  | none => cases hz
  | some x =>
    cases hz
    exact ha x rfl B1 H e I Q fun v B2 H2 g2 r2 => q v B2 H2 g2 ⟨r2.1, (tC_ok r2).2, by show 1 ≤ 100; decide⟩
@[reducible] def fCat (x y : List α) : Option (List α) := if Nat.ble (x.length + y.length) 40000 then some (x ++ y) else none
theorem ev_cat {m n : Option (List α)} (ha : ES X σ B O a T m) (hb : ES X σ B O b T n) : EV X σ B O (.BinOp a .Add b pos) (tL T) (op2 fCat m n) := by
  intro z hz B1 H e I Q q
  obtain ⟨xs, ys, rfl, rfl, hf⟩ := op2_some hz
  unfold fCat at hf
  split at hf
  · rename_i h
    have h := Nat.le_of_ble_eq_true h
    cases hf
    refine of_e (pe_op op_cat p_e p_e) ?_
    refine ha xs rfl B1 H e I _ fun v B2 H2 g2 ⟨l, vs, h1, h2, h3, h4, h5⟩ => ?_
    refine hb ys rfl B2 H2 (e.trans g2.eb) (I.go g2) _ fun w B3 H3 g3 ⟨l2, ws, k1, k2, k3, k4, k5⟩ => ?_
    have hl : vs.length + ws.length ≤ 40000 := by rw [h3.len, k3.len]; exact h
    refine ⟨l, l2, vs, ws, h1, k1, g3.eh _ _ h2, k2, sz_of hl, fun p np => q _ _ _ ((g2.trans g3).trans (Go.lay g3.bh np)) ⟨p, vs ++ ws, rfl, upd_same, ((h3.mono g3.eb).app k3).mono (Ex.new (g3.bh.free np)), by rw [List.length_append]; exact hl⟩⟩
  · cases hf
@[reducible] def fRep (x : α) (n : Nat) : Option (List α) := if Nat.ble n 1000 then some (List.replicate n x) else none
theorem flat_rep {α : Type} {x : α} : ∀ n : Nat, (List.replicate n [x]).flatten = List.replicate n x
  | 0 => rfl
  | n + 1 => by rw [List.replicate_succ, List.flatten_cons, flat_rep n]; rfl
theorem reps_rep {v : V} {x : α} (h : T.rep B v x) : ∀ n, Reps T B (List.replicate n v) (List.replicate n x)
  | 0 => .nil
  | n + 1 => .cons h (reps_rep h n)
/-- [x] * n -/
theorem ev_rep {m : Option α} {n : Option Nat} {p2 : Pos} (ha : EV X σ B O a T m) (hb : EV X σ B O b tN n) (he : starEach [a] X.env = (false, eval a X.env) :: starEach [] X.env := by rfl) : EV X σ B O (.BinOp (.List [a] p2) .Mult b pos) (tL T) (op2 fRep m n) := by
  intro z hz B1 H e I Q q
  obtain ⟨x, n, rfl, rfl, hf⟩ := op2_some hz
  unfold fRep at hf
  split at hf
  · rename_i h
    have h := Nat.le_of_ble_eq_true h
    cases hf
    refine of_e (pe_op op_rep (pe_lst (pa1 he)) p_e) ?_
    refine ha x rfl B1 H e I _ fun v B2 H2 g2 r2 => ?_
    refine ⟨by show 1 ≤ sizeLine; decide, fun p np => ?_⟩
    refine hb n rfl B2 _ (e.trans g2.eb) ((I.go g2).go (Go.tmp g2.bh np)) _ fun w B3 H3 g3 r3 => ?_
    cases r3
    have hz : (1 : Nat) * n ≤ 40000 := by omega
    refine ⟨p, _, [v], rfl, rfl, g3.eh _ _ upd_same, by omega, by omega, sz_of (by simpa using hz), fun p2 np2 => ?_⟩
    rw [Int.toNat_natCast, flat_rep]
    exact q _ _ _ (((g2.trans (Go.tmp g2.bh np)).trans g3).trans (Go.lay g3.bh np2)) ⟨p2, _, rfl, upd_same, reps_rep (T.mono (g3.eb.trans (Ex.new (g3.bh.free np2))) r2) n, by rw [List.length_replicate]; omega⟩
  · cases hf
end
end Ly
namespace Ly
open PySem PySem.Spec PyProof.Rows L2
def compM {α β : Type} (c : α → Option Bool) (f : α → Option β) : List α → Option (List β)
  | [] => some []
  | x :: xs => (c x).bind fun b => bif b then (f x).bind fun y => (compM c f xs).bind fun ys => some (y :: ys) else compM c f xs
def mapO {α β : Type} (f : α → Option β) : List α → Option (List β)
  | [] => some []
  | x :: xs => (f x).bind fun y => (mapO f xs).bind fun ys => some (y :: ys)
/-- a loop told with what follows it -/
def forK {α σ ρ : Type} (body : α → σ → (σ → Option ρ) → Option ρ) (after : σ → Option ρ) : List α → σ → Option ρ
  | [], st => after st
  | x :: xs, st => body x st fun st' => forK body after xs st'
theorem compM_map {α β : Type} {f : α → Option β} : ∀ xs : List α, compM (fun _ => some true) f xs = mapO f xs
  | [] => rfl
  | x :: xs => by
    show (f x).bind (fun y => (compM (fun _ => some true) f xs).bind fun ys => some (y :: ys)) = _
    rw [compM_map xs]
    rfl
theorem bind_some {α β : Type} {m : Option α} {f : α → Option β} {z : β} (h : m.bind f = some z) : ∃ x, m = some x ∧ f x = some z := by
  cases m with
  | none => cases h
  | some x => exact ⟨x, rfl, h⟩
section
variable {X : Cx} {σ : L2.St} {B : Hp} {O : Own} {a b c e tg : Expr} {es : List Expr} {pos p apos : Pos} {α β γ δ : Type} {T : Ty α} {U : Ty β} {S : Ty γ} {W : Ty δ} {cw : Crew}
/-! ### sources -/
theorem iv_L {m : Option (List α)} (ha : ES X σ B O a T m) : IV X σ B O tg a T m := by
  intro xs hx B1 H e I R q
  refine of_i (pi_list p_e) (ha xs hx B1 H e I _ fun v B2 H2 g2 ⟨l, vs, h1, h2, h3, h4, h5⟩ => ?_)
  refine ⟨l, h1, ⟨vs, SqL.of h2⟩, q _ B2 H2 vs g2 ⟨fun H => SqL X.K H l vs, walk_list, fun H3 e3 ho => SqL.of ?_⟩ h3 h4⟩
  exact h5.elim (fun z => e3 _ _ z) fun z => ho _ z
theorem iv_T {m : Option (List α)} (ha : EV X σ B O a (tT T) m) : IV X σ B O tg a T m := by
  intro xs hx B1 H e I R q
  refine of_i (pi_tup p_e) (ha xs hx B1 H e I _ fun v B2 H2 g2 ⟨l, vs, h1, h2, h3, h4⟩ => ?_)
  exact ⟨l, h1, ⟨vs, SqT.of (g2.bh _ _ h2)⟩, q _ B2 H2 vs g2 ⟨fun H => SqT X.K H l vs, walk_tup, fun H3 e3 ho => SqT.of (e3 _ _ h2)⟩ h3 h4⟩
theorem reps_chars : ∀ {s : List Nat}, (∀ i ∈ s, i < cw.l.length) → Reps (tC cw) B (s.map fun i => V.str (str cw [i])) s
  | [], _ => .nil
  | i :: s, h => .cons ⟨rfl, h i List.mem_cons_self⟩ (reps_chars fun j hj => h j (List.mem_cons_of_mem _ hj))
theorem iv_S {m : Option (List Nat)} (ha : EV X σ B O a (tS cw) m) : IV X σ B O tg a (tC cw) m := by
  intro xs hx B1 H e I R q
  refine of_i (pi_str p_e) (ha xs hx B1 H e I _ fun v B2 H2 g2 ⟨h1, h2, h3⟩ => ⟨_, h1, ?_⟩)
  have hn : (str cw xs).cps.size = (xs.map fun i => V.str (str cw [i])).length := by rw [List.length_map]; exact str_len
  refine q _ B2 H2 (xs.map fun i => V.str (str cw [i])) g2 ⟨fun _ => True, ?_, fun _ _ _ => trivial⟩ (reps_chars h2) (by rw [List.length_map]; omega)
  have w := walk_str (z := str cw xs)
  rw [hn] at w
  refine w.mono (fun _ h => h) fun i H x H' hi _ ⟨e1, c, hc, hv⟩ => ⟨e1, ?_⟩
  rw [← Array.getElem?_toList, str_list, List.getElem?_map] at hc
  rw [List.getElem?_map]
  cases hx : xs[i]? with
  | none =>
    rw [hx] at hc
    cases hc
  | some k =>
    rw [hx] at hc
    cases hc
    rw [hv]
    rfl
theorem reps_range : ∀ {l : List Nat}, Reps tN B (l.map fun i : Nat => V.int (i : Int)) l
  | [] => .nil
  | i :: s => .cons rfl reps_range
theorem walk_rng {lo n : Nat} : Walk (Itr (lo : Int) n) ((List.range' lo n).map fun i : Nat => V.int (i : Int)).length (fun _ => True) (YAt ((List.range' lo n).map fun i : Nat => V.int (i : Int))) := by
  rw [List.length_map, List.length_range']
  refine (walk_range (lo := (lo : Int)) (n := n)).mono (fun _ h => h) fun i H x H' hi _ ⟨e1, e2⟩ => ⟨e1, ?_⟩
  rw [List.getElem?_map, List.getElem?_range' hi, e2]
  simp
@[reducible] def rng1 (n : Nat) : Option (List Nat) := if Nat.ble n 40000 then some (List.range' 0 n) else none
@[reducible] def rng2 (a b : Nat) : Option (List Nat) := if Nat.ble a 40000 && Nat.ble b 40000 then some (List.range' a (b - a)) else none
theorem iv_rng1 {m : Option Nat} (hb : Bt X.mg) (ha : EV X σ B O a tN m) (hg : Gl X "range" := by rfl) (he : starEach [a] X.env = (false, eval a X.env) :: starEach [] X.env := by rfl) : IV X σ B O tg (.Call (.Name "range" p) [a] [] pos) tN (m.bind rng1) := by
  intro xs hx B1 H e I R q
  cases m with
  | none => cases hx
  | some n =>
    have hx : rng1 n = some xs := hx
    unfold rng1 at hx
    split at hx
    · rename_i h
      have h := Nat.le_of_ble_eq_true h
      cases hx
      refine of_i (pi_range1 hg hb.range (pa1 he) he) (ha n rfl B1 H e I _ fun v B2 H2 g2 r2 => ?_)
      cases r2
      refine ⟨_, rfl, by omega, by omega, q _ B2 H2 _ g2 ⟨fun _ => True, ?_, fun _ _ _ => trivial⟩ reps_range (by rw [List.length_map, List.length_range']; exact h)⟩
      exact walk_rng (lo := 0)
    · cases hx
theorem iv_rng2 {m n : Option Nat} (hb : Bt X.mg) (ha : EV X σ B O a tN m) (hb2 : EV X σ B O b tN n) (hg : Gl X "range" := by rfl) (he : starEach [a, b] X.env = (false, eval a X.env) :: starEach [b] X.env := by rfl) (he2 : starEach [b] X.env = (false, eval b X.env) :: starEach [] X.env := by rfl) :
    IV X σ B O tg (.Call (.Name "range" p) [a, b] [] pos) tN (op2 rng2 m n) := by
  intro xs hx B1 H e I R q
  obtain ⟨x, y, rfl, rfl, hf⟩ := op2_some hx
  unfold rng2 at hf
  split at hf
  · rename_i h
    rw [Bool.and_eq_true] at h
    have hxy := Nat.le_of_ble_eq_true h.1
    have h := Nat.le_of_ble_eq_true h.2
    cases hf
    refine of_i (pi_range2 hg hb.range (pa_cons p_e (pa1 he2) he) (by rw [he, he2]; rfl) he2) (ha x rfl B1 H e I _ fun v B2 H2 g2 r2 => hb2 y rfl B2 H2 (e.trans g2.eb) (I.go g2) _ fun w B3 H3 g3 r3 => ?_)
    cases r2
    cases r3
    have en : ((y : Int) - (x : Int)).toNat = y - x := by omega
    refine ⟨_, _, rfl, ⟨by omega, by omega, by omega, by omega⟩, ?_⟩
    rw [en]
    exact q _ B3 H3 _ (g2.trans g3) ⟨fun _ => True, walk_rng, fun _ _ _ => trivial⟩ reps_range (by rw [List.length_map, List.length_range']; omega)
  · cases hf
/-! ### comprehensions -/
abbrev bl (X : Cx) (scope : Scope) (s : Shared) (H : Hp) (C : Addr) (cl : List (Str × Addr)) (fp : List Addr) : Cx := X.blk s H scope (compEnvC scope cl C X.env) fp
theorem wipe1 {j : Nat} {v : Option V} : wipe ((wipe σ [j]).set j v) [j] = wipe σ [j] := by
  show ((σ.set j none).set j v).set j none = σ.set j none
  rw [List.set_set, List.set_set]
/-- the canonical parts of a block -/
def wEb (X : Cx) (scope : Scope) (e : Expr) : TE := fun σ H Q => ∀ s H0 C cl fp, wE (bl X scope s H0 C cl fp) e σ H Q
def wTb (X : Cx) (scope : Scope) (ifs : List Expr) : TT := match ifs with
  | [] => tYes
  | c :: _ => fun σ H Q => ∀ s H0 C cl fp, wT (bl X scope s H0 C cl fp) c σ H Q
def TVb (X : Cx) (scope : Scope) (σ : L2.St) (B : Hp) (O : Own) (ifs : List Expr) (m : Option Bool) : Prop := match ifs with
  | [] => m = some true
  | c :: _ => ∀ s H0 C cl fp, TV (bl X scope s H0 C cl fp) σ B O c m
theorem p_tb {scope : Scope} {ifs : List Expr} (h : ifs.length ≤ 1) (s : Shared) (H : Hp) (C : Addr) (cl : List (Str × Addr)) (fp : List Addr) : PTs (bl X scope s H C cl fp) ifs (wTb X scope ifs) := by
  match ifs, h with
  | [], _ => exact pts_nil
  | [c], _ => exact pts_one ⟨fun pins s' _ _ _ I h => h s H C cl fp pins s' I⟩
theorem p_eb {scope : Scope} (s : Shared) (H : Hp) (C : Addr) (cl : List (Str × Addr)) (fp : List Addr) : PE (bl X scope s H C cl fp) e (wEb X scope e) := ⟨fun pins s' _ _ _ I h => h s H C cl fp pins s' I⟩
theorem tv_b {scope : Scope} {ifs : List Expr} {m : Option Bool} (h : TVb X scope σ B O ifs m) : ∀ b, m = some b → ∀ B1 H, Ex B B1 → In B1 O H → ∀ Q : Bool → Hp → Prop, (∀ B' H', Go B1 H B' H' → Q b H') → wTb X scope ifs σ H Q := by
  intro b hb B1 H e I Q q
  match ifs, h with
  | [], h =>
    cases hb
    cases h
    exact q B1 H (Go.refl I.ex)
  | c :: _, h => exact fun s H0 C cl fp => h s H0 C cl fp b hb B1 H e I Q q
/-- what a comprehension's list holds at turn i -/
structure Lcw (B1 H1 : Hp) (U : Ty β) (c : α → Option Bool) (f : α → Option β) (xs : List α) (tot : List β) (D : Addr) (i : Nat) (B' H' : Hp) (acc : List V) (ys zs : List β) : Prop where
  go : Go B1 H1 B' H'
  nd : B' D = none
  at_ : H' D = some (.lst acc)
  rp : Reps U B' acc ys
  rest : compM c f (xs.drop i) = some zs
  tot : tot = ys ++ zs
  len : acc.length ≤ i
theorem Go.app {B1 H1 B' H' : Hp} {D : Addr} {u : HO} (g : Go B1 H1 B' H') (h1 : H1 D = none) (h2 : B' D = none) : Go B1 H1 B' (upd H' D u) := ⟨g.eb, g.eh.mut h1, g.bh.mut h2, g.fr⟩
theorem Go.keep {B H B' H' : Hp} {D : Addr} {o : HO} (g : Go B H B' H') (h1 : B D = none) (h2 : H D = some o) : B' D = none := by
  cases h : B' D with
  | none => rfl
  | some o' => exact ((g.fr _ _ h).elim (fun z => by rw [h1] at z; cases z) fun z => by rw [h2] at z; cases z)
/-- a free place laid behind a growth -/
theorem Go.seal {B1 H1 B' H' : Hp} {D : Addr} {u : HO} (g : Go B1 H1 B' H') (h0 : B1 D = none) (h1 : H1 D = none) (h2 : H' D = some u) : Go B1 H1 (upd B' D u) H' :=
  ⟨g.eb.mut h0, g.eh, g.bh.put h2, fun a o h => by
    by_cases z : a = D
    · subst z
      exact .inr h1
    · rw [upd_ne z] at h
      exact g.fr a o h⟩
theorem lc_go {scope : Scope} {ifs : List Expr} {elt iter : Expr} {j : Nat} {mxs : Option (List α)} {tot : List β} {Q : VK} {B1 H : Hp} (hi : IV X σ B O tg iter T mxs) (c : α → Option Bool) (f : α → Option β)
    (hcnd : ∀ x v B2, Ex B B2 → T.rep B2 v x → TVb X scope ((wipe σ [j]).set j (some v)) B2 O ifs (c x))
    (hel : ∀ x v B2, Ex B B2 → T.rep B2 v x → c x = some true → ∀ s H C cl fp, EV (bl X scope s H C cl fp) ((wipe σ [j]).set j (some v)) B2 O elt U (f x))
    (hm : (mxs.bind fun xs => compM c f xs) = some tot) (e : Ex B B1) (I : In B1 O H) (q : ∀ v B' H', Go B1 H B' H' → (tL U).rep B' v tot → Q v H') :
    tLc (wI X tg iter) (gName j) (wTb X scope ifs) (wEb X scope elt) [j] σ H Q := by
  obtain ⟨xs, rfl, hf⟩ := bind_some hm
  refine hi xs rfl B1 H e I _ fun J B2 H2 vs g2 sr r2 hl => ?_
  intro D hD
  obtain ⟨G, w, hG⟩ := sr.ex
  have I2 := I.go g2
  have hB2 : B2 D = none := g2.bh.free hD
  refine lc_it w (Qd := Q (.ref D)) (fun i H' => ∃ B' acc ys zs, Lcw B2 H2 U c f xs tot D i B' H' acc ys zs) ?_ ?_ ?_ ?_
  · exact ⟨B2, [], [], tot, (Go.refl g2.bh).app hD hB2, hB2, upd_same, .nil, hf, rfl, Nat.le_refl _⟩
  · intro i H' hi ⟨B', acc, ys, zs, L⟩
    exact hG H' (L.go.eb.trans L.go.bh) fun p hp => (I2.go L.go).ow p hp |>.1
  · intro i x H' H'' hin ⟨B', acc, ys, zs, L⟩ ⟨e1, hx⟩
    subst e1
    obtain ⟨y, hy, ry⟩ := r2.get hx
    have hd : xs.drop i = y :: xs.drop (i + 1) := by
      have hlt := (List.getElem?_eq_some_iff.mp hy)
      rw [List.drop_eq_getElem_cons hlt.1, hlt.2]
    have rest := L.rest
    rw [hd] at rest
    obtain ⟨b, hb, rest⟩ := bind_some rest
    have ry' := T.mono L.go.eb ry
    have eB := (e.trans g2.eb).trans L.go.eb
    refine ⟨wipe1, ?_⟩
    refine tv_b (hcnd y x B' eB ry') b hb B' _ (Ex.refl _) (I2.go L.go) _ fun B3 H3 g3 => ?_
    have n3 := g3.keep L.nd L.at_
    cases b with
    | true =>
      refine iteT ?_
      obtain ⟨u, hu, rest⟩ := bind_some (f := fun y => (compM c f (xs.drop (i + 1))).bind fun ys => some (y :: ys)) rest
      obtain ⟨zs', hz, rest⟩ := bind_some rest
      cases rest
      intro s H0 C cl fp
      refine hel y x B' eB ry' hb s H0 C cl fp u hu B3 H3 g3.eb ((I2.go L.go).go g3) _ fun v B4 H4 g4 r4 => ?_
      have n4 := g4.keep n3 (g3.eh _ _ L.at_)
      refine ⟨acc, g4.eh _ _ (g3.eh _ _ L.at_), Nat.lt_of_le_of_lt L.len (Nat.lt_of_lt_of_le hin (sz_of hl)), ?_⟩
      refine ⟨B4, acc ++ [v], ys ++ [u], zs', ((L.go.trans g3).trans g4).app hD n4, n4, upd_same, (L.rp.mono (g3.eb.trans g4.eb)).app (.cons r4 .nil), hz, ?_, ?_⟩
      · rw [L.tot, List.append_assoc]
        rfl
      · rw [List.length_append]
        exact Nat.succ_le_succ L.len
    | false =>
      refine iteF ?_
      exact ⟨B3, acc, ys, zs, L.go.trans g3, n3, g3.eh _ _ L.at_, L.rp.mono g3.eb, rest, L.tot, Nat.le_succ_of_le L.len⟩
  · intro H' ⟨B', acc, ys, zs, L⟩
    have hn : xs.drop vs.length = [] := by rw [r2.len]; exact List.drop_length
    have rest := L.rest
    rw [hn] at rest
    cases rest
    have ht := L.tot
    rw [List.append_nil] at ht
    subst ht
    exact q _ _ _ (g2.trans (L.go.seal hB2 hD L.at_)) ⟨D, acc, rfl, upd_same, L.rp.mono (Ex.new L.nd), Nat.le_trans L.len hl⟩
theorem ev_lc {scope : Scope} {ifs : List Expr} {elt iter : Expr} {x : Str} {j : Nat} {mxs : Option (List α)} (hc : X.calm = true) (hN : X.N.Nodup) (ok : BlkOk X.N X.env.scope scope [(x, j)]) (hi : IV X σ B O tg iter T mxs)
    (hg : ∀ (s : Shared) (H : Hp) (C : Addr) (cl : List (Str × Addr)) (fp : List Addr), PG (bl X scope s H C cl fp) tg (gName j)) (c : α → Option Bool) (f : α → Option β)
    (hcnd : ∀ x v B2, Ex B B2 → T.rep B2 v x → TVb X scope ((wipe σ [j]).set j (some v)) B2 O ifs (c x))
    (hel : ∀ x v B2, Ex B B2 → T.rep B2 v x → c x = some true → ∀ s H C cl fp, EV (bl X scope s H C cl fp) ((wipe σ [j]).set j (some v)) B2 O elt U (f x))
    (h1 : ifs.length ≤ 1 := by decide) (hs : ∀ x, foldedSetIterable iter X.env x = pure x := by intro _; rfl) : EV X σ B O (.ListComp elt [⟨tg, iter, ifs, 0⟩] scope pos) (tL U) (mxs.bind fun xs => compM c f xs) := by
  intro z hz B1 H e I Q q
  exact of_e (pe_lc (own := [(x, j)]) hc hN p_i ok hg (p_tb h1) p_eb hs) (lc_go hi c f hcnd hel hz e I q)
end
end Ly
namespace Ly
open PySem PySem.Spec PyProof.Rows L2
section
variable {X : Cx} {σ : L2.St} {B H : Hp} {O : Own} {a b c e tg : Expr} {es : List Expr} {pos p apos : Pos} {α β γ δ : Type} {T : Ty α} {U : Ty β} {S : Ty γ} {W : Ty δ} {cw : Crew} {D : Ends} {rest els body : List Stmt} {st : Stmt}
/-! ### statements, what follows told with them -/
theorem ss_nil (h : D.nx σ H) : wSs X [] D σ H := of_ss pss_nil h
theorem ss_cons (h : wS X st { D with nx := wSs X rest D } σ H) : wSs X (st :: rest) D σ H := of_ss (pss_cons p_s p_ss) h
theorem ss_set (i : Nat) {x : Str} {m : Option α} {z : α} {p' : Pos} (hm : m = some z) (h : EV X σ B O e T m) (I : In B O H) (k : ∀ v B1 H1, Go B H B1 H1 → T.rep B1 v z → wSs X rest D (σ.set i (some v)) H1) (hN : X.N.Nodup) (hi : X.N[i]? = some x := by rfl)
    (hx : L2.Loc X.env.scope x := by first | exact Or.inl rfl | exact Or.inr rfl) (hs : swapsWith e (some (.Name x p')) pos.line X.env = pure false := by rfl)
    (hf : X.fn x = true ∨ X.env.scope.names.lookup x = some .local := by first | exact .inl rfl | exact .inr rfl) : wSs X (.Assign [.Name x p'] e pos :: rest) D σ H :=
  ss_cons (of_s (ps_set hN hi hx p_e hs hf) (h z hm B H (Ex.refl _) I _ fun v B1 H1 g r => k v B1 H1 g r))
/-- an own list begins: the name, its place -/
theorem ss_new (i : Nat) {x : Str} {p' p2 : Pos} (I : In B O H) (k : ∀ l, H l = none → wSs X rest D (σ.set i (some (.ref l))) (upd H l (.lst []))) (hN : X.N.Nodup) (hi : X.N[i]? = some x := by rfl)
    (hx : L2.Loc X.env.scope x := by first | exact Or.inl rfl | exact Or.inr rfl) (hs : swapsWith (.List [] p2) (some (.Name x p')) pos.line X.env = pure false := by rfl)
    (hf : X.fn x = true ∨ X.env.scope.names.lookup x = some .local := by first | exact .inl rfl | exact .inr rfl) : wSs X (.Assign [.Name x p'] (.List [] p2) pos :: rest) D σ H :=
  ss_cons (of_s (ps_set hN hi hx (pe_lst pa_nil) hs hf) ⟨Nat.zero_le _, fun l hl => k l hl⟩)
theorem ss_setLc (i : Nat) {y x : Str} {py spos : Pos} {scope : Scope} {ifs : List Expr} {elt iter : Expr} {j : Nat} {mxs : Option (List α)} {tot : List β} (c : α → Option Bool) (f : α → Option β) (hm : (mxs.bind fun xs => compM c f xs) = some tot) (hc : X.calm = true) (hN : X.N.Nodup) (ok : BlkOk X.N X.env.scope scope [(x, j)]) (hi : IV X σ B O tg iter T mxs)
    (hg : ∀ (s : Shared) (H : Hp) (C : Addr) (cl : List (Str × Addr)) (fp : List Addr), PG (bl X scope s H C cl fp) tg (gName j))
    (hcnd : ∀ x v B2, Ex B B2 → T.rep B2 v x → TVb X scope ((wipe σ [j]).set j (some v)) B2 O ifs (c x))
    (hel : ∀ x v B2, Ex B B2 → T.rep B2 v x → c x = some true → ∀ s H C cl fp, EV (bl X scope s H C cl fp) ((wipe σ [j]).set j (some v)) B2 O elt U (f x))
    (I : In B O H) (k : ∀ v B1 H1, Go B H B1 H1 → (tL U).rep B1 v tot → wSs X rest D (σ.set i (some v)) H1) (h1 : ifs.length ≤ 1 := by decide) (hy : X.N[i]? = some y := by rfl) (hyl : X.env.scope.names.lookup y = some .local := by rfl)
    (hsw : swapsWith (.ListComp elt [⟨tg, iter, ifs, 0⟩] scope pos) (some (.Name y py)) spos.line X.env = pure true := by exact sw_true rfl rfl rfl (by decide +kernel)) (hs : ∀ x, foldedSetIterable iter X.env x = pure x := by intro _; rfl) :
    wSs X (.Assign [.Name y py] (.ListComp elt [⟨tg, iter, ifs, 0⟩] scope pos) spos :: rest) D σ H :=
  ss_cons (of_s (ps_setLc (own := [(x, j)]) hc hN hy hyl hsw p_i ok hg (p_tb h1) p_eb hs) (lc_go hi c f hcnd hel hm (Ex.refl _) I fun v B1 H1 g r => k v B1 H1 g r))
theorem ss_par (i j : Nat) {x y : Str} {m : Option α} {n : Option β} {z : α} {u : β} {px py pt pt2 : Pos} {kt k2 : Nat} (hm : m = some z) (hn : n = some u) (ha : EV X σ B O a T m) (hb : EV X σ B O b U n) (I : In B O H)
    (k : ∀ v w B1 H1, Go B H B1 H1 → T.rep B1 v z → U.rep B1 w u → wSs X rest D ((σ.set i (some v)).set j (some w)) H1) (hc : X.calm = true) (hN : X.N.Nodup) (hi : X.N[i]? = some x := by rfl) (hj : X.N[j]? = some y := by rfl) (hij : i ≠ j := by decide)
    (hx : X.env.scope.names.lookup x = some .local := by rfl) (hy : X.env.scope.names.lookup y = some .local := by rfl)
    (hw : swappedStores [.Tuple [.Name x px, .Name y py] kt pt] (.Tuple [a, b] k2 pt2) X.env = pure (some [x, y]) := by rfl)
    (hs : swapsWithSole [.Tuple [.Name x px, .Name y py] kt pt] (.Tuple [a, b] k2 pt2) pos.line X.env = pure false := by rfl)
    (he : starEach [a, b] X.env = (false, eval a X.env) :: starEach [b] X.env := by rfl) (he2 : starEach [b] X.env = (false, eval b X.env) :: starEach [] X.env := by rfl) :
    wSs X (.Assign [.Tuple [.Name x px, .Name y py] kt pt] (.Tuple [a, b] k2 pt2) pos :: rest) D σ H := by
  refine ss_cons (of_s (ps_par hc hN hi hj hij hx hy p_a hw hs) ?_)
  refine av_cons (ha z hm) (av_cons (hb u hn) av_nil (R3 := fun B vs => ∃ v, vs = [v] ∧ U.rep B v u) (fun r g h => ⟨_, by rw [h], U.mono g.eb r⟩) he2) (R3 := fun B vs => ∃ v w, vs = [v, w] ∧ T.rep B v z ∧ U.rep B w u)
    (fun r g h => by
      obtain ⟨w, rfl, r2⟩ := h
      exact ⟨_, w, rfl, T.mono g.eb r, r2⟩) he B H (Ex.refl _) I _ fun vs B1 H1 g ⟨v, w, h1, r1, r2⟩ => ⟨v, w, h1, k v w B1 H1 g r1 r2⟩
theorem ss_if {m : Option Bool} {z : Bool} (hm : m = some z) (h : TV X σ B O c m) (I : In B O H) (k1 : z = true → ∀ B1 H1, Go B H B1 H1 → wSs X body { D with nx := wSs X rest D } σ H1) (k2 : z = false → ∀ B1 H1, Go B H B1 H1 → wSs X els { D with nx := wSs X rest D } σ H1) :
    wSs X (.If c body els pos :: rest) D σ H := by
  refine ss_cons (of_s (ps_if p_t p_ss p_ss) (h z hm B H (Ex.refl _) I _ fun B1 H1 g => ?_))
  cases z with
  | true => exact iteT (k1 rfl B1 H1 g)
  | false => exact iteF (k2 rfl B1 H1 g)
theorem ss_ret {m : Option α} {z : α} (hm : m = some z) (h : EV X σ B O e T m) (I : In B O H) (k : ∀ v B1 H1, Go B H B1 H1 → T.rep B1 v z → D.rt v H1) : wSs X (.Return (some e) pos :: rest) D σ H :=
  ss_cons (of_s (ps_ret p_e) (h z hm B H (Ex.refl _) I _ fun v B1 H1 g r => k v B1 H1 g r))
/-- l.append(e), l an own list -/
theorem ss_app (i : Nat) {x : Str} {l : Addr} {vs : List V} {m : Option α} {z : α} {np : Pos} (hm : m = some z) (h : EV X σ B O e T m) (I : In B O H) (hO : (l, HO.lst vs) ∈ O) (hl : vs.length ≤ 40000) (k : ∀ v B1 H1, Go B H B1 H1 → T.rep B1 v z → wSs X rest D σ (upd H1 l (.lst (vs ++ [v]))))
    (hN : X.N[i]? = some x := by rfl) (hv : Vis X.env.scope x := by first | exact Or.inl rfl | exact Or.inr (Or.inl rfl) | exact Or.inr (Or.inr rfl)) (hs : σ[i]? = some (some (.ref l)) := by rfl) (hd : (x == ("__debug__" : Str)) = false := by decide) (hcd : (x == ("__classdict__" : Str)) = false := by decide)
    (hbase : attributeBase (.Name x np) "append" X.env (eval (.Name x np) X.env) = eval (.Name x np) X.env := by rfl)
    (hfew : ((backTo pos (starEach [e] X.env)).all (fun x => !x.1) && (backToKw pos (keywordEach [] X.env)).all (fun x => x.1.isSome) && decide ([e].length + ([] : List Keyword).length + (if ([] : List Keyword).isEmpty then 0 else 1) < 30)) = true := by rfl)
    (hline : (apos.endLine == pos.line) = true := by rfl) (he : starEach [e] X.env = (false, eval e X.env) :: starEach [] X.env := by rfl) (hsw : swapsWith (.Call (.Attribute (.Name x np) "append" apos) [e] [] pos) none p.line X.env = pure false := by rfl) :
    wSs X (.Expr (.Call (.Attribute (.Name x np) "append" apos) [e] [] pos) p :: rest) D σ H := by
  refine ss_cons (of_s (ps_expr (pe_bm PySem.F.plainAttrs_list PySem.F.slot_list_append PySem.F.type_list_append mt_append (pe_var hN hv hd hcd) (pa1 he) hbase hfew hline he rfl) hsw) ?_)
  have ho := I.ow _ hO
  refine ⟨_, hs, .inl ⟨rfl, _, .inl (.inl ho.1)⟩, ?_⟩
  exact h z hm B H (Ex.refl _) I _ fun v B1 H1 g r => ⟨l, vs, v, rfl, rfl, g.eh _ _ ho.1, Nat.lt_of_le_of_lt hl (by decide), k v B1 H1 g r⟩
/-- l[i] = e, l an own list -/
theorem ss_put (i : Nat) {x : Str} {l : Addr} {vs : List V} {m : Option α} {z : α} {n : Option Nat} {j : Nat} {np sp_ : Pos} (hm : m = some z) (hn : n = some j) (h : EV X σ B O e T m) (hb : EV X σ B O b tN n) (I : In B O H) (hO : (l, HO.lst vs) ∈ O) (hj : j < vs.length) (k : ∀ v B1 H1, Go B H B1 H1 → T.rep B1 v z → wSs X rest D σ (upd H1 l (.lst (vs.set j v))))
    (hN : X.N[i]? = some x := by rfl) (hv : Vis X.env.scope x := by first | exact Or.inl rfl | exact Or.inr (Or.inl rfl) | exact Or.inr (Or.inr rfl)) (hs : σ[i]? = some (some (.ref l)) := by rfl) (hd : (x == ("__debug__" : Str)) = false := by decide) (hcd : (x == ("__classdict__" : Str)) = false := by decide)
    (ht : ∀ (v : Value), assign (.Subscript (.Name x np) b sp_) X.env v = (do
      let ov ← holding [v] (eval (.Name x np) X.env)
      let iv ← holding [v, ov] (eval b X.env)
      standAt sp_
      holding [v, ov, iv] (setItem ov iv v)
      release [v, ov, iv] []) := by intro _; rfl)
    (h1 : swapsWithSole [.Subscript (.Name x np) b sp_] e pos.line X.env = pure false := by rfl) (h2 : swappedStores [.Subscript (.Name x np) b sp_] e X.env = pure none := by rfl) (h3 : List.map (fun x => x.2) (assignEach [.Subscript (.Name x np) b sp_] X.env) = [assign (.Subscript (.Name x np) b sp_) X.env] := by rfl) :
    wSs X (.Assign [.Subscript (.Name x np) b sp_] e pos :: rest) D σ H := by
  refine ss_cons (of_s (ps_asg p_e (pg_sub (pe_var hN hv hd hcd) p_e set_list ht) h1 h2 h3) ?_)
  have ho := I.ow _ hO
  refine h z hm B H (Ex.refl _) I _ fun v B1 H1 g r => ⟨_, hs, ?_⟩
  refine hb j hn B1 H1 g.eb (I.go g) _ fun w B2 H2 g2 r2 => ?_
  cases r2
  refine ⟨l, vs, (j : Int), j, rfl, rfl, g2.eh _ _ (g.eh _ _ ho.1), ?_, k v B2 H2 (g.trans g2) (T.mono g2.eb r)⟩
  unfold ixN
  rw [if_pos (Int.natCast_nonneg j), if_pos (by omega)]
  rfl
theorem ss_for (j : Nat) {iter : Expr} {m : Option (List α)} {xs : List α} (hm : m = some xs) (hi : IV X σ B O tg iter T m) (I : In B O H) (Pv : Hp → List α → L2.St → Hp → Prop) (h0 : ∀ B1 H1, Go B H B1 H1 → Pv B1 xs σ H1)
    (hO : ∀ B1 rem σ' H', Pv B1 rem σ' H' → Ex B1 H' ∧ ∀ p ∈ O, H' p.1 = some p.2)
    (hs : ∀ B1 x rem v σ' H', Ex B B1 → T.rep B1 v x → Pv B1 (x :: rem) σ' H' → wSs X body { D with nx := Pv B1 rem, ct := Pv B1 rem, bk := wSs X rest D } (σ'.set j (some v)) H')
    (hd : ∀ B1 σ' H', Ex B B1 → Pv B1 [] σ' H' → wSs X rest D σ' H') (hp : PassesOwn (model X.prog X.w) X.A X.env X.xe) (hc : X.calm = true) (hg : PG X tg (gName j)) (hf : ∀ x, foldedSetIterable iter X.env x = pure x := by intro _; rfl) :
    wSs X (.For tg iter body [] pos :: rest) D σ H := by
  refine ss_cons (of_s (ps_for hp hc p_i hg p_ss hf) ?_)
  refine hi xs hm B H (Ex.refl _) I _ fun J B1 H1 vs g sr r hl => ?_
  obtain ⟨G, w, hG⟩ := sr.ex
  refine for_it (D := { D with nx := wSs X rest D }) w (fun i σ' H' => Pv B1 (xs.drop i) σ' H') (h0 B1 H1 g) ?_ ?_ ?_
  · intro i σ' H' hi hp
    exact hG H' (hO _ _ _ _ hp).1 (hO _ _ _ _ hp).2
  · intro i x σ' H' H'' hin hp ⟨e1, hx⟩
    subst e1
    obtain ⟨y, hy, ry⟩ := r.get hx
    have hd : xs.drop i = y :: xs.drop (i + 1) := by
      have hlt := (List.getElem?_eq_some_iff.mp hy)
      rw [List.drop_eq_getElem_cons hlt.1, hlt.2]
    rw [hd] at hp
    exact hs B1 y (xs.drop (i + 1)) x σ' _ g.eb ry hp
  · intro σ' H' hp
    have hn : xs.drop vs.length = [] := by rw [r.len]; exact List.drop_length
    rw [hn] at hp
    exact hd B1 σ' H' g.eb hp
end
end Ly
namespace Ly
open PySem PySem.Spec PyProof.Rows L2 TL
/-! ### the closer -/
structure Clo where
  things : List Nat
  closed : List (List Nat)
  table : List Nat
def tCl (cw : Crew) (C : Addr) : Ty Clo := ⟨fun B v c => ∃ a dx vl vf vt, v = .ref a ∧ B a = some (.ins C dx [(("letters" : Str), vl), (("family" : Str), vf), (("table" : Str), vt)]) ∧ (tS cw).rep B vl c.things ∧ (tT (tS cw)).rep B vf c.closed ∧ (tT tN).rep B vt c.table,
  fun e ⟨a, dx, vl, vf, vt, h1, h2, h3, h4, h5⟩ => ⟨a, dx, vl, vf, vt, h1, e _ _ h2, (tS cw).mono e h3, (tT (tS cw)).mono e h4, (tT tN).mono e h5⟩⟩
/-- what the top has made of the class -/
structure ClF (P : Program) (w : World) (K : PySem.W.Frag) (mg : Str → Option Value) (base : Heap) (C : Addr) : Prop where
  cl : Cls K C
  ic : C8.InsC K C
  mgC : mg "Closer" = some (.ref C)
  nL : NoAttr K C "letters"
  nF : NoAttr K C "family"
  nT : NoAttr K C "table"
  pT : ∃ p g fd, PropOf K C "things" p g ∧ FnOk P w K mg base CX0 1 g fd ["self"] (getSp C "letters") ∧ Binds K fd ["self"] []
  pC : ∃ p g fd, PropOf K C "closed" p g ∧ FnOk P w K mg base CX0 1 g fd ["self"] (getSp C "family") ∧ Binds K fd ["self"] []
section
variable {X : Cx} {σ : L2.St} {B H : Hp} {O : Own} {a b c e tg : Expr} {es : List Expr} {pos p apos : Pos} {α β γ δ : Type} {T : Ty α} {U : Ty β} {S : Ty γ} {W : Ty δ} {cw : Crew} {D : Ends} {rest els body : List Stmt} {st : Stmt} {C : Addr}
theorem lk_l {a b c : V} : List.lookup ("letters" : Str) [(("letters" : Str), a), (("family" : Str), b), (("table" : Str), c)] = some a := by
  have h : (("letters" : Str) == ("letters" : Str)) = true := by decide +kernel
  rw [List.lookup_cons, h]
theorem lk_f {a b c : V} : List.lookup ("family" : Str) [(("letters" : Str), a), (("family" : Str), b), (("table" : Str), c)] = some b := by
  have h : (("family" : Str) == ("letters" : Str)) = false := by decide +kernel
  have h2 : (("family" : Str) == ("family" : Str)) = true := by decide +kernel
  rw [List.lookup_cons, h, List.lookup_cons, h2]
theorem lk_t {a b c : V} : List.lookup ("table" : Str) [(("letters" : Str), a), (("family" : Str), b), (("table" : Str), c)] = some c := by
  have h : (("table" : Str) == ("letters" : Str)) = false := by decide +kernel
  have h2 : (("table" : Str) == ("family" : Str)) = false := by decide +kernel
  have h3 : (("table" : Str) == ("table" : Str)) = true := by decide +kernel
  rw [List.lookup_cons, h, List.lookup_cons, h2, List.lookup_cons, h3]
theorem ev_fldT {m : Option Clo} (F : ClF X.prog X.w X.K X.mg X.base C) (ha : EV X σ B O a (tCl cw C) m) (hb : attributeBase a "table" X.env (eval a X.env) = eval a X.env := by rfl) : EV X σ B O (.Attribute a "table" pos) (tT tN) (m.bind fun c => some c.table) := by
  intro z hz B1 H e I Q q
  cases m with
  | none => cases hz
  | some c =>
    cases hz
    refine of_e (pe_fld p_e hb) (ha c rfl B1 H e I _ fun v B2 H2 g2 ⟨l, dx, vl, vf, vt, h1, h2, h3, h4, h5⟩ => ?_)
    exact ⟨l, C, dx, _, vt, h1, g2.bh _ _ h2, F.cl, F.nT, lk_t, q _ B2 H2 g2 h5⟩
theorem ev_fldL {m : Option Clo} (F : ClF X.prog X.w X.K X.mg X.base C) (ha : EV X σ B O a (tCl cw C) m) (hb : attributeBase a "letters" X.env (eval a X.env) = eval a X.env := by rfl) : EV X σ B O (.Attribute a "letters" pos) (tS cw) (m.bind fun c => some c.things) := by
  intro z hz B1 H e I Q q
  cases m with
  | none => cases hz
  | some c =>
    cases hz
    refine of_e (pe_fld p_e hb) (ha c rfl B1 H e I _ fun v B2 H2 g2 ⟨l, dx, vl, vf, vt, h1, h2, h3, h4, h5⟩ => ?_)
    exact ⟨l, C, dx, _, vl, h1, g2.bh _ _ h2, F.cl, F.nL, lk_l, q _ B2 H2 g2 h3⟩
theorem ev_things {m : Option Clo} (F : ClF X.prog X.w X.K X.mg X.base C) (hr : Room 2 X.A) (ha : EV X σ B O a (tCl cw C) m) (hb : attributeBase a "things" X.env (eval a X.env) = eval a X.env := by rfl) : EV X σ B O (.Attribute a "things" pos) (tS cw) (m.bind fun c => some c.things) := by
  intro z hz B1 H e I Q q
  cases m with
  | none => cases hz
  | some c =>
    cases hz
    obtain ⟨p, g, fd, h6, h7, h8⟩ := F.pT
    refine of_e (pe_prop p_e F.cl h6 h7 hr h8 .nil pass0 hb) (ha c rfl B1 H e I _ fun v B2 H2 g2 ⟨l, dx, vl, vf, vt, h1, h2, h3, h4, h5⟩ => ?_)
    exact ⟨l, dx, _, h1, g2.bh _ _ h2, l, dx, _, vl, rfl, g2.bh _ _ h2, lk_l, q _ B2 H2 g2 h3⟩
theorem ev_closed {m : Option Clo} (F : ClF X.prog X.w X.K X.mg X.base C) (hr : Room 2 X.A) (ha : EV X σ B O a (tCl cw C) m) (hb : attributeBase a "closed" X.env (eval a X.env) = eval a X.env := by rfl) : EV X σ B O (.Attribute a "closed" pos) (tT (tS cw)) (m.bind fun c => some c.closed) := by
  intro z hz B1 H e I Q q
  cases m with
  | none => cases hz
  | some c =>
    cases hz
    obtain ⟨p, g, fd, h6, h7, h8⟩ := F.pC
    refine of_e (pe_prop p_e F.cl h6 h7 hr h8 .nil pass0 hb) (ha c rfl B1 H e I _ fun v B2 H2 g2 ⟨l, dx, vl, vf, vt, h1, h2, h3, h4, h5⟩ => ?_)
    exact ⟨l, dx, _, h1, g2.bh _ _ h2, l, dx, _, vf, rfl, g2.bh _ _ h2, lk_f, q _ B2 H2 g2 h4⟩
/-! ### isinstance -/
theorem isi_of {m : Option α} {n : Str} {ty : String} {p2 : Pos} (hb : Bt X.mg) (hn : bootBuiltins n = some (.type ty)) (hmn : X.mg n = none) (hgn : Gl X n) (hnn : n ≠ "__name__") (hnd : (n == ("__debug__" : Str)) = false) (ha : EV X σ B O a T m) (ty2 : String) (hk : kitB ty2 ty = some true) (ht : ∀ {B H v x}, Ex B H → T.rep B v x → TyX X.K H v (.type ty2))
    (hg : Gl X "isinstance") (he : starEach [a, .Name n p2] X.env = (false, eval a X.env) :: starEach [.Name n p2] X.env) :
    EV X σ B O (.Call (.Name "isinstance" p) [a, .Name n p2] [] pos) tB (m.bind fun _ => some true) := by
  intro z hz B1 H e I Q q
  cases m with
  | none => cases hz
  | some x =>
    cases hz
    refine of_e (pe_callB call_isi hg hb.isinstance boot_isinstance (pa_cons p_e (pa_cons (pe_bltn (v := .ty ty) hgn hmn hn rfl hnn hnd) pa_nil rfl) he) (by decide) (by decide) he rfl) ?_
    refine ha x rfl B1 H e I _ fun v B2 H2 g2 r2 => ?_
    exact ⟨v, .ty ty, _, .type ty, true, rfl, .ty _, ht g2.bh r2, kit_ty hk, q _ B2 H2 g2 rfl⟩
theorem ev_isiS {m : Option (List Nat)} {p2 : Pos} (hb : Bt X.mg) (ha : EV X σ B O a (tS cw) m) (hg : Gl X "isinstance" := by rfl) (hgn : Gl X "str" := by rfl) (he : starEach [a, .Name "str" p2] X.env = (false, eval a X.env) :: starEach [.Name "str" p2] X.env := by rfl) :
    EV X σ B O (.Call (.Name "isinstance" p) [a, .Name "str" p2] [] pos) tB (m.bind fun _ => some true) :=
  isi_of (ty := "str") hb (by decide +kernel) hb.str hgn (by decide) (by decide) ha "str" (by decide +kernel) (fun e r => by
    rw [r.1]
    exact .base (.str _)) hg he
theorem ev_isiC {m : Option Nat} {p2 : Pos} (hb : Bt X.mg) (ha : EV X σ B O a (tC cw) m) (hg : Gl X "isinstance" := by rfl) (hgn : Gl X "str" := by rfl) (he : starEach [a, .Name "str" p2] X.env = (false, eval a X.env) :: starEach [.Name "str" p2] X.env := by rfl) :
    EV X σ B O (.Call (.Name "isinstance" p) [a, .Name "str" p2] [] pos) tB (m.bind fun _ => some true) :=
  isi_of (ty := "str") hb (by decide +kernel) hb.str hgn (by decide) (by decide) ha "str" (by decide +kernel) (fun e r => by
    rw [r.1]
    exact .base (.str _)) hg he
theorem ev_isiT {m : Option (List α)} {p2 : Pos} (hb : Bt X.mg) (ha : EV X σ B O a (tT T) m) (hg : Gl X "isinstance" := by rfl) (hgn : Gl X "tuple" := by rfl) (he : starEach [a, .Name "tuple" p2] X.env = (false, eval a X.env) :: starEach [.Name "tuple" p2] X.env := by rfl) :
    EV X σ B O (.Call (.Name "isinstance" p) [a, .Name "tuple" p2] [] pos) tB (m.bind fun _ => some true) :=
  isi_of (ty := "tuple") hb (by decide +kernel) hb.tuple hgn (by decide) (by decide) ha "tuple" (by decide +kernel) (fun e ⟨l, vs, h1, h2, _⟩ => by
    rw [h1]
    exact .base (.tup (e _ _ h2))) hg he
theorem ev_isiO {m : Option Clo} {p2 : Pos} (hb : Bt X.mg) (F : ClF X.prog X.w X.K X.mg X.base C) (ha : EV X σ B O a (tCl cw C) m) (hg : Gl X "isinstance" := by rfl) (hgn : Gl X "Closer" := by rfl) (he : starEach [a, .Name "Closer" p2] X.env = (false, eval a X.env) :: starEach [.Name "Closer" p2] X.env := by rfl) :
    EV X σ B O (.Call (.Name "isinstance" p) [a, .Name "Closer" p2] [] pos) tB (m.bind fun _ => some true) := by
  intro z hz B1 H e I Q q
  cases m with
  | none => cases hz
  | some x =>
    cases hz
    refine of_e (pe_callB (C8.call_isC F.ic) hg hb.isinstance boot_isinstance (pa_cons p_e (pa_cons (pe_glob (v := .ref C) hgn F.mgC rfl (by decide)) pa_nil rfl) he) (by decide) (by decide) he rfl) ?_
    refine ha x rfl B1 H e I _ fun v B2 H2 g2 ⟨l, dx, vl, vf, vt, h1, h2, _⟩ => ?_
    subst h1
    exact ⟨l, dx, _, rfl, g2.bh _ _ h2, q _ B2 H2 g2 rfl⟩
/-! ### a chain -/
theorem ev_chain {m n l : Option Nat} (ha : EV X σ B O a tN m) (hb : EV X σ B O b tN n) (hc : EV X σ B O c tN l) (hm : lastMarks [.LtE, .LtE] [b, c] = false := by rfl) : EV X σ B O (.Compare a [.LtE, .LtE] [b, c] pos) tB (op3 (fun x y z => some (Nat.ble x y && Nat.ble y z)) m n l) := by
  intro z hz B1 H e I Q q
  obtain ⟨x, y, u, rfl, rfl, rfl, hf⟩ := op3_some hz
  cases hf
  refine of_e (pe_chain op_le op_le p_e p_e p_e hm) ?_
  refine ha x rfl B1 H e I _ fun v B2 H2 g2 r2 => ?_
  refine hb y rfl B2 H2 (e.trans g2.eb) (I.go g2) _ fun w B3 H3 g3 r3 => ?_
  cases r2
  cases r3
  have e1 : decide ((x : Int) ≤ (y : Int)) = Nat.ble x y := by
    rw [Bool.eq_iff_iff, decide_eq_true_eq, Nat.ble_eq]
    exact Int.ofNat_le
  refine ⟨_, _, rfl, rfl, decide ((x : Int) ≤ (y : Int)), rfl, ?_⟩
  rw [e1]
  cases hb1 : Nat.ble x y with
  | true =>
    refine iteT ?_
    refine hc u rfl B3 H3 ((e.trans g2.eb).trans g3.eb) ((I.go g2).go g3) _ fun w4 B4 H4 g4 r4 => ?_
    cases r4
    refine ⟨_, _, rfl, rfl, ?_⟩
    have e2 : decide ((y : Int) ≤ (u : Int)) = Nat.ble y u := by
      rw [Bool.eq_iff_iff, decide_eq_true_eq, Nat.ble_eq]
      exact Int.ofNat_le
    show Q (.bl (decide ((y : Int) ≤ (u : Int)))) H4
    rw [e2]
    refine q _ B4 H4 ((g2.trans g3).trans g4) ?_
    show _ = V.bl (Nat.ble x y && Nat.ble y u)
    rw [hb1]
    rfl
  | false =>
    refine iteF ?_
    refine q _ B3 H3 (g2.trans g3) ?_
    show _ = V.bl (Nat.ble x y && Nat.ble y u)
    rw [hb1]
    rfl
/-! ### a tuple of three -/
theorem ev_tup3 {m n l : Option α} {k : Nat} (ha : EV X σ B O a T m) (hb : EV X σ B O b T n) (hc : EV X σ B O c T l) (he : starEach [a, b, c] X.env = (false, eval a X.env) :: starEach [b, c] X.env := by rfl) (he2 : starEach [b, c] X.env = (false, eval b X.env) :: starEach [c] X.env := by rfl) (he3 : starEach [c] X.env = (false, eval c X.env) :: starEach [] X.env := by rfl) :
    EV X σ B O (.Tuple [a, b, c] k pos) (tT T) (op3 (fun x y z => some [x, y, z]) m n l) := by
  intro z hz B1 H e I Q q
  obtain ⟨x, y, u, rfl, rfl, rfl, hf⟩ := op3_some hz
  cases hf
  refine of_e (pe_tup p_a) (av_cons (ha x rfl) (av_cons (hb y rfl) (av_cons (hc u rfl) av_nil (R3 := fun B vs => Reps T B vs [u]) (fun r g h => by subst h; exact .cons (T.mono g.eb r) .nil) he3) (R3 := fun B vs => Reps T B vs [y, u]) (fun r g h => .cons (T.mono g.eb r) h) he2) (R3 := fun B vs => Reps T B vs [x, y, u])
    (fun r g h => .cons (T.mono g.eb r) h) he B1 H e I _ fun vs B2 H2 g2 r2 => ?_)
  have hl : vs.length ≤ 40000 := by rw [r2.len]; show 3 ≤ 40000; decide
  exact ⟨sz_of hl, fun p np => q _ _ _ (g2.trans (Go.lay g2.bh np)) ⟨p, vs, rfl, upd_same, r2.mono (Ex.new (g2.bh.free np)), hl⟩⟩
/-! ### joined -/
theorem join_codes : ∀ xs : List Nat, joinL [] (xs.map fun i => [cw.l.getD i 0]) = xs.map fun i => cw.l.getD i 0
  | [] => rfl
  | [x] => rfl
  | x :: y :: r => by
    show [cw.l.getD x 0] ++ ([] ++ joinL [] ((y :: r).map fun i => [cw.l.getD i 0])) = _
    rw [join_codes (y :: r)]
    rfl
@[reducible] def fJoin (xs : List Nat) : Option (List Nat) := if Nat.ble xs.length 100 then some xs else none
theorem repsC {vs : List V} {xs : List Nat} (h : Reps (tC cw) B vs xs) : vs = (xs.map fun i => str cw [i]).map V.str := by
  rw [List.map_map]
  exact Reps.map (T := tC cw) (f := fun x => V.str (str cw [x])) (fun v x (k : v = .str (str cw [x]) ∧ _) => k.1) h
theorem lt_of_reps {vs : List V} : ∀ {xs : List Nat}, Reps (tC cw) B vs xs → ∀ i ∈ xs, i < cw.l.length := fun h i hi => by
  obtain ⟨v, r⟩ := h.mem i hi
  exact r.2
theorem sum_one : ∀ xs : List Nat, ((xs.map fun i => str cw [i]).map (·.length)).sum = xs.length
  | [] => rfl
  | x :: xs => by
    rw [List.map_cons, List.map_cons, List.sum_cons, sum_one xs, str_len]
    show 1 + xs.length = xs.length + 1
    omega
theorem ev_join {m : Option (List Nat)} {j : Nat} {p2 : Pos} (ha : ES X σ B O a (tC cw) m) (he : starEach [a] X.env = [(false, eval a X.env)] := by rfl) (hb : attributeBase (.Constant (.str "") j p2) "join" X.env (eval (.Constant (.str "") j p2) X.env) = eval (.Constant (.str "") j p2) X.env := by rfl) (hl : (apos.endLine == pos.line) = true := by rfl) :
    EV X σ B O (.Call (.Attribute (.Constant (.str "") j p2) "join" apos) [a] [] pos) (tS cw) (m.bind fJoin) := by
  intro z hz B1 H e I Q q
  cases m with
  | none => cases hz
  | some xs =>
    have hz : fJoin xs = some z := hz
    unfold fJoin at hz
    split at hz
    · rename_i h
      have h := Nat.le_of_ble_eq_true h
      cases hz
      refine of_e (pe_join pe_str p_e he hb hl) ⟨⟨_, rfl⟩, ?_⟩
      refine ha z rfl B1 H e I _ fun v B2 H2 g2 ⟨l, vs, h1, h2, h3, h4, h5⟩ => ?_
      refine ⟨("" : Str), l, z.map fun i => str cw [i], rfl, by rw [h1], .inl (by rw [← repsC h3]; exact SqL.of h2), ?_, q _ B2 H2 g2 ⟨?_, lt_of_reps h3, h⟩⟩
      · rw [sum_one, List.length_map]
        show z.length + z.length * 0 ≤ 16777216
        omega
      · refine congrArg V.str ?_
        rw [join_eq]
        have e1 := tl_join ("" : Str) (z.map fun i => str cw [i])
        have e2 : (z.map fun i => str cw [i]).map tl = z.map fun i => [cw.l.getD i 0] := by
          rw [List.map_map]
          rfl
        rw [e2, show tl ("" : Str) = [] by rfl, join_codes] at e1
        unfold str
        rw [← e1]
        show _ = (⟨(Str.join ("" : Str) (z.map fun i => str cw [i])).cps.toList.toArray⟩ : Str)
        rw [Array.toArray_toList]
        rfl
    · cases hz
/-! ### sequences compared -/
structure Dat (T : Ty α) (d : α → PyData) (eq : α → α → Bool) : Prop where
  dp : ∀ {K : PySem.W.Frag} {B H : Hp} {v x}, Ex B H → T.rep B v x → Dp K H v (d x)
  lay : ∀ {B v x}, T.rep B v x → (d x).canLay0 = true ∧ (d x).depth ≤ 10
  eqv : ∀ {B B' v x w y}, T.rep B v x → T.rep B' w y → PyData.eqv (d x) (d y) = eq x y
theorem strOk_str {s : List Nat} (h : ∀ i ∈ s, i < cw.l.length) : PyData.strOk (str cw s) = true := by
  unfold PyData.strOk
  rw [← Array.all_toList, str_list, List.all_eq_true]
  intro c hc
  obtain ⟨i, hi, rfl⟩ := List.mem_map.mp hc
  have hl := h i hi
  have e1 : cw.l.getD i 0 = cw.l[i] := by rw [List.getD_eq_getElem?_getD, List.getElem?_eq_getElem hl]; rfl
  have hb := (cw.low _ (List.getElem_mem hl)).2
  rw [e1]
  exact decide_eq_true (by omega)
theorem datS : Dat (tS cw) (fun s => .str (str cw s)) (fun x y => x == y) := ⟨fun {K B H v x} e r => by rw [r.1]; exact .str _, fun {B v x} r => ⟨by unfold PyData.canLay0; exact strOk_str r.2.1, by unfold PyData.depth; exact Nat.zero_le _⟩, fun {B B' v x w y} r r' => by
  show ((str cw x : Str) == str cw y) = (x == y)
  rw [← str_dec r.2.1 r'.2.1, dec_str]⟩
theorem datC : Dat (tC cw) (fun i => .str (str cw [i])) Nat.beq := ⟨fun {K B H v x} e r => by rw [r.1]; exact .str _, fun {B v x} r => ⟨by unfold PyData.canLay0; exact strOk_str (tC_ok r).2, by unfold PyData.depth; exact Nat.zero_le _⟩, fun {B B' v x w y} r r' => by
  show ((str cw [x] : Str) == str cw [y]) = Nat.beq x y
  rw [← dec_str, str_dec (tC_ok r).2 (tC_ok r').2, Bool.eq_iff_iff]
  simp⟩
theorem datN : Dat tN (fun n => .int (n : Int)) Nat.beq := ⟨fun {K B H v x} e r => by cases r; exact .int _, fun {B v x} r => ⟨by unfold PyData.canLay0; rfl, by unfold PyData.depth; exact Nat.zero_le _⟩, fun {B B' v x w y} r r' => by
  show ((x : Int) == (y : Int)) = Nat.beq x y
  rw [Bool.eq_iff_iff]
  simp only [beq_iff_eq, Nat.beq_eq]
  exact ⟨fun h => Int.ofNat.inj h, fun h => by rw [h]⟩⟩
def eqL {α : Type} (eq : α → α → Bool) : List α → List α → Bool
  | [], [] => true
  | x :: xs, y :: ys => eq x y && eqL eq xs ys
  | _, _ => false
variable {d : α → PyData} {eq : α → α → Bool}
theorem dpAll {K : PySem.W.Frag} (D : Dat T d eq) (e : Ex B H) : ∀ {vs : List V} {xs : List α}, Reps T B vs xs → DpAll K H vs (xs.map d)
  | _, _, .nil => .nil
  | _, _, .cons h t => .cons (D.dp e h) (dpAll D e t)
theorem layAll (D : Dat T d eq) : ∀ {vs : List V} {xs : List α}, Reps T B vs xs → PyData.canLayAll0 (xs.map d) = true ∧ PyData.depthAll (xs.map d) ≤ 10
  | _, _, .nil => ⟨by unfold List.map PyData.canLayAll0; rfl, by unfold List.map PyData.depthAll; exact Nat.zero_le _⟩
  | _, _, .cons h t => by
    obtain ⟨h1, h2⟩ := layAll D t
    obtain ⟨h3, h4⟩ := D.lay h
    rw [List.map_cons]
    refine ⟨?_, ?_⟩
    · unfold PyData.canLayAll0
      rw [h1, h3]
      rfl
    · unfold PyData.depthAll
      omega
theorem eqvAll_of (D : Dat T d eq) {B' : Hp} : ∀ {vs ws : List V} {xs ys : List α}, Reps T B vs xs → Reps T B' ws ys → PyData.eqvAll (xs.map d) (ys.map d) = eqL eq xs ys
  | _, _, _, _, .nil, .nil => rfl
  | _, _, _, _, .nil, .cons _ _ => rfl
  | _, _, _, _, .cons _ _, .nil => rfl
  | _, _, _, _, .cons h t, .cons h' t' => by
    show (PyData.eqv _ _ && PyData.eqvAll _ _) = (eq _ _ && eqL eq _ _)
    rw [D.eqv h h', eqvAll_of D t t']
theorem shapedL {ds : List PyData} (h : PyData.canLayAll0 ds = true ∧ PyData.depthAll ds ≤ 10) : SeqAt.shaped (.list ds) = true := by
  unfold SeqAt.shaped PyData.canLay0 PyData.depth
  rw [h.1, decide_eq_true (by omega)]
  rfl
theorem shapedT {ds : List PyData} (h : PyData.canLayAll0 ds = true ∧ PyData.depthAll ds ≤ 10) : SeqAt.shaped (.tuple ds) = true := by
  unfold SeqAt.shaped PyData.canLay0 PyData.depth
  rw [h.1, decide_eq_true (by omega)]
  rfl
theorem cv_eqL {m n : Option (List α)} (D : Dat T d eq) (hu : X.A.units + 64 < cLine) (ha : ES X σ B O a T m) (hb : ES X σ B O b T n) : CV X σ B O (.Compare a [.Eq] [b] pos) (op2 (fun x y => some (eqL eq x y)) m n) := by
  refine cv_of (op_eqD hu) (nomark _) p_e fun z hz B1 H e I Q q => ?_
  obtain ⟨xs, ys, rfl, rfl, hf⟩ := op2_some hz
  cases hf
  refine ha xs rfl B1 H e I _ fun v B2 H2 g2 ⟨l, vs, h1, h2, h3, h4, h5⟩ => ?_
  refine hb ys rfl B2 H2 (e.trans g2.eb) (I.go g2) _ fun w B3 H3 g3 ⟨l2, ws, k1, k2, k3, k4, k5⟩ => ?_
  subst h1
  subst k1
  have lx := layAll D h3
  have ly := layAll D k3
  refine ⟨.list (xs.map d), .list (ys.map d), .lst (SqL.of (g3.eh _ _ h2)) (dpAll D g3.bh (h3.mono g3.eb)), .lst (SqL.of k2) (dpAll D g3.bh k3), ?_, ?_, ?_⟩
  · exact shapedL lx
  · exact shapedL ly
  · rw [show PyData.eqv (.list (xs.map d)) (.list (ys.map d)) = eqL eq xs ys from eqvAll_of D h3 k3]
    exact q B3 H3 (g2.trans g3)
theorem cv_neL {m n : Option (List α)} (D : Dat T d eq) (hu : X.A.units + 64 < cLine) (ha : ES X σ B O a T m) (hb : ES X σ B O b T n) : CV X σ B O (.Compare a [.NotEq] [b] pos) (op2 (fun x y => some (!eqL eq x y)) m n) := by
  refine cv_of (op_neD hu) (nomark _) p_e fun z hz B1 H e I Q q => ?_
  obtain ⟨xs, ys, rfl, rfl, hf⟩ := op2_some hz
  cases hf
  refine ha xs rfl B1 H e I _ fun v B2 H2 g2 ⟨l, vs, h1, h2, h3, h4, h5⟩ => ?_
  refine hb ys rfl B2 H2 (e.trans g2.eb) (I.go g2) _ fun w B3 H3 g3 ⟨l2, ws, k1, k2, k3, k4, k5⟩ => ?_
  subst h1
  subst k1
  have lx := layAll D h3
  have ly := layAll D k3
  refine ⟨.list (xs.map d), .list (ys.map d), .lst (SqL.of (g3.eh _ _ h2)) (dpAll D g3.bh (h3.mono g3.eb)), .lst (SqL.of k2) (dpAll D g3.bh k3), ?_, ?_, ?_⟩
  · exact shapedL lx
  · exact shapedL ly
  · rw [show PyData.eqv (.list (xs.map d)) (.list (ys.map d)) = eqL eq xs ys from eqvAll_of D h3 k3]
    exact q B3 H3 (g2.trans g3)
theorem cv_neT {m n : Option (List α)} (D : Dat T d eq) (hu : X.A.units + 64 < cLine) (ha : EV X σ B O a (tT T) m) (hb : EV X σ B O b (tT T) n) : CV X σ B O (.Compare a [.NotEq] [b] pos) (op2 (fun x y => some (!eqL eq x y)) m n) := by
  refine cv_of (op_neD hu) (nomark _) p_e fun z hz B1 H e I Q q => ?_
  obtain ⟨xs, ys, rfl, rfl, hf⟩ := op2_some hz
  cases hf
  refine ha xs rfl B1 H e I _ fun v B2 H2 g2 ⟨l, vs, h1, h2, h3, h4⟩ => ?_
  refine hb ys rfl B2 H2 (e.trans g2.eb) (I.go g2) _ fun w B3 H3 g3 ⟨l2, ws, k1, k2, k3, k4⟩ => ?_
  subst h1
  subst k1
  have lx := layAll D h3
  have ly := layAll D k3
  refine ⟨.tuple (xs.map d), .tuple (ys.map d), .tup (SqT.of (g3.eh _ _ (g2.bh _ _ h2))) (dpAll D g3.bh (h3.mono g3.eb)), .tup (SqT.of (g3.bh _ _ k2)) (dpAll D g3.bh k3), ?_, ?_, ?_⟩
  · exact shapedT lx
  · exact shapedT ly
  · rw [show PyData.eqv (.tuple (xs.map d)) (.tuple (ys.map d)) = eqL eq xs ys from eqvAll_of D h3 k3]
    exact q B3 H3 (g2.trans g3)
/-! ### statements, further -/
theorem ss_do {m : Option α} {z : α} (hm : m = some z) (h : EV X σ B O e T m) (I : In B O H) (k : ∀ v B1 H1, Go B H B1 H1 → T.rep B1 v z → wSs X rest D σ H1) (hs : swapsWith e none pos.line X.env = pure false := by rfl) : wSs X (.Expr e pos :: rest) D σ H :=
  ss_cons (of_s (ps_expr p_e hs) (h z hm B H (Ex.refl _) I _ fun v B1 H1 g r => k v B1 H1 g r))
end
theorem In.nil {B H : Hp} {O : Own} (I : In B O H) : In B [] H := ⟨I.ex, fun _ h => nomatch h⟩
theorem In.one {B H : Hp} {l : Addr} {o : HO} (e : Ex B H) (h : H l = none) : In B [(l, o)] (upd H l o) := ⟨e.mut (e.free h), fun p hp => by
  rw [List.mem_singleton.mp hp]
  exact ⟨upd_same, e.free h⟩⟩
theorem In.put {B H : Hp} {l : Addr} {o u : HO} (I : In B [(l, o)] H) : In B [(l, u)] (upd H l u) := ⟨I.ex.mut (I.ow _ List.mem_cons_self).2, fun p hp => by
  rw [List.mem_singleton.mp hp]
  exact ⟨upd_same, (I.ow _ List.mem_cons_self).2⟩⟩
theorem Go.put {B0 H0 B H : Hp} {l : Addr} {o u : HO} (g : Go B0 H0 B H) (h0 : H0 l = none) (I : In B [(l, o)] H) : Go B0 H0 B (upd H l u) := g.app h0 (I.ow _ List.mem_cons_self).2
theorem Go.new {B0 H0 B H : Hp} {l : Addr} {u : HO} (g : Go B0 H0 B H) (h : H l = none) : Go B0 H0 B (upd H l u) := g.app (g.eh.free h) (g.bh.free h)
/-- an own object is from here on never changed -/
theorem frz {B0 H0 B H : Hp} {l : Addr} {o : HO} (g : Go B0 H0 B H) (e0 : Ex B0 H0) (h0 : H0 l = none) (I : In B [(l, o)] H) : Go B0 H0 (upd B l o) H ∧ In (upd B l o) [] H ∧ Ex B (upd B l o) :=
  ⟨g.seal (e0.free h0) h0 (I.ow _ List.mem_cons_self).1, ⟨I.ex.put (I.ow _ List.mem_cons_self).1, fun _ h => nomatch h⟩, Ex.new (I.ow _ List.mem_cons_self).2⟩
theorem forK_step {α σ ρ : Type} {body : α → σ → (σ → Option ρ) → Option ρ} {after : σ → Option ρ} {x : α} {xs : List α} {st : σ} {r : ρ} (h : forK body after (x :: xs) st = some r) : ∃ k, (k = fun st' => forK body after xs st') ∧ body x st k = some r := ⟨_, rfl, h⟩
theorem forK_end {α σ ρ : Type} {body : α → σ → (σ → Option ρ) → Option ρ} {after : σ → Option ρ} {st : σ} {r : ρ} (h : forK body after [] st = some r) : after st = some r := h
theorem ifT {ρ : Type} {b : Bool} {x y : Option ρ} {r : ρ} (hz : b = true) (h : (bif b then x else y) = some r) : x = some r := by
  subst hz
  exact h
theorem ifF {ρ : Type} {b : Bool} {x y : Option ρ} {r : ρ} (hz : b = false) (h : (bif b then x else y) = some r) : y = some r := by
  subst hz
  exact h
theorem frzL {α : Type} {T : Ty α} {B0 H0 B H : Hp} {l : Addr} {vs : List V} {xs : List α} (g : Go B0 H0 B H) (e0 : Ex B0 H0) (h0 : H0 l = none) (I : In B [(l, .lst vs)] H) (r : Reps T B vs xs) (hl : vs.length ≤ 40000) : ∃ B', Go B0 H0 B' H ∧ In B' [] H ∧ Ex B B' ∧ (tL T).rep B' (.ref l) xs := by
  obtain ⟨h1, h2, h3⟩ := frz g e0 h0 I
  exact ⟨_, h1, h2, h3, l, vs, rfl, upd_same, r.mono h3, hl⟩
/-- a def of the text as it stands behind the top -/
structure Df (K : PySem.W.Frag) (mg : Str → Option Value) (x : Str) (st : Stmt) (ps : List Str) : Prop where
  ex : ∃ (f : Addr) (fd : FuncData), Fun K x x st f fd ∧ mg x = some (.ref f) ∧ Binds K fd ps []
section
variable {X : Cx} {σ : L2.St} {B H : Hp} {O : Own} {a b c e tg : Expr} {es : List Expr} {pos p apos : Pos} {α β γ δ : Type} {T : Ty α} {U : Ty β} {S : Ty γ} {W : Ty δ} {cw : Crew} {D : Ends} {rest els body : List Stmt} {st : Stmt} {C : Addr}
theorem ev_some {m : Option α} (ha : EV X σ B O a T m) (hn : ∀ {B v x}, T.rep B v x → v ≠ .non) : EV X σ B O a (tO T) (m.bind fun x => some (some x)) := by
  intro z hz B1 H e I Q q
  cases m with
  | none => cases hz
  | some x =>
    cases hz
    exact ha x rfl B1 H e I Q fun v B2 H2 g2 r2 => q v B2 H2 g2 ⟨r2, hn r2⟩
theorem nnN {B : Hp} {v : V} {x : Nat} (h : tN.rep B v x) : v ≠ .non := by
  cases h
  exact fun z => nomatch z
theorem nnT {B : Hp} {v : V} {x : List α} (h : (tT T).rep B v x) : v ≠ .non := by
  obtain ⟨a, vs, rfl, _⟩ := h
  exact fun z => nomatch z
theorem ev_noneO {j : Nat} : EV X σ B O (.Constant .none j pos) (tO T) (some none) := by
  intro z hz B1 H e I Q q
  cases hz
  exact of_e pe_non (q _ B1 H (Go.refl I.ex) rfl)
/-- the same where a name is captured: by way of the tuple -/
theorem ss_parT (i j : Nat) {x y : Str} {m : Option α} {n : Option β} {z : α} {u : β} {px py pt pt2 : Pos} {kt k2 : Nat} (hm : m = some z) (hn : n = some u) (ha : EV X σ B O a T m) (hb : EV X σ B O b U n) (I : In B O H)
    (k : ∀ v w B1 H1, Go B H B1 H1 → T.rep B1 v z → U.rep B1 w u → wSs X rest D ((σ.set i (some v)).set j (some w)) H1) (hc : X.calm = true) (hN : X.N.Nodup) (hi : X.N[i]? = some x := by rfl) (hj : X.N[j]? = some y := by rfl)
    (hx : L2.Loc X.env.scope x := by first | exact Or.inl rfl | exact Or.inr rfl) (hy : L2.Loc X.env.scope y := by first | exact Or.inl rfl | exact Or.inr rfl)
    (fx : X.fn x = true ∨ X.env.scope.names.lookup x = some .local := by first | exact .inl rfl | exact .inr rfl) (fy : X.fn y = true ∨ X.env.scope.names.lookup y = some .local := by first | exact .inl rfl | exact .inr rfl)
    (h1 : swapsWithSole [.Tuple [.Name x px, .Name y py] kt pt] (.Tuple [a, b] k2 pt2) pos.line X.env = pure false := by rfl) (h2 : swappedStores [.Tuple [.Name x px, .Name y py] kt pt] (.Tuple [a, b] k2 pt2) X.env = pure none := by rfl)
    (h3 : List.map (fun x => x.2) (assignEach [.Tuple [.Name x px, .Name y py] kt pt] X.env) = [assign (.Tuple [.Name x px, .Name y py] kt pt) X.env] := by rfl)
    (he : starEach [a, b] X.env = (false, eval a X.env) :: starEach [b] X.env := by rfl) (he2 : starEach [b] X.env = (false, eval b X.env) :: starEach [] X.env := by rfl) :
    wSs X (.Assign [.Tuple [.Name x px, .Name y py] kt pt] (.Tuple [a, b] k2 pt2) pos :: rest) D σ H := by
  refine ss_cons (of_s (ps_asg (pe_tup p_a) (pg_tup hc (pgs_cons (pg_name hN hi hx fx) (pgs_cons (pg_name hN hj hy fy) pgs_nil)) rfl rfl) h1 h2 h3) ?_)
  refine av_cons (ha z hm) (av_cons (hb u hn) av_nil (R3 := fun B vs => ∃ v, vs = [v] ∧ U.rep B v u) (fun r g h => ⟨_, by rw [h], U.mono g.eb r⟩) he2) (R3 := fun B vs => ∃ v w, vs = [v, w] ∧ T.rep B v z ∧ U.rep B w u)
    (fun r g h => by
      obtain ⟨w, rfl, r2⟩ := h
      exact ⟨_, w, rfl, T.mono g.eb r, r2⟩) he B H (Ex.refl _) I _ fun vs B1 H1 g ⟨v, w, h1, r1, r2⟩ => ?_
  subst h1
  refine ⟨by show 2 ≤ sizeLine; decide, fun p np => ⟨p, [v, w], rfl, SqT.of upd_same, rfl, v, [w], rfl, w, [], rfl, rfl, ?_⟩⟩
  exact k v w B1 _ (g.trans (Go.tmp g.bh np)) r1 r2
theorem ss_parNew (i j : Nat) {x y : Str} {m : Option α} {z : α} {px py pt pt2 p2 : Pos} {kt k2 : Nat} (hm : m = some z) (ha : EV X σ B O a T m) (I : In B O H)
    (k : ∀ v l B1 H1, Go B H B1 H1 → T.rep B1 v z → H1 l = none → wSs X rest D ((σ.set i (some v)).set j (some (.ref l))) (upd H1 l (.lst []))) (hc : X.calm = true) (hN : X.N.Nodup) (hi : X.N[i]? = some x := by rfl) (hj : X.N[j]? = some y := by rfl) (hij : i ≠ j := by decide)
    (hx : X.env.scope.names.lookup x = some .local := by rfl) (hy : X.env.scope.names.lookup y = some .local := by rfl)
    (hw : swappedStores [.Tuple [.Name x px, .Name y py] kt pt] (.Tuple [a, .List [] p2] k2 pt2) X.env = pure (some [x, y]) := by rfl)
    (hs : swapsWithSole [.Tuple [.Name x px, .Name y py] kt pt] (.Tuple [a, .List [] p2] k2 pt2) pos.line X.env = pure false := by rfl)
    (he : starEach [a, .List [] p2] X.env = (false, eval a X.env) :: starEach [.List [] p2] X.env := by rfl) (he2 : starEach [.List [] p2] X.env = (false, eval (.List [] p2) X.env) :: starEach [] X.env := by rfl) :
    wSs X (.Assign [.Tuple [.Name x px, .Name y py] kt pt] (.Tuple [a, .List [] p2] k2 pt2) pos :: rest) D σ H := by
  refine ss_cons (of_s (ps_par hc hN hi hj hij hx hy (pa_cons p_e (pa_cons (pe_lst pa_nil) pa_nil he2) he) hw hs) ?_)
  exact ha z hm B H (Ex.refl _) I _ fun v B1 H1 g r => ⟨Nat.zero_le _, fun l hl => ⟨v, _, rfl, k v l B1 H1 g r hl⟩⟩
/-- x = [e] * n, an own list -/
theorem ss_newRep (i : Nat) {x : Str} {m : Option α} {n : Option Nat} {zs : List α} {p' p2 p3 : Pos} (hm : op2 fRep m n = some zs) (ha : EV X σ B O a T m) (hb : EV X σ B O b tN n) (I : In B O H)
    (k : ∀ l vs B1 H1, Go B H B1 H1 → H1 l = none → Reps T B1 vs zs → vs.length ≤ 40000 → wSs X rest D (σ.set i (some (.ref l))) (upd H1 l (.lst vs))) (hN : X.N.Nodup) (hi : X.N[i]? = some x := by rfl)
    (hx : L2.Loc X.env.scope x := by first | exact Or.inl rfl | exact Or.inr rfl) (hs : swapsWith (.BinOp (.List [a] p2) .Mult b p3) (some (.Name x p')) pos.line X.env = pure false := by rfl)
    (hf : X.fn x = true ∨ X.env.scope.names.lookup x = some .local := by first | exact .inl rfl | exact .inr rfl) (he : starEach [a] X.env = (false, eval a X.env) :: starEach [] X.env := by rfl) : wSs X (.Assign [.Name x p'] (.BinOp (.List [a] p2) .Mult b p3) pos :: rest) D σ H := by
  obtain ⟨y, n, rfl, rfl, hf2⟩ := op2_some hm
  unfold fRep at hf2
  split at hf2
  · rename_i h
    have h := Nat.le_of_ble_eq_true h
    cases hf2
    refine ss_cons (of_s (ps_set hN hi hx (pe_op op_rep (pe_lst (pa1 he)) p_e) hs hf) ?_)
    refine ha y rfl B H (Ex.refl _) I _ fun v B2 H2 g2 r2 => ?_
    refine ⟨by show 1 ≤ sizeLine; decide, fun p np => ?_⟩
    refine hb n rfl B2 _ g2.eb ((I.go g2).go (Go.tmp g2.bh np)) _ fun w B3 H3 g3 r3 => ?_
    cases r3
    have hz : (1 : Nat) * n ≤ 40000 := by omega
    refine ⟨p, _, [v], rfl, rfl, g3.eh _ _ upd_same, by omega, by omega, sz_of (by simpa using hz), fun p2 np2 => ?_⟩
    rw [Int.toNat_natCast, flat_rep]
    exact k p2 _ B3 H3 ((g2.trans (Go.tmp g2.bh np)).trans g3) np2 (reps_rep (T.mono g3.eb r2) n) (by rw [List.length_replicate]; omega)
  · cases hf2
end
@[reducible] def fApp {α : Type} (xs : List α) (x : α) : Option (List α) := if Nat.ble xs.length 30000 then some (xs ++ [x]) else none
theorem fApp_some {α : Type} {xs ys : List α} {x : α} (h : fApp xs x = some ys) : xs.length ≤ 30000 ∧ ys = xs ++ [x] := by
  unfold fApp at h
  split at h
  · rename_i k
    cases h
    exact ⟨Nat.le_of_ble_eq_true k, rfl⟩
  · cases h
@[reducible] def fPut {α : Type} (xs : List α) (j : Nat) (x : α) : Option (List α) := if Nat.blt j xs.length then some (xs.set j x) else none
theorem fPut_some {α : Type} {xs ys : List α} {j : Nat} {x : α} (h : fPut xs j x = some ys) : j < xs.length ∧ ys = xs.set j x := by
  unfold fPut at h
  split at h
  · rename_i k
    cases h
    exact ⟨by rwa [Nat.blt_eq] at k, rfl⟩
  · cases h
end Ly
namespace Ly
open PySem PySem.Spec PyProof.Rows L2 TL
theorem u64 {A : Around} {k : Nat} (hr : Room k A) : A.units + 64 < cLine := hr.units
/-! ### sorting -/
/-- put into an ascending list -/
def insB {α : Type} (lt : α → α → Bool) (x : α) : List α → List α
  | [] => [x]
  | y :: ys => bif lt y x then y :: insB lt x ys else x :: y :: ys
def sortB {α : Type} (lt : α → α → Bool) : List α → List α
  | [] => []
  | x :: xs => insB lt x (sortB lt xs)
/-- each once -/
def insU {α : Type} (lt : α → α → Bool) (x : α) : List α → List α
  | [] => [x]
  | y :: ys => bif lt y x then y :: insU lt x ys else bif lt x y then x :: y :: ys else y :: ys
def sortU {α : Type} (lt : α → α → Bool) : List α → List α
  | [] => []
  | x :: xs => insU lt x (sortU lt xs)
section
variable {α : Type} {lt : α → α → Bool}
theorem insB_perm (x : α) : ∀ l : List α, (insB lt x l).Perm (x :: l)
  | [] => .refl _
  | y :: ys => by
    unfold insB
    cases h : lt y x with
    | true => exact ((insB_perm x ys).cons y).trans (.swap x y ys)
    | false => exact .refl _
theorem sortB_perm : ∀ l : List α, (sortB lt l).Perm l
  | [] => .refl _
  | x :: xs => (insB_perm x _).trans ((sortB_perm xs).cons x)
theorem insB_sorted (tr : ∀ a b c, lt a b = true → lt b c = true → lt a c = true) (co : ∀ a b c, lt a c = true → lt a b = true ∨ lt b c = true) (asy : ∀ a b, lt a b = true → lt b a = false) (x : α) : ∀ l : List α, l.Pairwise (fun a b => lt b a = false) → (insB lt x l).Pairwise (fun a b => lt b a = false)
  | [], _ => List.pairwise_singleton _ _
  | y :: ys, h => by
    obtain ⟨h1, h2⟩ := List.pairwise_cons.mp h
    unfold insB
    cases hc : lt y x with
    | true =>
      refine List.pairwise_cons.mpr ⟨fun z hz => ?_, insB_sorted tr co asy x ys h2⟩
      rcases List.mem_cons.mp ((insB_perm x ys).mem_iff.mp hz) with e | e
      · subst e
        exact asy _ _ hc
      · exact h1 z e
    | false =>
      refine List.pairwise_cons.mpr ⟨fun z hz => ?_, h⟩
      rcases List.mem_cons.mp hz with e | e
      · subst e
        exact hc
      · cases hk : lt z x with
        | false => rfl
        | true =>
          rcases co z y x hk with q | q
          · rw [h1 z e] at q
            cases q
          · rw [hc] at q
            cases q
theorem sortB_sorted (tr : ∀ a b c, lt a b = true → lt b c = true → lt a c = true) (co : ∀ a b c, lt a c = true → lt a b = true ∨ lt b c = true) (asy : ∀ a b, lt a b = true → lt b a = false) : ∀ l : List α, (sortB lt l).Pairwise (fun a b => lt b a = false)
  | [] => .nil
  | x :: xs => insB_sorted tr co asy x _ (sortB_sorted tr co asy xs)
theorem insU_mem {x z : α} (tot : ∀ a b, lt a b = false → lt b a = false → a = b) : ∀ l : List α, z ∈ insU lt x l ↔ z = x ∨ z ∈ l
  | [] => by unfold insU; simp
  | y :: ys => by
    unfold insU
    cases h : lt y x with
    | true =>
      show z ∈ y :: insU lt x ys ↔ _
      rw [List.mem_cons, insU_mem tot ys, List.mem_cons]
      constructor
      · rintro (q | q | q)
        · exact .inr (.inl q)
        · exact .inl q
        · exact .inr (.inr q)
      · rintro (q | q | q)
        · exact .inr (.inl q)
        · exact .inl q
        · exact .inr (.inr q)
    | false =>
      cases h2 : lt x y with
      | true =>
        show z ∈ x :: y :: ys ↔ _
        rw [List.mem_cons]
      | false =>
        have e := tot x y h2 h
        subst e
        show z ∈ x :: ys ↔ _
        rw [List.mem_cons]
        constructor
        · exact fun q => .inr q
        · rintro (q | q)
          · exact .inl q
          · exact q
theorem sortU_mem (tot : ∀ a b, lt a b = false → lt b a = false → a = b) {z : α} : ∀ l : List α, z ∈ sortU lt l ↔ z ∈ l
  | [] => Iff.rfl
  | x :: xs => by
    show z ∈ insU lt x (sortU lt xs) ↔ _
    rw [insU_mem tot, sortU_mem tot xs, List.mem_cons]
theorem insU_sorted (tr : ∀ a b c, lt a b = true → lt b c = true → lt a c = true) (tot : ∀ a b, lt a b = false → lt b a = false → a = b) (x : α) : ∀ l : List α, l.Pairwise (fun a b => lt a b = true) → (insU lt x l).Pairwise (fun a b => lt a b = true)
  | [], _ => List.pairwise_singleton _ _
  | y :: ys, h => by
    obtain ⟨h1, h2⟩ := List.pairwise_cons.mp h
    unfold insU
    cases hc : lt y x with
    | true =>
      refine List.pairwise_cons.mpr ⟨fun z hz => ?_, insU_sorted tr tot x ys h2⟩
      rcases (insU_mem tot ys).mp hz with e | e
      · subst e
        exact hc
      · exact h1 z e
    | false =>
      cases hd : lt x y with
      | true =>
        refine List.pairwise_cons.mpr ⟨fun z hz => ?_, h⟩
        rcases List.mem_cons.mp hz with e | e
        · subst e
          exact hd
        · exact tr _ _ _ hd (h1 z e)
      | false => exact h
theorem sortU_sorted (tr : ∀ a b c, lt a b = true → lt b c = true → lt a c = true) (tot : ∀ a b, lt a b = false → lt b a = false → a = b) : ∀ l : List α, (sortU lt l).Pairwise (fun a b => lt a b = true)
  | [] => .nil
  | x :: xs => insU_sorted tr tot x _ (sortU_sorted tr tot xs)
end
/-- two arrangements of the same things by the same order are one -/
theorem arr_uniq {α : Type} {r : α → α → Prop} : ∀ {l k : List α}, l.Perm k → (∀ a ∈ l, ∀ b ∈ l, r a b → r b a → a = b) → l.Pairwise r → k.Pairwise r → l = k
  | [], k, p, _, _, _ => (List.nil_perm.mp p).symm
  | a :: l, [], p, _, _, _ => by
    have := p.length_eq
    cases this
  | a :: l, b :: k, p, anti, h1, h2 => by
    obtain ⟨ha, hl⟩ := List.pairwise_cons.mp h1
    obtain ⟨hb, hk⟩ := List.pairwise_cons.mp h2
    have e : a = b := by
      rcases List.mem_cons.mp (p.mem_iff.mp List.mem_cons_self) with e | e
      · exact e
      · rcases List.mem_cons.mp (p.mem_iff.mpr (List.mem_cons_self (a := b) (l := k))) with e2 | e2
        · exact e2.symm
        · exact anti a List.mem_cons_self b (List.mem_cons_of_mem _ e2) (ha b e2) (hb a e)
    subst e
    rw [arr_uniq (List.Perm.cons_inv p) (fun x hx y hy => anti x (List.mem_cons_of_mem _ hx) y (List.mem_cons_of_mem _ hy)) hl hk]
theorem arr_set {α : Type} {r : α → α → Prop} (irr : ∀ a, ¬ r a a) : ∀ {l k : List α}, (∀ z, z ∈ l ↔ z ∈ k) → (∀ a b, r a b → r b a → False) → l.Pairwise r → k.Pairwise r → l = k := by
  intro l k hm asy h1 h2
  have nd : ∀ {l : List α}, l.Pairwise r → l.Nodup := fun h => h.imp fun {a b} hr e => by
    subst e
    exact irr a hr
  exact arr_uniq ((List.perm_ext_iff_of_nodup (nd h1) (nd h2)).mpr hm) (fun a _ b _ ha hb => (asy a b ha hb).elim) h1 h2
/-! the order of texts of places -/
theorem lexB_irr : ∀ s : List Nat, lexB s s = false
  | [] => rfl
  | a :: s => by
    unfold lexB
    rw [lexB_irr s, Bool.and_false, Bool.or_false]
    cases h : Nat.blt a a with
    | false => rfl
    | true => exact absurd (Nat.blt_eq.mp h) (Nat.lt_irrefl a)
theorem lexB_tr : ∀ s t u : List Nat, lexB s t = true → lexB t u = true → lexB s u = true
  | [], [], _, h, _ => by cases h
  | [], _ :: _, [], _, h => by cases h
  | [], _ :: _, _ :: _, _, _ => rfl
  | _ :: _, [], _, h, _ => by cases h
  | _ :: _, _ :: _, [], _, h => by cases h
  | a :: s, b :: t, c :: u, h, k => by
    unfold lexB at h k ⊢
    simp only [Bool.or_eq_true, Bool.and_eq_true, Nat.blt_eq, Nat.beq_eq] at h k ⊢
    rcases h with h | ⟨h, h'⟩ <;> rcases k with k | ⟨k, k'⟩
    · exact .inl (by omega)
    · exact .inl (by omega)
    · exact .inl (by omega)
    · exact .inr ⟨by omega, lexB_tr s t u h' k'⟩
theorem lexB_tot : ∀ s t : List Nat, lexB s t = false → lexB t s = false → s = t
  | [], [], _, _ => rfl
  | [], _ :: _, h, _ => by cases h
  | _ :: _, [], _, h => by cases h
  | a :: s, b :: t, h, k => by
    unfold lexB at h k
    rw [Bool.or_eq_false_iff, Bool.and_eq_false_iff] at h k
    have h1 : ¬ a < b := fun q => by
      rw [Nat.blt_eq.mpr q] at h
      cases h.1
    have h2 : ¬ b < a := fun q => by
      rw [Nat.blt_eq.mpr q] at k
      cases k.1
    have e : a = b := by omega
    subst e
    have b1 : Nat.beq a a = true := by simp
    rw [b1] at h k
    rw [lexB_tot s t (h.2.resolve_left (by decide)) (k.2.resolve_left (by decide))]
theorem lexB_asy (s t : List Nat) (h : lexB s t = true) : lexB t s = false := by
  cases k : lexB t s with
  | false => rfl
  | true =>
    have := lexB_tr s t s h k
    rw [lexB_irr] at this
    cases this
theorem lexB_co (s t u : List Nat) (h : lexB s u = true) : lexB s t = true ∨ lexB t u = true := by
  cases k : lexB s t with
  | true => exact .inl rfl
  | false =>
    right
    cases k2 : lexB t s with
    | true => exact lexB_tr t s u k2 h
    | false =>
      rw [← lexB_tot s t k k2]
      exact h
theorem blt_tr (a b c : Nat) (h : Nat.blt a b = true) (k : Nat.blt b c = true) : Nat.blt a c = true := by
  rw [Nat.blt_eq] at *
  omega
theorem blt_tot (a b : Nat) (h : Nat.blt a b = false) (k : Nat.blt b a = false) : a = b := by
  have h1 : ¬ a < b := fun q => by rw [Nat.blt_eq.mpr q] at h; cases h
  have h2 : ¬ b < a := fun q => by rw [Nat.blt_eq.mpr q] at k; cases k
  omega
@[reducible] def fSortS (xs : List (List Nat)) : Option (List (List Nat)) := if Nat.blt xs.length 64 then some (sortB lexB xs) else none
@[reducible] def fSortL (xs : List Nat) : Option (List Nat) := if Nat.blt xs.length 64 then some (sortB Nat.blt xs) else none
@[reducible] def fSortN (xs : List Nat) : Option (List Nat) := if Nat.blt xs.length 63 then some (sortU Nat.blt xs) else none
@[reducible] def fSortSetS (xs : List (List Nat)) : Option (List (List Nat)) := if Nat.blt xs.length 63 then some (sortU lexB xs) else none
@[reducible] def rngDown (a : Nat) : Option (List Nat) := if Nat.ble a 30000 then some (List.range' 0 (a + 1)).reverse else none
section
variable {X : Cx} {σ : L2.St} {B H : Hp} {O : Own} {a b c e tg : Expr} {es : List Expr} {pos p apos : Pos} {α β γ δ : Type} {T : Ty α} {U : Ty β} {S : Ty γ} {W : Ty δ} {cw : Crew}
/-- a text of the crew read back -/
noncomputable def dec (cw : Crew) (y : Str) : List Nat := Classical.epsilon fun s => (∀ i ∈ s, i < cw.l.length) ∧ y = str cw s
theorem dec_str {s : List Nat} (h : ∀ i ∈ s, i < cw.l.length) : dec cw (str cw s) = s := by
  have k : (fun t => (∀ i ∈ t, i < cw.l.length) ∧ str cw s = str cw t) (dec cw (str cw s)) := Classical.epsilon_spec (p := fun t => (∀ i ∈ t, i < cw.l.length) ∧ str cw s = str cw t) ⟨s, h, rfl⟩
  exact ((str_inj h k.1).mp k.2).symm
theorem map_dec : ∀ {xs : List (List Nat)}, (∀ s ∈ xs, ∀ i ∈ s, i < cw.l.length) → (xs.map (str cw)).map (dec cw) = xs
  | [], _ => rfl
  | s :: xs, h => by rw [List.map_cons, List.map_cons, dec_str (h s List.mem_cons_self), map_dec fun t ht => h t (List.mem_cons_of_mem _ ht)]
theorem back_of {xs : List (List Nat)} {ys : List Str} (h : ∀ s ∈ xs, ∀ i ∈ s, i < cw.l.length) (p : ys.Perm (xs.map (str cw))) : ∃ l : List (List Nat), ys = l.map (str cw) ∧ l.Perm xs := by
  refine ⟨ys.map (dec cw), ?_, by rw [← map_dec h]; exact p.map _⟩
  have key : ∀ y ∈ ys, y = str cw (dec cw y) := fun y hy => by
    obtain ⟨s, hs, rfl⟩ := List.mem_map.mp (p.mem_iff.mp hy)
    rw [dec_str (h s hs)]
  rw [List.map_map]
  conv => lhs; rw [← List.map_id ys]
  exact List.map_congr_left fun y hy => key y hy
theorem ltCps_lex {s t : List Nat} (hs : ∀ i ∈ s, i < cw.l.length) (ht : ∀ i ∈ t, i < cw.l.length) : ltCps (str cw s).cps.toList (str cw t).cps.toList = lexB s t := by
  rw [ltCps_eq, str_lt hs ht]
theorem rising_pw : ∀ {l : List (List Nat)} {s : List Nat}, (∀ i ∈ s, i < cw.l.length) → (∀ s ∈ l, ∀ i ∈ s, i < cw.l.length) → risingS (str cw s) (l.map (str cw)) = true → (s :: l).Pairwise fun a b => lexB b a = false
  | [], s, _, _, _ => List.pairwise_singleton _ _
  | t :: l, s, hs, hl, h => by
    have h : (!ltCps (str cw t).cps.toList (str cw s).cps.toList && risingS (str cw t) (l.map (str cw))) = true := h
    rw [Bool.and_eq_true, ltCps_lex (hl t List.mem_cons_self) hs] at h
    have ih := rising_pw (hl t List.mem_cons_self) (fun u hu => hl u (List.mem_cons_of_mem _ hu)) h.2
    have h1 : lexB t s = false := by
      cases k : lexB t s with
      | false => rfl
      | true => rw [k] at h; cases h.1
    refine List.pairwise_cons.mpr ⟨fun u hu => ?_, ih⟩
    rcases List.mem_cons.mp hu with e | e
    · subst e
      exact h1
    · have h2 := (List.pairwise_cons.mp ih).1 u e
      cases k : lexB u s with
      | false => rfl
      | true =>
        rcases lexB_co u t s k with q | q
        · rw [h2] at q
          cases q
        · rw [h1] at q
          cases q
theorem sorted_pw {l : List (List Nat)} (hl : ∀ s ∈ l, ∀ i ∈ s, i < cw.l.length) (h : sortedS (l.map (str cw)) = true) : l.Pairwise fun a b => lexB b a = false := by
  cases l with
  | nil => exact .nil
  | cons s l => exact rising_pw (hl s List.mem_cons_self) (fun u hu => hl u (List.mem_cons_of_mem _ hu)) h
theorem sort_is {xs : List (List Nat)} {ys : List Str} (h : ∀ s ∈ xs, ∀ i ∈ s, i < cw.l.length) (p : ys.Perm (xs.map (str cw))) (hs : sortedS ys = true) : ys = (sortB lexB xs).map (str cw) := by
  obtain ⟨l, rfl, q⟩ := back_of h p
  have hl : ∀ s ∈ l, ∀ i ∈ s, i < cw.l.length := fun s z => h s (q.mem_iff.mp z)
  rw [arr_uniq (r := fun a b => lexB b a = false) (q.trans (sortB_perm xs).symm) (fun a _ b _ h1 h2 => lexB_tot a b h2 h1) (sorted_pw hl hs) (sortB_sorted lexB_tr (fun a b c => lexB_co a b c) lexB_asy xs)]
theorem valid_of {vs : List V} {xs : List (List Nat)} (r : Reps (tS cw) B vs xs) : ∀ s ∈ xs, ∀ i ∈ s, i < cw.l.length := fun s hs => by
  obtain ⟨v, k⟩ := r.mem s hs
  exact k.2.1
theorem reps_strs : ∀ {xs : List (List Nat)}, (∀ s ∈ xs, (∀ i ∈ s, i < cw.l.length) ∧ s.length ≤ 100) → Reps (tS cw) B ((xs.map (str cw)).map V.str) xs
  | [], _ => .nil
  | s :: xs, h => .cons ⟨rfl, (h s List.mem_cons_self).1, (h s List.mem_cons_self).2⟩ (reps_strs fun t ht => h t (List.mem_cons_of_mem _ ht))
theorem valid2_of {vs : List V} {xs : List (List Nat)} (r : Reps (tS cw) B vs xs) : ∀ s ∈ xs, (∀ i ∈ s, i < cw.l.length) ∧ s.length ≤ 100 := fun s hs => by
  obtain ⟨v, k⟩ := r.mem s hs
  exact k.2
theorem ev_sortS {m : Option (List (List Nat))} (hb : Bt X.mg) (ha : ES X σ B O a (tS cw) m) (hg : Gl X "sorted" := by rfl) (he : starEach [a] X.env = (false, eval a X.env) :: starEach [] X.env := by rfl) : EV X σ B O (.Call (.Name "sorted" p) [a] [] pos) (tL (tS cw)) (m.bind fSortS) := by
  intro z hz B1 H e I Q q
  cases m with
  | none => cases hz
  | some xs =>
    have hz : fSortS xs = some z := hz
    unfold fSortS at hz
    split at hz
    · rename_i h64
      rw [Nat.blt_eq] at h64
      cases hz
      refine builtin1 cr_sortedS hg hb.sorted PyProof.Rows.boot_sorted (by decide) (by decide) he (ha xs rfl) e I fun v B2 H2 g2 ⟨l, vs, h1, h2, h3, h4, h5⟩ => ?_
      subst h1
      refine ⟨l, xs.map (str cw), rfl, by rw [← repsS h3]; exact SqL.of h2, by rw [List.length_map]; exact h64, fun ys p pm hs np => ?_⟩
      rw [sort_is (valid_of h3) pm hs]
      have hp := sortB_perm (lt := lexB) xs
      refine q _ _ _ (g2.trans (Go.lay g2.bh np)) ⟨p, _, rfl, upd_same, reps_strs fun s hs => valid2_of h3 s (hp.mem_iff.mp hs), ?_⟩
      rw [List.length_map, List.length_map, hp.length_eq]
      omega
    · cases hz
theorem pw_cast {l : List Nat} (h : l.Pairwise fun a b => Nat.blt b a = false) : (l.map fun n : Nat => (n : Int)).Pairwise (· ≤ ·) :=
  List.pairwise_map.mpr (h.imp fun {a b} k => by
    have : ¬ b < a := fun q => by rw [Nat.blt_eq.mpr q] at k; cases k
    show (a : Int) ≤ (b : Int)
    omega)
theorem reps_nats : ∀ xs : List Nat, Reps tN B ((xs.map fun n : Nat => (n : Int)).map V.int) xs
  | [] => .nil
  | x :: xs => .cons rfl (reps_nats xs)
theorem blt_co (a b c : Nat) (h : Nat.blt a c = true) : Nat.blt a b = true ∨ Nat.blt b c = true := by
  rw [Nat.blt_eq] at *
  rw [Nat.blt_eq]
  omega
theorem blt_asy (a b : Nat) (h : Nat.blt a b = true) : Nat.blt b a = false := by
  cases k : Nat.blt b a with
  | false => rfl
  | true =>
    rw [Nat.blt_eq] at h k
    omega
theorem ev_sortL {m : Option (List Nat)} (hb : Bt X.mg) (ha : ES X σ B O a tN m) (hg : Gl X "sorted" := by rfl) (he : starEach [a] X.env = (false, eval a X.env) :: starEach [] X.env := by rfl) : EV X σ B O (.Call (.Name "sorted" p) [a] [] pos) (tL tN) (m.bind fSortL) := by
  intro z hz B1 H e I Q q
  cases m with
  | none => cases hz
  | some xs =>
    have hz : fSortL xs = some z := hz
    unfold fSortL at hz
    split at hz
    · rename_i h64
      rw [Nat.blt_eq] at h64
      cases hz
      refine builtin1 cr_sorted hg hb.sorted PyProof.Rows.boot_sorted (by decide) (by decide) he (ha xs rfl) e I fun v B2 H2 g2 ⟨l, vs, h1, h2, h3, h4, h5⟩ => ?_
      subst h1
      refine ⟨l, xs.map fun n : Nat => (n : Int), rfl, by rw [← repsN h3]; exact SqL.of h2, by rw [List.length_map]; exact h64, fun ys p pm hs np => ?_⟩
      have hp := sortB_perm (lt := Nat.blt) xs
      have e1 : ys = (sortB Nat.blt xs).map fun n : Nat => (n : Int) :=
        arr_uniq (pm.trans (hp.map _).symm) (fun a _ b _ h1 h2 => Int.le_antisymm h1 h2) hs (pw_cast (sortB_sorted blt_tr (fun a b c => blt_co a b c) blt_asy xs))
      subst e1
      refine q _ _ _ (g2.trans (Go.lay g2.bh np)) ⟨p, _, rfl, upd_same, reps_nats _, ?_⟩
      rw [List.length_map, List.length_map, hp.length_eq]
      omega
    · cases hz
theorem ev_max {m n : Option Nat} (hb : Bt X.mg) (hc : X.calm = true) (ha : EV X σ B O a tN m) (hb2 : EV X σ B O b tN n) (hg : Gl X "max" := by rfl) (he : starEach [a, b] X.env = (false, eval a X.env) :: starEach [b] X.env := by rfl) (he2 : starEach [b] X.env = (false, eval b X.env) :: starEach [] X.env := by rfl)
    (hpl : (backTo pos (starEach [b] X.env)).any (·.1) = false := by rfl) : EV X σ B O (.Call (.Name "max" p) [a, b] [] pos) tN (op2 (fun x y => some (Nat.max x y)) m n) := by
  intro z hz B1 H e I Q q
  obtain ⟨x, y, rfl, rfl, hf⟩ := op2_some hz
  cases hf
  refine of_e (pe_callB (call_max2 hc) hg hb.max PyProof.Rows.boot_max (pa_cons p_e (pa1 he2) he) (by decide) (by decide) he hpl) ?_
  refine ha x rfl B1 H e I _ fun v B2 H2 g2 r2 => ?_
  refine hb2 y rfl B2 H2 (e.trans g2.eb) (I.go g2) _ fun w B3 H3 g3 r3 => ?_
  cases r2
  cases r3
  refine ⟨_, _, rfl, q _ B3 H3 (g2.trans g3) ?_⟩
  show V.int (if (y : Int) > (x : Int) then (y : Int) else (x : Int)) = V.int ((Nat.max x y : Nat) : Int)
  have e1 : Nat.max x y = if x ≤ y then y else x := rfl
  rw [e1]
  split <;> split <;> first | rfl | exact congrArg V.int (by omega)
theorem iv_rngDown {m : Option Nat} {j k : Nat} {p2 p3 p4 p5 : Pos} (hb : Bt X.mg) (ha : EV X σ B O a tN m) (hg : Gl X "range" := by rfl) (he : starEach [a, .UnaryOp .USub (.Constant (.int 1) j p2) p3, .UnaryOp .USub (.Constant (.int 1) k p4) p5] X.env = (false, eval a X.env) :: starEach [.UnaryOp .USub (.Constant (.int 1) j p2) p3, .UnaryOp .USub (.Constant (.int 1) k p4) p5] X.env := by rfl) :
    IV X σ B O tg (.Call (.Name "range" p) [a, .UnaryOp .USub (.Constant (.int 1) j p2) p3, .UnaryOp .USub (.Constant (.int 1) k p4) p5] [] pos) tN (m.bind rngDown) := by
  intro xs hx B1 H e I R q
  cases m with
  | none => cases hx
  | some n =>
    have hx : rngDown n = some xs := hx
    unfold rngDown at hx
    split at hx
    · rename_i h
      have h := Nat.le_of_ble_eq_true h
      cases hx
      refine of_i (pi_range3 hg hb.range (pa_cons p_e (pa_cons (pe_un un_neg pe_int) (pa_cons (pe_un un_neg pe_int) pa_nil rfl) rfl) he) he rfl) (ha n rfl B1 H e I _ fun v B2 H2 g2 r2 => ?_)
      cases r2
      have en : ((n : Int) - -1).toNat = n + 1 := by omega
      have rg := RgC.neg (i := (n : Int)) (j := -1) (by omega) (by omega) (by decide) (by decide)
      rw [en] at rg
      refine ⟨1, rfl, 1, rfl, (n : Int), -1, -1, n + 1, rfl, rg, ?_⟩
      refine q _ B2 H2 ((List.range' 0 (n + 1)).reverse.map fun i : Nat => V.int (i : Int)) g2 ⟨fun _ => True, ?_, fun _ _ _ => trivial⟩ reps_range (by rw [List.length_map, List.length_reverse, List.length_range']; omega)
      have w := walk_rangeC (lo := (n : Int)) (c := -1) (n := n + 1)
      rw [List.length_map, List.length_reverse, List.length_range']
      refine w.mono (fun _ h => h) fun i H x H' hi _ ⟨e1, e2⟩ => ⟨e1, ?_⟩
      have hl : i < (List.range' 0 (n + 1)).reverse.length := by rw [List.length_reverse, List.length_range']; exact hi
      rw [List.getElem?_map, List.getElem?_eq_getElem hl, List.getElem_reverse, List.getElem_range', e2]
      refine congrArg some (congrArg V.int ?_)
      rw [List.length_range']
      omega
    · cases hx
end
end Ly
/-! sets of ints or texts made of a list, and sorted -/
namespace Ly
open PySem PySem.Spec PyProof.Rows L2
/-- an entry's key -/
def kOf (e : Int × Value) : Key := match e.2 with
  | .int k _ => .inl k
  | .str x _ => .inr x
  | _ => .inl 0
def GoodK (w : World) (e : Int × Value) : Prop := keyIs (kOf e) e.2 = true ∧ e.1 = keyH w (kOf e) ∧ e.2.scannable = true
structure SetX (w : World) (h : Heap) (a : Addr) (es : Array (Int × Value)) (ep : Nat) (t : SetTable) (L : List Key) : Prop where
  at_ : ∃ o, h.get? a = some o ∧ o.ExactSet ∧ o.data = .set es ep t
  good : ∀ e ∈ es.toList, GoodK w e
  pm : (es.toList.map kOf).Perm L
  nd : L.Nodup
  few : L.length < 64
  fit : t.fits es.size = true
  ris : Ris t.place.toList
  led : w.params.followText "set-order" = true ∨ t.led = true
section
variable {P : Program} {w : World} {h h' : Heap} {a : Addr} {es : Array (Int × Value)} {ep : Nat} {t : SetTable} {L : List Key}
theorem SetX.size (R : SetX w h a es ep t L) : es.size = L.length := by rw [← Array.length_toList, ← R.pm.length_eq, List.length_map]
theorem SetX.bound (R : SetX w h a es ep t L) : es.size < scanBound := by
  have := R.few
  rw [R.size]
  unfold scanBound
  omega
theorem SetX.keep (R : SetX w h a es ep t L) (k : ∀ o, h.get? a = some o → h'.get? a = some o) : SetX w h' a es ep t L := by
  obtain ⟨o, ho, r⟩ := R.at_
  exact ⟨⟨o, k o ho, r⟩, R.good, R.pm, R.nd, R.few, R.fit, R.ris, R.led⟩
theorem elems_of {l : List (Int × Value)} (g : ∀ e ∈ l, GoodK w e) : ElemsOf (mixKind P w) l := fun e he => ⟨⟨kOf e, (g e he).1, (g e he).2.1⟩, (g e he).2.2⟩
theorem is_key (P : Program) {e : Int × Value} (g : GoodK w e) (k : Key) : keyIs k e.2 = true ↔ kOf e = k :=
  ⟨fun z => (mixKind P w).inj e.2 _ _ g.1 z, fun z => by rw [← z]; exact g.1⟩
end
theorem good_new {w : World} {k : Key} {v : Value} (h : keyIs k v = true) : GoodK w (keyH w k, v) ∧ kOf (keyH w k, v) = k := by
  rcases keyIs_shape h with ⟨i, t, rfl, rfl⟩ | ⟨x, t, rfl, rfl⟩
  · exact ⟨⟨h, rfl, rfl⟩, rfl⟩
  · exact ⟨⟨h, rfl, rfl⟩, rfl⟩
theorem scan_of {k : Key} {v : Value} (h : keyIs k v = true) : v.scannable = true := by
  rcases keyIs_shape h with ⟨i, t, rfl, rfl⟩ | ⟨x, t, rfl, rfl⟩ <;> rfl
section
variable {P : Program} {w : World} {A : Around} {E : Value → Shared → Prop} {s : Shared} {a : Addr}
/-- the entries told anew -/
theorem SetX.putBack {h : Heap} {o : Obj} {es es1 : Array (Int × Value)} {ep : Nat} {t t2 : SetTable} {L : List Key} (ho : h.get? a = some o) (hex : o.ExactSet) (hd : o.data = .set es ep t) (g : ∀ e ∈ es1.toList, GoodK w e) (pm : (es1.toList.map kOf).Perm L) (nd : L.Nodup) (few : L.length < 64)
    (fit : t2.fits es1.size = true) (ris : Ris t2.place.toList) (led : w.params.followText "set-order" = true ∨ t2.led = true) : SetX w (h.update a (Obj.putSet es1 t2)) a es1 (ep + 1) t2 L :=
  ⟨⟨_, store_at ho hd, hex, rfl⟩, g, pm, nd, few, fit, ris, led⟩
theorem addX_tail {g : Bool → Sem Unit} (hg : ∀ (b : Bool) (s₁ : Shared) (Q' : Unit → Shared → Prop), Q' () s₁ → wpAny (model P w) A (g b) Q' E s₁) {o : Obj} {es es1 : Array (Int × Value)} {ep : Nat} {t t2 : SetTable} {L : List Key} (ho : s.heap.get? a = some o) (hex : o.ExactSet) (hd : o.data = .set es ep t)
    (g1 : ∀ e ∈ es1.toList, GoodK w e) (pm : (es1.toList.map kOf).Perm L) (nd : L.Nodup) (few : L.length < 64) (fit : t2.fits es1.size = true) (ris : Ris t2.place.toList) (led : w.params.followText "set-order" = true ∨ t2.led = true) {wd : Bool} {R : Option Bool → Shared → Prop}
    (hR : ∀ h' es' ep' t', Heap.SameBut a s.heap h' → SetX w h' a es' ep' t' L → R (some true) { s with heap := h' }) :
    wpAny (model P w) A (do
        storeSet a es1 t2
        if (!wd && t2.tooFull) = true then do
            g (relayAll t2 es1 (SetTable.grown es1.size)).2.2
            storeSet a (relayAll t2 es1 (SetTable.grown es1.size)).1 (relayAll t2 es1 (SetTable.grown es1.size)).2.1
            pure (some true)
          else pure (some true)) R E s := by
  have sz1 : es1.size = L.length := by rw [← Array.length_toList, ← pm.length_eq, List.length_map]
  have b1 : es1.size < scanBound := by unfold scanBound; omega
  have sb := Heap.SameBut.update s.heap a (Obj.putSet es1 t2)
  have X1 := SetX.putBack (w := w) ho hex hd g1 pm nd few fit ris led
  refine wpAny_bind (wpAny_storeSet_of ho hd ?_ (fits_of_scanBound b1))
  split
  · have p2 := relayAll_perm t2 es1 (SetTable.grown es1.size)
    have f2 := relayAll_fits t2 es1 (SetTable.grown es1.size)
    have r2 := relayAll_ris t2 es1 (SetTable.grown es1.size)
    have l2 := relayAll_led t2 es1 (SetTable.grown es1.size)
    generalize relayAll t2 es1 (SetTable.grown es1.size) = Z at p2 f2 r2 l2 ⊢
    obtain ⟨es2, t3, gave⟩ := Z
    dsimp only at p2 f2 r2 l2 ⊢
    have sz2 : es2.size = es1.size := by rw [← Array.length_toList, p2.length_eq, Array.length_toList]
    refine wpAny_bind (hg _ _ _ ?_)
    have ho1 := store_at (es' := es1) (t' := t2) ho hd
    refine wpAny_bind (wpAny_storeSet_of ho1 rfl ?_ (fits_of_scanBound (by rw [sz2]; exact b1)))
    exact wpAny_pure (hR _ _ _ _ (sb.trans (Heap.SameBut.update _ a _)) (SetX.putBack ho1 hex rfl (fun e he => g1 e (p2.mem_iff.mp he)) ((p2.map kOf).trans pm) nd few f2 r2 (led.imp id fun z => by rw [l2]; exact z)))
  · exact wpAny_pure (hR _ _ _ _ sb X1)
/-- one more -/
theorem addX {es : Array (Int × Value)} {ep : Nat} {t : SetTable} {L : List Key} {k : Key} {v : Value} {Q : Bool → Shared → Prop} (R : SetX w s.heap a es ep t L) (hk : keyIs k v = true) (room : L.length + 1 < 64)
    (hQ : ∀ b h' es' ep' t' L', Heap.SameBut a s.heap h' → SetX w h' a es' ep' t' L' → (∀ j, j ∈ L' ↔ j = k ∨ j ∈ L) → L'.length ≤ L.length + 1 → Q b { s with heap := h' }) :
    wpAny (model P w) A (setAddHashed a v ((mixKind P w).hash k)) Q E s := by
  obtain ⟨o, ho, hex, hd⟩ := R.at_
  have hkey : (mixKind P w).is k v = true := hk
  have hsc := scan_of hk
  have hel : ElemsOf (mixKind P w) es.toList := elems_of R.good
  have hb := R.bound
  have hf := R.fit
  unfold setAddHashed setAddHashedIn
  refine wpAny_holding (wpAny_bind (wpAny_setState_of ho hd hf ?_))
  dsimp only
  rw [byScan_of hsc hb hel]
  simp only [↓reduceIte]
  unfold setAddByScan
  refine wpAny_bind ?_
  refine wpAny_bind (wpAny_rule ?_)
  refine wpAny_bind (wpAny_setScan_of hkey ho hd hf hel ?_)
  cases hfi : List.findIdx? (fun e => (mixKind P w).is k e.2) es.toList with
  | some j =>
    dsimp only
    obtain ⟨hj, pj, _⟩ := List.findIdx?_eq_some_iff_getElem.mp hfi
    have hm : k ∈ L := R.pm.mem_iff.mp (List.mem_map.mpr ⟨es.toList[j], List.getElem_mem hj, (is_key P (R.good _ (List.getElem_mem hj)) k).mp pj⟩)
    refine wpAny_pure (wpAny_pure ?_)
    exact hQ _ s.heap _ _ _ L (Heap.SameBut.refl a s.heap) R (fun i => ⟨.inr, fun z => z.elim (fun e => e ▸ hm) id⟩) (Nat.le_succ _)
  | none =>
    dsimp only
    have hnk : k ∉ L := fun z => by
      obtain ⟨e, he, q⟩ := List.mem_map.mp (R.pm.mem_iff.mpr z)
      have c := List.findIdx?_eq_none_iff.mp hfi e he
      rw [show (mixKind P w).is k e.2 = true from (is_key P (R.good e he) k).mpr q] at c
      cases c
    have hgw : ∀ (b : Bool) {s₁ : Shared} {Q' : Unit → Shared → Prop}, Q' () s₁ → wpAny (model P w) A (match b with | true => rule "set.scan.the-table-gave-way" | false => pure ()) Q' E s₁ :=
      fun b s₁ Q' q => by cases b <;> first | exact wpAny_pure q | exact wpAny_rule q
    have pm := layNew_perm t es ((mixKind P w).hash k) v
    have hf1 := layNew_fits t es ((mixKind P w).hash k) v
    have hr1 := layNew_ris t es ((mixKind P w).hash k) v R.ris
    have hl1 := layNew_led t es ((mixKind P w).hash k) v
    generalize layNew t es ((mixKind P w).hash k) v = Z at pm hf1 hr1 hl1 ⊢
    obtain ⟨es1, t1, wd, gave⟩ := Z
    dsimp only at pm hf1 hr1 hl1 ⊢
    rw [Array.toList_push] at pm
    have pc : es1.toList.Perm (((mixKind P w).hash k, v) :: es.toList) := pm.trans (List.perm_append_singleton _ _)
    have gn := good_new (w := w) hk
    have g1 : ∀ e ∈ es1.toList, GoodK w e := fun e he => by
      rcases List.mem_cons.mp (pc.mem_iff.mp he) with z | z
      · rw [z]; exact gn.1
      · exact R.good e z
    have pk : (es1.toList.map kOf).Perm (k :: L) := (pc.map kOf).trans (by
      rw [List.map_cons, show kOf ((mixKind P w).hash k, v) = k from gn.2]
      exact R.pm.cons k)
    have nd1 : (k :: L).Nodup := List.nodup_cons.mpr ⟨hnk, R.nd⟩
    have led1 : w.params.followText "set-order" = true ∨ t1.led = true := R.led.imp id fun z => by rw [hl1]; exact z
    refine wpAny_bind (hgw _ ?_)
    split
    · refine wpAny_bind ?_
      rw [hashByValue_scannable 8 hsc]
      refine wpAny_pure ?_
      refine addX_tail ?_ ho hex hd g1 pk nd1 room ?_ ?_ ?_ ?_
      · intro b s₁ Q' q; cases b <;> first | exact wpAny_pure q | exact wpAny_rule q
      · first | (split <;> first | exact hf1 | exact SetTable.fits_plain_off hf1) | exact hf1
      · first | (split <;> exact hr1) | exact hr1
      · first | (split <;> exact led1) | exact led1
      · intro h' es' ep' t' sb r
        dsimp only
        exact wpAny_pure (hQ _ h' _ _ _ _ sb r (fun j => List.mem_cons) (Nat.le_refl _))
    · refine wpAny_bind (wpAny_pure ?_)
      simp only [↓reduceIte]
      refine addX_tail ?_ ho hex hd g1 pk nd1 room hf1 hr1 led1 ?_
      · intro b s₁ Q' q; cases b <;> first | exact wpAny_pure q | exact wpAny_rule q
      · intro h' es' ep' t' sb r
        dsimp only
        exact wpAny_pure (hQ _ h' _ _ _ _ sb r (fun j => List.mem_cons) (Nat.le_refl _))
end
/-- the first i of ks, in any order -/
def Got1 (ks : List Key) (i : Nat) (L : List Key) : Prop := L.length ≤ i ∧ ∀ j, j ∈ L ↔ j ∈ ks.take i
section
variable {P : Program} {w : World} {A : Around} {E : Value → Shared → Prop} {s : Shared}
theorem loopX {I : Addr} {fp wr : List Addr} {G : Array GenState → Array GenState → Prop} {n : Nat} {Pv : Nat → Value → Prop} {St : Nat → Shared → Prop} {R : Result → Shared → Prop} (W : WalksS P w A.in1 I fp wr G n Pv St) (S : Addr) (hSf : S ∉ fp) (ks : List Key) (hn : n = ks.length) (few : ks.length < 63) (hval : ∀ i v, Pv i v → ∃ k, ks[i]? = some k ∧ keyIs k v = true) :
    ∀ (m i : Nat) (s : Shared), n - i = m → i ≤ n → St i s → (∃ es ep t L, SetX w s.heap S es ep t L ∧ Got1 ks i L) → (∀ s' es ep t L, Moved (S :: wr) G s s' → SetX w s'.heap S es ep t L → Got1 ks n L → R (.ok (.ret .none)) s') →
      codeAny (model P w) A (.builtin "set.update.loop" ⟨[.ref S, .ref I], []⟩) R s := by
  have hSw : S ∉ wr := fun z => hSf (W.sub _ z)
  have up : ∀ b ∈ wr, b ∈ S :: wr := fun b hb => List.mem_cons_of_mem _ hb
  intro m
  induction m with
  | zero =>
    intro i s hm hi hst ⟨es, ep, t, L, hS, hg⟩ hR
    have e : i = n := by omega
    subst e
    refine codeAny_builtin F.entry_set_update_loop ?_
    rw [Around.under_plainId F.plain_set_update_loop _]
    show wpAny _ A.in1 (pyNext (.ref I) >>= _) _ _ s
    refine wpAny_bind (W.done s _ _ hst fun s' hm => ?_)
    show wpAny _ A.in1 (ret Value.none) _ _ s'
    exact wpAny_pure (hR s' _ _ _ _ (hm.mono up) (hS.keep fun o e => hm.heap S o hSw e) hg)
  | succ m ih =>
    intro i s hm hi hst ⟨es, ep, t, L, hS, hg⟩ hR
    have hlt : i < n := by omega
    refine codeAny_builtin F.entry_set_update_loop ?_
    rw [Around.under_plainId F.plain_set_update_loop _]
    show wpAny _ A.in1 (pyNext (.ref I) >>= _) _ _ s
    refine wpAny_bind (W.item i s _ _ hlt hst fun v s' hP hst' hmv => ?_)
    obtain ⟨k, hk, hkv⟩ := hval i v hP
    have hS' := hS.keep fun o e => hmv.heap S o hSw e
    show wpAny _ A.in1 (holding [v] (setAdd S v) >>= _) _ _ s'
    refine wpAny_bind (wpAny_holding ?_)
    unfold setAdd
    refine wpAny_holding ?_
    refine wpAny_bind ((mixKind P w).pyHash (k := k) hkv ?_)
    refine addX (s := { s' with toks := s'.toks + 1 }) hS' hkv (by have := hg.1; omega) fun b h' es' ep' t' L' sb hS2 hm2 hl2 => ?_
    have hg2 : Got1 ks (i + 1) L' := by
      refine ⟨by have := hg.1; omega, fun j => ?_⟩
      rw [hm2 j, hg.2 j, List.take_add_one, hk, List.mem_append]
      simp only [Option.toList_some, List.mem_singleton]
      exact Or.comm
    refine wpAny_pure ⟨plainId_quiet F.plain_set_update_loop _, ih (i + 1) _ (by omega) hlt (W.frame _ s' _ _ hst' (Nat.le_succ _) fun b hb o e => ?_) ⟨_, _, _, _, hS2, hg2⟩ fun s'' es2 ep2 t2 L2 hm3 hS3 hg3 => ?_⟩
    · rw [sb.2 b (fun z : b = S => hSf (by rw [← z]; exact hb))]
      exact e
    · refine hR s'' _ _ _ _ (Moved.trans W.gtrans ((hmv.mono up).then_heap (Nat.le_succ _) fun b o hb e => ?_) hm3) hS3 hg3
      rw [sb.2 b (fun z : b = S => hb (by rw [z]; exact List.mem_cons_self))]
      exact e
theorem freshX {h : Heap} {a : Addr} {w : World} {ks : List Key} (ho : h.get? a = some { cls := .type "set", dict := none, data := .set #[] 0 (.fresh 0 0 (!w.params.followText "set-order")) }) : ∃ es ep t L, SetX w h a es ep t L ∧ Got1 ks 0 L :=
  ⟨#[], 0, _, [], ⟨⟨_, ho, ⟨rfl, rfl, rfl⟩, rfl⟩, (fun e he => by simp at he), .nil, .nil, by decide, by rfl, List.Pairwise.nil, by
    show _ ∨ (!w.params.followText "set-order") = true
    cases w.params.followText "set-order"
    · exact .inr rfl
    · exact .inl rfl⟩, Nat.le_refl _, fun j => by simp⟩
set_option maxHeartbeats 6400000 in
/-- set(list) -/
theorem call_setX {l : Addr} {items : Array Value} (ks : List Key) {Q : Value → Shared → Prop} (hh : A.handled = none) (hl : s.heap.IsList l items) (hn : items.size = ks.length) (hv : ∀ (i : Nat) (v : Value), items[i]? = some v → ∃ k, ks[i]? = some k ∧ keyIs k v = true) (few : ks.length < 63)
    (hQ : ∀ (h' : Heap) (tk : Nat) es ep t L, SetX w h' s.heap.objs.size es ep t L → (∀ j, j ∈ L ↔ j ∈ ks) → (∀ b o, s.heap.get? b = some o → h'.get? b = some o) → Q (.ref s.heap.objs.size) { s with heap := h', toks := tk }) :
    wpAny (model P w) A (call (.type "set") [.ref l]) Q E s := by
  obtain ⟨c, tl, hmro⟩ := F.called_set.mro
  have hmade := F.called_set.made
  have hsub := F.called_set.sub
  refine wpAny_call (codeAny_of_tree ?_)
  show wpAny _ _ (callAny (.type "set") _) _ _ _
  refine wpAny_pure ⟨Code.quiet_builtin _ (by decide +kernel), codeAny_builtin F.entry_type_call ?_⟩
  rw [Around.under_plain (weight_type_call_type "set" [.ref l] []) rfl]
  have h1 := F.called_set.notType
  have h2 := F.called_set.canCreate
  have hct := F.typeCall_set_1 (.ref l)
  repeat (any_goals (first | assumption | wp_step))
  refine codeAny_mono (code_set_led1 (.ref l) (E := E) (Q₁ := fun obj s₁ => obj = .ref s.heap.objs.size ∧ s₁ = { s with heap := s.heap.push { cls := .type "set", dict := none, data := .set #[] 0 (.fresh 0 0 (!w.params.followText "set-order")) } }) ⟨rfl, rfl⟩) fun r s₁ hr => ?_
  cases r with
  | error e => exact hr
  | ok fl =>
    cases fl with
    | ret obj =>
      obtain ⟨rfl, rfl⟩ := hr
      have hS : (s.heap.push { cls := .type "set", dict := none, data := .set #[] 0 (.fresh 0 0 (!w.params.followText "set-order")) }).get? s.heap.objs.size = some { cls := .type "set", dict := none, data := .set #[] 0 (.fresh 0 0 (!w.params.followText "set-order")) } := Heap.get?_push_size _ rfl
      have hT : Shared.TypeIs { s with heap := s.heap.push { cls := .type "set", dict := none, data := .set #[] 0 (.fresh 0 0 (!w.params.followText "set-order")) } } (.ref s.heap.objs.size) "set" := ⟨_, hS, rfl⟩
      have hli := F.called_set.init.lookup
      have hbi := F.called_set.init.bind (.ref s.heap.objs.size)
      repeat (any_goals (first | assumption | wp_step))
      refine codeAny_mono (codeAny_call_builtin (R := wants (fun r s₂ => r = .none ∧ ∃ h' tk es ep t L, s₂ = { s with heap := h', toks := tk } ∧ SetX w h' s.heap.objs.size es ep t L ∧ (∀ j, j ∈ L ↔ j ∈ ks) ∧ (∀ b o, s.heap.get? b = some o → h'.get? b = some o)) E) F.called_set.init.plain F.entry_set_init (check_set_init_1 hT ?_)) fun r₂ s₂ hr₂ => ?_
      · obtain ⟨ol, hol, hcl, nl, hdl⟩ := hl
        obtain ⟨ocls, odict, odata, oslots⟩ := ol
        simp only at hcl hdl
        subst hcl; subst hdl
        have hol' : (s.heap.push { cls := .type "set", dict := none, data := .set #[] 0 (.fresh 0 0 (!w.params.followText "set-order")) }).get? l = some { cls := .type "list", dict := odict, data := .seq items nl, slots := oslots } := Heap.get?_push_of_some _ hol
        have hsls := F.sub_list_set
        have hslf := F.sub_list_frozenset
        have hne : (Value.type "list" == Value.type "dict") = false := by decide
        have hl1 : (s.heap.push { cls := .type "set", dict := none, data := .set #[] 0 (.fresh 0 0 (!w.params.followText "set-order")) }).IsList l items := ⟨_, hol', rfl, nl, rfl⟩
        unfold Builtin.«set.__init__» noKeywords Builtin.Frozenset.updateFrom
        generalize hPI : pyIter = PI
        wp_walk
        subst hPI
        refine wpAny_pyIter_list hl1 ?_
        refine wpAny_bind (wpAny_runValue ?_)
        have hlS : l < s.heap.objs.size := Heap.lt_size hol
        have hh3 : A.in1.in1.in1.handled = none := by simp [hh]
        have hneI : l ≠ (s.heap.push { cls := .type "set", dict := none, data := .set #[] 0 (.fresh 0 0 (!w.params.followText "set-order")) }).objs.size := by
          rw [Heap.size_push]; exact Nat.ne_of_lt (Nat.lt_succ_of_lt hlS)
        have hSf : s.heap.objs.size ∉ [(s.heap.push { cls := .type "set", dict := none, data := .set #[] 0 (.fresh 0 0 (!w.params.followText "set-order")) }).objs.size, l] := by
          rw [Heap.size_push]; simp only [List.mem_cons, List.mem_singleton, List.not_mem_nil, or_false, not_or]
          exact ⟨Nat.ne_of_lt (Nat.lt_succ_self _), Nat.ne_of_gt hlS⟩
        refine loopX ((Walks.list hh3 _ l hneI items).toS) s.heap.objs.size hSf ks hn few hv (items.size - 0) 0 _ (by omega) (Nat.zero_le _)
          ⟨⟨_, Heap.get?_push_size _ rfl, rfl, rfl⟩, (hl1.push _)⟩ ?hS0 ?hR
        case hS0 => exact freshX (Heap.get?_push_of_some _ hS)
        case hR =>
          intro s' es ep t L hm hS' hg'
          obtain ⟨h', g2, d', tk', os'⟩ := s'
          have eg : g2 = s.gens := hm.gens
          have ed : d' = s.drawn := hm.drawn
          have eo : os' = s.os := hm.os
          subst eg; subst ed; subst eo
          show wpAny _ _ _ _ _ _
          refine wpAny_pure ?_
          show wpAny _ _ (ret Value.none) _ _ _
          refine wpAny_pure ⟨rfl, h', tk', es, ep, t, L, rfl, hS', fun j => ?_, fun b o e => ?_⟩
          · rw [hg'.2 j, List.take_of_length_le (by omega)]
          · have hb := Heap.lt_size e
            have n1 : b ≠ s.heap.objs.size := Nat.ne_of_lt hb
            have n2 : b ≠ s.heap.objs.size + 1 := Nat.ne_of_lt (Nat.lt_succ_of_lt hb)
            refine hm.heap b o (fun z => ?_) (Heap.get?_push_of_some _ (Heap.get?_push_of_some _ e))
            rw [Heap.size_push] at z
            rcases List.mem_cons.mp z with z | z
            · exact n1 z
            · exact n2 (List.mem_singleton.mp z)
      · cases r₂ with
        | error e => exact hr₂
        | ok fl₂ =>
          cases fl₂ with
          | ret r =>
            obtain ⟨rfl, h', tk, es, ep, t, L, rfl, hS', hm', hk'⟩ := hr₂
            repeat (any_goals (first | assumption | wp_step))
            exact hQ _ _ _ _ _ _ hS' hm' hk'
          | _ => exact hr₂.elim
    | _ => exact hr.elim
end
end Ly
/-! sorted(set(list)) -/
namespace Ly
open PySem PySem.Spec PyProof.Rows L2 TL
section
variable {P : Program} {w : World} {A : Around} {E : Value → Shared → Prop} {s : Shared} {a : Addr} {es : Array (Int × Value)} {ep : Nat} {t : SetTable} {L : List Key}
/-- sorted of a set, told by how list.sort sorts its members -/
theorem sortX {Ok : Array Value → Prop} {Q : Value → Shared → Prop} (R : SetX w s.heap a es ep t L) (hh : A.handled = none)
    (hs : ∀ (A : Around) (E : Value → Shared → Prop) (s : Shared) (a : Addr) (vs : List Value) (n : Nat) (Pf : Fin → Shared → Prop), s.heap.get? a = some (seqObj "list" vs.toArray n) → vs.Perm (es.toList.map (·.2)) → vs.length < 64 →
      (∀ out, Ok out → Pf (.done (.ret .none)) { s with heap := sortedHeap s.heap a vs out }) → wpAny (model P w) A (Builtin.«list.sort» ⟨[.ref a], []⟩) Pf E s)
    (hQ : ∀ s' p (out : Array Value) (c : Nat), (∀ b o, s.heap.get? b = some o → s'.heap.get? b = some o) → s'.gens = s.gens → s'.os = s.os → s.heap.objs.size ≤ p → s'.heap.get? p = some (seqObj "list" out c) → Ok out → Q (.ref p) s') :
    wpAny (model P w) A (call (.builtin "sorted") [.ref a]) Q E s := by
  obtain ⟨o, ho, hex, hd⟩ := R.at_
  refine Calls.call_function_entry kind_sorted plain_sorted entry_sorted (args_sorted1 _) ?_
  unfold Builtin.«sorted»
  refine wpAny_bind (m := checkCount "sorted" 1 1 _) (wpAny_pure ?_)
  refine wpAny_bind (collect_set (A := A.in1) hh ⟨o, ho, hex.1, hd⟩ R.fit R.bound R.ris R.led fun s1 vs k1 hz g1 o1 pm => ?_)
  have hvl : vs.length < 64 := by
    have := R.few
    rw [pm.length_eq, List.length_map, Array.length_toList, R.size]
    exact this
  refine wpAny_bind (wpAny_newList ?_ (by rw [sizeLine_eq]; omega))
  have hoL : (s1.heap.push (seqObj "list" vs.toArray 0)).get? s1.heap.objs.size = some (seqObj "list" vs.toArray 0) := Heap.get?_push_size _ rfl
  refine wpAny_bind (wpAny_holding (wpAny_call_entry slot_list_sort ⟨_, hoL, rfl⟩ entry_list_sort (hs _ _ { s1 with heap := s1.heap.push (seqObj "list" vs.toArray 0) } _ vs 0 _ hoL pm hvl fun out ok => ⟨_, rfl, ?_⟩) (args_list_sort _)))
  obtain ⟨c, hc⟩ := sortedHeap_at (vs := vs) (out := out) hoL
  refine wpAny_pure ⟨_, rfl, hQ _ s1.heap.objs.size out c (fun b u e => ?_) g1 o1 hz hc ok⟩
  have q := k1 b u e
  have hlt := Heap.lt_size q
  show (sortedHeap (s1.heap.push (seqObj "list" vs.toArray 0)) s1.heap.objs.size vs out).get? b = some u
  rw [sortedHeap_old (Nat.ne_of_lt hlt) (by rw [size_push']; exact Nat.lt_succ_of_lt hlt)]
  exact Heap.get?_push_of_some _ q
end
/-! ### as calls by values -/
def SetXO (w : World) (a : Addr) (ks : List Key) : HO := .ext fun h => ∃ es ep t L, SetX w h a es ep t L ∧ ∀ j, j ∈ L ↔ j ∈ ks
theorem setXO_new {w : World} {P : Program} {H : Hp} {h : Heap} {a : Addr} {ks : List Key} {es : Array (Int × Value)} {ep : Nat} {t : SetTable} {L : List Key} (R : SetX w h a es ep t L) (m : ∀ j, j ∈ L ↔ j ∈ ks) : ObjOk P w H h a (SetXO w a ks) := by
  obtain ⟨o, ho, _⟩ := R.at_
  exact ⟨⟨es, ep, t, L, R, m⟩, ⟨o, ho⟩, fun h1 h2 ⟨es, ep, t, L, R, m⟩ k => ⟨es, ep, t, L, R.keep k, m⟩⟩
theorem nd_map {α β : Type} {f : α → β} : ∀ {l : List α}, (l.map f).Nodup → l.Nodup
  | [], _ => .nil
  | x :: l, h => by
    rw [List.map_cons, List.nodup_cons] at h
    exact List.nodup_cons.mpr ⟨fun z => h.1 (List.mem_map.mpr ⟨x, z, rfl⟩), nd_map h.2⟩
section
variable {X : Cx}
theorem kv_at (X : Cx) : ∀ {ks : List Key} {us : List Value}, Vals (ks.map kV) us → ∀ (i : Nat) (v : Value), us.toArray[i]? = some v → ∃ k, ks[i]? = some k ∧ keyIs k v = true
  | [], us, r => fun i v h => by
    cases r
    simp at h
  | k :: ks, _, r => fun i v h => by
    rw [List.map_cons] at r
    cases r with
    | cons h1 t =>
      cases i with
      | zero =>
        rename_i b bs
        have e : b = v := by simpa using h
        rw [← e]
        exact ⟨k, rfl, kV_is (P := X.prog) (w := X.w) h1⟩
      | succ i =>
        obtain ⟨k2, h2, h3⟩ := kv_at X t i v (by simpa using h)
        exact ⟨k2, h2, h3⟩
def rSetL (X : Cx) : List V → Hp → VK → Prop := fun vs H Q => ∃ (a : Addr) (ks : List Key), vs = [V.ref a] ∧ SqL X.K H a (ks.map kV) ∧ ks.length < 63 ∧ ∀ p, H p = none → Q (.ref p) (upd H p (SetXO X.w p ks))
theorem cr_setL (hc : X.calm = true) : CallR X (.type "set") (rSetL X) := by
  intro pins s σ H vs us Q I r h
  obtain ⟨a, ks, rfl, hs, hl, q⟩ := h
  obtain ⟨its, rv, pl, hz⟩ := I.list hs
  rw [Vals.ref1 r]
  refine call_setX (items := its.toArray) ks (I.ok.hd hc) pl.isList (by rw [List.size_toArray, ← rv.length, List.length_map]) (kv_at X rv) hl fun h' tk es ep t L R m k => ?_
  exact ⟨.ref _, upd H s.heap.objs.size (SetXO X.w s.heap.objs.size ks), I.laid (t' := tk) k (Nat.le_refl _) (setXO_new R m), rfl, q _ (I.hok.fresh (Nat.le_refl _))⟩
/-- sorted of such a set -/
theorem cr_sortX {Ok : Array Value → Prop} (hc : X.calm = true) {a : Addr} {ks : List Key} {pins : List (Addr × Obj)} {s : Shared} {σ : L2.St} {H : Hp} {Q : VK} {A : Around} {E : Value → Shared → Prop} (I : Inv X pins σ H s) (ha : H a = some (SetXO X.w a ks)) (hA : A.handled = none)
    (hs : ∀ (l : List (Int × Value)), (l.map kOf).Nodup → (∀ j, j ∈ l.map kOf ↔ j ∈ ks) → (∀ e ∈ l, keyIs (kOf e) e.2 = true) → ∀ (A : Around) (E : Value → Shared → Prop) (s : Shared) (a : Addr) (vs : List Value) (n : Nat) (Pf : Fin → Shared → Prop), s.heap.get? a = some (seqObj "list" vs.toArray n) → vs.Perm (l.map (·.2)) → vs.length < 64 →
      (∀ out, Ok out → Pf (.done (.ret .none)) { s with heap := sortedHeap s.heap a vs out }) → wpAny (model X.prog X.w) A (Builtin.«list.sort» ⟨[.ref a], []⟩) Pf E s)
    (hQ : ∀ (out : Array Value) (p : Addr), Ok out → H p = none → ∃ xs : List V, Vals xs out.toList ∧ xs.length ≤ sizeLine ∧ Q (.ref p) (upd H p (.lst xs))) :
    wpAny (model X.prog X.w) A (call (.builtin "sorted") [.ref a]) (EP X pins σ Q) E s := by
  obtain ⟨es, ep, t, L, R, m⟩ := (I.hok a _ ha).1
  refine sortX R hA (hs es.toList (R.pm.nodup_iff.mpr R.nd) (fun j => (R.pm.mem_iff).trans (m j)) fun e he => (R.good e he).1) fun s' p out c k g o hp hg ok => ?_
  have hn : H p = none := I.hok.fresh hp
  obtain ⟨xs, rv, hl, q⟩ := hQ out p ok hn
  have J : Inv X pins σ (upd H p (.lst xs)) { s with heap := s'.heap, gens := s'.gens, drawn := s'.drawn, toks := s'.toks } :=
    I.call (ch := []) (Un.laid k hp hn) (I.hok.laid k hp ⟨hl, out.toList, c, rv, hg⟩) (by rw [g]; exact I.bare) (fun _ z => nomatch z)
  have e : s' = { s with heap := s'.heap, gens := s'.gens, drawn := s'.drawn, toks := s'.toks } := by
    cases s'
    cases s
    cases o
    rfl
  rw [e]
  exact ⟨.ref p, _, J, rfl, q⟩
theorem ints_from : ∀ {l : List Value}, (∀ v ∈ l, ∃ k t, v = Value.int k t) → IntsAre l (l.map L2.vInt)
  | [], _ => .nil
  | v :: l, h => by
    obtain ⟨k, t, rfl⟩ := h v List.mem_cons_self
    exact .cons k t (ints_from fun u hu => h u (List.mem_cons_of_mem _ hu))
def vStr (v : Value) : Str := match v with
  | .str x _ => x
  | _ => ""
theorem strs_from : ∀ {l : List Value}, (∀ v ∈ l, ∃ x t, v = Value.str x t) → StrsAre l (l.map vStr)
  | [], _ => .nil
  | v :: l, h => by
    obtain ⟨k, t, rfl⟩ := h v List.mem_cons_self
    exact .cons k t (strs_from fun u hu => h u (List.mem_cons_of_mem _ hu))
/-- sorted(set of ints) -/
def rSortXI (X : Cx) : List V → Hp → VK → Prop := fun vs H Q => ∃ (a : Addr) (ns : List Int), vs = [V.ref a] ∧ H a = some (SetXO X.w a (ns.map Sum.inl)) ∧ ∀ (ys : List Int) (p : Addr), ys.Pairwise (· < ·) → (∀ k, k ∈ ys ↔ k ∈ ns) → ys.length < 64 → H p = none → Q (.ref p) (upd H p (.lst (ys.map V.int)))
theorem cr_sortXI (hc : X.calm = true) : CallR X (.builtin "sorted") (rSortXI X) := by
  intro pins s σ H vs us Q I r h
  obtain ⟨a, ns, rfl, ha, q⟩ := h
  rw [Vals.ref1 r]
  refine cr_sortX (Ok := fun out => ∃ ys : List Int, IntsAre out.toList ys ∧ ys.Pairwise (· < ·) ∧ (∀ k, k ∈ ys ↔ k ∈ ns) ∧ ys.length < 64) hc I ha (I.ok.hd hc) ?_ fun out p ⟨ys, h1, h2, h3, h4⟩ hn => ⟨ys.map V.int, vals_of_ints h1, by rw [List.length_map]; exact small64 h4, q ys p h2 h3 h4 hn⟩
  intro l nd hm hg A E s a vs n Pf ho pm h64 k
  have hv : ∀ e ∈ l, ∃ k t, e.2 = Value.int k t ∧ kOf e = .inl k := fun e he => by
    obtain ⟨i, _, hi⟩ := List.mem_map.mp ((hm (kOf e)).mp (List.mem_map.mpr ⟨e, he, rfl⟩))
    have h1 := hg e he
    rcases keyIs_shape h1 with ⟨i', t, h2, h3⟩ | ⟨x, t, h2, h3⟩
    · first
        | exact ⟨i', t, h2, h3⟩
        | exact ⟨i', t, h3, h2⟩
    · first
        | (rw [h2] at hi; cases hi)
        | (rw [h3] at hi; cases hi)
  have hvs : ∀ v ∈ vs, ∃ k t, v = Value.int k t := fun v hv' => by
    obtain ⟨e, he, rfl⟩ := List.mem_map.mp (pm.mem_iff.mp hv')
    obtain ⟨k, t, h2, _⟩ := hv e he
    exact ⟨k, t, h2⟩
  have pk : (vs.map fun v => (Sum.inl (L2.vInt v) : Key)).Perm (l.map kOf) := by
    have h1 := pm.map fun v => (Sum.inl (L2.vInt v) : Key)
    rw [List.map_map] at h1
    have e1 : l.map ((fun v => (Sum.inl (L2.vInt v) : Key)) ∘ fun x => x.2) = l.map kOf := List.map_congr_left fun e he => by
      obtain ⟨k, t, h2, h3⟩ := hv e he
      show Sum.inl (L2.vInt e.2) = kOf e
      rw [h3, h2]
      rfl
    rw [e1] at h1
    exact h1
  refine PyProof.Rows.list_sort_tree ho (ints_from hvs) h64 fun out ys a1 a2 a3 => k out ⟨ys, a1, ?_, fun j => ?_, ?_⟩
  · refine lt_of_le_nodup ys a3 (a2.nodup_iff.mpr ?_)
    have h1 := pk.nodup_iff.mpr nd
    rw [show (vs.map fun v => (Sum.inl (L2.vInt v) : Key)) = (vs.map L2.vInt).map Sum.inl by rw [List.map_map]; rfl] at h1
    exact nd_map h1
  · rw [a2.mem_iff]
    have h1 : (Sum.inl j : Key) ∈ (vs.map fun v => (Sum.inl (L2.vInt v) : Key)) ↔ (Sum.inl j : Key) ∈ ns.map Sum.inl := (pk.mem_iff).trans (hm _)
    constructor
    · intro h
      obtain ⟨v, hv1, rfl⟩ := List.mem_map.mp h
      obtain ⟨i, hi, e⟩ := List.mem_map.mp (h1.mp (List.mem_map.mpr ⟨v, hv1, rfl⟩))
      rw [← Sum.inl.inj e]
      exact hi
    · intro h
      obtain ⟨v, hv1, e⟩ := List.mem_map.mp (h1.mpr (List.mem_map.mpr ⟨j, h, rfl⟩))
      rw [← Sum.inl.inj e]
      exact List.mem_map.mpr ⟨v, hv1, rfl⟩
  · rw [a2.length_eq, List.length_map]
    exact h64
/-- sorted(set of texts) -/
def rSortXS (X : Cx) : List V → Hp → VK → Prop := fun vs H Q => ∃ (a : Addr) (ns : List Str), vs = [V.ref a] ∧ H a = some (SetXO X.w a (ns.map Sum.inr)) ∧ ∀ (ys : List Str) (p : Addr), sortedS ys = true → ys.Nodup → (∀ k, k ∈ ys ↔ k ∈ ns) → ys.length < 64 → H p = none → Q (.ref p) (upd H p (.lst (ys.map V.str)))
theorem cr_sortXS (hc : X.calm = true) : CallR X (.builtin "sorted") (rSortXS X) := by
  intro pins s σ H vs us Q I r h
  obtain ⟨a, ns, rfl, ha, q⟩ := h
  rw [Vals.ref1 r]
  refine cr_sortX (Ok := fun out => ∃ ys : List Str, StrsAre out.toList ys ∧ sortedS ys = true ∧ ys.Nodup ∧ (∀ k, k ∈ ys ↔ k ∈ ns) ∧ ys.length < 64) hc I ha (I.ok.hd hc) ?_ fun out p ⟨ys, h1, h2, h5, h3, h4⟩ hn => ⟨ys.map V.str, vals_of_strs h1, by rw [List.length_map]; exact small64 h4, q ys p h2 h5 h3 h4 hn⟩
  intro l nd hm hg A E s a vs n Pf ho pm h64 k
  have hv : ∀ e ∈ l, ∃ k t, e.2 = Value.str k t ∧ kOf e = .inr k := fun e he => by
    obtain ⟨i, _, hi⟩ := List.mem_map.mp ((hm (kOf e)).mp (List.mem_map.mpr ⟨e, he, rfl⟩))
    have h1 := hg e he
    rcases keyIs_shape h1 with ⟨i', t, h2, h3⟩ | ⟨x, t, h2, h3⟩
    · first
        | (rw [h2] at hi; cases hi)
        | (rw [h3] at hi; cases hi)
    · first
        | exact ⟨x, t, h2, h3⟩
        | exact ⟨x, t, h3, h2⟩
  have hvs : ∀ v ∈ vs, ∃ k t, v = Value.str k t := fun v hv' => by
    obtain ⟨e, he, rfl⟩ := List.mem_map.mp (pm.mem_iff.mp hv')
    obtain ⟨k, t, h2, _⟩ := hv e he
    exact ⟨k, t, h2⟩
  have pk : (vs.map fun v => (Sum.inr (vStr v) : Key)).Perm (l.map kOf) := by
    have h1 := pm.map fun v => (Sum.inr (vStr v) : Key)
    rw [List.map_map] at h1
    have e1 : l.map ((fun v => (Sum.inr (vStr v) : Key)) ∘ fun x => x.2) = l.map kOf := List.map_congr_left fun e he => by
      obtain ⟨k, t, h2, h3⟩ := hv e he
      show Sum.inr (vStr e.2) = kOf e
      rw [h3, h2]
      rfl
    rw [e1] at h1
    exact h1
  have hS := strs_from hvs
  refine list_sort_treeK strKind_oneLt ho hS.keysOf (fun v₁ v₂ rest e => keyKind_strs (by rw [← e]; exact hS)) h64 fun st' hp hs => ?_
  obtain ⟨ys, a1, a2, a3⟩ := sorted_out_str hS hp hs
  refine k _ ⟨ys, a1, a3, ?_, fun j => ?_, ?_⟩
  · refine a2.nodup_iff.mpr ?_
    have h1 := pk.nodup_iff.mpr nd
    rw [show (vs.map fun v => (Sum.inr (vStr v) : Key)) = (vs.map vStr).map Sum.inr by rw [List.map_map]; rfl] at h1
    exact nd_map h1
  · rw [a2.mem_iff]
    have h1 : (Sum.inr j : Key) ∈ (vs.map fun v => (Sum.inr (vStr v) : Key)) ↔ (Sum.inr j : Key) ∈ ns.map Sum.inr := (pk.mem_iff).trans (hm _)
    constructor
    · intro h
      obtain ⟨v, hv1, rfl⟩ := List.mem_map.mp h
      obtain ⟨i, hi, e⟩ := List.mem_map.mp (h1.mp (List.mem_map.mpr ⟨v, hv1, rfl⟩))
      rw [← Sum.inr.inj e]
      exact hi
    · intro h
      obtain ⟨v, hv1, e⟩ := List.mem_map.mp (h1.mpr (List.mem_map.mpr ⟨j, h, rfl⟩))
      rw [← Sum.inr.inj e]
      exact List.mem_map.mpr ⟨v, hv1, rfl⟩
  · rw [a2.length_eq, List.length_map]
    exact h64
end

section
variable {X : Cx} {σ : L2.St} {B H : Hp} {O : Own} {a b c e tg : Expr} {pos p : Pos} {cw : Crew}
theorem ev_sortSetN {m : Option (List Nat)} {p2 pos2 : Pos} (hb : Bt X.mg) (hc : X.calm = true) (ha : ES X σ B O a tN m) (hg : Gl X "sorted" := by rfl) (hg2 : Gl X "set" := by rfl) (he : starEach [a] X.env = (false, eval a X.env) :: starEach [] X.env := by rfl) (he2 : starEach [.Call (.Name "set" p2) [a] [] pos2] X.env = (false, eval (.Call (.Name "set" p2) [a] [] pos2) X.env) :: starEach [] X.env := by rfl) : EV X σ B O (.Call (.Name "sorted" p) [.Call (.Name "set" p2) [a] [] pos2] [] pos) (tL tN) (m.bind fSortN) := by
  intro z hz B1 H e I Q q
  cases m with
  | none => cases hz
  | some xs =>
    have hz : fSortN xs = some z := hz
    unfold fSortN at hz
    split at hz
    · rename_i h63
      rw [Nat.blt_eq] at h63
      cases hz
      refine of_e (pe_callB (cr_sortXI hc) hg hb.sorted PyProof.Rows.boot_sorted (pa1 he2) (by decide) (by decide) he2 rfl) ?_
      refine type1 (cr_setL hc) hg2 hb.set PyProof.Rows.boot_set (by decide) (by decide) he (ha xs rfl) e I fun v B2 H2 g2 ⟨l, vs, h1, h2, h3, h4, h5⟩ => ?_
      subst h1
      refine ⟨l, (xs.map fun n : Nat => (n : Int)).map Sum.inl, rfl, ?_, by rw [List.length_map, List.length_map]; exact h63, fun p1 n1 => ?_⟩
      · have e1 : ((xs.map fun n : Nat => (n : Int)).map Sum.inl).map kV = vs := by
          rw [List.map_map, show (kV ∘ Sum.inl : Int → V) = V.int from rfl, repsN h3]
        rw [e1]
        exact SqL.of h2
      refine ⟨p1, _, rfl, upd_same, fun ys p3 pw hm h64 np => ?_⟩
      have np1 : H2 p3 = none := by
        by_cases e3 : p3 = p1
        · subst e3
          exact n1
        · rw [upd_ne e3] at np
          exact np
      have g3 := Go.tmp (o := SetXO X.w p1 ((xs.map fun n : Nat => (n : Int)).map Sum.inl)) g2.bh n1
      have e1 : ys = (sortU Nat.blt xs).map fun n : Nat => (n : Int) := by
        refine arr_set (r := fun a b : Int => a < b) (fun a => Int.lt_irrefl a) (fun j => ?_) (fun a b h1 h2 => Int.lt_irrefl a (Int.lt_trans h1 h2)) pw ?_
        · rw [hm j, List.mem_map, List.mem_map]
          constructor
          · rintro ⟨n, hn, rfl⟩
            exact ⟨n, (sortU_mem blt_tot xs).mpr hn, rfl⟩
          · rintro ⟨n, hn, rfl⟩
            exact ⟨n, (sortU_mem blt_tot xs).mp hn, rfl⟩
        · refine List.pairwise_map.mpr ((sortU_sorted blt_tr blt_tot xs).imp fun {a b} k => ?_)
          rw [Nat.blt_eq] at k
          exact Int.ofNat_lt.mpr k
      subst e1
      have hl : (sortU Nat.blt xs).length < 64 := by rw [List.length_map] at h64; exact h64
      refine q _ _ _ ((g2.trans g3).trans (Go.lay g3.bh np)) ⟨p3, _, rfl, upd_same, reps_nats _, ?_⟩
      rw [List.length_map, List.length_map]
      omega
    · cases hz
theorem valid_sortU {xs : List (List Nat)} (h : ∀ s ∈ xs, (∀ i ∈ s, i < cw.l.length) ∧ s.length ≤ 100) : ∀ s ∈ sortU lexB xs, (∀ i ∈ s, i < cw.l.length) ∧ s.length ≤ 100 := fun s hs => h s ((sortU_mem (fun a b h1 h2 => lexB_tot a b h1 h2) xs).mp hs)
theorem ev_sortSetS {m : Option (List (List Nat))} {p2 pos2 : Pos} (hb : Bt X.mg) (hc : X.calm = true) (ha : ES X σ B O a (tS cw) m) (hg : Gl X "sorted" := by rfl) (hg2 : Gl X "set" := by rfl) (he : starEach [a] X.env = (false, eval a X.env) :: starEach [] X.env := by rfl) (he2 : starEach [.Call (.Name "set" p2) [a] [] pos2] X.env = (false, eval (.Call (.Name "set" p2) [a] [] pos2) X.env) :: starEach [] X.env := by rfl) : EV X σ B O (.Call (.Name "sorted" p) [.Call (.Name "set" p2) [a] [] pos2] [] pos) (tL (tS cw)) (m.bind fSortSetS) := by
  intro z hz B1 H e I Q q
  cases m with
  | none => cases hz
  | some xs =>
    have hz : fSortSetS xs = some z := hz
    unfold fSortSetS at hz
    split at hz
    · rename_i h63
      rw [Nat.blt_eq] at h63
      cases hz
      refine of_e (pe_callB (cr_sortXS hc) hg hb.sorted PyProof.Rows.boot_sorted (pa1 he2) (by decide) (by decide) he2 rfl) ?_
      refine type1 (cr_setL hc) hg2 hb.set PyProof.Rows.boot_set (by decide) (by decide) he (ha xs rfl) e I fun v B2 H2 g2 ⟨l, vs, h1, h2, h3, h4, h5⟩ => ?_
      subst h1
      have va := valid2_of h3
      refine ⟨l, (xs.map (str cw)).map Sum.inr, rfl, ?_, by rw [List.length_map, List.length_map]; exact h63, fun p1 n1 => ?_⟩
      · have e1 : ((xs.map (str cw)).map Sum.inr).map kV = vs := by
          rw [List.map_map, show (kV ∘ Sum.inr : Str → V) = V.str from rfl, repsS h3]
        rw [e1]
        exact SqL.of h2
      refine ⟨p1, _, rfl, upd_same, fun ys p3 hs nd hm h64 np => ?_⟩
      have g3 := Go.tmp (o := SetXO X.w p1 ((xs.map (str cw)).map Sum.inr)) g2.bh n1
      have hy : ∀ y ∈ ys, ∃ s ∈ xs, y = str cw s := fun y hy => by
        obtain ⟨s, h1, h2⟩ := List.mem_map.mp ((hm y).mp hy)
        exact ⟨s, h1, h2.symm⟩
      have vxs : ∀ s ∈ xs, ∀ i ∈ s, i < cw.l.length := fun s hs => (va s hs).1
      have e1 : ys = (sortU lexB xs).map (str cw) := by
        have e2 : ys = (ys.map (dec cw)).map (str cw) := by
          rw [List.map_map]
          conv => lhs; rw [← List.map_id ys]
          exact List.map_congr_left fun y h => by
            obtain ⟨s, h1, rfl⟩ := hy y h
            show str cw s = str cw (dec cw (str cw s))
            rw [dec_str (vxs s h1)]
        have vd : ∀ s ∈ ys.map (dec cw), ∀ i ∈ s, i < cw.l.length := fun s h => by
          obtain ⟨y, h1, rfl⟩ := List.mem_map.mp h
          obtain ⟨s, h2, rfl⟩ := hy y h1
          rw [dec_str (vxs s h2)]
          exact vxs s h2
        rw [e2]
        refine congrArg (List.map (str cw)) ?_
        rw [e2] at hs nd
        have pw := sorted_pw vd hs
        have nd2 := nd_map nd
        have pl : (ys.map (dec cw)).Pairwise fun a b => lexB a b = true := by
          have h1 := List.Pairwise.and pw nd2
          refine h1.imp fun {a b} ⟨h2, h3⟩ => ?_
          cases k : lexB a b with
          | true => rfl
          | false => exact absurd (lexB_tot a b k h2) h3
        refine arr_set (r := fun a b => lexB a b = true) (fun a h => by rw [lexB_asy a a h] at h; cases h) (fun j => ?_) (fun a b h1 h2 => by rw [lexB_asy a b h1] at h2; cases h2) pl (sortU_sorted lexB_tr (fun a b h1 h2 => lexB_tot a b h1 h2) xs)
        rw [sortU_mem (fun a b h1 h2 => lexB_tot a b h1 h2) xs, List.mem_map]
        constructor
        · rintro ⟨y, h1, rfl⟩
          obtain ⟨s, h2, rfl⟩ := hy y h1
          rw [dec_str (vxs s h2)]
          exact h2
        · intro h
          exact ⟨str cw j, (hm _).mpr (List.mem_map.mpr ⟨j, h, rfl⟩), dec_str (vxs j h)⟩
      subst e1
      have hl : (sortU lexB xs).length < 64 := by rw [List.length_map] at h64; exact h64
      refine q _ _ _ ((g2.trans g3).trans (Go.lay g3.bh np)) ⟨p3, _, rfl, upd_same, reps_strs (valid_sortU va), ?_⟩
      rw [List.length_map, List.length_map]
      omega
    · cases hz
end
end Ly
namespace Ly
open PySem PySem.Spec PyProof.Rows L2 TL
/-- one list behind another, told with what may fail -/
def compC {α β : Type} (f : α → Option (List β)) : List α → Option (List β)
  | [] => some []
  | x :: xs => (f x).bind fun ys => (compC f xs).bind fun zs => some (ys ++ zs)
section
variable {X : Cx} {σ : L2.St} {B H : Hp} {O : Own} {a b c e tg : Expr} {es : List Expr} {pos p apos : Pos} {α β γ δ : Type} {T : Ty α} {U : Ty β} {S : Ty γ} {W : Ty δ} {cw : Crew} {D : Ends} {rest els body : List Stmt} {st : Stmt} {C : Addr}
/-! ### comprehensions over any target -/
/-- what a target makes of an item -/
structure Bind (T : Ty α) (σ : L2.St) (vs : List Nat) (g : TG) (Bd : Hp → α → L2.St → Prop) : Prop where
  go : ∀ {x v B2 H2} {Q : L2.St → Hp → Prop}, Ex B2 H2 → T.rep B2 v x → (∀ σ2, Bd B2 x σ2 → wipe σ2 vs = wipe σ vs → Q σ2 H2) → g v (wipe σ vs) H2 Q
theorem lc_gen {scope : Scope} {ifs : List Expr} {elt iter : Expr} {vs' : List Nat} {g : TG} {Bd : Hp → α → L2.St → Prop} {mxs : Option (List α)} {tot : List β} {Q : VK} {B1 H : Hp} (hi : IV X σ B O tg iter T mxs) (c : α → Option Bool) (f : α → Option β) (hb : Bind T σ vs' g Bd)
    (hcnd : ∀ x σ2 B2, Ex B B2 → Bd B2 x σ2 → TVb X scope σ2 B2 O ifs (c x))
    (hel : ∀ x σ2 B2 B3, Ex B B2 → Ex B2 B3 → Bd B2 x σ2 → c x = some true → ∀ s H C cl fp, EV (bl X scope s H C cl fp) σ2 B3 O elt U (f x))
    (hm : (mxs.bind fun xs => compM c f xs) = some tot) (e : Ex B B1) (I : In B1 O H) (q : ∀ v B' H', Go B1 H B' H' → (tL U).rep B' v tot → Q v H') :
    tLc (wI X tg iter) g (wTb X scope ifs) (wEb X scope elt) vs' σ H Q := by
  obtain ⟨xs, rfl, hf⟩ := bind_some hm
  refine hi xs rfl B1 H e I _ fun J B2 H2 vs g2 sr r2 hl => ?_
  intro D hD
  obtain ⟨G, w, hG⟩ := sr.ex
  have I2 := I.go g2
  have hB2 : B2 D = none := g2.bh.free hD
  refine lc_it w (Qd := Q (.ref D)) (fun i H' => ∃ B' acc ys zs, Lcw B2 H2 U c f xs tot D i B' H' acc ys zs) ?_ ?_ ?_ ?_
  · exact ⟨B2, [], [], tot, (Go.refl g2.bh).app hD hB2, hB2, upd_same, .nil, hf, rfl, Nat.le_refl _⟩
  · intro i H' hi ⟨B', acc, ys, zs, L⟩
    exact hG H' (L.go.eb.trans L.go.bh) fun p hp => (I2.go L.go).ow p hp |>.1
  · intro i x H' H'' hin ⟨B', acc, ys, zs, L⟩ ⟨e1, hx⟩
    subst e1
    obtain ⟨y, hy, ry⟩ := r2.get hx
    have hd : xs.drop i = y :: xs.drop (i + 1) := by
      have hlt := (List.getElem?_eq_some_iff.mp hy)
      rw [List.drop_eq_getElem_cons hlt.1, hlt.2]
    have rest := L.rest
    rw [hd] at rest
    obtain ⟨b, hbb, rest⟩ := bind_some rest
    have ry' := T.mono L.go.eb ry
    have eB := (e.trans g2.eb).trans L.go.eb
    refine hb.go L.go.bh ry' fun σ2 hbd hw => ⟨hw, ?_⟩
    refine tv_b (hcnd y σ2 B' eB hbd) b hbb B' _ (Ex.refl _) (I2.go L.go) _ fun B3 H3 g3 => ?_
    have n3 := g3.keep L.nd L.at_
    cases b with
    | true =>
      refine iteT ?_
      obtain ⟨u, hu, rest⟩ := bind_some (f := fun y => (compM c f (xs.drop (i + 1))).bind fun ys => some (y :: ys)) rest
      obtain ⟨zs', hz, rest⟩ := bind_some rest
      cases rest
      intro s H0 C cl fp
      refine hel y σ2 B' B3 eB g3.eb hbd hbb s H0 C cl fp u hu B3 H3 (Ex.refl _) ((I2.go L.go).go g3) _ fun v B4 H4 g4 r4 => ?_
      have n4 := g4.keep n3 (g3.eh _ _ L.at_)
      refine ⟨acc, g4.eh _ _ (g3.eh _ _ L.at_), Nat.lt_of_le_of_lt L.len (Nat.lt_of_lt_of_le hin (sz_of hl)), ?_⟩
      refine ⟨B4, acc ++ [v], ys ++ [u], zs', ((L.go.trans g3).trans g4).app hD n4, n4, upd_same, (L.rp.mono (g3.eb.trans g4.eb)).app (.cons r4 .nil), hz, ?_, ?_⟩
      · rw [L.tot, List.append_assoc]
        rfl
      · rw [List.length_append]
        exact Nat.succ_le_succ L.len
    | false =>
      refine iteF ?_
      exact ⟨B3, acc, ys, zs, L.go.trans g3, n3, g3.eh _ _ L.at_, L.rp.mono g3.eb, rest, L.tot, Nat.le_succ_of_le L.len⟩
  · intro H' ⟨B', acc, ys, zs, L⟩
    have hn : xs.drop vs.length = [] := by rw [r2.len]; exact List.drop_length
    have rest := L.rest
    rw [hn] at rest
    cases rest
    have ht := L.tot
    rw [List.append_nil] at ht
    subst ht
    exact q _ _ _ (g2.trans (L.go.seal hB2 hD L.at_)) ⟨D, acc, rfl, upd_same, L.rp.mono (Ex.new L.nd), Nat.le_trans L.len hl⟩
/-- a pair of names as the target -/
theorem bind_pair {j1 j2 : Nat} (hw : ∀ w1 w2 : V, wipe (((wipe σ [j1, j2]).set j1 (some w1)).set j2 (some w2)) [j1, j2] = wipe σ [j1, j2]) :
    Bind (tP T U) σ [j1, j2] (gTup X.K 2 (gCons (gName j1) (gCons (gName j2) gNil))) fun B2 x σ2 => ∃ w1 w2, T.rep B2 w1 x.1 ∧ U.rep B2 w2 x.2 ∧ σ2 = ((wipe σ [j1, j2]).set j1 (some w1)).set j2 (some w2) :=
  ⟨fun {x v B2 H2 Q} e ⟨l, w1, w2, h1, h2, h3, h4⟩ k => ⟨l, [w1, w2], h1, SqT.of (e _ _ h2), rfl, w1, [w2], rfl, w2, [], rfl, rfl, k _ ⟨w1, w2, h3, h4, rfl⟩ (hw w1 w2)⟩⟩
theorem ev_lcP {scope : Scope} {ifs : List Expr} {elt iter : Expr} {x1 x2 : Str} {j1 j2 : Nat} {mxs : Option (List (α × γ))} {elts : List Expr} {kt : Nat} {tpos : Pos} (hc : X.calm = true) (hN : X.N.Nodup) (ok : BlkOk X.N X.env.scope scope [(x1, j1), (x2, j2)]) (hi : IV X σ B O (.Tuple elts kt tpos) iter (tP T S) mxs)
    (hg : ∀ (s : Shared) (H : Hp) (C : Addr) (cl : List (Str × Addr)) (fp : List Addr), PG (bl X scope s H C cl fp) (.Tuple elts kt tpos) (gTup X.K 2 (gCons (gName j1) (gCons (gName j2) gNil)))) (c : α × γ → Option Bool) (f : α × γ → Option β)
    (hw : ∀ w1 w2 : V, wipe (((wipe σ [j1, j2]).set j1 (some w1)).set j2 (some w2)) [j1, j2] = wipe σ [j1, j2])
    (hcnd : ∀ x w1 w2 B2, Ex B B2 → T.rep B2 w1 x.1 → S.rep B2 w2 x.2 → TVb X scope (((wipe σ [j1, j2]).set j1 (some w1)).set j2 (some w2)) B2 O ifs (c x))
    (hel : ∀ x w1 w2 B2, Ex B B2 → T.rep B2 w1 x.1 → S.rep B2 w2 x.2 → c x = some true → ∀ s H C cl fp, EV (bl X scope s H C cl fp) (((wipe σ [j1, j2]).set j1 (some w1)).set j2 (some w2)) B2 O elt U (f x))
    (h1 : ifs.length ≤ 1 := by decide) (hs : ∀ x, foldedSetIterable iter X.env x = pure x := by intro _; rfl) : EV X σ B O (.ListComp elt [⟨.Tuple elts kt tpos, iter, ifs, 0⟩] scope pos) (tL U) (mxs.bind fun xs => compM c f xs) := by
  intro z hz B1 H e I Q q
  refine of_e (pe_lc (own := [(x1, j1), (x2, j2)]) hc hN p_i ok hg (p_tb h1) p_eb hs) (lc_gen hi c f (bind_pair hw) ?_ ?_ hz e I q)
  · rintro x σ2 B2 e2 ⟨w1, w2, h3, h4, rfl⟩
    exact hcnd x w1 w2 B2 e2 h3 h4
  · rintro x σ2 B2 B3 e2 e3 ⟨w1, w2, h3, h4, rfl⟩ hx
    exact hel x w1 w2 B3 (e2.trans e3) (T.mono e3 h3) (S.mono e3 h4) hx
/-- range(a - b) -/
@[reducible] def rngM (x y : Nat) : Option (List Nat) := if Nat.ble y 1000 && Nat.ble (x - y) 40000 then some (List.range' 0 (x - y)) else none
theorem iv_rngM {ma mb : Option Nat} {bp : Pos} (hb : Bt X.mg) (ha : EV X σ B O a tN ma) (hb2 : EV X σ B O b tN mb) (hg : Gl X "range" := by rfl) (he : starEach [.BinOp a .Sub b bp] X.env = (false, eval (.BinOp a .Sub b bp) X.env) :: starEach [] X.env := by rfl) : IV X σ B O tg (.Call (.Name "range" p) [.BinOp a .Sub b bp] [] pos) tN (op2 rngM ma mb) := by
  intro xs hx B1 H e I R q
  obtain ⟨x, y, rfl, rfl, hf⟩ := op2_some hx
  have hx : rngM x y = some xs := hf
  unfold rngM at hx
  split at hx
  · rename_i h
    rw [Bool.and_eq_true] at h
    have hy := Nat.le_of_ble_eq_true h.1
    have h := Nat.le_of_ble_eq_true h.2
    cases hx
    refine of_i (pi_range1 hg hb.range (pa1 he) he) ?_
    refine of_e (pe_op op_sub p_e p_e) ?_
    refine ha x rfl B1 H e I _ fun v B2 H2 g2 r2 => ?_
    refine hb2 y rfl B2 H2 (e.trans g2.eb) (I.go g2) _ fun w B3 H3 g3 r3 => ?_
    cases r2
    cases r3
    refine ⟨_, _, rfl, rfl, ?_⟩
    have en : ((x : Int) - (y : Int)).toNat = x - y := by omega
    refine ⟨_, rfl, by omega, by omega, ?_⟩
    rw [en]
    refine q _ B3 H3 _ (g2.trans g3) ⟨fun _ => True, ?_, fun _ _ _ => trivial⟩ reps_range (by rw [List.length_map, List.length_range']; exact h)
    exact walk_rng (lo := 0)
  · cases hx
/-! ### objects locked -/
theorem wE_lock {Q : VK} {d : Addr} {u : HO} (h : H d = some u) (mu : Mut (some u)) (k : ∀ od, wE X e σ (upd H d (.frz od u)) Q) : wE X e σ H Q := fun pins s I => by
  obtain ⟨od, I'⟩ := I.lock h mu
  exact k od pins s I'
theorem wSs_lock {d : Addr} {u : HO} {sts : List Stmt} (h : H d = some u) (mu : Mut (some u)) (k : ∀ od, wSs X sts D σ (upd H d (.frz od u))) : wSs X sts D σ H := fun pins s I => by
  obtain ⟨od, I'⟩ := I.lock h mu
  exact k od pins s I'
theorem wE_lockV {Q : VK} (h : wE X e σ H fun v H' => ∃ d u, H' d = some u ∧ Mut (some u) ∧ ∀ od, Q v (upd H' d (.frz od u))) : wE X e σ H Q := fun pins s I =>
  thn (h pins s I) fun _ _ ⟨v, H', I', r, d, u, hd, mu, q⟩ => by
    obtain ⟨od, I2⟩ := I'.lock hd mu
    exact ⟨v, _, I2, r, q od⟩
/-! ### fields stored, an instance made -/
theorem ss_fld (i : Nat) {x f : Str} {l C dx : Addr} {fs : List (Str × V)} {m : Option α} {z : α} {np fp : Pos} (hm : m = some z) (h : EV X σ B O e T m) (I : In B O H) (hO : (l, HO.ins C dx fs) ∈ O) (cl : Cls X.K C) (na : NoAttr X.K C f) (hl : fs.length < 1000) (k : ∀ v B1 H1, Go B H B1 H1 → T.rep B1 v z → wSs X rest D σ (upd H1 l (.ins C dx (putF f v fs))))
    (hN : X.N[i]? = some x := by rfl) (hv : Vis X.env.scope x := by first | exact Or.inl rfl | exact Or.inr (Or.inl rfl) | exact Or.inr (Or.inr rfl)) (hs : σ[i]? = some (some (.ref l)) := by rfl) (hd : (x == ("__debug__" : Str)) = false := by decide) (hcd : (x == ("__classdict__" : Str)) = false := by decide)
    (hsw : swapsWith e (some (.Attribute (.Name x np) f fp)) pos.line X.env = pure false := by rfl) : wSs X (.Assign [.Attribute (.Name x np) f fp] e pos :: rest) D σ H := by
  refine ss_cons (of_s (ps_fld (pe_var hN hv hd hcd) p_e hsw) ?_)
  refine h z hm B H (Ex.refl _) I _ fun v B1 H1 g r => ⟨_, hs, l, C, dx, fs, rfl, g.eh _ _ (I.ow _ hO).1, cl, na, hl, k v B1 H1 g r⟩
/-- the same, the value a name's -/
theorem ss_fldV (j : Nat) {x y f : Str} {l C dx : Addr} {fs : List (Str × V)} {v : V} {z : α} {np yp fp : Pos} (r : T.rep B v z) (I : In B O H) (hO : (l, HO.ins C dx fs) ∈ O) (cl : Cls X.K C) (na : NoAttr X.K C f) (hl : fs.length < 1000) (k : wSs X rest D σ (upd H l (.ins C dx (putF f v fs)))) (hN : X.N[0]? = some x := by rfl) (hv : Vis X.env.scope x := by first | exact Or.inl rfl | exact Or.inr (Or.inl rfl) | exact Or.inr (Or.inr rfl)) (hs : σ[0]? = some (some (.ref l)) := by rfl) (hd : (x == ("__debug__" : Str)) = false := by decide) (hcd : (x == ("__classdict__" : Str)) = false := by decide)
    (hN2 : X.N[j]? = some y := by rfl) (hv2 : Vis X.env.scope y := by first | exact Or.inl rfl | exact Or.inr (Or.inl rfl) | exact Or.inr (Or.inr rfl)) (hs2 : σ[j]? = some (some v) := by rfl) (hd2 : (y == ("__debug__" : Str)) = false := by decide) (hcd2 : (y == ("__classdict__" : Str)) = false := by decide)
    (hsw : swapsWith (.Name y yp) (some (.Attribute (.Name x np) f fp)) pos.line X.env = pure false := by rfl) : wSs X (.Assign [.Attribute (.Name x np) f fp] (.Name y yp) pos :: rest) D σ H := by
  refine ss_cons (of_s (ps_fld (pe_var hN hv hd hcd) (pe_var hN2 hv2 hd2 hcd2) hsw) ?_)
  exact ⟨v, hs2, _, hs, l, C, dx, fs, rfl, (I.ow _ hO).1, cl, na, hl, k⟩
/-- what __init__ promises -/
def SpInit (cw : Crew) (C : Addr) (f : List Nat → List (List Nat) → Option Clo) : Sp := fun vs H Q _ => ∃ (x dx : Addr) (v w : V) (ts : List Nat) (fam : List (List Nat)) (B : Hp) (c : Clo), vs = [.ref x, v, w] ∧ In B [(x, .ins C dx [])] H ∧ (tS cw).rep B v ts ∧ (tT (tS cw)).rep B w fam ∧ f ts fam = some c ∧
  ∀ B' H' fs, (∀ a o, a ≠ x → H a = some o → H' a = some o) → Ex B B' → In B' [(x, .ins C dx fs)] H' → (∀ a o, B' a = some o → B a = some o ∨ H a = none) → (∃ vt, fs = [(("letters" : Str), v), (("family" : Str), w), (("table" : Str), vt)] ∧ (tT tN).rep B' vt c.table ∧ c.things = ts ∧ c.closed = fam) → Q .non H'
theorem ev_make {m : Option (List Nat)} {n : Option (List (List Nat))} {f : List Nat → List (List Nat) → Option Clo} {k : Nat} {fi : Addr} {fd : FuncData} (M : Mk X.K C fi) (F : FnOk X.prog X.w X.K X.mg X.base CX0 k fi fd ["self", "things", "closed"] (SpInit cw C f)) (bi : Binds X.K fd ["self", "things", "closed"] []) (mgC : X.mg "Closer" = some (.ref C)) (hr : Room (k + 1) X.A)
    (ha : EV X σ B O a (tS cw) m) (hb : EV X σ B O b (tT (tS cw)) n) (hg : Gl X "Closer" := by rfl) (he : starEach [a, b] X.env = (false, eval a X.env) :: starEach [b] X.env := by rfl) (he2 : starEach [b] X.env = (false, eval b X.env) :: starEach [] X.env := by rfl) (hpl : (backTo pos (starEach [b] X.env)).any (·.1) = false := by rfl) :
    EV X σ B O (.Call (.Name "Closer" p) [a, b] [] pos) (tCl cw C) (op2 f m n) := by
  intro z hz B1 H e I Q q
  obtain ⟨ts, fam, rfl, rfl, hf⟩ := op2_some hz
  refine of_e (pe_make M F hr hg mgC bi .nil pass0 (pa_cons p_e (pa1 he2) he) (by decide) he hpl) ?_
  refine ha ts rfl B1 H e I _ fun v B2 H2 g2 r2 => ?_
  refine hb fam rfl B2 H2 (e.trans g2.eb) (I.go g2) _ fun w B3 H3 g3 r3 => ?_
  intro x dx hx hdx hne
  have e3 : Ex B3 (upd (upd H3 dx (.own x)) x (.ins C dx [])) := (g3.bh.trans (Ex.new hdx)).trans (Ex.new (by rw [upd_ne hne.symm]; exact hx))
  have i3 : In B3 [(x, .ins C dx [])] (upd (upd H3 dx (.own x)) x (.ins C dx [])) := ⟨e3, fun p hp => by
    rw [List.mem_singleton.mp hp]
    exact ⟨upd_same, g3.bh.free hx⟩⟩
  refine ⟨x, dx, v, w, ts, fam, B3, z, rfl, i3, (tS cw).mono g3.eb r2, r3, hf, fun B' H' fs hk eb i' fr ⟨vt, hfs, rt, ht, hcl⟩ => ⟨rfl, ?_⟩⟩
  have ix := i'.ow _ List.mem_cons_self
  have g4 : Go B3 H3 (upd B' x (.ins C dx fs)) H' := ⟨eb.mut (g3.bh.free hx), fun a o ha => hk a o (ne_of_none ha hx) (by
      rw [upd_ne (ne_of_none ha hx), upd_ne (ne_of_none ha hdx)]
      exact ha), i'.ex.put ix.1, fun a o ha => by
    by_cases za : a = x
    · subst za
      exact .inr hx
    · rw [upd_ne za] at ha
      rcases fr a o ha with h | h
      · exact .inl h
      · rw [upd_ne za] at h
        by_cases zd : a = dx
        · subst zd
          rw [upd_same] at h
          cases h
        · rw [upd_ne zd] at h
          exact .inr h⟩
  have e5 : Ex B' (upd B' x (.ins C dx fs)) := Ex.new ix.2
  exact q _ _ _ ((g2.trans g3).trans g4) ⟨x, dx, v, w, vt, rfl, by rw [upd_same, hfs], by rw [ht]; exact (tS cw).mono ((g3.eb.trans eb).trans e5) r2, by rw [hcl]; exact (tT (tS cw)).mono (eb.trans e5) r3, (tT tN).mono e5 rt⟩
end
end Ly
/-! dicts of numbers -/
namespace Ly
open PySem PySem.Spec PyProof.Rows L2 TL
/-- what stands at k -/
def gD {α : Type} : List (Nat × α) → Nat → Option α
  | [], _ => none
  | p :: r, k => bif Nat.beq p.1 k then some p.2 else gD r k
/-- in its place, or at the end -/
def pD {α : Type} (kvs : List (Nat × α)) (k : Nat) (x : α) : List (Nat × α) := if kvs.any (fun p => Nat.beq p.1 k) then kvs.map (fun p => bif Nat.beq p.1 k then (p.1, x) else p) else kvs ++ [(k, x)]
@[reducible] def fPutD {α : Type} (kvs : List (Nat × α)) (k : Nat) (x : α) : Option (List (Nat × α)) := if Nat.ble kvs.length 30000 then some (pD kvs k x) else none
theorem fPutD_some {α : Type} {kvs ys : List (Nat × α)} {k : Nat} {x : α} (h : fPutD kvs k x = some ys) : kvs.length ≤ 30000 ∧ ys = pD kvs k x := by
  unfold fPutD at h
  split at h
  · rename_i h1
    cases h
    exact ⟨Nat.le_of_ble_eq_true h1, rfl⟩
  · cases h
inductive RepD {α : Type} (T : Ty α) (B : Hp) : List (Key × V) → List (Nat × α) → Prop where
  | nil : RepD T B [] []
  | cons {v x kvs xs} (n : Nat) : T.rep B v x → RepD T B kvs xs → RepD T B ((Sum.inl (n : Int), v) :: kvs) ((n, x) :: xs)
section
variable {α : Type} {T : Ty α} {B B' : Hp}
theorem RepD.mono (e : Ex B B') : ∀ {kvs : List (Key × V)} {xs : List (Nat × α)}, RepD T B kvs xs → RepD T B' kvs xs
  | _, _, .nil => .nil
  | _, _, .cons n h t => .cons n (T.mono e h) (t.mono e)
theorem RepD.len : ∀ {kvs : List (Key × V)} {xs : List (Nat × α)}, RepD T B kvs xs → kvs.length = xs.length
  | _, _, .nil => rfl
  | _, _, .cons _ _ t => by rw [List.length_cons, List.length_cons, t.len]
theorem key_beq (n k : Nat) : decide ((Sum.inl (n : Int) : Key) = Sum.inl (k : Int)) = Nat.beq n k := by
  rw [Bool.eq_iff_iff, decide_eq_true_eq, Nat.beq_eq]
  exact ⟨fun h => Int.ofNat.inj (Sum.inl.inj h), fun h => by rw [h]⟩
theorem RepD.val (k : Nat) : ∀ {kvs : List (Key × V)} {xs : List (Nat × α)}, RepD T B kvs xs → (valV kvs (Sum.inl (k : Int)) = none ∧ gD xs k = none) ∨ ∃ v x, valV kvs (Sum.inl (k : Int)) = some v ∧ gD xs k = some x ∧ T.rep B v x
  | _, _, .nil => .inl ⟨rfl, rfl⟩
  | _, _, .cons (v := v) (x := x) (kvs := kvs) (xs := xs) n h t => by
    have e := key_beq n k
    cases hb : Nat.beq n k with
    | true =>
      rw [hb] at e
      refine .inr ⟨v, x, valV_pos (p := (Sum.inl (n : Int), v)) (of_decide_eq_true e), ?_, h⟩
      show (bif Nat.beq n k then some x else gD xs k) = some x
      rw [hb]
      rfl
    | false =>
      rw [hb] at e
      have e1 : gD ((n, x) :: xs) k = gD xs k := by
        show (bif Nat.beq n k then some x else gD xs k) = gD xs k
        rw [hb]
        rfl
      rw [valV_neg (p := (Sum.inl (n : Int), v)) (of_decide_eq_false e), e1]
      exact t.val k
theorem RepD.any (k : Nat) : ∀ {kvs : List (Key × V)} {xs : List (Nat × α)}, RepD T B kvs xs → (kvs.any fun kv => decide (kv.1 = (Sum.inl (k : Int) : Key))) = xs.any fun p => Nat.beq p.1 k
  | _, _, .nil => rfl
  | _, _, .cons n h t => by rw [List.any_cons, List.any_cons, t.any k, key_beq]
theorem RepD.repl (k : Nat) {v : V} {x : α} (r : T.rep B v x) : ∀ {kvs : List (Key × V)} {xs : List (Nat × α)}, RepD T B kvs xs → RepD T B (kvs.map fun kv => if kv.1 = (Sum.inl (k : Int) : Key) then (kv.1, v) else kv) (xs.map fun p => bif Nat.beq p.1 k then (p.1, x) else p)
  | _, _, .nil => .nil
  | _, _, .cons n h t => by
    rw [List.map_cons, List.map_cons]
    have e := key_beq n k
    cases hb : Nat.beq n k with
    | true =>
      rw [hb] at e
      rw [if_pos (of_decide_eq_true e)]
      exact .cons n r (t.repl k r)
    | false =>
      rw [hb] at e
      rw [if_neg (of_decide_eq_false e)]
      exact .cons n h (t.repl k r)
theorem RepD.snoc (k : Nat) {v : V} {x : α} (r : T.rep B v x) : ∀ {kvs : List (Key × V)} {xs : List (Nat × α)}, RepD T B kvs xs → RepD T B (kvs ++ [(Sum.inl (k : Int), v)]) (xs ++ [(k, x)])
  | _, _, .nil => .cons k r .nil
  | _, _, .cons n h t => .cons n h (t.snoc k r)
theorem RepD.put (k : Nat) {v : V} {x : α} (r : T.rep B v x) {kvs : List (Key × V)} {xs : List (Nat × α)} (h : RepD T B kvs xs) : RepD T B (putK kvs (Sum.inl (k : Int)) v) (pD xs k x) := by
  unfold putK pD
  rw [h.any k]
  split
  · exact h.repl k r
  · exact h.snoc k r
theorem pD_len (xs : List (Nat × α)) (k : Nat) (x : α) : (pD xs k x).length ≤ xs.length + 1 := by
  unfold pD
  split
  · rw [List.length_map]
    exact Nat.le_succ _
  · rw [List.length_append]
    exact Nat.le_refl _
end
/-- a dict that is kept: it stands locked -/
def tD {α : Type} (T : Ty α) : Ty (List (Nat × α)) := ⟨fun B v xs => ∃ a o kvs, v = .ref a ∧ B a = some (.frz o (.dK kvs)) ∧ RepD T B kvs xs ∧ kvs.length ≤ 40000, fun {B B' v x} e h => by
  obtain ⟨a, o, kvs, h1, h2, h3, h4⟩ := h
  exact ⟨a, o, kvs, h1, e _ _ h2, h3.mono e, h4⟩⟩
section
variable {X : Cx} {σ : L2.St} {B H : Hp} {O : Own} {a b c d e tg : Expr} {es : List Expr} {pos p apos : Pos} {α β γ δ : Type} {T : Ty α} {U : Ty β} {S : Ty γ} {W : Ty δ} {cw : Crew} {D : Ends} {rest els body : List Stmt} {st : Stmt} {C : Addr}
/-- a dict, own or kept -/
def ED (X : Cx) (σ : L2.St) (B : Hp) (O : Own) {α : Type} (e : Expr) (T : Ty α) (m : Option (List (Nat × α))) : Prop := ∀ xs, m = some xs → GE X σ B O e fun B' H' v => ∃ a kvs, v = .ref a ∧ Rd H' a (.dK kvs) ∧ RepD T B' kvs xs ∧ kvs.length ≤ 40000
theorem ed_var (i : Nat) {x : Str} {a : Addr} {kvs : List (Key × V)} {xs : List (Nat × α)} (ho : (a, HO.dK kvs) ∈ O) (r : RepD T B kvs xs) (hl : kvs.length ≤ 40000) (hN : X.N[i]? = some x := by rfl) (hv : Vis X.env.scope x := by first | exact Or.inl rfl | exact Or.inr (Or.inl rfl) | exact Or.inr (Or.inr rfl)) (h : σ[i]? = some (some (.ref a)) := by rfl)
    (hd : (x == ("__debug__" : Str)) = false := by decide) (hcd : (x == ("__classdict__" : Str)) = false := by decide) : ED X σ B O (.Name x pos) T (some xs) := by
  intro z' hz B1 H e I Q q
  cases hz
  exact of_e (pe_var hN hv hd hcd) ⟨_, h, q _ B1 H (Go.refl I.ex) ⟨a, kvs, rfl, .inl (I.ow _ ho).1, r.mono e, hl⟩⟩
theorem ed_of {m : Option (List (Nat × α))} (h : EV X σ B O a (tD T) m) : ED X σ B O a T m := by
  intro z hz B1 H e I Q q
  exact h z hz B1 H e I Q fun v B' H' g ⟨l, o, kvs, h1, h2, h3, h4⟩ => q v B' H' g ⟨l, kvs, h1, .inr ⟨o, g.bh _ _ h2⟩, h3, h4⟩
theorem rd_eh {H H' : Hp} {l : Addr} {u : HO} (e : Ex H H') (r : Rd H l u) : Rd H' l u := r.elim (fun h => .inl (e _ _ h)) fun ⟨o, h⟩ => .inr ⟨o, e _ _ h⟩
/-- d.get(k, z) -/
theorem ev_dget {m : Option (List (Nat × α))} {n : Option Nat} {l : Option α} (hu : X.A.units + 64 < cLine) (hd : ED X σ B O d T m) (hk : EV X σ B O b tN n) (hz : EV X σ B O c T l)
    (hbase : attributeBase d "get" X.env (eval d X.env) = eval d X.env := by rfl) (hfew : ((backTo pos (starEach [b, c] X.env)).all (fun x => !x.1) && (backToKw pos (keywordEach [] X.env)).all (fun x => x.1.isSome) && decide (([b, c] : List Expr).length + ([] : List Keyword).length + (if ([] : List Keyword).isEmpty then 0 else 1) < 30)) = true := by rfl)
    (hline : (apos.endLine == pos.line) = true := by rfl) (htr : backTo pos (starEach [b, c] X.env) = [(false, eval b X.env), (false, eval c X.env)] := by rfl) : EV X σ B O (.Call (.Attribute d "get" apos) [b, c] [] pos) T (op3 (fun kvs k z => some ((gD kvs k).getD z)) m n l) := by
  intro z hz' B1 H e I Q q
  obtain ⟨xs, k, y, rfl, rfl, rfl, hf⟩ := op3_some hz'
  cases hf
  refine of_e (pe_dget2 (by omega) p_e p_e p_e ⟨hbase, hfew, hline, htr⟩) ?_
  refine hd xs rfl B1 H e I _ fun v B2 H2 g2 ⟨a, kvs, h1, h2, h3, h4⟩ => ⟨a, h1, .inl ⟨kvs, h2⟩, ?_⟩
  refine hk k rfl B2 H2 (e.trans g2.eb) (I.go g2) _ fun w B3 H3 g3 r3 => ?_
  refine hz y rfl B3 H3 ((e.trans g2.eb).trans g3.eb) ((I.go g2).go g3) _ fun u B4 H4 g4 r4 => ?_
  cases r3
  have rd := rd_eh (g3.eh.trans g4.eh) h2
  have rp := h3.mono (g3.eb.trans g4.eb)
  refine ⟨valV kvs (Sum.inl (k : Int)), .inl ⟨kvs, Sum.inl (k : Int), rd, rfl, rfl⟩, ?_⟩
  rcases rp.val k with ⟨e1, e2⟩ | ⟨v', x', e1, e2, r'⟩
  · rw [e1]
    exact q _ B4 H4 ((g2.trans g3).trans g4) (by rw [e2]; exact r4)
  · rw [e1]
    exact q _ B4 H4 ((g2.trans g3).trans g4) (by rw [e2]; exact r')
/-- d[k] -/
theorem ev_dix {m : Option (List (Nat × α))} {n : Option Nat} (hu : X.A.units + 64 < cLine) (hd : ED X σ B O d T m) (hk : EV X σ B O b tN n) (hs : NoSl b := by intro _ _; rfl) : EV X σ B O (.Subscript d b pos) T (op2 gD m n) := by
  intro z hz' B1 H e I Q q
  obtain ⟨xs, k, rfl, rfl, hf⟩ := op2_some hz'
  refine of_e (pe_dget (by omega) p_e p_e hs) ?_
  refine hd xs rfl B1 H e I _ fun v B2 H2 g2 ⟨a, kvs, h1, h2, h3, h4⟩ => ?_
  refine hk k rfl B2 H2 (e.trans g2.eb) (I.go g2) _ fun w B3 H3 g3 r3 => ?_
  cases r3
  rcases (h3.mono g3.eb).val k with ⟨e1, e2⟩ | ⟨v', x', e1, e2, r'⟩
  · rw [hf] at e2
    cases e2
  · rw [hf] at e2
    cases e2
    exact ⟨a, v', h1, .inl ⟨kvs, Sum.inl (k : Int), rd_eh g3.eh h2, rfl, e1.symm⟩, q _ B3 H3 (g2.trans g3) r'⟩
/-- k in d, k not in d -/
theorem cv_dni {m : Option (List (Nat × α))} {n : Option Nat} (hu : X.A.units + 64 < cLine) (hk : EV X σ B O b tN n) (hd : ED X σ B O d T m) (hb : behindInMarks .NotIn d = false := by rfl) : CV X σ B O (.Compare b [.NotIn] [d] pos) (op2 (fun k xs => some (!(gD xs k).isSome)) n m) := by
  have key : ∀ z, op2 (fun k xs => some (!(gD xs k).isSome)) n m = some z → ∀ B1 H, Ex B B1 → In B1 O H → ∀ Q : VK, (∀ B' H', Go B1 H B' H' → Q (.bl z) H') → tDNotIn (wE X b) (wE X d) σ H Q := by
    intro z hz B1 H e I Q q
    obtain ⟨k, xs, rfl, rfl, hf⟩ := op2_some hz
    cases hf
    refine hk k rfl B1 H e I _ fun w B2 H2 g2 r2 => ?_
    refine hd xs rfl B2 H2 (e.trans g2.eb) (I.go g2) _ fun v B3 H3 g3 ⟨a, kvs, h1, h2, h3, h4⟩ => ?_
    cases r2
    refine ⟨a, _, h1, .inl ⟨kvs, Sum.inl (k : Int), h2, rfl, rfl⟩, ?_⟩
    rcases h3.val k with ⟨e1, e2⟩ | ⟨v', x', e1, e2, r'⟩
    · have := q B3 H3 (g2.trans g3)
      rw [e2] at this
      rw [e1]
      exact this
    · have := q B3 H3 (g2.trans g3)
      rw [e2] at this
      rw [e1]
      exact this
  exact ⟨fun z hz B1 H e I Q q => of_e (pe_cmp (pc_dnotin (by omega) p_e p_e) hb) (key z hz B1 H e I Q fun B' H' g => q _ B' H' g rfl),
    fun z hz B1 H e I Q q => of_t (pt_cmp (pc_dnotin (by omega) p_e p_e) hb) (key z hz B1 H e I (fun x H' => ∃ k, x = .bl k ∧ Q k H') fun B' H' g => ⟨z, rfl, q B' H' g⟩)⟩
theorem call_lenRd : CallR X (.builtin "len") (fun xs H Q => ∃ a kvs, xs = [V.ref a] ∧ Rd H a (.dK kvs) ∧ Q (.int (kvs.length : Nat)) H) := by
  intro pins s σ H xs us Q I r h
  obtain ⟨a, kvs, rfl, rd, q⟩ := h
  rw [Vals.ref1 r]
  exact d_len I rd fun t s' I' => ⟨.int (kvs.length : Nat), H, I', ⟨t, rfl⟩, q⟩
theorem ev_lenD {m : Option (List (Nat × α))} (hb : Bt X.mg) (ha : ED X σ B O a T m) (hg : Gl X "len" := by rfl) (he : starEach [a] X.env = (false, eval a X.env) :: starEach [] X.env := by rfl) : EV X σ B O (.Call (.Name "len" p) [a] [] pos) tN (m.bind fun l => some l.length) := by
  intro z hz B1 H e I Q q
  cases m with
  | none => cases hz
  | some xs =>
    cases hz
    refine builtin1 call_lenRd hg hb.len PySem.boot_len (by decide) (by decide) he (ha xs rfl) e I fun v B2 H2 g2 ⟨l, kvs, h1, h2, h3, h4⟩ => ?_
    subst h1
    exact ⟨l, kvs, rfl, h2, q _ B2 H2 g2 (by rw [h3.len]; rfl)⟩
/-! ### own dicts -/
theorem ss_newD (i : Nat) {x : Str} {p' p2 : Pos} (I : In B O H) (k : ∀ l, H l = none → wSs X rest D (σ.set i (some (.ref l))) (upd H l (.dK []))) (hN : X.N.Nodup) (hi : X.N[i]? = some x := by rfl)
    (hx : L2.Loc X.env.scope x := by first | exact Or.inl rfl | exact Or.inr rfl) (hs : swapsWith (.Dict [] [] p2) (some (.Name x p')) pos.line X.env = pure false := by rfl)
    (hf : X.fn x = true ∨ X.env.scope.names.lookup x = some .local := by first | exact .inl rfl | exact .inr rfl) : wSs X (.Assign [.Name x p'] (.Dict [] [] p2) pos :: rest) D σ H :=
  ss_cons (of_s (ps_set hN hi hx pe_dnewK hs hf) fun l hl => k l hl)
/-- d[k] = e, d own -/
theorem ss_dput (i : Nat) {x : Str} {l : Addr} {kvs : List (Key × V)} {m : Option α} {z : α} {n : Option Nat} {j : Nat} {np sp_ : Pos} (hu : X.A.units + 64 < cLine) (hm : m = some z) (hn : n = some j) (h : EV X σ B O e T m) (hb : EV X σ B O b tN n) (I : In B O H) (hO : (l, HO.dK kvs) ∈ O) (hl : kvs.length ≤ 40000)
    (k : ∀ v B1 H1, Go B H B1 H1 → T.rep B1 v z → wSs X rest D σ (upd H1 l (.dK (putK kvs (Sum.inl (j : Int)) v)))) (hN : X.N[i]? = some x := by rfl) (hv : Vis X.env.scope x := by first | exact Or.inl rfl | exact Or.inr (Or.inl rfl) | exact Or.inr (Or.inr rfl)) (hs : σ[i]? = some (some (.ref l)) := by rfl) (hd : (x == ("__debug__" : Str)) = false := by decide) (hcd : (x == ("__classdict__" : Str)) = false := by decide)
    (hsw : swapsWith e (some (.Subscript (.Name x np) b sp_)) pos.line X.env = pure false := by rfl) : wSs X (.Assign [.Subscript (.Name x np) b sp_] e pos :: rest) D σ H := by
  refine ss_cons (of_s (ps_dput (by omega) (pe_var hN hv hd hcd) p_e p_e hsw) ?_)
  have ho := I.ow _ hO
  refine h z hm B H (Ex.refl _) I _ fun v B1 H1 g r => ⟨_, hs, ?_⟩
  refine hb j hn B1 H1 g.eb (I.go g) _ fun w B2 H2 g2 r2 => ?_
  cases r2
  exact ⟨l, _, rfl, DPut.k (k := Sum.inl (j : Int)) (g2.eh _ _ (g.eh _ _ ho.1)) (Nat.lt_of_le_of_lt hl (by decide)), k v B2 H2 (g.trans g2) (T.mono g2.eb r)⟩
theorem lenPut {kvs : List (Key × V)} {k : Key} {v : V} (h : kvs.length ≤ 30000) : (putK kvs k v).length ≤ 40000 := by
  have := length_putK kvs k v
  omega
theorem ss_parNewD (i j : Nat) {x y : Str} {m : Option α} {z : α} {px py pt pt2 p2 : Pos} {kt k2 : Nat} (hm : m = some z) (ha : EV X σ B O a T m) (I : In B O H)
    (k : ∀ v l B1 H1, Go B H B1 H1 → T.rep B1 v z → H1 l = none → wSs X rest D ((σ.set i (some v)).set j (some (.ref l))) (upd H1 l (.dK []))) (hc : X.calm = true) (hN : X.N.Nodup) (hi : X.N[i]? = some x := by rfl) (hj : X.N[j]? = some y := by rfl) (hij : i ≠ j := by decide)
    (hx : X.env.scope.names.lookup x = some .local := by rfl) (hy : X.env.scope.names.lookup y = some .local := by rfl)
    (hw : swappedStores [.Tuple [.Name x px, .Name y py] kt pt] (.Tuple [a, .Dict [] [] p2] k2 pt2) X.env = pure (some [x, y]) := by rfl)
    (hs : swapsWithSole [.Tuple [.Name x px, .Name y py] kt pt] (.Tuple [a, .Dict [] [] p2] k2 pt2) pos.line X.env = pure false := by rfl)
    (he : starEach [a, .Dict [] [] p2] X.env = (false, eval a X.env) :: starEach [.Dict [] [] p2] X.env := by rfl) (he2 : starEach [.Dict [] [] p2] X.env = (false, eval (.Dict [] [] p2) X.env) :: starEach [] X.env := by rfl) :
    wSs X (.Assign [.Tuple [.Name x px, .Name y py] kt pt] (.Tuple [a, .Dict [] [] p2] k2 pt2) pos :: rest) D σ H := by
  refine ss_cons (of_s (ps_par hc hN hi hj hij hx hy (pa_cons p_e (pa_cons pe_dnewK pa_nil he2) he) hw hs) ?_)
  exact ha z hm B H (Ex.refl _) I _ fun v B1 H1 g r => fun l hl => ⟨v, _, rfl, k v l B1 H1 g r hl⟩
/-- x = {k: e} -/
theorem ss_newD1 (i : Nat) {x : Str} {m : Option α} {n : Option Nat} {z : α} {j : Nat} {p' p2 : Pos} (hm : m = some z) (hn : n = some j) (ha : EV X σ B O a T m) (hb : EV X σ B O b tN n) (I : In B O H)
    (k : ∀ l v B1 H1, H l = none → Go B (upd H l (.dK [])) B1 H1 → T.rep B1 v z → wSs X rest D (σ.set i (some (.ref l))) (upd H1 l (.dK [(Sum.inl (j : Int), v)]))) (hN : X.N.Nodup) (hi : X.N[i]? = some x := by rfl)
    (hx : L2.Loc X.env.scope x := by first | exact Or.inl rfl | exact Or.inr rfl) (hs : swapsWith (.Dict [some b] [a] p2) (some (.Name x p')) pos.line X.env = pure false := by rfl)
    (hf : X.fn x = true ∨ X.env.scope.names.lookup x = some .local := by first | exact .inl rfl | exact .inr rfl) : wSs X (.Assign [.Name x p'] (.Dict [some b] [a] p2) pos :: rest) D σ H := by
  refine ss_cons (of_s (ps_set hN hi hx (pe_disp (pps_cons p_e p_e pps_nil) rfl rfl (by simp) (Nat.le_of_ble_eq_true rfl)) hs hf) fun l hl => ?_)
  have g0 := Go.tmp (o := HO.dK []) I.ex hl
  have I0 := I.go g0
  refine hb j hn B _ (Ex.refl _) I0 _ fun w B1 H1 g1 r1 => ?_
  refine ha z hm B1 H1 g1.eb (I0.go g1) _ fun v B2 H2 g2 r2 => ?_
  cases r1
  exact ⟨(g1.trans g2).eh _ _ upd_same, [(Sum.inl (j : Int), v)], rfl, Nat.le_of_ble_eq_true rfl, k l v B2 H2 hl (g1.trans g2) r2⟩
/-- an own dict is kept -/
theorem frzD {B0 H0 B H : Hp} {l : Addr} {kvs : List (Key × V)} {xs : List (Nat × α)} {sts : List Stmt} (g : Go B0 H0 B H) (e0 : Ex B0 H0) (h0 : H0 l = none) (I : In B [(l, .dK kvs)] H) (r : RepD T B kvs xs) (hl : kvs.length ≤ 40000)
    (k : ∀ B' H', Go B0 H0 B' H' → In B' [] H' → Ex B B' → (tD T).rep B' (.ref l) xs → wSs X sts D σ H') : wSs X sts D σ H := by
  have ho := I.ow _ List.mem_cons_self
  refine wSs_lock ho.1 trivial fun od => ?_
  have I2 : In B [(l, HO.frz od (.dK kvs))] (upd H l (.frz od (.dK kvs))) := I.put
  have g2 : Go B0 H0 B (upd H l (.frz od (.dK kvs))) := g.put h0 I
  obtain ⟨h1, h2, h3⟩ := frz g2 e0 h0 I2
  exact k _ _ h1 h2 h3 ⟨l, od, kvs, rfl, upd_same, r.mono h3, hl⟩
/-- for k, v in d.items(), d kept -/
theorem RepD.get : ∀ {kvs : List (Key × V)} {xs : List (Nat × α)} {i : Nat} {w v : V}, RepD T B kvs xs → (kvs[i]?.map fun kv => kV kv.1) = some w → (kvs[i]?.map Prod.snd) = some v → ∃ n x, xs[i]? = some (n, x) ∧ w = .int (n : Int) ∧ T.rep B v x
  | _, _, _, _, _, .nil, h, _ => by simp at h
  | _, _, 0, _, _, .cons (x := x) n r _, h, h2 => by
    cases (Option.some.inj h)
    cases (Option.some.inj h2)
    exact ⟨n, x, rfl, rfl, r⟩
  | _, _, i + 1, _, _, .cons _ _ t, h, h2 => by
    obtain ⟨n, x, h3, h4⟩ := t.get (i := i) h h2
    exact ⟨n, x, h3, h4⟩
theorem ss_forD (j1 j2 : Nat) {elts : List Expr} {kk : Nat} {tpos cpos : Pos} {m : Option (List (Nat × α))} {xs : List (Nat × α)} (hm : m = some xs) (hd : EV X σ B O d (tD T) m) (I : In B O H) (Pv : Hp → List (Nat × α) → L2.St → Hp → Prop) (h0 : ∀ B1 H1, Go B H B1 H1 → Pv B1 xs σ H1)
    (hO : ∀ B1 rem σ' H', Pv B1 rem σ' H' → Ex B1 H')
    (hs : ∀ B1 n x rem v σ' H' H'', Ex B B1 → T.rep B1 v x → Pv B1 ((n, x) :: rem) σ' H' → (∀ B2, Ex B2 H' → Go B2 H' B2 H'') → wSs X body { D with nx := Pv B1 rem, ct := Pv B1 rem, bk := wSs X rest D } ((σ'.set j1 (some (.int (n : Int)))).set j2 (some v)) H'')
    (hdn : ∀ B1 σ' H', Ex B B1 → Pv B1 [] σ' H' → wSs X rest D σ' H') (hp : PassesOwn (model X.prog X.w) X.A X.env X.xe) (hc : X.calm = true) (hg : PG X (.Tuple elts kk tpos) (gTup X.K 2 (gCons (gName j1) (gCons (gName j2) gNil)))) (hf : ∀ x, foldedSetIterable (.Call (.Attribute d "items" apos) [] [] cpos) X.env x = pure x := by intro _; rfl)
    (hbase : attributeBase d "items" X.env (eval d X.env) = eval d X.env := by rfl) (hline : (apos.endLine == cpos.line) = true := by rfl) :
    wSs X (.For (.Tuple elts kk tpos) (.Call (.Attribute d "items" apos) [] [] cpos) body [] pos :: rest) D σ H := by
  refine ss_cons (of_s (ps_for hp hc (pi_items p_e hbase hline) hg p_ss hf) ?_)
  refine hd xs hm B H (Ex.refl _) I _ fun v0 B1 H1 g ⟨l, o, kvs, h1, h2, h3, h4⟩ => ⟨l, o, kvs, h1, g.bh _ _ h2, ?_⟩
  refine for_it (D := { D with nx := wSs X rest D }) walk_items (fun i σ' H' => Pv B1 (xs.drop i) σ' H') (h0 B1 H1 g) ?_ ?_ ?_
  · intro i σ' H' hi hp
    exact hO _ _ _ _ hp _ _ h2
  · intro i y σ' H' H'' hin hp ⟨Tp, w, v, e1, e2, e3, e4, e5⟩
    subst e1
    subst e3
    obtain ⟨n, x, hx, rfl, rx⟩ := h3.get e4 e5
    have hdr : xs.drop i = (n, x) :: xs.drop (i + 1) := by
      have hlt := (List.getElem?_eq_some_iff.mp hx)
      rw [List.drop_eq_getElem_cons hlt.1, hlt.2]
    rw [hdr] at hp
    exact ⟨Tp, [.int (n : Int), v], rfl, SqT.of upd_same, rfl, _, _, rfl, _, _, rfl, rfl, hs B1 n x (xs.drop (i + 1)) v σ' H' _ g.eb rx hp fun B2 e => Go.tmp e e2⟩
  · intro σ' H' hp
    have hn : xs.drop kvs.length = [] := by rw [h3.len]; exact List.drop_length
    rw [hn] at hp
    exact hdn B1 σ' H' g.eb hp
end
end Ly
/-! a comprehension of two fors -/
namespace Ly
open PySem PySem.Spec PyProof.Rows L2 TL
section
variable {J : It} {n : Nat} {G : Hp → Prop} {Y : Nat → Hp → V → Hp → Prop}
theorem out_it (w : Walk J n G Y) {Bd : V → Hp → (Hp → Prop) → Prop} {H1 : Hp} {Qd : Hp → Prop} (Pv : Nat → Hp → Prop) (h0 : Pv 0 H1) (hG : ∀ i H, i ≤ n → Pv i H → G H) (hs : ∀ i x H H', i < n → Pv i H → Y i H x H' → Bd x H' (Pv (i + 1))) (hd : ∀ H, Pv n H → Qd H) :
    ∃ W : Nat → Nat → Hp → Prop, (∃ m, W 0 m H1) ∧ ∀ i m H, W i m H → (J.stop i H ∧ Qd H) ∨ (J.go i H ∧ ∃ Nx : Hp → Prop, (∀ H', Nx H' → ∃ m', m' < m ∧ W (i + 1) m' H') ∧ ∀ x H', J.yld i H x H' → Bd x H' Nx) := by
  refine ⟨fun i m H => m + i = n ∧ Pv i H, ⟨n, rfl, h0⟩, ?_⟩
  rintro i m H ⟨hm, p⟩
  have q := hG i H (by omega) p
  cases m with
  | zero =>
    have e : i = n := by omega
    subst e
    exact .inl ⟨w.stops H q, hd H p⟩
  | succ m =>
    have hlt : i < n := by omega
    exact .inr ⟨w.goes i H hlt q, Pv (i + 1), fun H' p' => ⟨m, Nat.lt_succ_self m, by omega, p'⟩, fun x H' y => hs i x H H' hlt p (w.yields i H x H' hlt q y)⟩
end
section
variable {X : Cx} {σ : L2.St} {B H : Hp} {O : Own} {a b c e tg tg1 : Expr} {pos p apos : Pos} {α β γ δ : Type} {T : Ty α} {U : Ty β} {S : Ty γ}
def wIb (X : Cx) (scope : Scope) (tg iter : Expr) : TI := fun σ H R => ∀ s H0 C cl fp, wI (bl X scope s H0 C cl fp) tg iter σ H R
theorem p_ib {scope : Scope} {tg iter : Expr} (s : Shared) (H : Hp) (C : Addr) (cl : List (Str × Addr)) (fp : List Addr) : PI (bl X scope s H C cl fp) tg iter (wIb X scope tg iter) := ⟨fun pins s' _ _ _ I h => h s H C cl fp pins s' I⟩
theorem yes_ite {scope : Scope} {P Q : Hp → Prop} (h : P H) : wTb X scope [] σ H (fun b H' => if b = true then P H' else Q H') := by
  show (if true = true then P H else Q H)
  exact iteT h
structure Lc2 (B1 H1 : Hp) (U : Ty β) (D : Addr) (B' H' : Hp) (acc : List V) (ys : List β) : Prop where
  go : Go B1 H1 B' H'
  nd : B' D = none
  at_ : H' D = some (.lst acc)
  rp : Reps U B' acc ys
@[reducible] def fLim (xs : List β) : Option (List β) := if Nat.ble xs.length 40000 then some xs else none
theorem ev_lc2 {scope : Scope} {ifs1 : List Expr} {elt iter iter1 : Expr} {x1 x2 : Str} {j j1 : Nat} {mxs : Option (List α)} (hc : X.calm = true) (hN : X.N.Nodup) (ok : BlkOk X.N X.env.scope scope [(x1, j), (x2, j1)]) (hi : IV X σ B O tg iter T mxs)
    (hg : ∀ (s : Shared) (H : Hp) (C : Addr) (cl : List (Str × Addr)) (fp : List Addr), PG (bl X scope s H C cl fp) tg (gName j)) (hg1 : ∀ (s : Shared) (H : Hp) (C : Addr) (cl : List (Str × Addr)) (fp : List Addr), PG (bl X scope s H C cl fp) tg1 (gName j1)) (my : α → Option (List γ)) (c : α → γ → Option Bool) (f : α → γ → Option β)
    (hw : ∀ v : V, wipe ((wipe σ [j, j1]).set j (some v)) [j, j1] = wipe σ [j, j1])
    (hi1 : ∀ x v B2, Ex B B2 → T.rep B2 v x → ∀ s H C cl fp, IV (bl X scope s H C cl fp) ((wipe σ [j, j1]).set j (some v)) B2 O tg1 iter1 S (my x))
    (hcnd : ∀ x v y w B2, Ex B B2 → T.rep B2 v x → S.rep B2 w y → TVb X scope ((wipe ((wipe σ [j, j1]).set j (some v)) [j1]).set j1 (some w)) B2 O ifs1 (c x y))
    (hel : ∀ x v y w B2, Ex B B2 → T.rep B2 v x → S.rep B2 w y → ∀ s H C cl fp, EV (bl X scope s H C cl fp) ((wipe ((wipe σ [j, j1]).set j (some v)) [j1]).set j1 (some w)) B2 O elt U (f x y))
    (h1 : ifs1.length ≤ 1 := by decide) (hs : ∀ x, foldedSetIterable iter X.env x = pure x := by intro _; rfl) (hs1 : ∀ env x, foldedSetIterable iter1 env x = pure x := by intro _ _; rfl) : EV X σ B O (.ListComp elt [⟨tg, iter, [], 0⟩, ⟨tg1, iter1, ifs1, 0⟩] scope pos) (tL U) ((mxs.bind fun xs => compC (fun x => (my x).bind fun ys => compM (c x) (f x) ys) xs).bind fLim) := by
  intro z hz B1 H e I Q q
  obtain ⟨tot, hm, hz⟩ := bind_some hz
  unfold fLim at hz
  split at hz
  case isFalse => cases hz
  rename_i hlim
  have hlim := Nat.le_of_ble_eq_true hlim
  cases hz
  refine of_e (pe_lc2 (own := [(x1, j), (x2, j1)]) (vs1 := [j1]) (tt := wTb X scope []) hc hN p_i ok (by simp) hg (p_tb (by decide)) p_ib hg1 (p_tb h1) p_eb hs hs1) ?_
  obtain ⟨xs, rfl, hf⟩ := bind_some hm
  refine hi xs rfl B1 H e I _ fun J B2 H2 vs g2 sr r2 hl => ?_
  intro D hD
  obtain ⟨G, w, hG⟩ := sr.ex
  have I2 := I.go g2
  have hB2 : B2 D = none := g2.bh.free hD
  refine out_it w (Qd := Q (.ref D)) (fun i H' => ∃ B' acc ys zs, Lc2 B2 H2 U D B' H' acc ys ∧ compC (fun x => (my x).bind fun ys => compM (c x) (f x) ys) (xs.drop i) = some zs ∧ z = ys ++ zs) ?_ ?_ ?_ ?_
  · exact ⟨B2, [], [], z, ⟨(Go.refl g2.bh).app hD hB2, hB2, upd_same, .nil⟩, hf, rfl⟩
  · intro i H' hi ⟨B', acc, ys, zs, L, _⟩
    exact hG H' (L.go.eb.trans L.go.bh) fun p hp => (I2.go L.go).ow p hp |>.1
  · intro i v H' H'' hin ⟨B', acc, ys, zs, L, rest, ht⟩ ⟨e1, hx⟩
    subst e1
    obtain ⟨x, hy, rx⟩ := r2.get hx
    have hd : xs.drop i = x :: xs.drop (i + 1) := by
      have hlt := (List.getElem?_eq_some_iff.mp hy)
      rw [List.drop_eq_getElem_cons hlt.1, hlt.2]
    rw [hd] at rest
    obtain ⟨us, hus, rest⟩ := bind_some rest
    obtain ⟨zs', hz', rest⟩ := bind_some rest
    cases rest
    obtain ⟨ms, hms, hus⟩ := bind_some hus
    have rx' := T.mono L.go.eb rx
    have eB := (e.trans g2.eb).trans L.go.eb
    refine ⟨hw v, yes_ite ?_⟩
    intro s0 H0 C0 cl0 fp0
    refine hi1 x v B' eB rx' s0 H0 C0 cl0 fp0 ms hms B' _ (Ex.refl _) (I2.go L.go) _ fun J1 B3 H3 vs1 g3 sr1 r3 hl1 => ?_
    obtain ⟨G1, w1, hG1⟩ := sr1.ex
    have n3 := g3.keep L.nd L.at_
    have a3 := g3.eh _ _ L.at_
    refine out_it w1 (fun k H' => ∃ B4 acc ys zs4, Lc2 B2 H2 U D B4 H' acc ys ∧ Ex B3 B4 ∧ compM (c x) (f x) (ms.drop k) = some zs4 ∧ z = ys ++ (zs4 ++ zs')) ?_ ?_ ?_ ?_
    · exact ⟨B3, acc, ys, us, ⟨L.go.trans g3, n3, a3, L.rp.mono g3.eb⟩, Ex.refl _, hus, ht⟩
    · intro k H' hk ⟨B4, acc4, ys4, zs4, L4, e4, _⟩
      exact hG1 H' (e4.trans L4.go.bh) fun p hp => (I2.go L4.go).ow p hp |>.1
    · intro k w' H4 H5 hkn ⟨B4, acc4, ys4, zs4, L4, e4, rest4, ht4⟩ ⟨e5, hx5⟩
      subst e5
      obtain ⟨y, hy5, ry⟩ := r3.get hx5
      have hd5 : ms.drop k = y :: ms.drop (k + 1) := by
        have hlt := (List.getElem?_eq_some_iff.mp hy5)
        rw [List.drop_eq_getElem_cons hlt.1, hlt.2]
      rw [hd5] at rest4
      obtain ⟨bb, hbb, rest4⟩ := bind_some rest4
      have ry' := S.mono e4 ry
      have rx4 := T.mono (g3.eb.trans e4) rx'
      have eB4 := eB.trans (g3.eb.trans e4)
      refine ⟨wipe1, ?_⟩
      refine tv_b (hcnd x v y w' B4 eB4 rx4 ry') bb hbb B4 _ (Ex.refl _) (I2.go L4.go) _ fun B6 H6 g6 => ?_
      have n6 := g6.keep L4.nd L4.at_
      cases bb with
      | true =>
        refine iteT ?_
        obtain ⟨u, hu, rest4⟩ := bind_some (f := fun y => (compM (c x) (f x) (ms.drop (k + 1))).bind fun ys => some (y :: ys)) rest4
        obtain ⟨zs5, hz5, rest4⟩ := bind_some rest4
        cases rest4
        intro s1 H1 C1 cl1 fp1
        refine hel x v y w' B4 eB4 rx4 ry' s1 H1 C1 cl1 fp1 u hu B6 H6 g6.eb ((I2.go L4.go).go g6) _ fun v7 B7 H7 g7 r7 => ?_
        have n7 := g7.keep n6 (g6.eh _ _ L4.at_)
        have hlen : acc4.length ≤ 40000 := by
          rw [L4.rp.len]
          rw [ht4, List.length_append] at hlim
          omega
        refine ⟨acc4, g7.eh _ _ (g6.eh _ _ L4.at_), Nat.lt_of_le_of_lt hlen (by decide), ?_⟩
        refine ⟨B7, acc4 ++ [v7], ys4 ++ [u], zs5, ⟨((L4.go.trans g6).trans g7).app hD n7, n7, upd_same, (L4.rp.mono (g6.eb.trans g7.eb)).app (.cons r7 .nil)⟩, e4.trans (g6.eb.trans g7.eb), hz5, ?_⟩
        rw [ht4, List.append_assoc]
        rfl
      | false =>
        refine iteF ?_
        exact ⟨B6, acc4, ys4, zs4, ⟨L4.go.trans g6, n6, g6.eh _ _ L4.at_, L4.rp.mono g6.eb⟩, e4.trans g6.eb, rest4, ht4⟩
    · intro H' ⟨B4, acc4, ys4, zs4, L4, e4, rest4, ht4⟩
      have hn : ms.drop vs1.length = [] := by rw [r3.len]; exact List.drop_length
      rw [hn] at rest4
      cases rest4
      exact ⟨B4, acc4, ys4, zs', L4, hz', ht4⟩
  · intro H' ⟨B', acc, ys, zs, L, rest, ht⟩
    have hn : xs.drop vs.length = [] := by rw [r2.len]; exact List.drop_length
    rw [hn] at rest
    cases rest
    rw [List.append_nil] at ht
    subst ht
    exact q _ _ _ (g2.trans (L.go.seal hB2 hD L.at_)) ⟨D, acc, rfl, upd_same, L.rp.mono (Ex.new L.nd), by rw [L.rp.len]; exact hlim⟩
end
end Ly
/-! dicts whose keys are pairs of numbers: setdefault, get, values -/
namespace Ly
open PySem PySem.Spec PyProof.Rows L2 TL
section
variable {X : Cx} {pins : List (Addr × Obj)} {σ : L2.St} {H : Hp} {s : Shared} {a b : Addr} {y d : V} {u r : Value} {A : Around} {E : Value → Shared → Prop}
theorem d_setdT {kvs : List (List Key × V)} {k : List Key} {Q : Value → Shared → Prop} (hu : A.units + 1 < cLine) (I : L2.Inv X pins σ H s) (e : H a = some (.dT kvs)) (eb : H b = some (.tup (k.map kV))) (rd : RelV d r) (hl : kvs.length < sizeLine)
    (h1 : ∀ v, valV kvs k = some v → ∀ (w' : Value) (s' : Shared), L2.Inv X pins σ H s' → RelV v w' → Q w' s') (h2 : valV kvs k = none → ∀ (w' : Value) (s' : Shared), L2.Inv X pins σ (upd H a (.dT (putK kvs k d))) s' → RelV d w' → Q w' s') :
    wpAny (model X.prog X.w) A (call (.builtin "dict.setdefault") [.ref a, .ref b, r]) Q E s := by
  obtain ⟨z, hd, xs, rel, dd⟩ := dt_of I.hok e
  have hz : xs.length ≤ sizeLine := by
    rw [← Paired.length rel]
    exact z
  refine call_setdefault_heap (hsz := hz) (tupleKind_room_in1 hu) (key_of I.hok eb) hd dd (fun p hp => ?_) fun hn h' dd' hs => ?_
  · have q := rel.val k
    rw [hp] at q
    cases q0 : valV kvs k with
    | none =>
      rw [q0] at q
      exact (show False from q).elim
    | some v0 =>
      rw [q0] at q
      exact h1 v0 q0 _ _ (I.tok _) q
  · have q := rel.val k
    rw [hn] at q
    cases q0 : valV kvs k with
    | some v0 =>
      rw [q0] at q
      exact (show False from q).elim
    | none =>
      have hl2 : (putK kvs k d).length ≤ sizeLine := by
        have := length_putK kvs k d
        omega
      obtain ⟨q, es, ep, hq, g2, g3, g4, _, g5⟩ := dd'
      refine h2 q0 _ _ (d_write I (by rw [e]; exact True.intro) hs ⟨q, hq⟩ ⟨hl2, hd, _, (rel.put k eb rd).keeps fun c ys ec => ?_, q, es, ep, hq, g2, g3, g4, g5⟩) rd
      rw [upd_ne (ne_of ec e (fun z => nomatch z))]
      exact ec
def tDSetT (td ty tx : TE) : TE := fun σ H Q => td σ H fun x H1 => ∃ a, x = .ref a ∧ IsD H1 a ∧ ty σ H1 fun y H2 => tx σ H2 fun z H3 => ∃ (kvs : List (List Key × V)) (k : List Key) (b : Addr), H3 a = some (.dT kvs) ∧ y = .ref b ∧ H3 b = some (.tup (k.map kV)) ∧ kvs.length < sizeLine ∧
  (∀ v, valV kvs k = some v → Q v H3) ∧ (valV kvs k = none → Q z (upd H3 a (.dT (putK kvs k z))))
end
section
variable {X : Cx} {o e f : Expr} {td ty tx : TE} {apos cpos : Pos}
theorem pe_dsetT (hu : X.A.units + 1 < cLine) (ho : PE X o td) (he : PE X e ty) (hf : PE X f tx) (m : M2 X o "setdefault" apos e f cpos) : PE X (.Call (.Attribute o "setdefault" apos) [e, f] [] cpos) (tDSetT td ty tx) := by
  refine ⟨fun pins s σ H Q I h => ?_⟩
  refine wpAny_Call_method m.base m.few m.line PySem.F.plainAttrs_dict PySem.F.slot_dict_setdefault PySem.F.type_dict_setdefault (thn (ho.run pins s σ H _ I h) fun u s1 ⟨x, H1, I1, rx, a, ex, d, q1⟩ => ?_)
  subst ex
  obtain rfl : u = Value.ref a := rx
  obtain ⟨t1, t2, _⟩ := isD_at I1 d
  refine ⟨t1, t2, ?_⟩
  rw [m.trees]
  refine Calls.callWith_builtin rfl (Calls.evalArgs_plain (Calls.spliced_cons (thn (he.run pins s1 σ H1 _ I1 q1) fun iv s2 ⟨y, H2, I2, ry, q2⟩ =>
    Calls.spliced_cons (thn (hf.run pins s2 σ H2 _ I2 q2) fun fv s3 ⟨z, H3, I3, rz, kvs, k, b, ea, ey, eb, hl, q3, q4⟩ => Calls.spliced_nil ?_))))
  subst ey
  obtain rfl : iv = Value.ref b := ry
  exact d_setdT hu I3 ea eb rz hl (fun v hv w' s4 I4 rw' => ⟨v, _, I4, rw', q3 v hv⟩) fun hn w' s4 I4 rw' => ⟨z, _, I4, rw', q4 hn⟩
end
/-! values walked -/
section
variable {X : Cx} {pins : List (Addr × Obj)} {σ : L2.St} {H : Hp} {s : Shared} {d : Addr} {o : Obj}
theorem frzTV {kvs : List (List Key × V)} (I : L2.Inv X pins σ H s) (h : H d = some (.frz o (.dT kvs))) :
    (d == sysModules) = false ∧ ∃ (es : Array DictEntry) (ep : Nat), o.data = .dict es ep ∧ s.heap.DictRaw d es ep ∧ es.size = kvs.length ∧
      ∀ (i : Nat) (k : List Key) (v : V) (hi : i < es.size), kvs[i]? = some (k, v) → RelV v es[i].val := by
  obtain ⟨hd, z, hs, xs, pr, o', es, ep, ho, hx, hdt, he, _⟩ := I.hok d _ h
  rw [hd] at ho
  cases ho
  have l1 : es.size = xs.length := size_of_entries he
  have l2 : kvs.length = xs.length := Paired.length pr
  refine ⟨hs, es, ep, hdt, ⟨o, hd, hx, hdt⟩, by omega, fun i k v hi e => ?_⟩
  obtain ⟨b, hb, e1, e2, e3⟩ := paired_get pr e
  have q := entry_at he i
  rw [hb, Array.getElem?_eq_getElem hi] at q
  rw [Option.some.inj q]
  exact e3
end
def Itdt (d : Addr) (o : Obj) (kvs : List (List Key × V)) : It :=
  ⟨fun i H => H d = some (.frz o (.dT kvs)) ∧ i < kvs.length, fun i H x H' => H' = H ∧ ∃ k, kvs[i]? = some (k, x), fun i H => H d = some (.frz o (.dT kvs)) ∧ kvs.length ≤ i⟩
section
variable {P : Program} {w : World} {K : PySem.W.Frag} {tg : Expr} {d : Addr} {o : Obj} {es : Array DictEntry} {ep : Nat}
theorem turn_valsT {kvs : List (List Key × V)} (it : Addr) (hod : o.data = .dict es ep) : Turn P w K tg (Itdt d o kvs) [it] it (fun i h => h.IsValIter it d i kvs.length ep) where
  mem := by simp
  obj := fun i h st b hb => by
    have e : b = it := by simpa using hb
    subst e
    obtain ⟨oi, e, c, dd⟩ := st
    exact ⟨oi, e, fun v z => by rw [dd] at z; cases z⟩
  keep := fun i h h' st k => st.at fun oi e => k it (by simp) oi e
  item := by
    intro X hP hw hK hc i pins s σ H E I hf st hg
    subst hP hw hK
    obtain ⟨hd, hi⟩ := hg
    obtain ⟨f0, f1, f2, f3, f4, f5⟩ := hf it (by simp)
    obtain ⟨hs, es', ep', hdt, raw, hsz, ent⟩ := frzTV I hd
    obtain ⟨rfl, rfl⟩ := dict_ep hod hdt
    obtain ⟨⟨k, v⟩, hkv⟩ : ∃ p, kvs[i]? = some p := ⟨kvs[i], List.getElem?_eq_getElem hi⟩
    have hi2 : i < es'.size := by omega
    have ru := ent i k v hi2 hkv
    rw [← hsz] at st
    refine wpAny_pyNext_values_item_raw st raw hi2 fun h' st' sb => ?_
    have I1 : L2.Inv X pins σ H { s with heap := h' } := I.turned (t' := s.toks) (fun b ob hb e => (sb.2 b hb).trans e) f0 f1 f3 f4 f5
    obtain ⟨oi, e, c, dd⟩ := id st'
    refine ⟨es'[i].val, rfl, go_of (s := { s with heap := h' }) e c dd (by decide) ⟨v, H, I1, ru, ⟨rfl, k, hkv⟩, ?_, fun b hb => (hf b hb).1⟩⟩
    show h'.IsValIter it d (i + 1) kvs.length _
    rw [← hsz]
    exact st'
  done := by
    intro X hP hw hK hc i pins s σ H E I hf st hg
    subst hP hw hK
    obtain ⟨hd, hi⟩ := hg
    obtain ⟨f0, f1, f2, f3, f4, f5⟩ := hf it (by simp)
    obtain ⟨hs, es', ep', hdt, raw, hsz, ent⟩ := frzTV I hd
    obtain ⟨rfl, rfl⟩ := dict_ep hod hdt
    rw [← hsz] at st
    exact wpAny_pyNext_values_end_raw (I.ok.hd hc) st raw (by omega) fun h' eb => ⟨rfl, I.turned (t' := s.toks) (fun b ob hb e => eb b ob hb e) f0 f1 f3 f4 f5⟩
  self := fun A i s Q E st h => wpAny_pyIter_valiter st h
end
def iValsT (td : TE) : TI := fun σ H R => td σ H fun x H1 => ∃ d o kvs, x = .ref d ∧ H1 d = some (.frz o (.dT kvs)) ∧ R (Itdt d o kvs) H1
section
variable {X : Cx} {tg e : Expr} {td : TE} {apos cpos : Pos}
theorem pi_valuesT (he : PE X e td) (hbase : attributeBase e "values" X.env (eval e X.env) = eval e X.env := by rfl) (hline : (apos.endLine == cpos.line) = true := by rfl) : PI X tg (.Call (.Attribute e "values" apos) [] [] cpos) (iValsT td) := by
  refine ⟨fun pins s σ H R I h => ?_⟩
  refine wpAny_Call_method (T := "dict") (id := "dict.values") hbase rfl hline F.plainAttrs_dict F.slot_dict_values F.type_dict_values (thn (he.run pins s σ H _ I h) fun u s1 ⟨x, H1, I1, rx, d, o, kvs, ex, hd, q⟩ => ?_)
  subst ex
  obtain rfl : u = Value.ref d := rx
  obtain ⟨hs, es, ep, hdt, raw, hsz, ent⟩ := frzTV I1 hd
  refine ⟨raw.typeIs, fun b q => ?_, ?_⟩
  · cases q
    obtain ⟨ob, h1, h2, _⟩ := raw
    exact ⟨ob, h1, h2.2.1⟩
  have I2 : L2.Inv X pins σ H1 { s1 with heap := s1.heap.push { cls := .type "dict_values", data := .fields #[.ref d] } } := I1.kept (t' := s1.toks) fun b ob q => Heap.get?_push_of_some _ q
  have fin : wpAny (model X.prog X.w) X.A (pyIter (.ref s1.heap.objs.size)) (PIE X pins σ tg R) X.xe { s1 with heap := s1.heap.push { cls := .type "dict_values", data := .fields #[.ref d] } } := by
    refine wpAny_pyIter_values_raw (d := d) ⟨_, Heap.get?_push_size _ rfl, rfl, rfl⟩ (raw.at fun ob q => Heap.get?_push_of_some _ q) (pi_one (tk := s1.toks) I2 _ (turn_valsT _ hdt) ⟨_, Heap.get?_push_size _ rfl, rfl, ?_⟩ q)
    rw [hsz] <;> rfl
  show wpAny _ _ (callWith cpos (.builtin "dict.values") [.ref d] [] []) _ X.xe s1
  exact method_meetsIn F.slot_dict_values F.entry_dict_values rfl (PySem.evalArgs_none ⟨rfl, raw.typeIs, F.args_dict_values_1 _, _, meets_dict_values_raw d hs, ⟨es, ep, raw⟩, fin⟩)
end
theorem walk_valuesT {d : Addr} {o : Obj} {kvs : List (List Key × V)} : Walk (Itdt d o kvs) kvs.length (fun H => H d = some (.frz o (.dT kvs))) (YAt (kvs.map Prod.snd)) :=
  ⟨fun i H hi h => ⟨h, hi⟩, fun H h => ⟨h, Nat.le_refl _⟩, fun i H x H' hi h ⟨e1, k, e2⟩ => ⟨e1, by rw [List.getElem?_map, e2]; rfl⟩⟩
/-! groups: a dict of own lists, its keys pairs of numbers -/
@[reducible] def eqK (k j : Nat × Nat) : Bool := Nat.beq k.1 j.1 && Nat.beq k.2 j.2
theorem eqK_iff {k j : Nat × Nat} : eqK k j = true ↔ k = j := by
  unfold eqK
  rw [Bool.and_eq_true, Nat.beq_eq, Nat.beq_eq]
  constructor
  · rintro ⟨h1, h2⟩
    exact Prod.ext h1 h2
  · rintro rfl
    exact ⟨rfl, rfl⟩
def gP {α : Type} : List ((Nat × Nat) × α) → Nat × Nat → Option α
  | [], _ => none
  | p :: r, k => bif eqK p.1 k then some p.2 else gP r k
def addP {α : Type} : List ((Nat × Nat) × List α) → Nat × Nat → α → List ((Nat × Nat) × List α)
  | [], k, v => [(k, [v])]
  | p :: r, k, v => bif eqK p.1 k then (p.1, p.2 ++ [v]) :: r else p :: addP r k v
@[reducible] def fAddP {α : Type} (ms : List ((Nat × Nat) × List α)) (k : Nat × Nat) (v : α) : Option (List ((Nat × Nat) × List α)) := if Nat.ble ms.length 1000 && ms.all (fun m => Nat.ble m.2.length 1000) then some (addP ms k v) else none
structure Grp where
  k : Nat × Nat
  l : Addr
  vs : List V
def keyG (k : Nat × Nat) : List Key := [Sum.inl (k.1 : Int), Sum.inl (k.2 : Int)]
theorem keyG_inj {k j : Nat × Nat} (h : keyG k = keyG j) : k = j := by
  unfold keyG at h
  have h1 := (List.cons.inj h).1
  have h2 := (List.cons.inj (List.cons.inj h).2).1
  exact Prod.ext (Int.ofNat.inj (Sum.inl.inj h1)) (Int.ofNat.inj (Sum.inl.inj h2))
def kvsG (gs : List Grp) : List (List Key × V) := gs.map fun g => (keyG g.k, V.ref g.l)
def ownL (gs : List Grp) : Own := gs.map fun g => (g.l, HO.lst g.vs)
def ownG (D : Addr) (gs : List Grp) : Own := (D, .dT (kvsG gs)) :: ownL gs
def addG : List Grp → Nat × Nat → Addr → V → List Grp
  | [], k, p, v => [⟨k, p, [v]⟩]
  | g :: r, k, p, v => bif eqK g.k k then ⟨g.k, g.l, g.vs ++ [v]⟩ :: r else g :: addG r k p v
def findG : List Grp → Nat × Nat → Option Grp
  | [], _ => none
  | g :: r, k => bif eqK g.k k then some g else findG r k
theorem findG_mem {k : Nat × Nat} {g : Grp} : ∀ {gs : List Grp}, findG gs k = some g → g ∈ gs
  | [], h => nomatch h
  | g' :: r, h => by
    have h : (bif eqK g'.k k then some g' else findG r k) = some g := h
    cases e : eqK g'.k k with
    | true =>
      rw [e] at h
      cases h
      exact List.mem_cons_self
    | false =>
      rw [e] at h
      exact List.mem_cons_of_mem _ (findG_mem (gs := r) h)
theorem valG (k : Nat × Nat) : ∀ gs : List Grp, valV (kvsG gs) (keyG k) = (findG gs k).map fun g => V.ref g.l
  | [] => rfl
  | g :: r => by
    cases e : eqK g.k k with
    | true =>
      have h1 : keyG g.k = keyG k := by rw [eqK_iff.mp e]
      rw [show valV (kvsG (g :: r)) (keyG k) = some (V.ref g.l) from valV_pos (p := (keyG g.k, V.ref g.l)) h1]
      show _ = (bif eqK g.k k then some g else findG r k).map _
      rw [e]
      rfl
    | false =>
      have h1 : ¬ keyG g.k = keyG k := fun z => by
        rw [eqK_iff.mpr (keyG_inj z)] at e
        cases e
      rw [show valV (kvsG (g :: r)) (keyG k) = valV (kvsG r) (keyG k) from valV_neg (p := (keyG g.k, V.ref g.l)) h1, valG k r]
      show _ = (bif eqK g.k k then some g else findG r k).map _
      rw [e]
      rfl
theorem addG_new {k : Nat × Nat} {p : Addr} {v : V} : ∀ {gs : List Grp}, findG gs k = none → addG gs k p v = gs ++ [⟨k, p, [v]⟩]
  | [], _ => rfl
  | g :: r, h => by
    have h : (bif eqK g.k k then some g else findG r k) = none := h
    show (bif eqK g.k k then _ else g :: addG r k p v) = _
    cases e : eqK g.k k with
    | true =>
      rw [e] at h
      cases h
    | false =>
      rw [e] at h
      show g :: addG r k p v = _
      rw [addG_new (gs := r) h]
      rfl
theorem addG_old {k : Nat × Nat} {p : Addr} {v : V} {g : Grp} : ∀ {gs : List Grp}, findG gs k = some g → (gs.map Grp.l).Nodup → (addG gs k p v).map Grp.l = gs.map Grp.l ∧ kvsG (addG gs k p v) = kvsG gs ∧ ∀ g' ∈ addG gs k p v, (g'.l = g.l ∧ g'.vs = g.vs ++ [v]) ∨ (g' ∈ gs ∧ g'.l ≠ g.l)
  | [], h, _ => nomatch h
  | g0 :: r, h, nd => by
    have h : (bif eqK g0.k k then some g0 else findG r k) = some g := h
    rw [List.map_cons, List.nodup_cons] at nd
    cases e : eqK g0.k k with
    | true =>
      rw [e] at h
      cases h
      have e1 : addG (g :: r) k p v = ⟨g.k, g.l, g.vs ++ [v]⟩ :: r := by
        show (bif eqK g.k k then _ else _) = _
        rw [e]
        rfl
      rw [e1]
      refine ⟨rfl, rfl, fun g' hg => ?_⟩
      rcases List.mem_cons.mp hg with z | z
      · subst z
        exact .inl ⟨rfl, rfl⟩
      · exact .inr ⟨List.mem_cons_of_mem _ z, fun q => nd.1 (by rw [← q]; exact List.mem_map.mpr ⟨g', z, rfl⟩)⟩
    | false =>
      rw [e] at h
      have e1 : addG (g0 :: r) k p v = g0 :: addG r k p v := by
        show (bif eqK g0.k k then _ else _) = _
        rw [e]
        rfl
      obtain ⟨h1, h2, h3⟩ := addG_old (p := p) (v := v) (gs := r) h nd.2
      rw [e1]
      refine ⟨by rw [List.map_cons, h1]; rfl, by unfold kvsG at h2 ⊢; rw [List.map_cons, h2]; rfl, fun g' hg => ?_⟩
      rcases List.mem_cons.mp hg with z | z
      · subst z
        exact .inr ⟨List.mem_cons_self, fun q => nd.1 (by rw [q]; exact List.mem_map.mpr ⟨g, findG_mem (gs := r) h, rfl⟩)⟩
      · exact (h3 g' z).imp id fun ⟨a, b⟩ => ⟨List.mem_cons_of_mem _ a, b⟩
inductive RepG {α : Type} (T : Ty α) (B H0 : Hp) : List Grp → List ((Nat × Nat) × List α) → Prop where
  | nil : RepG T B H0 [] []
  | cons {k l vs xs gs ms} : Reps T B vs xs → H0 l = none → RepG T B H0 gs ms → RepG T B H0 (⟨k, l, vs⟩ :: gs) ((k, xs) :: ms)
section
variable {α : Type} {T : Ty α} {B B' H0 H : Hp}
theorem RepG.mono (e : Ex B B') : ∀ {gs : List Grp} {ms : List ((Nat × Nat) × List α)}, RepG T B H0 gs ms → RepG T B' H0 gs ms
  | _, _, .nil => .nil
  | _, _, .cons r h t => .cons (r.mono e) h (t.mono e)
theorem RepG.len : ∀ {gs : List Grp} {ms : List ((Nat × Nat) × List α)}, RepG T B H0 gs ms → gs.length = ms.length
  | _, _, .nil => rfl
  | _, _, .cons _ _ t => by rw [List.length_cons, List.length_cons, t.len]
theorem RepG.free : ∀ {gs : List Grp} {ms : List ((Nat × Nat) × List α)}, RepG T B H0 gs ms → ∀ g ∈ gs, H0 g.l = none
  | _, _, .nil, g, h => nomatch h
  | _, _, .cons _ h t, g, hg => by
    rcases List.mem_cons.mp hg with z | z
    · subst z
      exact h
    · exact t.free g z
theorem RepG.at_ : ∀ {gs : List Grp} {ms : List ((Nat × Nat) × List α)}, RepG T B H0 gs ms → ∀ g ∈ gs, ∃ m ∈ ms, Reps T B g.vs m.2
  | _, _, .nil, g, h => nomatch h
  | _, _, .cons (k := k) (xs := xs) r h t, g, hg => by
    rcases List.mem_cons.mp hg with z | z
    · subst z
      exact ⟨(k, xs), List.mem_cons_self, r⟩
    · obtain ⟨m, h1, h2⟩ := t.at_ g z
      exact ⟨m, List.mem_cons_of_mem _ h1, h2⟩
theorem RepG.find (k : Nat × Nat) : ∀ {gs : List Grp} {ms : List ((Nat × Nat) × List α)}, RepG T B H0 gs ms → (findG gs k = none ∧ gP ms k = none) ∨ ∃ g xs, findG gs k = some g ∧ gP ms k = some xs ∧ Reps T B g.vs xs
  | _, _, .nil => .inl ⟨rfl, rfl⟩
  | _, _, .cons (k := k0) (l := l) (vs := vs) (xs := xs) (gs := gs) (ms := ms) r h t => by
    cases e : eqK k0 k with
    | true =>
      refine .inr ⟨⟨k0, l, vs⟩, xs, ?_, ?_, r⟩
      · show (bif eqK k0 k then _ else _) = _
        rw [e]
        rfl
      · show (bif eqK k0 k then _ else _) = _
        rw [e]
        rfl
    | false =>
      have e1 : findG (⟨k0, l, vs⟩ :: gs) k = findG gs k := by
        show (bif eqK k0 k then _ else _) = _
        rw [e]
        rfl
      have e2 : gP ((k0, xs) :: ms) k = gP ms k := by
        show (bif eqK k0 k then _ else _) = _
        rw [e]
        rfl
      rw [e1, e2]
      exact t.find k
theorem RepG.add {k : Nat × Nat} {p : Addr} {v : V} {x : α} (hp : H0 p = none) (rv : T.rep B v x) : ∀ {gs : List Grp} {ms : List ((Nat × Nat) × List α)}, RepG T B H0 gs ms → RepG T B H0 (addG gs k p v) (addP ms k x)
  | _, _, .nil => .cons (.cons rv .nil) hp .nil
  | _, _, .cons (k := k0) (l := l) (vs := vs) (xs := xs) (gs := gs) (ms := ms) r h t => by
    show RepG T B H0 (bif eqK k0 k then _ else _) (bif eqK k0 k then _ else _)
    cases e : eqK k0 k with
    | true => exact .cons (r.app (.cons rv .nil)) h t
    | false => exact .cons r h (t.add hp rv)
end
/-- the groups as they stand: told by ms, their lists apart -/
structure RG {α : Type} (T : Ty α) (B H0 : Hp) (gs : List Grp) (ms : List ((Nat × Nat) × List α)) : Prop where
  rp : RepG T B H0 gs ms
  nd : (gs.map Grp.l).Nodup
  ln : gs.length ≤ 1001 ∧ ∀ m ∈ ms, m.2.length ≤ 1001
theorem RG.mono {α : Type} {T : Ty α} {B B' H0 : Hp} {gs : List Grp} {ms : List ((Nat × Nat) × List α)} (e : Ex B B') (r : RG T B H0 gs ms) : RG T B' H0 gs ms := ⟨r.rp.mono e, r.nd, r.ln⟩
theorem RG.nil {α : Type} {T : Ty α} {B H0 : Hp} : RG T B H0 [] [] := ⟨.nil, .nil, Nat.zero_le _, fun _ h => nomatch h⟩
theorem addP_len {α : Type} {k : Nat × Nat} {v : α} : ∀ {ms : List ((Nat × Nat) × List α)}, ms.all (fun m => Nat.ble m.2.length 1000) = true → ∀ m ∈ addP ms k v, m.2.length ≤ 1001
  | [], _, m, h => by
    cases List.mem_singleton.mp h
    exact Nat.le_of_ble_eq_true rfl
  | p :: r, h, m, hm => by
    rw [List.all_cons, Bool.and_eq_true] at h
    have hm : m ∈ (bif eqK p.1 k then (p.1, p.2 ++ [v]) :: r else p :: addP r k v) := hm
    have hr : ∀ m ∈ r, m.2.length ≤ 1001 := fun m z => Nat.le_succ_of_le (Nat.le_of_ble_eq_true (List.all_eq_true.mp h.2 m z))
    cases e : eqK p.1 k with
    | true =>
      rw [e] at hm
      rcases List.mem_cons.mp hm with z | z
      · subst z
        show (p.2 ++ [v]).length ≤ 1001
        rw [List.length_append]
        exact Nat.succ_le_succ (Nat.le_of_ble_eq_true h.1)
      · exact hr m z
    | false =>
      rw [e] at hm
      rcases List.mem_cons.mp hm with z | z
      · subst z
        exact Nat.le_succ_of_le (Nat.le_of_ble_eq_true h.1)
      · exact addP_len h.2 m z
theorem fAddP_some {α : Type} {ms ys : List ((Nat × Nat) × List α)} {k : Nat × Nat} {v : α} (h : fAddP ms k v = some ys) : ms.length ≤ 1000 ∧ ms.all (fun m => Nat.ble m.2.length 1000) = true ∧ ys = addP ms k v := by
  unfold fAddP at h
  split at h
  · rename_i h1
    rw [Bool.and_eq_true] at h1
    cases h
    exact ⟨Nat.le_of_ble_eq_true h1.1, h1.2, rfl⟩
  · cases h
section
variable {X : Cx} {σ : L2.St} {B H B0 H0 : Hp} {O : Own} {a b c d e tg : Expr} {es : List Expr} {pos p apos : Pos} {α β γ δ : Type} {T : Ty α} {U : Ty β} {S : Ty γ} {W : Ty δ} {cw : Crew} {D : Ends} {rest els body : List Stmt} {st : Stmt} {C : Addr} {Dg : Addr} {gs : List Grp} {ms ms' : List ((Nat × Nat) × List α)}
theorem len_addG {k : Nat × Nat} {p : Addr} {v : V} : ∀ {gs : List Grp}, (addG gs k p v).length ≤ gs.length + 1
  | [] => Nat.le_refl _
  | g :: r => by
    show (bif eqK g.k k then _ else _ : List Grp).length ≤ _
    cases e : eqK g.k k with
    | true => exact Nat.le_succ _
    | false => exact Nat.succ_le_succ (len_addG (gs := r))
theorem len_kvsG : (kvsG gs).length = gs.length := List.length_map _
theorem ss_newG (i : Nat) {x : Str} {p' p2 : Pos} (I : In B O H) (k : ∀ l, H l = none → wSs X rest D (σ.set i (some (.ref l))) (upd H l (.dT []))) (hN : X.N.Nodup) (hi : X.N[i]? = some x := by rfl)
    (hx : L2.Loc X.env.scope x := by first | exact Or.inl rfl | exact Or.inr rfl) (hs : swapsWith (.Dict [] [] p2) (some (.Name x p')) pos.line X.env = pure false := by rfl)
    (hf : X.fn x = true ∨ X.env.scope.names.lookup x = some .local := by first | exact .inl rfl | exact .inr rfl) : wSs X (.Assign [.Name x p'] (.Dict [] [] p2) pos :: rest) D σ H :=
  ss_cons (of_s (ps_set hN hi hx pe_dnewT hs hf) fun l hl => k l hl)
/-- known.setdefault(key, []).append(e) -/
theorem ss_addG (i : Nat) {x : Str} {m : Option α} {z : α} {ke : Expr} {mk : Option (Nat × Nat)} {kk : Nat × Nat} {np lp cp ap1 : Pos} (hu : X.A.units + 64 < cLine) (hm : m = some z) (hk : mk = some kk) (hy : fAddP ms kk z = some ms') (hke : EV X σ B [] ke (tP tN tN) mk) (h : EV X σ B [] e T m) (I : In B (ownG Dg gs) H) (g0 : Go B0 H0 B H) (r0 : RG T B H0 gs ms)
    (k : ∀ B' H' gs', Go B0 H0 B' H' → Ex B B' → In B' (ownG Dg gs') H' → RG T B' H0 gs' ms' → wSs X rest D σ H') (h0 : H0 Dg = none) (hN : X.N[i]? = some x := by rfl) (hv : Vis X.env.scope x := by first | exact Or.inl rfl | exact Or.inr (Or.inl rfl) | exact Or.inr (Or.inr rfl)) (hs : σ[i]? = some (some (.ref Dg)) := by rfl) (hd : (x == ("__debug__" : Str)) = false := by decide) (hcd : (x == ("__classdict__" : Str)) = false := by decide)
    (m2 : M2 X (.Name x np) "setdefault" ap1 ke (.List [] lp) cp := by exact ⟨rfl, rfl, rfl, rfl⟩) (hbase : attributeBase (.Call (.Attribute (.Name x np) "setdefault" ap1) [ke, .List [] lp] [] cp) "append" X.env (eval (.Call (.Attribute (.Name x np) "setdefault" ap1) [ke, .List [] lp] [] cp) X.env) = eval (.Call (.Attribute (.Name x np) "setdefault" ap1) [ke, .List [] lp] [] cp) X.env := by rfl)
    (hfew : ((backTo pos (starEach [e] X.env)).all (fun x => !x.1) && (backToKw pos (keywordEach [] X.env)).all (fun x => x.1.isSome) && decide ([e].length + ([] : List Keyword).length + (if ([] : List Keyword).isEmpty then 0 else 1) < 30)) = true := by rfl)
    (hline : (apos.endLine == pos.line) = true := by rfl) (he : starEach [e] X.env = (false, eval e X.env) :: starEach [] X.env := by rfl) (hsw : swapsWith (.Call (.Attribute (.Call (.Attribute (.Name x np) "setdefault" ap1) [ke, .List [] lp] [] cp) "append" apos) [e] [] pos) none p.line X.env = pure false := by rfl) :
    wSs X (.Expr (.Call (.Attribute (.Call (.Attribute (.Name x np) "setdefault" ap1) [ke, .List [] lp] [] cp) "append" apos) [e] [] pos) p :: rest) D σ H := by
  obtain ⟨l1, l2, em⟩ := fAddP_some hy
  subst em
  refine ss_cons (of_s (ps_expr (pe_bm PySem.F.plainAttrs_list PySem.F.slot_list_append PySem.F.type_list_append mt_append (pe_dsetT (by omega) (pe_var hN hv hd hcd) p_e (pe_lst pa_nil) m2) (pa1 he) hbase hfew hline he rfl) hsw) ?_)
  have hD := I.ow _ List.mem_cons_self
  refine ⟨_, hs, Dg, rfl, .inr ⟨_, .inl hD.1⟩, ?_⟩
  refine hke kk hk B H (Ex.refl _) I.nil _ fun w B1 H1 g1 r1 => ?_
  obtain ⟨t, kx, ky, rfl, ht, k1, k2⟩ := r1
  cases k1
  cases k2
  refine ⟨Nat.zero_le _, fun l hl => ?_⟩
  have I1 := I.go g1
  have G1 := g0.trans g1
  have gl : Go B1 H1 B1 (upd H1 l (.lst [])) := Go.tmp g1.bh hl
  have I2 := I1.go gl
  have G2 := G1.trans gl
  have hD2 := I2.ow _ List.mem_cons_self
  have ht2 : upd H1 l (.lst []) t = some (.tup ((keyG kk).map kV)) := gl.eh _ _ (g1.bh _ _ ht)
  have hl0 : H0 l = none := G1.eh.free hl
  have hlB : B1 l = none := g1.bh.free hl
  refine ⟨kvsG gs, keyG kk, t, hD2.1, rfl, ht2, by rw [len_kvsG, r0.rp.len]; exact Nat.lt_of_le_of_lt l1 (by decide), fun v hv => ?_, fun hn => ?_⟩
  · rw [valG] at hv
    rcases r0.rp.find kk with ⟨f1, _⟩ | ⟨g, xs, f1, f2, f3⟩
    · rw [f1] at hv
      cases hv
    · rw [f1] at hv
      cases hv
      have hg := findG_mem f1
      have og := I2.ow _ (List.mem_cons_of_mem _ (List.mem_map.mpr ⟨g, hg, rfl⟩))
      obtain ⟨gm, hgm, hgr⟩ := r0.rp.at_ g hg
      refine ⟨.inl ⟨rfl, _, .inl (.inl og.1)⟩, ?_⟩
      refine h z hm B1 _ g1.eb I2.nil _ fun v3 B3 H3 g3 r3 => ?_
      have I3 := I2.go g3
      have og3 := I3.ow _ (List.mem_cons_of_mem _ (List.mem_map.mpr ⟨g, hg, rfl⟩))
      refine ⟨g.l, g.vs, v3, rfl, rfl, og3.1, Nat.lt_of_le_of_lt (by rw [hgr.len]; exact r0.ln.2 gm hgm) (by decide), ?_⟩
      obtain ⟨q1, q2, q3⟩ := addG_old (p := g.l) (v := v3) f1 r0.nd
      have G3 := (G2.trans g3).app (u := .lst (g.vs ++ [v3])) (r0.rp.free g hg) og3.2
      refine k B3 _ (addG gs kk g.l v3) G3 (g1.eb.trans g3.eb) ⟨I3.ex.mut og3.2, fun q hq => ?_⟩ ⟨(r0.rp.mono (g1.eb.trans g3.eb)).add (r0.rp.free g hg) r3, by rw [q1]; exact r0.nd, ?_, fun m z => addP_len l2 m z⟩
      · unfold ownG at hq
        rw [q2] at hq
        have hD3 := I3.ow _ List.mem_cons_self
        rcases List.mem_cons.mp hq with z | z
        · subst z
          exact ⟨by rw [upd_ne (ne_of hD3.1 og3.1 (fun z => nomatch z))]; exact hD3.1, hD3.2⟩
        · obtain ⟨g', hg', rfl⟩ := List.mem_map.mp z
          rcases q3 g' hg' with ⟨e1, e2⟩ | ⟨e1, e2⟩
          · rw [e1, e2]
            exact ⟨upd_same, og3.2⟩
          · have o' := I3.ow _ (List.mem_cons_of_mem _ (List.mem_map.mpr ⟨g', e1, rfl⟩))
            exact ⟨by rw [upd_ne e2]; exact o'.1, o'.2⟩
      · have := len_addG (gs := gs) (k := kk) (p := g.l) (v := v3)
        rw [r0.rp.len] at this
        omega
  · rw [valG] at hn
    rcases r0.rp.find kk with ⟨f1, _⟩ | ⟨g, xs, f1, f2, f3⟩
    · have e1 : putK (kvsG gs) (keyG kk) (V.ref l) = kvsG (gs ++ [⟨kk, l, []⟩]) := by
        unfold putK
        rw [valV_any, valG, f1]
        show kvsG gs ++ [(keyG kk, V.ref l)] = _
        unfold kvsG
        rw [List.map_append]
        rfl
      rw [e1]
      have nDl : Dg ≠ l := fun z => by
        subst z
        rw [g1.eh _ _ hD.1] at hl
        cases hl
      have I3 : In B1 (ownG Dg (gs ++ [⟨kk, l, []⟩])) (upd (upd H1 l (.lst [])) Dg (.dT (kvsG (gs ++ [⟨kk, l, []⟩])))) := ⟨I2.ex.mut hD2.2, fun q hq => by
        rcases List.mem_cons.mp hq with z | z
        · subst z
          exact ⟨upd_same, hD2.2⟩
        · obtain ⟨g', hg', rfl⟩ := List.mem_map.mp z
          rcases List.mem_append.mp hg' with z | z
          · have o' := I2.ow _ (List.mem_cons_of_mem _ (List.mem_map.mpr ⟨g', z, rfl⟩))
            exact ⟨by rw [upd_ne (ne_of o'.1 hD2.1 (fun z => nomatch z))]; exact o'.1, o'.2⟩
          · cases List.mem_singleton.mp z
            exact ⟨by rw [upd_ne nDl.symm]; exact upd_same, hlB⟩⟩
      have G3 := G2.app (u := .dT (kvsG (gs ++ [⟨kk, l, []⟩]))) h0 hD2.2
      have hlm : (⟨kk, l, []⟩ : Grp) ∈ gs ++ [⟨kk, l, []⟩] := List.mem_append_right _ List.mem_cons_self
      have og := I3.ow _ (List.mem_cons_of_mem _ (List.mem_map.mpr ⟨_, hlm, rfl⟩))
      refine ⟨.inl ⟨rfl, _, .inl (.inl og.1)⟩, ?_⟩
      refine h z hm B1 _ g1.eb I3.nil _ fun v3 B3 H3 g3 r3 => ?_
      have I4 := I3.go g3
      have og4 := I4.ow _ (List.mem_cons_of_mem _ (List.mem_map.mpr ⟨_, hlm, rfl⟩))
      refine ⟨l, [], v3, rfl, rfl, og4.1, by show 0 < sizeLine; decide, ?_⟩
      have hnl : l ∉ gs.map Grp.l := fun z => by
        obtain ⟨g', hg', e2⟩ := List.mem_map.mp z
        have o' := I1.ow _ (List.mem_cons_of_mem _ (List.mem_map.mpr ⟨g', hg', rfl⟩))
        rw [e2, hl] at o'
        cases o'.1
      have eA := addG_new (p := l) (v := v3) f1
      have eK : kvsG (addG gs kk l v3) = kvsG (gs ++ [⟨kk, l, []⟩]) := by
        rw [eA]
        unfold kvsG
        rw [List.map_append, List.map_append]
        rfl
      have G4 := (G3.trans g3).app (u := .lst ([] ++ [v3])) hl0 og4.2
      refine k B3 _ (addG gs kk l v3) G4 (g1.eb.trans g3.eb) ⟨I4.ex.mut og4.2, fun q hq => ?_⟩ ⟨(r0.rp.mono (g1.eb.trans g3.eb)).add hl0 r3, ?_, ?_, fun m z => addP_len l2 m z⟩
      · unfold ownG at hq
        rw [eK] at hq
        have hD4 := I4.ow _ List.mem_cons_self
        rcases List.mem_cons.mp hq with z | z
        · subst z
          exact ⟨by rw [upd_ne nDl]; exact hD4.1, hD4.2⟩
        · obtain ⟨g', hg', rfl⟩ := List.mem_map.mp z
          rw [eA] at hg'
          rcases List.mem_append.mp hg' with z | z
          · have o' := I4.ow _ (List.mem_cons_of_mem _ (List.mem_map.mpr ⟨g', List.mem_append_left _ z, rfl⟩))
            exact ⟨by rw [upd_ne fun q => hnl (by rw [← q]; exact List.mem_map.mpr ⟨g', z, rfl⟩)]; exact o'.1, o'.2⟩
          · cases List.mem_singleton.mp z
            exact ⟨upd_same, og4.2⟩
      · rw [eA, List.map_append]
        exact List.nodup_append.mpr ⟨r0.nd, List.nodup_cons.mpr ⟨List.not_mem_nil, .nil⟩, fun a ha b hb z => by
          cases List.mem_singleton.mp hb
          exact hnl (by rw [← show a = l from z]; exact ha)⟩
      · have := len_addG (gs := gs) (k := kk) (p := l) (v := v3)
        rw [r0.rp.len] at this
        omega
    · rw [f1] at hn
      cases hn
/-- known.get(key, []) -/
theorem es_getG (i : Nat) {x : Str} {ke : Expr} {mk : Option (Nat × Nat)} {np lp : Pos} (hu : X.A.units + 64 < cLine) (hke : EV X σ B [] ke (tP tN tN) mk) (r0 : RG T B H0 gs ms) (hN : X.N[i]? = some x := by rfl) (hv : Vis X.env.scope x := by first | exact Or.inl rfl | exact Or.inr (Or.inl rfl) | exact Or.inr (Or.inr rfl)) (hs : σ[i]? = some (some (.ref Dg)) := by rfl) (hd : (x == ("__debug__" : Str)) = false := by decide) (hcd : (x == ("__classdict__" : Str)) = false := by decide)
    (m2 : M2 X (.Name x np) "get" apos ke (.List [] lp) pos := by exact ⟨rfl, rfl, rfl, rfl⟩) : ES X σ B (ownG Dg gs) (.Call (.Attribute (.Name x np) "get" apos) [ke, .List [] lp] [] pos) T (mk.bind fun k => some ((gP ms k).getD [])) := by
  intro z hz B1 H e I Q q
  obtain ⟨kk, rfl, hz⟩ := bind_some hz
  cases hz
  refine of_e (pe_dget2 (by omega) (pe_var hN hv hd hcd) p_e (pe_lst pa_nil) m2) ?_
  have hD := I.ow _ List.mem_cons_self
  refine ⟨_, hs, Dg, rfl, .inr ⟨_, .inl hD.1⟩, ?_⟩
  refine hke kk rfl B1 H e I.nil _ fun w B2 H2 g2 r2 => ?_
  obtain ⟨t, kx, ky, rfl, ht, k1, k2⟩ := r2
  cases k1
  cases k2
  refine ⟨Nat.zero_le _, fun l hl => ?_⟩
  have gl : Go B2 H2 (upd B2 l (.lst [])) (upd H2 l (.lst [])) := Go.lay g2.bh hl
  have I3 := (I.go g2).go gl
  have ht3 : upd H2 l (.lst []) t = some (.tup ((keyG kk).map kV)) := gl.eh _ _ (g2.bh _ _ ht)
  refine ⟨_, DGet.t (I3.ow _ List.mem_cons_self).1 ht3, ?_⟩
  rw [valG]
  have er := e.trans (g2.eb.trans gl.eb)
  rcases r0.rp.find kk with ⟨f1, f2⟩ | ⟨g, xs, f1, f2, f3⟩
  · rw [f2] at q
    rw [f1]
    exact q _ _ _ (g2.trans gl) ⟨l, [], rfl, upd_same, .nil, Nat.zero_le _, .inl upd_same⟩
  · rw [f2] at q
    rw [f1]
    have hm : (g.l, HO.lst g.vs) ∈ ownG Dg gs := List.mem_cons_of_mem _ (List.mem_map.mpr ⟨g, findG_mem f1, rfl⟩)
    obtain ⟨gm, hgm, hgr⟩ := r0.rp.at_ g (findG_mem f1)
    exact q _ _ _ (g2.trans gl) ⟨g.l, g.vs, rfl, (I3.ow _ hm).1, f3.mono er, by rw [hgr.len]; exact Nat.le_trans (r0.ln.2 gm hgm) (by decide), .inr hm⟩
/-! the groups kept -/
inductive RepF {α : Type} (T : Ty α) (B : Hp) : List Grp → List ((Nat × Nat) × List α) → Prop where
  | nil : RepF T B [] []
  | cons {k l vs xs gs ms} : (tL T).rep B (.ref l) xs → RepF T B gs ms → RepF T B (⟨k, l, vs⟩ :: gs) ((k, xs) :: ms)
theorem RepF.mono {B B' : Hp} (e : Ex B B') : ∀ {gs : List Grp} {ms : List ((Nat × Nat) × List α)}, RepF T B gs ms → RepF T B' gs ms
  | _, _, .nil => .nil
  | _, _, .cons r t => .cons ((tL T).mono e r) (t.mono e)
theorem RepF.len : ∀ {gs : List Grp} {ms : List ((Nat × Nat) × List α)}, RepF T B gs ms → gs.length = ms.length
  | _, _, .nil => rfl
  | _, _, .cons _ t => by rw [List.length_cons, List.length_cons, t.len]
theorem RepF.vals : ∀ {gs : List Grp} {ms : List ((Nat × Nat) × List α)}, RepF T B gs ms → Reps (tL T) B ((kvsG gs).map Prod.snd) (ms.map Prod.snd)
  | _, _, .nil => .nil
  | _, _, .cons r t => .cons r t.vals
theorem RepF.of {B' : Hp} (e : Ex B B') : ∀ {gs : List Grp} {ms : List ((Nat × Nat) × List α)}, RepG T B H0 gs ms → (∀ m ∈ ms, m.2.length ≤ 1001) → (∀ g ∈ gs, B' g.l = some (.lst g.vs)) → RepF T B' gs ms
  | _, _, .nil, _, _ => .nil
  | _, _, .cons r h t, hl, hb => .cons ⟨_, _, rfl, hb _ List.mem_cons_self, r.mono e, by rw [r.len]; exact Nat.le_trans (hl _ List.mem_cons_self) (by decide)⟩ (RepF.of e t (fun m z => hl m (List.mem_cons_of_mem _ z)) fun g z => hb g (List.mem_cons_of_mem _ z))
end
def tG {α : Type} (T : Ty α) : Ty (List ((Nat × Nat) × List α)) := ⟨fun B v ms => ∃ D o gs, v = .ref D ∧ B D = some (.frz o (.dT (kvsG gs))) ∧ RepF T B gs ms ∧ gs.length ≤ 40000, fun {B B' v x} e h => by
  obtain ⟨D, o, gs, h1, h2, h3, h4⟩ := h
  exact ⟨D, o, gs, h1, e _ _ h2, h3.mono e, h4⟩⟩
section
variable {X : Cx} {σ : L2.St} {B H B0 H0 : Hp} {O : Own} {a b c d e tg : Expr} {es : List Expr} {pos p apos : Pos} {α β γ δ : Type} {T : Ty α} {U : Ty β} {S : Ty γ} {W : Ty δ} {cw : Crew} {D : Ends} {rest els body : List Stmt} {st : Stmt} {C : Addr} {Dg : Addr} {gs : List Grp} {ms ms' : List ((Nat × Nat) × List α)}
theorem frzG {sts : List Stmt} (g : Go B0 H0 B H) (e0 : Ex B0 H0) (h0 : H0 Dg = none) (I : In B (ownG Dg gs) H) (r : RG T B H0 gs ms)
    (k : ∀ B' H', Go B0 H0 B' H' → In B' [] H' → Ex B B' → (tG T).rep B' (.ref Dg) ms → wSs X sts D σ H') : wSs X sts D σ H := by
  have hD := I.ow _ List.mem_cons_self
  refine wSs_lock hD.1 trivial fun od => ?_
  have hne : ∀ g ∈ gs, g.l ≠ Dg := fun g' hg => ne_of (I.ow _ (List.mem_cons_of_mem _ (List.mem_map.mpr ⟨g', hg, rfl⟩))).1 hD.1 (fun z => nomatch z)
  let L : List Addr := Dg :: gs.map Grp.l
  let H2 := upd H Dg (.frz od (.dT (kvsG gs)))
  let B' : Hp := fun x => if x ∈ L then H2 x else B x
  have hB : ∀ x ∈ L, B x = none := fun x hx => by
    rcases List.mem_cons.mp hx with z | z
    · subst z
      exact hD.2
    · obtain ⟨g', hg', rfl⟩ := List.mem_map.mp z
      exact (I.ow _ (List.mem_cons_of_mem _ (List.mem_map.mpr ⟨g', hg', rfl⟩))).2
  have hH0 : ∀ x ∈ L, H0 x = none := fun x hx => by
    rcases List.mem_cons.mp hx with z | z
    · subst z
      exact h0
    · obtain ⟨g', hg', rfl⟩ := List.mem_map.mp z
      exact r.rp.free g' hg'
  have eB : Ex B B' := fun x o hx => by
    show (if x ∈ L then H2 x else B x) = some o
    rw [if_neg fun z => by rw [hB x z] at hx; cases hx]
    exact hx
  have e2 : Ex B H2 := I.ex.mut hD.2
  have bh : Ex B' H2 := fun x o hx => by
    have hx : (if x ∈ L then H2 x else B x) = some o := hx
    split at hx
    · exact hx
    · exact e2 x o hx
  have g2 : Go B0 H0 B' H2 := ⟨g.eb.trans eB, g.eh.mut h0, bh, fun x o hx => by
    have hx : (if x ∈ L then H2 x else B x) = some o := hx
    split at hx
    · rename_i z
      exact .inr (hH0 x z)
    · exact g.fr x o hx⟩
  refine k B' H2 g2 ⟨bh, fun _ h => nomatch h⟩ eB ⟨Dg, od, gs, rfl, ?_, RepF.of eB r.rp r.ln.2 fun g' hg => ?_, Nat.le_trans r.ln.1 (by decide)⟩
  · show (if Dg ∈ L then H2 Dg else B Dg) = _
    rw [if_pos List.mem_cons_self]
    exact upd_same
  · show (if g'.l ∈ L then H2 g'.l else B g'.l) = _
    rw [if_pos (List.mem_cons_of_mem _ (List.mem_map.mpr ⟨g', hg, rfl⟩))]
    show upd H Dg _ g'.l = _
    rw [upd_ne (hne g' hg)]
    exact (I.ow _ (List.mem_cons_of_mem _ (List.mem_map.mpr ⟨g', hg, rfl⟩))).1
theorem iv_valuesG {m : Option (List ((Nat × Nat) × List α))} (ha : EV X σ B O a (tG T) m) (hbase : attributeBase a "values" X.env (eval a X.env) = eval a X.env := by rfl) (hline : (apos.endLine == pos.line) = true := by rfl) : IV X σ B O tg (.Call (.Attribute a "values" apos) [] [] pos) (tL T) (m.bind fun ms => some (ms.map Prod.snd)) := by
  intro xs hx B1 H e I R q
  obtain ⟨ms, rfl, hx⟩ := bind_some hx
  cases hx
  refine of_i (pi_valuesT p_e hbase hline) (ha ms rfl B1 H e I _ fun v B2 H2 g2 ⟨l, o, gs, h1, h2, h3, h4⟩ => ?_)
  refine ⟨l, o, kvsG gs, h1, g2.bh _ _ h2, q _ B2 H2 ((kvsG gs).map Prod.snd) g2 ⟨fun H => H l = some (.frz o (.dT (kvsG gs))), ?_, fun H3 e3 _ => e3 _ _ h2⟩ h3.vals (by rw [List.length_map, len_kvsG]; exact h4)⟩
  rw [List.length_map]
  exact walk_valuesT
theorem ss_forP (j1 j2 : Nat) {iter : Expr} {elts : List Expr} {kk : Nat} {tpos : Pos} {m : Option (List (α × β))} {xs : List (α × β)} (hm : m = some xs) (hi : IV X σ B O (.Tuple elts kk tpos) iter (tP T U) m) (I : In B O H) (Pv : Hp → List (α × β) → L2.St → Hp → Prop) (h0 : ∀ B1 H1, Go B H B1 H1 → Pv B1 xs σ H1)
    (hO : ∀ B1 rem σ' H', Pv B1 rem σ' H' → Ex B1 H' ∧ ∀ p ∈ O, H' p.1 = some p.2)
    (hs : ∀ B1 x rem v w σ' H', Ex B B1 → T.rep B1 v x.1 → U.rep B1 w x.2 → Pv B1 (x :: rem) σ' H' → wSs X body { D with nx := Pv B1 rem, ct := Pv B1 rem, bk := wSs X rest D } ((σ'.set j1 (some v)).set j2 (some w)) H')
    (hd : ∀ B1 σ' H', Ex B B1 → Pv B1 [] σ' H' → wSs X rest D σ' H') (hp : PassesOwn (model X.prog X.w) X.A X.env X.xe) (hc : X.calm = true) (hg : PG X (.Tuple elts kk tpos) (gTup X.K 2 (gCons (gName j1) (gCons (gName j2) gNil)))) (hf : ∀ x, foldedSetIterable iter X.env x = pure x := by intro _; rfl) :
    wSs X (.For (.Tuple elts kk tpos) iter body [] pos :: rest) D σ H := by
  refine ss_cons (of_s (ps_for hp hc p_i hg p_ss hf) ?_)
  refine hi xs hm B H (Ex.refl _) I _ fun J B1 H1 vs g sr r hl => ?_
  obtain ⟨G, w, hG⟩ := sr.ex
  refine for_it (D := { D with nx := wSs X rest D }) w (fun i σ' H' => Pv B1 (xs.drop i) σ' H') (h0 B1 H1 g) ?_ ?_ ?_
  · intro i σ' H' hi hp
    exact hG H' (hO _ _ _ _ hp).1 (hO _ _ _ _ hp).2
  · intro i x σ' H' H'' hin hp ⟨e1, hx⟩
    subst e1
    obtain ⟨y, hy, l, w1, w2, rfl, ry, r1, r2⟩ := r.get hx
    have hd : xs.drop i = y :: xs.drop (i + 1) := by
      have hlt := (List.getElem?_eq_some_iff.mp hy)
      rw [List.drop_eq_getElem_cons hlt.1, hlt.2]
    rw [hd] at hp
    exact ⟨l, [w1, w2], rfl, SqT.of ((hO _ _ _ _ hp).1 _ _ ry), rfl, w1, [w2], rfl, w2, [], rfl, rfl, hs B1 y (xs.drop (i + 1)) w1 w2 σ' _ g.eb r1 r2 hp⟩
  · intro σ' H' hp
    have hn : xs.drop vs.length = [] := by rw [r.len]; exact List.drop_length
    rw [hn] at hp
    exact hd B1 σ' H' g.eb hp
/-- pairs of numbers compared -/
theorem cv_eqP {m n : Option (Nat × Nat)} (hu : X.A.units + 64 < cLine) (ha : EV X σ B O a (tP tN tN) m) (hb : EV X σ B O b (tP tN tN) n) : CV X σ B O (.Compare a [.Eq] [b] pos) (op2 (fun x y => some (eqK x y)) m n) := by
  refine cv_of (op_eqD hu) (nomark _) p_e fun z hz B1 H e I Q q => ?_
  obtain ⟨x, y, rfl, rfl, hf⟩ := op2_some hz
  cases hf
  refine ha x rfl B1 H e I _ fun v B2 H2 g2 ⟨l, w1, w2, h1, h2, h3, h4⟩ => ?_
  refine hb y rfl B2 H2 (e.trans g2.eb) (I.go g2) _ fun w B3 H3 g3 ⟨l2, u1, u2, k1, k2, k3, k4⟩ => ?_
  subst h1
  subst k1
  have rx : Reps tN B2 [w1, w2] [x.1, x.2] := .cons h3 (.cons h4 .nil)
  have ry : Reps tN B3 [u1, u2] [y.1, y.2] := .cons k3 (.cons k4 .nil)
  refine ⟨.tuple ([x.1, x.2].map fun n : Nat => PyData.int (n : Int)), .tuple ([y.1, y.2].map fun n : Nat => PyData.int (n : Int)), .tup (SqT.of (g3.eh _ _ (g2.bh _ _ h2))) (dpAll datN g3.bh (rx.mono g3.eb)), .tup (SqT.of (g3.bh _ _ k2)) (dpAll datN g3.bh ry), shapedT (layAll datN rx), shapedT (layAll datN ry), ?_⟩
  rw [show PyData.eqv (.tuple ([x.1, x.2].map fun n : Nat => PyData.int (n : Int))) (.tuple ([y.1, y.2].map fun n : Nat => PyData.int (n : Int))) = eqK x y by
    rw [show PyData.eqv (.tuple ([x.1, x.2].map fun n : Nat => PyData.int (n : Int))) (.tuple ([y.1, y.2].map fun n : Nat => PyData.int (n : Int))) = eqL Nat.beq [x.1, x.2] [y.1, y.2] from eqvAll_of datN rx ry]
    show (Nat.beq x.1 y.1 && (Nat.beq x.2 y.2 && true)) = _
    rw [Bool.and_true]]
  exact q B3 H3 (g2.trans g3)
end
end Ly
/-! a dict and a list that a def changes -/
namespace Ly
open PySem PySem.Spec PyProof.Rows L2 TL
def two (x y : Addr) (kvs : List (Key × V)) (svs : List V) : Own := [(x, .dK kvs), (y, .lst svs)]
structure Gm (x y : Addr) (B H B' H' : Hp) : Prop where
  eb : Ex B B'
  kh : ∀ a o, a ≠ x → a ≠ y → H a = some o → H' a = some o
  fr : ∀ a o, B' a = some o → B a = some o ∨ H a = none
section
variable {x y : Addr} {B H B1 H1 B2 H2 : Hp} {kvs kvs' : List (Key × V)} {svs svs' : List V}
theorem Gm.of (g : Go B H B1 H1) : Gm x y B H B1 H1 := ⟨g.eb, fun a o _ _ h => g.eh a o h, g.fr⟩
theorem Gm.trans (g : Gm x y B H B1 H1) (k : Gm x y B1 H1 B2 H2) (n1 : B2 x = none) (n2 : B2 y = none) : Gm x y B H B2 H2 := ⟨g.eb.trans k.eb, fun a o h1 h2 h => k.kh a o h1 h2 (g.kh a o h1 h2 h), fun a o h => by
  rcases k.fr a o h with z | z
  · exact g.fr a o z
  · by_cases e1 : a = x
    · subst e1
      rw [n1] at h
      cases h
    · by_cases e2 : a = y
      · subst e2
        rw [n2] at h
        cases h
      · cases q : H a with
        | none => exact .inr rfl
        | some o' =>
          rw [g.kh a o' e1 e2 q] at z
          cases z⟩
theorem Gm.put1 {u : HO} (g : Gm x y B H B1 H1) : Gm x y B H B1 (upd H1 x u) := ⟨g.eb, fun a o h1 h2 h => by
  rw [upd_ne h1]
  exact g.kh a o h1 h2 h, g.fr⟩
theorem Gm.put2 {u : HO} (g : Gm x y B H B1 H1) : Gm x y B H B1 (upd H1 y u) := ⟨g.eb, fun a o h1 h2 h => by
  rw [upd_ne h2]
  exact g.kh a o h1 h2 h, g.fr⟩
theorem In.n1 (I : In B (two x y kvs svs) H) : B x = none := (I.ow _ List.mem_cons_self).2
theorem In.n2 (I : In B (two x y kvs svs) H) : B y = none := (I.ow _ (List.mem_cons_of_mem _ List.mem_cons_self)).2
theorem In.putA (I : In B (two x y kvs svs) H) (ne : x ≠ y) : In B (two x y kvs' svs) (upd H x (.dK kvs')) := ⟨I.ex.mut I.n1, fun p hp => by
  rcases List.mem_cons.mp hp with z | z
  · subst z
    exact ⟨upd_same, I.n1⟩
  · cases List.mem_singleton.mp z
    exact ⟨by rw [upd_ne ne.symm]; exact (I.ow _ (List.mem_cons_of_mem _ List.mem_cons_self)).1, I.n2⟩⟩
theorem In.putB (I : In B (two x y kvs svs) H) (ne : x ≠ y) : In B (two x y kvs svs') (upd H y (.lst svs')) := ⟨I.ex.mut I.n2, fun p hp => by
  rcases List.mem_cons.mp hp with z | z
  · subst z
    exact ⟨by rw [upd_ne ne]; exact (I.ow _ List.mem_cons_self).1, I.n1⟩
  · cases List.mem_singleton.mp z
    exact ⟨upd_same, I.n2⟩⟩
end
section
variable {X : Cx} {σ : L2.St} {B H B0 H0 : Hp} {O : Own} {a b c d e tg : Expr} {es : List Expr} {pos p apos : Pos} {α β γ δ : Type} {T : Ty α} {U : Ty β} {S : Ty γ} {W : Ty δ} {cw : Crew} {D : Ends} {rest els body : List Stmt} {st : Stmt} {C : Addr}
theorem ss_ifK (K1 K2 : Hp → Prop) (h : wT X c σ H fun b H' => if b = true then K1 H' else K2 H') (k1 : ∀ H1, K1 H1 → wSs X body { D with nx := wSs X rest D } σ H1) (k2 : ∀ H1, K2 H1 → wSs X els { D with nx := wSs X rest D } σ H1) : wSs X (.If c body els pos :: rest) D σ H := by
  refine ss_cons (of_s (ps_if p_t p_ss p_ss) (wT_mono h fun v H' q => ?_))
  cases v with
  | true => exact iteT (k1 H' (by simpa using q))
  | false => exact iteF (k2 H' (by simpa using q))
theorem ge_ref (i : Nat) {x : Str} {v : V} (hN : X.N[i]? = some x := by rfl) (hv : Vis X.env.scope x := by first | exact Or.inl rfl | exact Or.inr (Or.inl rfl) | exact Or.inr (Or.inr rfl)) (h : σ[i]? = some (some v) := by rfl) (hd : (x == ("__debug__" : Str)) = false := by decide)
    (hcd : (x == ("__classdict__" : Str)) = false := by decide) : GE X σ B O (.Name x pos) fun _ _ u => u = v := by
  intro B1 H e I Q q
  exact of_e (pe_var hN hv hd hcd) ⟨v, h, q v B1 H (Go.refl I.ex) rfl⟩
theorem ev_ge {m : Option α} {z : α} (h : EV X σ B O a T m) (hm : m = some z) : GE X σ B O a fun B' _ v => T.rep B' v z := h z hm
/-- x, y = e, e a pair -/
theorem ss_unp (i j : Nat) {x y : Str} {m : Option (α × β)} {z : α × β} {px py pt : Pos} {kt : Nat} (hm : m = some z) (ha : EV X σ B O e (tP T U) m) (I : In B O H)
    (k : ∀ v w B1 H1, Go B H B1 H1 → T.rep B1 v z.1 → U.rep B1 w z.2 → wSs X rest D ((σ.set i (some v)).set j (some w)) H1) (hc : X.calm = true) (hN : X.N.Nodup) (hi : X.N[i]? = some x := by rfl) (hj : X.N[j]? = some y := by rfl)
    (hx : L2.Loc X.env.scope x := by first | exact Or.inl rfl | exact Or.inr rfl) (hy : L2.Loc X.env.scope y := by first | exact Or.inl rfl | exact Or.inr rfl)
    (fx : X.fn x = true ∨ X.env.scope.names.lookup x = some .local := by first | exact .inl rfl | exact .inr rfl) (fy : X.fn y = true ∨ X.env.scope.names.lookup y = some .local := by first | exact .inl rfl | exact .inr rfl)
    (h1 : swapsWithSole [.Tuple [.Name x px, .Name y py] kt pt] e pos.line X.env = pure false := by rfl) (h2 : swappedStores [.Tuple [.Name x px, .Name y py] kt pt] e X.env = pure none := by rfl)
    (h3 : List.map (fun x => x.2) (assignEach [.Tuple [.Name x px, .Name y py] kt pt] X.env) = [assign (.Tuple [.Name x px, .Name y py] kt pt) X.env] := by rfl) :
    wSs X (.Assign [.Tuple [.Name x px, .Name y py] kt pt] e pos :: rest) D σ H := by
  refine ss_cons (of_s (ps_asg p_e (pg_tup hc (pgs_cons (pg_name hN hi hx fx) (pgs_cons (pg_name hN hj hy fy) pgs_nil)) rfl rfl) h1 h2 h3) ?_)
  refine ha z hm B H (Ex.refl _) I _ fun v B1 H1 g ⟨p, w1, w2, h4, h5, r1, r2⟩ => ?_
  subst h4
  exact ⟨p, [w1, w2], rfl, SqT.of (g.bh _ _ h5), rfl, w1, [w2], rfl, w2, [], rfl, rfl, k w1 w2 B1 H1 g r1 r2⟩
end
end Ly
/-! min of pairs, texts turned round, repr -/
namespace Ly
open PySem PySem.Spec PyProof.Rows L2 TL
/-! ### t[::-1], t of two signs -/
@[reducible] def fRev2 (s : List Nat) : Option (List Nat) := match s with
  | [a, b] => some [b, a]
  | _ => none
theorem pick2 : Builtin.Str.strSliceIndices none none (-1) 2 = [1, 0] := by decide +kernel
section
variable {X : Cx} {σ : L2.St} {B H B0 H0 : Hp} {O : Own} {a b c d e tg : Expr} {es : List Expr} {pos p apos : Pos} {α β γ δ : Type} {T : Ty α} {U : Ty β} {S : Ty γ} {cw : Crew} {D : Ends} {rest els body : List Stmt} {st : Stmt} {C : Addr}
def tRevS (cw : Crew) (te : TE) : TE := fun σ H Q => te σ H fun x H1 => ∃ i j : Nat, x = .str (str cw [i, j]) ∧ Q (.str (str cw [j, i])) H1
theorem pe_revS {te : TE} {k : Nat} {p1 p2 p3 : Pos} (he : PE X e te) : PE X (.Subscript e (.Slice none none (some (.UnaryOp .USub (.Constant (.int 1) k p1) p2)) p3) pos) (tRevS cw te) := by
  refine ⟨fun pins s σ H Q I h => ?_⟩
  refine Subscript_ (thn (he.run pins s σ H _ I h) fun v s1 ⟨x, H1, I1, r1, i, j, ex, q⟩ => ?_)
  subst ex
  obtain ⟨t, rfl⟩ := r1
  have hst : PO X (some (.UnaryOp .USub (.Constant (.int 1) k p1) p2)) (tPart (tUn (rU fun i => .int (-i)) (L2.tC (.int 1)))) := po_some (pe_un un_neg pe_int)
  refine wpAny_Slice (thn (po_none.run pins s1 σ H1 (fun o H2 => o = none ∧ H2 = H1) I1 ⟨rfl, rfl⟩) fun vl s2 ⟨l, H2, I2, pl, el, e2⟩ => ?_)
  subst el e2
  refine thn (po_none.run pins s2 σ H2 (fun o H3 => o = none ∧ H3 = H2) I2 ⟨rfl, rfl⟩) fun vu s3 ⟨u, H3, I3, pu, eu, e3⟩ => ?_
  subst eu e3
  refine thn (hst.run pins s3 σ H3 (fun o H4 => o = some (-1) ∧ H4 = H3) I3 ⟨1, rfl, -1, rfl, rfl, rfl⟩) fun vs s4 ⟨o, H4, I4, ps, eo, e4⟩ => ?_
  subst eo e4
  have I5 : L2.Inv X pins σ H4 { s4 with heap := s4.heap.push { cls := .type "slice", data := .fields #[vl, vu, vs] } } := I4.kept (t' := s4.toks) fun b ob q => Heap.get?_push_of_some _ q
  obtain ⟨l, rfl, hl⟩ := IsPart.raw pl
  obtain ⟨u, rfl, hu⟩ := IsPart.raw pu
  obtain ⟨w, rfl, hw⟩ := IsPart.raw ps
  have el : l = none := by cases l with | none => rfl | some _ => cases hl
  have eu : u = none := by cases u with | none => rfl | some _ => cases hu
  subst el eu
  obtain ⟨tw, rfl⟩ : ∃ tw, w = some (-1, tw) := by
    cases w with
    | none => cases hw
    | some w =>
      obtain ⟨wi, tw⟩ := w
      cases (Option.some.inj hw)
      exact ⟨tw, rfl⟩
  show wpAny (model X.prog X.w) X.A (subscriptTail e (.Slice none none (some (.UnaryOp .USub (.Constant (.int 1) k p1) p2)) p3) (.str (str cw [i, j]) t) (.ref s4.heap.objs.size)) (EP X pins σ Q) X.xe _
  refine tail_any (ops := [.ref s4.heap.objs.size, .str (str cw [i, j]) t]) (typeIs_str _ _ _) (PySem.F.slot_str_getitem.lookup) ?_ (by with_unfolding_all rfl)
  refine wpAny_getItem_str_slice (l := none) (u := none) (st := some (-1, tw)) ⟨_, Heap.get?_push_size _ rfl, rfl, rfl⟩ rfl ?_
  have e1 : sliceMade (str cw [i, j]) t none none (some (-1, tw)) = Made.str (str cw [j, i]) := by
    show (if ((-1 : Int) == 1 && (Builtin.Str.strSliceIndices none none (-1) 2).length == 2) = true then Made.val (.str (str cw [i, j]) t) else Made.str ⟨((Builtin.Str.strSliceIndices none none (-1) 2).filterMap ((str cw [i, j]).cps[·]?)).toArray⟩) = _
    rw [pick2]
    rfl
  rw [e1]
  exact ⟨by rw [str_len]; show 2 ≤ sizeLine; decide, .str _, H4, I5.tok _, ⟨_, rfl⟩, q⟩
theorem ev_revS {m : Option (List Nat)} {k : Nat} {p1 p2 p3 : Pos} (ha : EV X σ B O a (tS cw) m) : EV X σ B O (.Subscript a (.Slice none none (some (.UnaryOp .USub (.Constant (.int 1) k p1) p2)) p3) pos) (tS cw) (m.bind fRev2) := by
  intro z hz B1 H e I Q q
  obtain ⟨s, rfl, hz⟩ := bind_some hz
  match s, hz with
  | [i, j], hz =>
    cases hz
    refine of_e (pe_revS (cw := cw) p_e) (ha _ rfl B1 H e I _ fun v B2 H2 g2 r2 => ⟨i, j, r2.1, q _ B2 H2 g2 ⟨rfl, fun x hx => ?_, by show 2 ≤ 100; decide⟩⟩)
    rcases List.mem_cons.mp hx with z | z
    · subst z
      exact r2.2.1 _ (List.mem_cons_of_mem _ List.mem_cons_self)
    · rw [List.mem_singleton.mp z]
      exact r2.2.1 _ List.mem_cons_self
/-! ### min of a list of pairs -/
@[reducible] def ltP (a b : Nat × List Nat) : Bool := Nat.blt a.1 b.1 || (Nat.beq a.1 b.1 && lexB a.2 b.2)
def minP : List (Nat × List Nat) → Option (Nat × List Nat)
  | [] => none
  | p :: r => some (r.foldl (fun a y => if ltP y a then y else a) p)
def dP (cw : Crew) (p : Nat × List Nat) : PyData := .tuple [.int (p.1 : Int), .str (str cw p.2)]
theorem argBest_congr {f g : Nat → Nat → Bool} : ∀ k, (∀ i j, i ≤ k → j ≤ k → f i j = g i j) → argBest f k = argBest g k
  | 0, _ => rfl
  | k + 1, h => by
    have ih := argBest_congr k fun i j hi hj => h i j (Nat.le_succ_of_le hi) (Nat.le_succ_of_le hj)
    have hb : argBest g k ≤ k := by
      clear ih h
      induction k with
      | zero => exact Nat.le_refl _
      | succ k ih =>
        show (if g (k + 1) (argBest g k) = true then k + 1 else argBest g k) ≤ k + 1
        split
        · exact Nat.le_refl _
        · exact Nat.le_succ_of_le ih
    show (if f (k + 1) (argBest f k) = true then k + 1 else argBest f k) = (if g (k + 1) (argBest g k) = true then k + 1 else argBest g k)
    rw [ih, h _ _ (Nat.le_refl _) (Nat.le_succ_of_le hb)]
theorem lt_dP {x y : Nat × List Nat} (hx : ∀ i ∈ x.2, i < cw.l.length) (hy : ∀ i ∈ y.2, i < cw.l.length) : PySem.W.dataLt (dP cw x) (dP cw y) = ltP x y := by
  unfold dP ltP
  rw [PySem.W.dataLt_pair rfl rfl, PySem.W.dataLt_int, PySem.W.dataLt_str, str_lt hx hy]
  have e1 : PyData.eqv (.int (x.1 : Int)) (.int (y.1 : Int)) = Nat.beq x.1 y.1 := datN.eqv (B := fun _ => none) (B' := fun _ => none) rfl rfl
  have e2 : PyData.eqv (.str (str cw x.2)) (.str (str cw y.2)) = (x.2 == y.2) := by
    show (str cw x.2 == str cw y.2) = _
    rw [← str_dec hx hy, L2.dec_str]
  have e3 : decide ((x.1 : Int) < (y.1 : Int)) = Nat.blt x.1 y.1 := by
    rw [Bool.eq_iff_iff, decide_eq_true_eq, Nat.blt_eq]
    exact Int.ofNat_lt
  rw [e1, e2, e3]
  cases h1 : Nat.beq x.1 y.1 with
  | true =>
    have e4 : Nat.blt x.1 y.1 = false := by
      rw [Nat.eq_of_beq_eq_true h1]
      cases h : Nat.blt y.1 y.1 with
      | false => rfl
      | true => exact absurd (Nat.blt_eq.mp h) (Nat.lt_irrefl _)
    rw [e4, if_pos rfl, Bool.false_or, Bool.true_and]
    cases h2 : x.2 == y.2 with
    | true =>
      rw [if_pos rfl, eq_of_beq h2, lexB_irr]
    | false => rw [if_neg (by simp)]
  | false => rw [if_neg (by simp), Bool.false_and, Bool.or_false]
theorem repsDp : ∀ {vs : List V} {xs : List (Nat × List Nat)} {K : PySem.W.Frag} {H : Hp}, Ex B H → Reps (tP tN (tS cw)) B vs xs → DpAll K H vs (xs.map (dP cw))
  | _, _, _, _, _, .nil => .nil
  | _, _, _, _, e, .cons ⟨l, w1, w2, h1, h2, h3, h4⟩ t => by
    subst h1
    exact .cons (.tup (SqT.of (e _ _ h2)) (.cons (by cases h3; exact .int _) (.cons (by rw [h4.1]; exact .str _) .nil))) (repsDp e t)
theorem dP_alike (xs : List (Nat × List Nat)) : PySem.W.AlikeAll (xs.map (dP cw)) := ⟨fun x hx y hy => by
  obtain ⟨p, _, rfl⟩ := List.mem_map.mp hx
  obtain ⟨q, _, rfl⟩ := List.mem_map.mp hy
  rfl, fun x hx z => by
  obtain ⟨p, _, rfl⟩ := List.mem_map.mp hx
  cases z⟩
theorem vals_get' : ∀ {xs : List V} {us : List Value} {i : Nat} {u : Value}, Vals xs us → us[i]? = some u → ∃ x, xs[i]? = some x ∧ RelV x u
  | _, _, _, _, .nil, e => by simp at e
  | _, _, 0, _, .cons r _, e => by
    cases (Option.some.inj e)
    exact ⟨_, rfl, r⟩
  | _, _, i + 1, _, .cons _ t, e => by
    obtain ⟨x, h1, h2⟩ := vals_get' (i := i) t e
    exact ⟨x, h1, h2⟩
theorem dP_depth : ∀ xs : List (Nat × List Nat), PyData.depthAll (xs.map (dP cw)) ≤ 10
  | [] => Nat.zero_le _
  | x :: xs => by
    rw [List.map_cons]
    show max (dP cw x).depth (PyData.depthAll (xs.map (dP cw))) ≤ 10
    have ih := dP_depth xs
    have h : (dP cw x).depth ≤ 10 := Nat.le_of_ble_eq_true rfl
    omega
def rMinX (K : PySem.W.Frag) (cw : Crew) : List V → Hp → VK → Prop := fun vs H Q => ∃ (l : Addr) (ws : List V) (xs : List (Nat × List Nat)), vs = [V.ref l] ∧ SqL K H l ws ∧ DpAll K H ws (xs.map (dP cw)) ∧ 0 < ws.length ∧
  ∀ v, ws[argBest (fun i j => PySem.W.dataLt ((xs.map (dP cw)).getD i .none) ((xs.map (dP cw)).getD j .none)) (ws.length - 1)]? = some v → Q v H
theorem cr_minX (hc : X.calm = true) (hu : X.A.units + 64 < cLine) : CallR X (.builtin "min") (rMinX X.K cw) := by
  intro pins s σ H vs us Q I r h
  obtain ⟨l, ws, xs, rfl, hs, hd, hne, q⟩ := h
  obtain ⟨its, rv, hl, _⟩ := I.list hs
  rw [Vals.ref1 r]
  obtain ⟨as, hr⟩ := Dp.readsAll I _ _ _ hd rv
  have hlen := rv.length
  have hh := I.ok.hd hc
  refine call_min_walkH (PySem.W.iter_listW (A := X.A.in1) hh hl.isList fun s2 e Wk st hfp hw hk => ?_)
  have hsz : its.toArray.size = ws.length := by rw [List.size_toArray, hlen]
  refine ⟨_, _, _, _, _, _, _, s.heap, _, rfl, Wk, st, hfp, by omega, hw, hk, PySem.W.cmpIn_lt (A := X.A.in1) (by simpa using hr) (dP_alike xs) (by show X.A.units + 1 + _ < _; have := dP_depth (cw := cw) xs; omega), fun v s' hP m => ?_⟩
  obtain ⟨h', tk, rfl, hk'⟩ := PySem.W.moved_old e rfl m
  rw [hsz] at hP
  have hP : its[argBest (fun i j => PySem.W.dataLt ((xs.map (dP cw)).getD i .none) ((xs.map (dP cw)).getD j .none)) (ws.length - 1)]? = some v := by
    have hP := hP
    simp only [List.getElem?_toArray] at hP
    exact hP
  obtain ⟨x, hx, rx⟩ := vals_get' rv hP
  exact ⟨x, H, I.kept hk', rx, q x hx⟩
theorem repsP_valid : ∀ {vs : List V} {xs : List (Nat × List Nat)}, Reps (tP tN (tS cw)) B vs xs → ∀ x ∈ xs, ∀ i ∈ x.2, i < cw.l.length := fun r x hx => by
  obtain ⟨v, l, w1, w2, _, _, _, h4⟩ := r.mem x hx
  exact h4.2.1
theorem ev_minP {m : Option (List (Nat × List Nat))} (hb : Bt X.mg) (hmn : X.mg "min" = none) (hc : X.calm = true) (hu : X.A.units + 64 < cLine) (ha : ES X σ B O a (tP tN (tS cw)) m) (hg : Gl X "min" := by rfl) (he : starEach [a] X.env = (false, eval a X.env) :: starEach [] X.env := by rfl) : EV X σ B O (.Call (.Name "min" p) [a] [] pos) (tP tN (tS cw)) (m.bind minP) := by
  intro z hz B1 H e I Q q
  obtain ⟨xs, rfl, hz⟩ := bind_some hz
  cases xs with
  | nil => cases hz
  | cons x xs =>
    cases hz
    refine builtin1 (cr_minX (cw := cw) hc hu) hg hmn (by decide +kernel) (by decide) (by decide) he (ha _ rfl) e I fun v B2 H2 g2 ⟨l, ws, h1, h2, h3, h4, h5⟩ => ?_
    subst h1
    have hlen := h3.len
    refine ⟨l, ws, x :: xs, rfl, SqL.of h2, repsDp g2.bh h3, by rw [hlen]; exact Nat.zero_lt_succ _, fun v hv => q v B2 H2 g2 ?_⟩
    rw [hlen, argBest_congr (g := fun i j => ltP ((x :: xs).getD i x) ((x :: xs).getD j x)) _ fun i j hi hj => ?_] at hv
    · obtain ⟨y, hy, ry⟩ := h3.get hv
      have e2 := (PySem.W.argBest_fold (fun a b => ltP a b) x x xs xs.length (Nat.le_refl _)).2
      rw [List.take_length] at e2
      have e3 : (x :: xs).length - 1 = xs.length := rfl
      rw [e3] at hy
      rw [List.getD_eq_getElem?_getD, hy] at e2
      rw [← show y = _ from e2]
      exact ry
    · have hi2 : i < (x :: xs).length := by
        have : (x :: xs).length = xs.length + 1 := rfl
        omega
      have hj2 : j < (x :: xs).length := by
        have : (x :: xs).length = xs.length + 1 := rfl
        omega
      rw [List.getD_eq_getElem?_getD, List.getD_eq_getElem?_getD, List.getD_eq_getElem?_getD, List.getD_eq_getElem?_getD, List.getElem?_map, List.getElem?_map, List.getElem?_eq_getElem hi2, List.getElem?_eq_getElem hj2]
      exact lt_dP (repsP_valid h3 _ (List.getElem_mem hi2)) (repsP_valid h3 _ (List.getElem_mem hj2))
/-! ### is not True -/
theorem ev_notTrue {m : Option Bool} {j : Nat} {p2 : Pos} (ha : EV X σ B O a tB m) : CV X σ B O (.Compare a [.IsNot] [.Constant (.bool true) j p2] pos) (m.bind fun x => some (!x)) := by
  refine cv_of op_isnot_bl (nomark _) pe_bl fun z hz B1 H e I Q q => ?_
  obtain ⟨x, rfl, hz⟩ := bind_some hz
  cases hz
  refine ha x rfl B1 H e I _ fun v B2 H2 g2 r2 => ⟨x, true, r2, rfl, ?_⟩
  have := q B2 H2 g2
  cases x <;> exact this
/-! ### repr -/
def tR : Ty Bool := ⟨fun _ v b => v = .str (if b then "True" else "False"), fun _ h => h⟩
def shB (p : Bool × Bool) : Str := (PyData.list [.bool p.1, .bool p.2]).shown
def tR2 : Ty (Bool × Bool) := ⟨fun _ v p => v = .str (shB p), fun _ h => h⟩
theorem cr_reprB : CallR X (.builtin "repr") (fun xs H Q => ∃ b, xs = [.bl b] ∧ Q (.str (if b then "True" else "False")) H) := by
  intro pins s σ H vs us Q I r h
  obtain ⟨b, rfl, q⟩ := h
  obtain ⟨u, rfl, ru⟩ := r.one
  cases ru
  exact PySem.P.repr_of_bool ⟨.str _, H, I.tok _, ⟨_, rfl⟩, q⟩
theorem ev_reprB {m : Option Bool} (hmn : X.mg "repr" = none) (ha : EV X σ B O a tB m) (hg : Gl X "repr" := by rfl) (he : starEach [a] X.env = (false, eval a X.env) :: starEach [] X.env := by rfl) : EV X σ B O (.Call (.Name "repr" p) [a] [] pos) tR m := by
  intro z hz B1 H e I Q q
  subst hz
  exact builtin1 cr_reprB hg hmn (by decide +kernel) (by decide) (by decide) he (R := fun _ _ v => v = .bl z) (fun B1 H e I Q q => ha z rfl B1 H e I Q fun v B' H' g r => q v B' H' g r) e I fun v B2 H2 g2 r2 => ⟨z, by rw [r2], q _ B2 H2 g2 rfl⟩
theorem shB_ok (x y : Bool) : (PyData.list [.bool x, .bool y]).showable = true ∧ (PyData.list [.bool x, .bool y]).hasDict = false ∧ (PyData.list [.bool x, .bool y]).depth ≤ 10 ∧ (shB (x, y)).length ≤ sizeLine := by
  cases x <;> cases y <;> exact ⟨by decide +kernel, by decide +kernel, by decide +kernel, by decide +kernel⟩
theorem cr_reprL (hgd : X.A.guards = some []) (hu : X.A.units + 64 < cLine) : CallR X (.builtin "repr") (fun xs H Q => ∃ l x y, xs = [.ref l] ∧ H l = some (.lst [.bl x, .bl y]) ∧ Q (.str (shB (x, y))) H) := by
  intro pins s σ H vs us Q I r h
  obtain ⟨l, x, y, rfl, hl, q⟩ := h
  rw [Vals.ref1 r]
  obtain ⟨h1, h2, h3, h4⟩ := shB_ok x y
  obtain ⟨as, hr⟩ := Dp.reads I (.list [.bool x, .bool y]) (.ref l) (.ref l) (.lst (SqL.of hl) (.cons (.bl x) (.cons (.bl y) .nil))) rfl
  refine repr_of_reads' hr h1 (fun z => by rw [h2] at z; cases z) hgd (by omega) (fun _ _ z => z) (fun h' u tk hk => ?_) h4
  exact ⟨.str _, H, I.kept hk, ⟨_, rfl⟩, q⟩
theorem ev_repr2 {m n : Option Bool} {p2 : Pos} (hmn : X.mg "repr" = none) (hgd : X.A.guards = some []) (hu : X.A.units + 64 < cLine) (ha : EV X σ B O a tB m) (hb : EV X σ B O b tB n) (hg : Gl X "repr" := by rfl) (he : starEach [.List [a, b] p2] X.env = (false, eval (.List [a, b] p2) X.env) :: starEach [] X.env := by rfl)
    (he1 : starEach [a, b] X.env = (false, eval a X.env) :: starEach [b] X.env := by rfl) (he2 : starEach [b] X.env = (false, eval b X.env) :: starEach [] X.env := by rfl) : EV X σ B O (.Call (.Name "repr" p) [.List [a, b] p2] [] pos) tR2 (op2 (fun x y => some (x, y)) m n) := by
  intro z hz B1 H e I Q q
  obtain ⟨x, y, rfl, rfl, hf⟩ := op2_some hz
  cases hf
  have hl : EV X σ B O (.List [a, b] p2) (tL tB) (some [x, y]) := ev_listD (R := fun B vs => ∃ v w, vs = [v, w] ∧ v = V.bl x ∧ w = V.bl y) (av_cons (ev_ge ha rfl) (av_cons (ev_ge hb rfl) av_nil (R3 := fun B vs => ∃ w, vs = [w] ∧ w = V.bl y) (fun r g h => ⟨_, by rw [h], r⟩) he2) (fun r g h => by
    obtain ⟨w, rfl, r2⟩ := h
    exact ⟨_, w, rfl, r, r2⟩) he1) (fun h => by
    obtain ⟨v, w, rfl, r, r'⟩ := h
    exact .cons r (.cons r' .nil)) (by simp)
  refine builtin1 (cr_reprL hgd hu) hg hmn (by decide +kernel) (by decide) (by decide) he (ev_ge hl rfl) e I fun v B2 H2 g2 r2 => ?_
  obtain ⟨l, vs, rfl, h2, h3, _⟩ := r2
  cases h3 with
  | cons k1 t =>
    cases t with
    | cons k2 t =>
      cases t
      cases k1
      cases k2
      exact ⟨l, x, y, rfl, g2.bh _ _ h2, q _ B2 H2 g2 rfl⟩
theorem ev_neR {m n : Option Bool} (ha : EV X σ B O a tR m) (hb : EV X σ B O b tR n) : CV X σ B O (.Compare a [.NotEq] [b] pos) (op2 (fun x y => some (!(x == y))) m n) :=
  ev_cmp op_ne (nomark _) ha hb fun x y z B' H' v w hf e r1 r2 Q q => by
    cases hf; cases r1; cases r2
    refine ⟨rfl, ?_⟩
    have h : decide (V.str (if x = true then "True" else "False") = V.str (if y = true then "True" else "False")) = (x == y) := by
      cases x <;> cases y <;> first | (exact decide_eq_true rfl) | (exact decide_eq_false fun z => absurd (congrArg (fun s => s) (V.str.inj z)) (by decide +kernel))
    rw [h]
    exact q
theorem shB_eq : ∀ x y u w : Bool, (shB (x, y) == shB (u, w)) = (x == u && y == w) := by
  intro x y u w
  cases x <;> cases y <;> cases u <;> cases w <;> decide +kernel
theorem ev_neR2 {m n : Option (Bool × Bool)} (ha : EV X σ B O a tR2 m) (hb : EV X σ B O b tR2 n) : CV X σ B O (.Compare a [.NotEq] [b] pos) (op2 (fun x y => some (!(x.1 == y.1 && x.2 == y.2))) m n) :=
  ev_cmp op_ne (nomark _) ha hb fun x y z B' H' v w hf e r1 r2 Q q => by
    cases hf; cases r1; cases r2
    refine ⟨rfl, ?_⟩
    have h : decide (V.str (shB x) = V.str (shB y)) = (x.1 == y.1 && x.2 == y.2) := by
      rw [← shB_eq x.1 x.2 y.1 y.2, L2.dec_str]
    rw [h]
    exact q
end
end Ly
/-! defs that run where no repr is under way -/
namespace Ly
open PySem PySem.Spec PyProof.Rows L2 TL
structure FnG (P : Program) (w : World) (K : PySem.W.Frag) (mg : Str → Option Value) (base : Heap) (k : Nat) (f : Addr) (fd : FuncData) (ps : List Str) (sp : Sp) : Prop where
  len : ∀ vs H Q E, sp vs H Q E → vs.length = ps.length
  run : ∀ (A : Around) (outer : List Env) (s : Shared) (H : Hp) (args : Args) (us : List Value) (vs : List V) (Q : VK) (E : XK), A.guards = some [] → Room k A → Env0 P w K mg base A outer s H → BindsTo s fd args (ps.zip us) → Vals vs us → sp vs H Q E →
    codeAny (model P w) A (.call (.ref f) args) (CR CX0 outer P w H s Q E) s
section
variable {P : Program} {w : World} {K : PySem.W.Frag} {mg : Str → Option Value} {base : Heap}
theorem okG {x qual : Str} {st : Stmt} {f : Addr} {fd : FuncData} {N ps : List Str} {k : Nat} {sp : Sp} (F : Fun K x qual st f fd) (S : FnScope N ps (defScope st)) (len : ∀ vs H Q E, sp vs H Q E → vs.length = ps.length)
    (hbody : ∀ (cdv : Value) (A : Around) (outer : List Env) (s : Shared) (H : Hp) (vs : List V) (Q : VK) (E : XK), A.guards = some [] → Room k (A.deeper (envOfC qual (defScope st) s.heap.objs.size f cdv)) → sp vs H Q E →
      ∃ t, PSs (cxOf CX0 P w K mg base N qual (defScope st) f cdv A outer s H E).nox (defBody st) t ∧ t { nx := fun _ H' => Q .non H', rt := Q } (start N vs) H) : FnG P w K mg base (k + 1) f fd ps sp := by
  obtain ⟨oc, od, kV, doc, pm, an, cdv, ct, osl, rfl, lk, hcd⟩ := F.ex
  refine ⟨len, fun A outer s H args us vs Q E hgd hr e0 hb r hsp => ?_⟩
  have hl := len _ _ _ _ hsp
  have kin : K.In s.heap := e0.mod.kin.keeps fun b o e => (e0.bs b o e).1
  have lim : s.heap.NoLimit := e0.mod.nolimit.keeps fun b o e => (e0.bs b o e).1
  have kinds : ∀ y ∈ ps.zip us, (defScope st).names.lookup y.1 = some .local ∨ ((defScope st).names.lookup y.1 = some .cell ∧ ((cellsFrom (s.heap.objs.size + 1) (defScope st).names []).lookup y.1).isSome = true) := fun y hy =>
    (S.par y.1 (List.of_mem_zip (show (y.1, y.2) ∈ _ from hy)).1).imp id fun q => ⟨q, PySem.W.cellsFrom_some _ _ _ (.inl q)⟩
  refine codeAny_call_function hr.depth (kin _ _ lk) rfl S.co S.gen rfl (PySem.W.codeRec_of kin hcd) (hb _ _ _ _ ?_)
  refine wpAny_newFunctionEnv_cells S.kind kinds fun env he s1 x => ?_
  subst he
  refine ⟨lim.keeps x.toInCall.keep, codeAny_func ?_⟩
  obtain ⟨t, ht, hq⟩ := hbody cdv A outer s H vs Q E hgd (hr.deeper _) hsp
  have J0 := inv_start (CX := CX0) (E := E) S hr.hd e0 hl r x
  refine wpAny_mono (ht.nox.run [] s1 (start N vs) H _ J0 hq) (fun fl s' hs => ?_) fun _ _ hs => hs
  cases fl with
  | ret u =>
    obtain ⟨v, σ', H', J, rv, q⟩ := hs
    exact ⟨v, H', J.os, J.bare, J.base, J.hok, rv, q⟩
  | next =>
    obtain ⟨σ', H', J, q⟩ := hs
    exact ⟨.non, H', J.os, J.bare, J.base, J.hok, rfl, q⟩
  | brk =>
    obtain ⟨_, _, _, q⟩ := hs
    exact q.elim
  | cont =>
    obtain ⟨_, _, _, q⟩ := hs
    exact q.elim
end
section
variable {X : Cx} {σ : L2.St} {B H B0 H0 : Hp} {O : Own} {a b c d e tg : Expr} {es : List Expr} {pos p apos : Pos} {α β γ δ : Type} {T : Ty α} {U : Ty β} {S : Ty γ} {W : Ty δ} {cw : Crew} {D : Ends} {rest els body : List Stmt} {st : Stmt} {C : Addr}
structure CalG (P : Program) (w : World) (K : PySem.W.Frag) (mg : Str → Option Value) (base : Heap) (x : Str) (k : Nat) (ps : List Str) (sp : Sp) : Prop where
  ex : ∃ (f : Addr) (fd : FuncData), FnG P w K mg base k f fd ps sp ∧ mg x = some (.ref f) ∧ PySem.W.keepIn K (.ref f) = true ∧ Binds K fd ps []
theorem pe_callG {k : Nat} {f : Addr} {fd : FuncData} {ps : List Str} {sp : Sp} {x : Str} {t : TA} (F : FnG X.prog X.w X.K X.mg X.base k f fd ps sp) (hgd : X.A.guards = some []) (hr : Room k X.A) (hg : Gl X x) (hm : X.mg x = some (.ref f)) (hk : PySem.W.keepIn X.K (.ref f) = true) (hb : Binds X.K fd ps [])
    (ha : PA X (e :: es) t) (hdb : (x == ("__debug__" : Str)) = false) (he : starEach (e :: es) X.env = (false, eval e X.env) :: starEach es X.env) (hpl : (backTo pos (starEach es X.env)).any (·.1) = false) :
    PE X (.Call (.Name x p) (e :: es) [] pos) (fun σ H Q => t σ H fun vs H1 => sp vs H1 Q E0) := by
  refine ⟨fun pins s σ H Q I h => ?_⟩
  refine wpAny_Call_Name_kw (ld_glob I hg hm ?_ hdb)
  refine PySem.W.callWith_K (h₀ := X.base) I.ok.mod.kin hk (thn (ha.run pos pins s σ H _ I h) fun us s1 ⟨vs, H1, I1, r, q⟩ => ⟨I1.kIn, ?_⟩) he hpl
  have hl : us.length = ps.length := by rw [← r.length]; exact F.len _ _ _ _ q
  have hz := hb s1 us I1.kIn (by rw [List.append_nil]; exact hl)
  rw [List.append_nil] at hz
  refine wpAny_call (codeAny_mono (F.run X.A X.stack s1 H1 ⟨us, []⟩ us vs Q E0 hgd hr I1.env0 hz r q) fun z s' hq => ?_)
  cases z with
  | error e => exact pass0 pins σ H1 s1 e s' I1 hq
  | ok fl =>
    cases fl with
    | ret u => exact I1.after hq
    | next => exact False.elim hq
    | brk => exact False.elim hq
    | cont => exact False.elim hq
theorem callG_of {k : Nat} {ps : List Str} {x : Str} {sp : Sp} {Q : VK} {H : Hp} (C : CalG X.prog X.w X.K X.mg X.base x k ps sp) (hgd : X.A.guards = some []) (hr : Room k X.A) (hg : Gl X x) (hdb : (x == ("__debug__" : Str)) = false) (he : starEach (a :: es) X.env = (false, eval a X.env) :: starEach es X.env) (hpl : (backTo pos (starEach es X.env)).any (·.1) = false)
    (h : wA X (a :: es) σ H fun vs H1 => sp vs H1 Q E0) : wE X (.Call (.Name x p) (a :: es) [] pos) σ H Q := by
  obtain ⟨f, fd, F, m, kp, b⟩ := C.ex
  exact of_e (pe_callG F hgd hr hg m kp b p_a hdb he hpl) h
theorem ev_callG2 {k : Nat} {ps : List Str} {x : Str} {f : α → β → Option δ} {m : Option α} {n : Option β} (C : CalG X.prog X.w X.K X.mg X.base x k ps (Sp2 T U W f)) (hgd : X.A.guards = some []) (hr : Room k X.A) (ha : EV X σ B O a T m) (hb : EV X σ B O b U n) (hg : Gl X x := by rfl) (hdb : (x == ("__debug__" : Str)) = false := by decide)
    (he : starEach [a, b] X.env = (false, eval a X.env) :: starEach [b] X.env := by rfl) (he2 : starEach [b] X.env = (false, eval b X.env) :: starEach [] X.env := by rfl) (hpl : (backTo pos (starEach [b] X.env)).any (·.1) = false := by rfl) : EV X σ B O (.Call (.Name x p) [a, b] [] pos) W (op2 f m n) := by
  intro z hz B1 H e I Q q
  obtain ⟨y, y2, rfl, rfl, hf⟩ := op2_some hz
  refine callG_of C hgd hr hg hdb he hpl (av_cons (ha y rfl) (av_cons (hb y2 rfl) av_nil (R3 := fun B vs => ∃ v, vs = [v] ∧ U.rep B v y2) (fun r g h => ⟨_, by rw [h], U.mono g.eb r⟩) he2) (R3 := fun B vs => ∃ v w, vs = [v, w] ∧ T.rep B v y ∧ U.rep B w y2)
    (fun r g h => by
      obtain ⟨w, rfl, r2⟩ := h
      exact ⟨_, w, rfl, T.mono g.eb r, r2⟩) he B1 H e I _ fun vs B2 H2 g2 r2 => ?_)
  obtain ⟨v, w, rfl, r, r'⟩ := r2
  exact ⟨v, w, y, y2, B2, z, rfl, r, r', g2.bh, hf, fun u B' H' g r' => q u B' H' (g2.trans g) r'⟩
end
end Ly
/-! drawn numbers: a list of three numbers that changes, beside all else -/
namespace Ly
open PySem PySem.Spec PyProof.Rows L2 TL
/-- what the brew holds -/
def brw (a b c : Nat) : HO := .lst [.int (a : Int), .int (b : Int), .int (c : Int)]
/-- from B, H to B', H': all stays but what stands at x -/
structure Gz (x : Addr) (B H B' H' : Hp) : Prop where
  eb : Ex B B'
  kh : ∀ a o, a ≠ x → H a = some o → H' a = some o
  bh : Ex B' H'
  fr : ∀ a o, B' a = some o → B a = some o ∨ H a = none
/-- the brew stands at x -/
structure Br (x : Addr) (B H : Hp) : Prop where
  ex : Ex B H
  nb : B x = none
  at_ : ∃ a b c : Nat, b < 2147482583 ∧ H x = some (brw a b c)
section
variable {x : Addr} {B H B1 H1 B2 H2 : Hp}
theorem Br.some (I : Br x B H) : ∃ o, H x = some o := by
  obtain ⟨a, b, c, _, h⟩ := I.at_
  exact ⟨_, h⟩
theorem Gz.refl (e : Ex B H) : Gz x B H B H := ⟨Ex.refl _, fun _ _ _ h => h, e, fun _ _ h => .inl h⟩
theorem Gz.of (g : Go B H B1 H1) : Gz x B H B1 H1 := ⟨g.eb, fun a o _ h => g.eh a o h, g.bh, g.fr⟩
theorem Gz.trans (g : Gz x B H B1 H1) (k : Gz x B1 H1 B2 H2) (n : B2 x = none) : Gz x B H B2 H2 := ⟨g.eb.trans k.eb, fun a o h1 h => k.kh a o h1 (g.kh a o h1 h), k.bh, fun a o h => by
  rcases k.fr a o h with z | z
  · exact g.fr a o z
  · by_cases e : a = x
    · subst e
      rw [n] at h
      cases h
    · cases q : H a with
      | none => exact .inr rfl
      | some o' =>
        rw [g.kh a o' e q] at z
        cases z⟩
theorem Gz.free (g : Gz x B H B1 H1) {a : Addr} (h : H1 a = none) (hx : ∃ o, H1 x = some o) : H a = none := by
  cases q : H a with
  | none => rfl
  | some o =>
    by_cases e : a = x
    · subst e
      obtain ⟨o', hx⟩ := hx
      rw [h] at hx
      cases hx
    · rw [g.kh a o e q] at h
      cases h
/-- a place that B does not know and H does stays unknown -/
theorem Gz.keep (g : Gz x B H B1 H1) {a : Addr} {o : HO} (h1 : B a = none) (h2 : H a = some o) : B1 a = none := by
  cases h : B1 a with
  | none => rfl
  | some o' => exact ((g.fr _ _ h).elim (fun z => by rw [h1] at z; cases z) fun z => by rw [h2] at z; cases z)
theorem Gz.put {u : HO} (g : Gz x B H B1 H1) (n : B1 x = none) : Gz x B H B1 (upd H1 x u) := ⟨g.eb, fun a o h1 h => by
  rw [upd_ne h1]
  exact g.kh a o h1 h, g.bh.mut n, g.fr⟩
/-- a store at a place that H did not know -/
theorem Gz.mut {u : HO} {p : Addr} (g : Gz x B H B1 H1) (h0 : H p = none) (n : B1 p = none) : Gz x B H B1 (upd H1 p u) := ⟨g.eb, fun a o h1 h => by
  rw [upd_ne (ne_of_none h h0)]
  exact g.kh a o h1 h, g.bh.mut n, g.fr⟩
theorem Br.inn (I : Br x B H) : ∃ a b c : Nat, b < 2147482583 ∧ In B [(x, brw a b c)] H := by
  obtain ⟨a, b, c, hb, h⟩ := I.at_
  exact ⟨a, b, c, hb, I.ex, fun p hp => by
    rw [List.mem_singleton.mp hp]
    exact ⟨h, I.nb⟩⟩
theorem Br.of {a b c : Nat} (hb : b < 2147482583) (I : In B [(x, brw a b c)] H) : Br x B H := ⟨I.ex, (I.ow _ List.mem_cons_self).2, a, b, c, hb, (I.ow _ List.mem_cons_self).1⟩
/-- the brew is where nothing else is changed -/
theorem Br.go (I : Br x B H) (g : Go B H B1 H1) : Br x B1 H1 := by
  obtain ⟨a, b, c, hb, J⟩ := I.inn
  exact .of hb (J.go g)
theorem Br.mut (I : Br x B H) {p : Addr} {u : HO} (n : B p = none) (ne : p ≠ x) : Br x B (upd H p u) := by
  obtain ⟨a, b, c, hb, h⟩ := I.at_
  exact ⟨I.ex.mut n, I.nb, a, b, c, hb, by rw [upd_ne ne.symm]; exact h⟩
end
/-! ### promises -/
/-- a drawn number below top -/
def SpTap : Sp := fun vs H Q _ => ∃ (x : Addr) (top : Nat) (B : Hp), vs = [.ref x, .int (top : Int)] ∧ 1 ≤ top ∧ top ≤ 100 ∧ Br x B H ∧ ∀ (n : Nat) (B' H' : Hp), n < top → Gz x B H B' H' → Br x B' H' → Q (.int (n : Int)) H'
/-- list(a text) -/
theorem signs_vals {z : Str} : ∀ {us : List Value} {cs : List Nat}, us.length = cs.length → (∀ (j : Nat) (v : Value), us[j]? = some v → ∃ c u, cs[j]? = some c ∧ v = .str ⟨#[c]⟩ u) → Vals (cs.map fun c => V.str ⟨#[c]⟩) us
  | [], [], _, _ => .nil
  | [], _ :: _, h, _ => by simp at h
  | _ :: _, [], h, _ => by simp at h
  | v :: us, c :: cs, hl, h => by
    obtain ⟨c', u, e1, e2⟩ := h 0 v rfl
    cases (Option.some.inj e1)
    subst e2
    exact .cons ⟨u, rfl⟩ (signs_vals (z := z) (by simpa using hl) fun j w e => h (j + 1) w e)
theorem call_listS {X : Cx} (hcalm : X.calm = true) : CallR X (.type "list") (fun xs H Q => ∃ z : Str, xs = [.str z] ∧ z.cps.size ≤ sizeLine ∧ ∀ p, H p = none → Q (.ref p) (upd H p (.lst (z.cps.toList.map fun c => V.str ⟨#[c]⟩)))) := by
  intro pins s σ H xs us Q I r q
  obtain ⟨z, rfl, hz, q⟩ := q
  obtain ⟨u, rfl, rx⟩ := vals1 r
  obtain ⟨t, rfl⟩ := rx
  refine PySem.call_list_str (hn := hz) (I.ok.hd hcalm) z t fun h' tk acc c' hk hD hacc => ?_
  have hv : Vals (z.cps.toList.map fun c => V.str ⟨#[c]⟩) acc.toList := signs_vals (z := z) (by rw [Array.length_toList, Array.length_toList]; exact hacc.1) fun j v e => by
    obtain ⟨c, u, h1, h2⟩ := hacc.2 j v (by rw [← Array.getElem?_toList]; exact e)
    exact ⟨c, u, by rw [Array.getElem?_toList]; exact h1, h2⟩
  refine ⟨.ref s.heap.objs.size, upd H s.heap.objs.size (.lst (z.cps.toList.map fun c => V.str ⟨#[c]⟩)), I.laid (t' := tk) hk (Nat.le_refl _)
    (show ObjOk X.prog X.w _ _ _ (.lst (z.cps.toList.map fun c => V.str ⟨#[c]⟩)) from ⟨by rw [List.length_map, Array.length_toList]; exact hz, acc.toList, c', hv, by rw [Array.toArray_toList]; exact hD⟩), rfl, q _ (I.hok.fresh (Nat.le_refl _))⟩
section
variable {X : Cx} {σ : L2.St} {B H B0 H0 : Hp} {O : Own} {a b c d e tg : Expr} {es : List Expr} {pos p apos : Pos} {α β γ δ : Type} {T : Ty α} {U : Ty β} {S : Ty γ} {W : Ty δ} {cw : Crew} {D : Ends} {rest els body : List Stmt} {st : Stmt} {m n : Option Nat}
/-- int(e), e an int -/
theorem ev_intc (hb : Bt X.mg) (ha : EV X σ B O a tN m) (hg : Gl X "int" := by rfl) (he : starEach [a] X.env = (false, eval a X.env) :: starEach [] X.env := by rfl) : EV X σ B O (.Call (.Name "int" p) [a] [] pos) tN m := by
  intro z hz B1 H e I Q q
  subst hz
  exact type1 call_int1 hg hb.int (by decide +kernel) (by decide) (by decide) he (ha z rfl) e I fun v B2 H2 g2 r2 => by
    cases r2
    exact .inl ⟨_, rfl, q _ B2 H2 g2 rfl⟩
theorem ev_mul (ha : EV X σ B O a tN m) (hb : EV X σ B O b tN n) (hs : ∀ x y, m = some x → n = some y → x < 18446744073709551616 ∨ y < 18446744073709551616) : EV X σ B O (.BinOp a .Mult b pos) tN (op2 (fun x y => some (x * y)) m n) := by
  intro z hz B1 H e I Q q
  obtain ⟨x, y, rfl, rfl, hf⟩ := op2_some hz
  cases hf
  refine of_e (pe_op op_mul p_e p_e) ?_
  refine ha x rfl B1 H e I _ fun v B2 H2 g2 r2 => ?_
  refine hb y rfl B2 H2 (e.trans g2.eb) (I.go g2) _ fun w B3 H3 g3 r3 => ?_
  cases r2
  cases r3
  refine ⟨_, _, rfl, rfl, ?_, q _ B3 H3 (g2.trans g3) rfl⟩
  have e2 : (2 : Int) ^ 64 = 18446744073709551616 := by decide
  unfold CMul
  rw [e2]
  exact (hs x y rfl rfl).imp (fun h => ⟨by omega, by omega⟩) fun h => ⟨by omega, by omega⟩
theorem ev_mod (ha : EV X σ B O a tN m) (hb : EV X σ B O b tN n) (hs : ∀ y, n = some y → 0 < y) : EV X σ B O (.BinOp a .Mod b pos) tN (op2 (fun x y => some (x % y)) m n) := by
  intro z hz B1 H e I Q q
  obtain ⟨x, y, rfl, rfl, hf⟩ := op2_some hz
  cases hf
  refine of_e (pe_op op_mod p_e p_e) ?_
  refine ha x rfl B1 H e I _ fun v B2 H2 g2 r2 => ?_
  refine hb y rfl B2 H2 (e.trans g2.eb) (I.go g2) _ fun w B3 H3 g3 r3 => ?_
  cases r2
  cases r3
  have h := hs y rfl
  exact ⟨_, _, rfl, rfl, show (0 : Int) < (y : Int) by omega, q _ B3 H3 (g2.trans g3) (congrArg V.int (Int.natCast_emod x y).symm)⟩
theorem ev_fdiv (ha : EV X σ B O a tN m) (hb : EV X σ B O b tN n) (hs : ∀ y, n = some y → 0 < y ∧ y < 1073741824) : EV X σ B O (.BinOp a .FloorDiv b pos) tN (op2 (fun x y => some (x / y)) m n) := by
  intro z hz B1 H e I Q q
  obtain ⟨x, y, rfl, rfl, hf⟩ := op2_some hz
  cases hf
  refine of_e (pe_op op_fdiv p_e p_e) ?_
  refine ha x rfl B1 H e I _ fun v B2 H2 g2 r2 => ?_
  refine hb y rfl B2 H2 (e.trans g2.eb) (I.go g2) _ fun w B3 H3 g3 r3 => ?_
  cases r2
  cases r3
  have h := hs y rfl
  exact ⟨_, _, rfl, rfl, ⟨by omega, by omega⟩, q _ B3 H3 (g2.trans g3) (congrArg V.int (Int.natCast_ediv x y).symm)⟩
end
/-- three numbers -/
theorem brw_rep {B : Hp} (a b c : Nat) : Reps tN B [V.int (a : Int), V.int (b : Int), V.int (c : Int)] [a, b, c] := .cons rfl (.cons rfl (.cons rfl .nil))
theorem brw_len (a b c : Nat) : [V.int (a : Int), V.int (b : Int), V.int (c : Int)].length ≤ 40000 := Nat.le_of_ble_eq_true rfl
end Ly
/-! the drawing of letters -/
namespace Ly
open PySem PySem.Spec PyProof.Rows L2 TL
section
variable {X : Cx} {σ : L2.St} {B H B0 H0 : Hp} {O : Own} {a b c d e tg : Expr} {es : List Expr} {pos p apos : Pos} {α β γ δ : Type} {T : Ty α} {U : Ty β} {S : Ty γ} {W : Ty δ} {cw : Crew} {D : Ends} {rest els body : List Stmt} {st : Stmt}
/-- a call of the tap -/
theorem tap_of {k : Nat} {ps : List Str} (C : Cal X.prog X.w X.K X.mg X.base "_law_tap" k ps SpTap) (hr : Room k X.A) {x : Addr} (i : Nat) {nb : Str} {pb : Pos} {top : Nat} {Q : VK} (h1 : 1 ≤ top) (h2 : top ≤ 100) (I : In B O H) (br : Br x B H) (ha : EV X σ B O a tN (some top))
    (hq : ∀ n B' H', n < top → Gz x B H B' H' → Br x B' H' → Q (.int (n : Int)) H') (hN : X.N[i]? = some nb := by rfl) (hv : Vis X.env.scope nb := by first | exact Or.inl rfl | exact Or.inr (Or.inl rfl) | exact Or.inr (Or.inr rfl)) (hs : σ[i]? = some (some (.ref x)) := by rfl)
    (hd : (nb == ("__debug__" : Str)) = false := by decide) (hcd : (nb == ("__classdict__" : Str)) = false := by decide) (hg : Gl X "_law_tap" := by rfl)
    (he : starEach [.Name nb pb, a] X.env = (false, eval (.Name nb pb) X.env) :: starEach [a] X.env := by rfl) (he2 : starEach [a] X.env = (false, eval a X.env) :: starEach [] X.env := by rfl) (hpl : (backTo pos (starEach [a] X.env)).any (·.1) = false := by rfl) :
    wE X (.Call (.Name "_law_tap" p) [.Name nb pb, a] [] pos) σ H Q := by
  refine call_of C hr hg (by decide) he hpl ?_
  refine av_cons (ge_ref i hN hv hs hd hcd) (av_cons (ev_ge ha rfl) av_nil (R3 := fun _ vs => vs = [.int (top : Int)]) (fun r g h => by cases r; rw [h]) he2) (R3 := fun _ vs => vs = [.ref x, .int (top : Int)]) (fun r g h => by rw [r, h]) he B H (Ex.refl _) I _ fun vs B1 H1 g1 r1 => ?_
  subst r1
  exact ⟨x, top, B1, rfl, h1, h2, br.go g1, fun n B' H' hn g b' => hq n B' H' hn ((Gz.of g1).trans g b'.nb) b'⟩
/-- letters as values -/
def chs (cw : Crew) (s : List Nat) : List V := s.map fun i => V.str (str cw [i])
theorem chs_len {s : List Nat} : (chs cw s).length = s.length := List.length_map _
theorem chs_get {s : List Nat} {n c : Nat} (h : s[n]? = some c) : (chs cw s)[n]? = some (.str (str cw [c])) := by
  unfold chs
  rw [List.getElem?_map, h]
  rfl
theorem chs_erase {s : List Nat} {n : Nat} : (chs cw s).eraseIdx n = chs cw (s.eraseIdx n) := by
  unfold chs
  induction s generalizing n with
  | nil => rfl
  | cons a s ih =>
    cases n with
    | zero => rfl
    | succ n => exact congrArg (_ :: ·) (ih (n := n))
/-- left.pop(e), e drawn -/
theorem pop_of (i : Nat) {x p' : Addr} {nm : Str} {np : Pos} {rem : List Nat} {Q : VK} (hp : H p' = some (.lst (chs cw rem))) (hl : rem.length ≤ 100) (ne : p' ≠ x)
    (ha : ∀ Q : VK, (∀ n B' H', n < rem.length → Gz x B H B' H' → Br x B' H' → Q (.int (n : Int)) H') → wE X a σ H Q)
    (hq : ∀ n c B' H', rem[n]? = some c → Gz x B H B' H' → Br x B' H' → H' p' = some (.lst (chs cw rem)) → Q (.str (str cw [c])) (upd H' p' (.lst (chs cw (rem.eraseIdx n)))))
    (hN : X.N[i]? = some nm := by rfl) (hv : Vis X.env.scope nm := by first | exact Or.inl rfl | exact Or.inr (Or.inl rfl) | exact Or.inr (Or.inr rfl)) (hs : σ[i]? = some (some (.ref p')) := by rfl) (hd : (nm == ("__debug__" : Str)) = false := by decide) (hcd : (nm == ("__classdict__" : Str)) = false := by decide)
    (hbase : attributeBase (.Name nm np) "pop" X.env (eval (.Name nm np) X.env) = eval (.Name nm np) X.env := by rfl)
    (hfew : ((backTo pos (starEach [a] X.env)).all (fun x => !x.1) && (backToKw pos (keywordEach [] X.env)).all (fun x => x.1.isSome) && decide ([a].length + ([] : List Keyword).length + (if ([] : List Keyword).isEmpty then 0 else 1) < 30)) = true := by rfl)
    (hline : (apos.endLine == pos.line) = true := by rfl) (he : starEach [a] X.env = (false, eval a X.env) :: starEach [] X.env := by rfl) :
    wE X (.Call (.Attribute (.Name nm np) "pop" apos) [a] [] pos) σ H Q := by
  refine of_e (pe_bm PySem.F.plainAttrs_list PySem.F.slot_list_pop PySem.F.type_list_pop mt_popAt (pe_var hN hv hd hcd) (pa1 he) hbase hfew hline he rfl) ?_
  refine ⟨_, hs, .inl ⟨rfl, _, .inl (.inl hp)⟩, ?_⟩
  refine ha _ fun n B' H' hn g b' => ?_
  have hp' := g.kh _ _ ne hp
  have hc : rem[n]? = some rem[n] := List.getElem?_eq_getElem hn
  have z := hq n _ B' H' hc g b' hp'
  rw [← chs_erase] at z
  refine ⟨p', _, (n : Int), n, _, rfl, rfl, hp', by omega, by omega, ?_, chs_get hc, z⟩
  rw [chs_len]
  have e1 : ¬ ((n : Int) < 0) := by omega
  unfold PySem.seqIndex?
  simp only [e1, if_false]
  rw [if_pos (by simp; omega)]
  rfl
/-! ### letters sorted -/
theorem insB_one (x : Nat) : ∀ l : List Nat, insB lexB [x] (l.map fun i => [i]) = (insB Nat.blt x l).map fun i => [i]
  | [] => rfl
  | y :: ys => by
    have e : lexB [y] [x] = Nat.blt y x := by
      unfold lexB
      simp [lexB]
    rw [List.map_cons]
    unfold insB
    rw [e]
    cases Nat.blt y x with
    | true =>
      show [y] :: insB lexB [x] (ys.map fun i => [i]) = (y :: insB Nat.blt x ys).map fun i => [i]
      rw [insB_one x ys]
      rfl
    | false => rfl
theorem sortB_one : ∀ l : List Nat, sortB lexB (l.map fun i => [i]) = (sortB Nat.blt l).map fun i => [i]
  | [] => rfl
  | x :: xs => by
    show insB lexB [x] (sortB lexB (xs.map fun i => [i])) = (insB Nat.blt x (sortB Nat.blt xs)).map fun i => [i]
    rw [sortB_one xs, insB_one]
theorem ev_sortC {m : Option (List Nat)} (hb : Bt X.mg) (ha : ES X σ B O a (tC cw) m) (hg : Gl X "sorted" := by rfl) (he : starEach [a] X.env = (false, eval a X.env) :: starEach [] X.env := by rfl) : EV X σ B O (.Call (.Name "sorted" p) [a] [] pos) (tL (tC cw)) (m.bind fSortL) := by
  intro z hz B1 H e I Q q
  cases m with
  | none => cases hz
  | some xs =>
    have hz : fSortL xs = some z := hz
    unfold fSortL at hz
    split at hz
    · rename_i h64
      rw [Nat.blt_eq] at h64
      cases hz
      refine builtin1 cr_sortedS hg hb.sorted PyProof.Rows.boot_sorted (by decide) (by decide) he (ha xs rfl) e I fun v B2 H2 g2 ⟨l, vs, h1, h2, h3, h4, h5⟩ => ?_
      subst h1
      have hv := lt_of_reps h3
      have e1 : (xs.map fun i => str cw [i]) = (xs.map fun i => [i]).map (str cw) := by
        rw [List.map_map]
        rfl
      refine ⟨l, xs.map fun i => str cw [i], rfl, by rw [← repsC h3]; exact SqL.of h2, by rw [List.length_map]; exact h64, fun ys p pm hs np => ?_⟩
      rw [e1] at pm
      have hp := sortB_perm (lt := Nat.blt) xs
      rw [sort_is (fun s hs i hi => by
        obtain ⟨j, hj, rfl⟩ := List.mem_map.mp hs
        cases List.mem_singleton.mp hi
        exact hv _ hj) pm hs, sortB_one]
      have e2 : List.map V.str (List.map (str cw) (List.map (fun i => [i]) (sortB Nat.blt xs))) = (sortB Nat.blt xs).map fun i => V.str (str cw [i]) := by
        rw [List.map_map, List.map_map]
        rfl
      rw [e2]
      refine q _ _ _ (g2.trans (Go.lay g2.bh np)) ⟨p, _, rfl, upd_same, reps_chars fun i hi => hv i (hp.mem_iff.mp hi), ?_⟩
      rw [List.length_map, hp.length_eq]
      omega
    · cases hz
end
/-! ### the crew -/
def cw10 : Crew := ⟨[97, 98, 99, 100, 101, 102, 103, 104, 109, 122], by decide, by decide⟩
theorem cw10_signs : (("abcdefghmz" : Str).cps.toList.map fun c => V.str ⟨#[c]⟩) = chs cw10 (List.range' 0 10) := by rfl
theorem cw10_size : ("abcdefghmz" : Str).cps.size ≤ sizeLine := by decide
def subc (s : List Nat) (h : s.Pairwise (· < ·)) (hl : ∀ i ∈ s, i < cw10.l.length) : Crew := ⟨s.map fun i => cw10.l.getD i 0, by
  rw [List.pairwise_map]
  exact h.imp_of_mem fun {a b} ha hb hr => (code_lt cw10.asc (hl a ha) (hl b hb)).mpr hr, fun c hc => by
  obtain ⟨i, hi, rfl⟩ := List.mem_map.mp hc
  have h := hl i hi
  rw [List.getD_eq_getElem?_getD, List.getElem?_eq_getElem h]
  exact cw10.low _ (List.getElem_mem h)⟩
theorem subc_len {s : List Nat} {h : s.Pairwise (· < ·)} {hl : ∀ i ∈ s, i < cw10.l.length} : (subc s h hl).l.length = s.length := List.length_map _
theorem subc_str {s : List Nat} {h : s.Pairwise (· < ·)} {hl : ∀ i ∈ s, i < cw10.l.length} : str cw10 s = str (subc s h hl) (List.range' 0 s.length) := by
  unfold str
  refine congrArg (fun l : List Nat => (⟨l.toArray⟩ : Str)) ?_
  refine List.ext_getElem (by rw [List.length_map, List.length_map, List.length_range']) fun i h1 h2 => ?_
  rw [List.getElem_map, List.getElem_map, List.getElem_range']
  have hi : i < s.length := by rw [List.length_map] at h1; exact h1
  show _ = (s.map fun i => cw10.l.getD i 0).getD (0 + 1 * i) 0
  have key : ((s.map fun i => cw10.l.getD i 0)[i]?).getD 0 = cw10.l.getD s[i] 0 := by
    rw [List.getElem?_map, List.getElem?_eq_getElem hi]
    rfl
  rw [show 0 + 1 * i = i by omega]
  exact key.symm.trans (List.getD_eq_getElem?_getD ..).symm
theorem sortN_lt {s : List Nat} (h : s.Nodup) : (sortB Nat.blt s).Pairwise (· < ·) := by
  have p := sortB_perm (lt := Nat.blt) s
  have q := sortB_sorted blt_tr (fun a b c => blt_co a b c) blt_asy s
  have nd := p.nodup_iff.mpr h
  refine (q.and nd).imp fun {a b} ⟨h1, h2⟩ => ?_
  rcases Nat.lt_trichotomy a b with e | e | e
  · exact e
  · exact absurd e h2
  · rw [Nat.blt_eq.mpr e] at h1
    cases h1
theorem erase_perm {s : List Nat} {n c : Nat} (h : s[n]? = some c) : (c :: s.eraseIdx n).Perm s := by
  induction s generalizing n with
  | nil => simp at h
  | cons a s ih =>
    cases n with
    | zero =>
      cases (Option.some.inj h)
      exact .refl _
    | succ n => exact (List.Perm.swap a c _).trans ((ih (n := n) h).cons a)
/-- all letters of the crew -/
def SpCrew : Sp := fun vs H Q _ => ∃ (x : Addr) (B : Hp), vs = [.ref x, .int (4 : Nat)] ∧ Br x B H ∧ ∀ (cw : Crew) (n : Nat) (B' H' : Hp), 1 ≤ n → n ≤ 4 → cw.l.length = n → Gz x B H B' H' → Br x B' H' → Q (.str (str cw (List.range' 0 n))) H'
/-- one letter drawn -/
def SpOf (cw : Crew) : Sp := fun vs H Q _ => ∃ (x : Addr) (s : List Nat) (B : Hp), vs = [.ref x, .str (str cw s)] ∧ (∀ i ∈ s, i < cw.l.length) ∧ 1 ≤ s.length ∧ s.length ≤ 100 ∧ Br x B H ∧ ∀ (c : Nat) (B' H' : Hp), c ∈ s → Gz x B H B' H' → Br x B' H' → Q (.str (str cw [c])) H'
/-- all letters in some order -/
def SpLine (cw : Crew) : Sp := fun vs H Q _ => ∃ (x : Addr) (s : List Nat) (B : Hp), vs = [.ref x, .str (str cw s)] ∧ (∀ i ∈ s, i < cw.l.length) ∧ s.length ≤ 50 ∧ Br x B H ∧ ∀ (t : List Nat) (B' H' : Hp), t.Perm s → Gz x B H B' H' → Br x B' H' → Q (.str (str cw t)) H'
end Ly
/-! leads as pairs, as a mask; dicts of leads -/
namespace Ly
open PySem PySem.Spec PyProof.Rows L2 TL
def tb (m i j : Nat) : Bool := Nat.beq (Nat.land (Nat.shiftRight m (Nat.add (Nat.mul 4 i) j)) 1) 1
def sb (m i j : Nat) : Nat := Nat.lor m (Nat.shiftLeft 1 (Nat.add (Nat.mul 4 i) j))
theorem tb_bit (m i j : Nat) : tb m i j = m.testBit (4 * i + j) := by
  show Nat.beq ((m >>> (4 * i + j)) &&& 1) 1 = _
  rw [Nat.testBit, Nat.and_comm]
  have h : 1 &&& m >>> (4 * i + j) = (m >>> (4 * i + j)) % 2 := by rw [Nat.and_comm, Nat.and_one_is_mod]
  rw [h]
  rcases Nat.mod_two_eq_zero_or_one (m >>> (4 * i + j)) with e | e <;> rw [e] <;> rfl
theorem sb_def (m i j : Nat) : sb m i j = m ||| (1 <<< (4 * i + j)) := rfl
def pairsOf (n : Nat) : List (List Nat) := (List.range' 0 n).flatMap fun i => (List.range' 0 n).map fun j => [i, j]
def tiesOf (n m : Nat) : List (List Nat) := (pairsOf n).filter fun t => tb m (t.getD 0 0) (t.getD 1 0)
def offs (n : Nat) : List Nat := (List.range' 0 n).flatMap fun i => ((List.range' 0 n).filter fun j => !Nat.beq i j).map fun j => 4 * i + j
/-- all masks of some bits -/
def allM (p : Nat → Bool) : List Nat → Nat → Bool
  | [], m => p m
  | b :: bs, m => allM p bs m && allM p bs (m ||| (1 <<< b))
theorem bit_one (b k : Nat) : (1 <<< b).testBit k = decide (b = k) := by
  rw [Nat.one_shiftLeft, Nat.testBit_two_pow]
theorem allM_spec {p : Nat → Bool} : ∀ {bs : List Nat} {m : Nat}, allM p bs m = true → ∀ s : Nat, (∀ k, s.testBit k = true → k ∈ bs) → p (m ||| s) = true
  | [], m, h, s, hs => by
    have e : s = 0 := Nat.eq_of_testBit_eq fun k => by
      cases hk : s.testBit k with
      | false => rw [Nat.zero_testBit]
      | true => exact nomatch hs k hk
    subst e
    rw [Nat.or_zero]
    exact h
  | b :: bs, m, h, s, hs => by
    unfold allM at h
    rw [Bool.and_eq_true] at h
    by_cases hb : s.testBit b = true
    · have hm := allM_spec h.2 (s ^^^ (1 <<< b)) fun k hk => by
        rw [Nat.testBit_xor, bit_one] at hk
        by_cases e : b = k
        · subst e
          rw [hb] at hk
          simp at hk
        · rw [decide_eq_false e, Bool.xor_false] at hk
          exact (List.mem_cons.mp (hs k hk)).resolve_left fun z => e z.symm
      have e : m ||| 1 <<< b ||| (s ^^^ (1 <<< b)) = m ||| s := Nat.eq_of_testBit_eq fun k => by
        rw [Nat.testBit_or, Nat.testBit_or, Nat.testBit_or, Nat.testBit_xor, bit_one]
        by_cases e : b = k
        · subst e
          rw [hb]
          simp
        · rw [decide_eq_false e]
          simp
      rw [e] at hm
      exact hm
    · exact allM_spec h.1 s fun k hk => (List.mem_cons.mp (hs k hk)).resolve_left fun z => by
        subst z
        exact hb hk
theorem tb_sb {m i j i' j' : Nat} (hj : j < 4) (hj' : j' < 4) : tb (sb m i j) i' j' = (tb m i' j' || (decide (i = i') && decide (j = j'))) := by
  rw [tb_bit, tb_bit, sb_def, Nat.testBit_or, bit_one]
  refine congrArg (m.testBit (4 * i' + j') || ·) ?_
  rw [Bool.eq_iff_iff, Bool.and_eq_true, decide_eq_true_eq, decide_eq_true_eq, decide_eq_true_eq]
  constructor
  · intro h
    exact ⟨by omega, by omega⟩
  · rintro ⟨rfl, rfl⟩
    rfl
def Off (n m : Nat) : Prop := ∀ k, m.testBit k = true → k ∈ offs n
theorem Off.zero {n : Nat} : Off n 0 := fun k h => by
  rw [Nat.zero_testBit] at h
  cases h
theorem Off.put {n m i j : Nat} (h : Off n m) (hi : i < n) (hj : j < n) (ne : i ≠ j) : Off n (sb m i j) := fun k hk => by
  rw [sb_def, Nat.testBit_or, bit_one, Bool.or_eq_true, decide_eq_true_eq] at hk
  rcases hk with e | e
  · exact h k e
  · subst e
    refine List.mem_flatMap.mpr ⟨i, List.mem_range'_1.mpr ⟨Nat.zero_le _, by omega⟩, List.mem_map.mpr ⟨j, List.mem_filter.mpr ⟨List.mem_range'_1.mpr ⟨Nat.zero_le _, by omega⟩, ?_⟩, rfl⟩⟩
    cases hb : Nat.beq i j with
    | false => rfl
    | true => exact absurd (Nat.beq_eq.mp hb) ne
/-- put once -/
def insT (ts : List (List Nat)) (t : List Nat) : List (List Nat) := bif ts.contains t then ts else ts ++ [t]
/-- pairs and their mask -/
structure Tie (n : Nat) (ts : List (List Nat)) (m : Nat) : Prop where
  le : n ≤ 4
  mem : ∀ t ∈ ts, ∃ i j, i < n ∧ j < n ∧ t = [i, j]
  nd : ts.Nodup
  bit : ∀ i j, i < n → j < n → (tb m i j = true ↔ [i, j] ∈ ts)
theorem Tie.nil {n : Nat} (h : n ≤ 4) : Tie n [] 0 := ⟨h, fun _ h => (nomatch h), .nil, fun i j _ _ => by
  rw [tb_bit, Nat.zero_testBit]
  exact ⟨fun h => (nomatch h), fun h => (nomatch h)⟩⟩
theorem Tie.has {n m i j : Nat} {ts : List (List Nat)} (T : Tie n ts m) (hi : i < n) (hj : j < n) : ts.contains [i, j] = tb m i j := by
  rw [Bool.eq_iff_iff, List.contains_iff_mem, T.bit i j hi hj]
theorem Tie.put {n m i j : Nat} {ts : List (List Nat)} (T : Tie n ts m) (hi : i < n) (hj : j < n) : Tie n (insT ts [i, j]) (sb m i j) := by
  have h4 := T.le
  have memI : ∀ t, t ∈ insT ts [i, j] ↔ t ∈ ts ∨ t = [i, j] := fun t => by
    unfold insT
    cases h : ts.contains [i, j] with
    | true =>
      have h1 := List.contains_iff_mem.mp h
      exact ⟨fun z => .inl z, fun z => z.elim id fun e => by subst e; exact h1⟩
    | false =>
      show t ∈ ts ++ [[i, j]] ↔ _
      rw [List.mem_append, List.mem_singleton]
  refine ⟨h4, fun t ht => ?_, ?_, fun i' j' hi' hj' => ?_⟩
  · rcases (memI t).mp ht with h | h
    · exact T.mem t h
    · exact ⟨i, j, hi, hj, h⟩
  · unfold insT
    cases h : ts.contains [i, j] with
    | true => exact T.nd
    | false =>
      show (ts ++ [[i, j]]).Nodup
      refine List.nodup_append.mpr ⟨T.nd, List.pairwise_singleton _ _, fun a ha b hb e => ?_⟩
      subst e
      rw [List.mem_singleton.mp hb] at ha
      rw [List.contains_iff_mem.mpr ha] at h
      cases h
  · rw [tb_sb (by omega) (by omega), memI, Bool.or_eq_true, Bool.and_eq_true, decide_eq_true_eq, decide_eq_true_eq, T.bit i' j' hi' hj']
    constructor
    · rintro (h | ⟨rfl, rfl⟩)
      · exact .inl h
      · exact .inr rfl
    · rintro (h | h)
      · exact .inl h
      · have h1 := (List.cons.inj h).1
        have h2 := (List.cons.inj (List.cons.inj h).2).1
        exact .inr ⟨h1.symm, h2.symm⟩
theorem mem_pairs {n : Nat} {t : List Nat} : t ∈ pairsOf n ↔ ∃ i j, i < n ∧ j < n ∧ t = [i, j] := by
  unfold pairsOf
  rw [List.mem_flatMap]
  constructor
  · rintro ⟨i, hi, h⟩
    obtain ⟨j, hj, rfl⟩ := List.mem_map.mp h
    have := List.mem_range'_1.mp hi
    have := List.mem_range'_1.mp hj
    exact ⟨i, j, by omega, by omega, rfl⟩
  · rintro ⟨i, j, hi, hj, rfl⟩
    exact ⟨i, List.mem_range'_1.mpr ⟨Nat.zero_le _, by omega⟩, List.mem_map.mpr ⟨j, List.mem_range'_1.mpr ⟨Nat.zero_le _, by omega⟩, rfl⟩⟩
theorem pairs_asc : ∀ n : Nat, n ≤ 4 → (pairsOf n).Pairwise fun a b => lexB a b = true
  | 0, _ => by decide
  | 1, _ => by decide
  | 2, _ => by decide
  | 3, _ => by decide
  | 4, _ => by decide
  | n + 5, h => absurd h (by omega)
theorem pairs_len : ∀ n : Nat, n ≤ 4 → (pairsOf n).length ≤ 16
  | 0, _ => by decide
  | 1, _ => by decide
  | 2, _ => by decide
  | 3, _ => by decide
  | 4, _ => by decide
  | n + 5, h => absurd h (by omega)
theorem ties_asc {n m : Nat} (h : n ≤ 4) : (tiesOf n m).Pairwise fun a b => lexB a b = true := (pairs_asc n h).filter _
theorem Tie.perm {n m : Nat} {ts : List (List Nat)} (T : Tie n ts m) : ts.Perm (tiesOf n m) := by
  refine (List.perm_ext_iff_of_nodup T.nd ?_).mpr fun t => ?_
  · refine (ties_asc T.le).imp fun {a b} h e => ?_
    subst e
    rw [lexB_irr] at h
    cases h
  · unfold tiesOf
    rw [List.mem_filter]
    constructor
    · intro h
      obtain ⟨i, j, hi, hj, rfl⟩ := T.mem t h
      exact ⟨mem_pairs.mpr ⟨i, j, hi, hj, rfl⟩, (T.bit i j hi hj).mpr h⟩
    · rintro ⟨h1, h2⟩
      obtain ⟨i, j, hi, hj, rfl⟩ := mem_pairs.mp h1
      exact (T.bit i j hi hj).mp h2
theorem Tie.len {n m : Nat} {ts : List (List Nat)} (T : Tie n ts m) : ts.length ≤ 16 := by
  rw [T.perm.length_eq]
  exact Nat.le_trans (List.length_filter_le _ _) (pairs_len n T.le)
theorem Tie.sort {n m : Nat} {ts : List (List Nat)} (T : Tie n ts m) : sortB lexB ts = tiesOf n m :=
  arr_uniq (r := fun a b => lexB b a = false) ((sortB_perm ts).trans T.perm) (fun a _ b _ h1 h2 => lexB_tot a b h2 h1) (sortB_sorted lexB_tr (fun a b c => lexB_co a b c) lexB_asy ts) ((ties_asc T.le).imp fun {a b} h => lexB_asy a b h)
/-- leads go on -/
def tr1 (m i j k : Nat) : Bool := bif Nat.beq i k then true else bif tb m i j then bif tb m j k then tb m i k else true else true
def trans (n m : Nat) : Bool := (List.range' 0 n).all fun i => (List.range' 0 n).all fun j => (List.range' 0 n).all fun k => tr1 m i j k
/-- one turn of the innermost loop -/
def stp (g : Bool) (z x m y : Nat) : Nat := bif (bif g then false else Nat.beq x y) then m else bif tb m x z then bif tb m z y then sb m x y else m else m
theorem stp_b {g : Bool} {z x m y : Nat} : stp g z x m y = bif (g || !Nat.beq x y) && (tb m x z && tb m z y) then sb m x y else m := by
  unfold stp
  cases g <;> cases Nat.beq x y <;> cases tb m x z <;> cases tb m z y <;> rfl
def cl3 (g : Bool) (s : List Nat) (z m x : Nat) : Nat := s.foldl (stp g z x) m
def cl2 (g : Bool) (s : List Nat) (m z : Nat) : Nat := s.foldl (cl3 g s z) m
def clo (g : Bool) (s : List Nat) (m : Nat) : Nat := s.foldl (cl2 g s) m
/-! ### dicts of leads -/
def kvsT (cw : Crew) (ts : List (List Nat)) : List (Key × V) := ts.map fun t => (Sum.inr (str cw t), V.bl true)
theorem kvsT_len {cw : Crew} {ts : List (List Nat)} : (kvsT cw ts).length = ts.length := List.length_map _
theorem keyT {cw : Crew} {s t : List Nat} (hs : ∀ i ∈ s, i < cw.l.length) (ht : ∀ i ∈ t, i < cw.l.length) : decide ((Sum.inr (str cw s) : Key) = Sum.inr (str cw t)) = (s == t) := by
  rw [Bool.eq_iff_iff, decide_eq_true_eq, beq_iff_eq]
  exact ⟨fun h => (str_inj hs ht).mp (Sum.inr.inj h), fun h => by rw [h]⟩
theorem valT {cw : Crew} {t : List Nat} (ht : ∀ i ∈ t, i < cw.l.length) : ∀ {ts : List (List Nat)}, (∀ s ∈ ts, ∀ i ∈ s, i < cw.l.length) → (valV (kvsT cw ts) (Sum.inr (str cw t))).isSome = ts.contains t
  | [], _ => rfl
  | s :: ts, h => by
    have e := keyT (h s List.mem_cons_self) ht
    have ih := valT ht (ts := ts) fun u hu => h u (List.mem_cons_of_mem _ hu)
    cases hb : s == t with
    | true =>
      rw [hb] at e
      have e2 := eq_of_beq hb
      subst e2
      rw [show kvsT cw (s :: ts) = (Sum.inr (str cw s), V.bl true) :: kvsT cw ts from rfl, valV_pos (p := (Sum.inr (str cw s), V.bl true)) rfl]
      simp
    | false =>
      rw [hb] at e
      rw [show kvsT cw (s :: ts) = (Sum.inr (str cw s), V.bl true) :: kvsT cw ts from rfl, valV_neg (p := (Sum.inr (str cw s), V.bl true)) (of_decide_eq_false e), ih]
      have hb2 : (t == s) = false := by
        cases q : t == s with
        | false => rfl
        | true =>
          rw [eq_of_beq q] at hb
          simp at hb
      rw [List.contains_cons, hb2, Bool.false_or]
theorem anyT {cw : Crew} {t : List Nat} (ht : ∀ i ∈ t, i < cw.l.length) : ∀ {ts : List (List Nat)}, (∀ s ∈ ts, ∀ i ∈ s, i < cw.l.length) → ((kvsT cw ts).any fun kv => decide (kv.1 = (Sum.inr (str cw t) : Key))) = ts.contains t
  | [], _ => rfl
  | s :: ts, h => by
    have ih := anyT ht (ts := ts) fun u hu => h u (List.mem_cons_of_mem _ hu)
    show (decide ((Sum.inr (str cw s) : Key) = Sum.inr (str cw t)) || (kvsT cw ts).any fun kv => decide (kv.1 = (Sum.inr (str cw t) : Key))) = _
    rw [ih, keyT (h s List.mem_cons_self) ht, List.contains_cons]
    refine congrArg (· || ts.contains t) ?_
    rw [Bool.eq_iff_iff, beq_iff_eq, beq_iff_eq]
    exact eq_comm
theorem putT {cw : Crew} {t : List Nat} (ht : ∀ i ∈ t, i < cw.l.length) {ts : List (List Nat)} (h : ∀ s ∈ ts, ∀ i ∈ s, i < cw.l.length) : putK (kvsT cw ts) (Sum.inr (str cw t)) (V.bl true) = kvsT cw (insT ts t) := by
  unfold putK insT
  rw [anyT ht h]
  cases ts.contains t with
  | true =>
    rw [if_pos rfl]
    show _ = kvsT cw ts
    unfold kvsT
    rw [List.map_map]
    refine List.map_congr_left fun s hs => ?_
    show (if (Sum.inr (str cw s) : Key) = Sum.inr (str cw t) then (Sum.inr (str cw s), V.bl true) else (Sum.inr (str cw s), V.bl true)) = _
    split <;> rfl
  | false =>
    rw [if_neg (by decide)]
    show _ = kvsT cw (ts ++ [t])
    unfold kvsT
    rw [List.map_append]
    rfl
theorem Tie.val {n m : Nat} {ts : List (List Nat)} {cw : Crew} (T : Tie n ts m) (hc : cw.l.length = n) : ∀ s ∈ ts, ∀ i ∈ s, i < cw.l.length := fun s hs i hi => by
  obtain ⟨a, b, ha, hb, rfl⟩ := T.mem s hs
  rcases List.mem_cons.mp hi with e | e
  · omega
  · cases List.mem_singleton.mp e
    omega
theorem andB3 (a b c : Bool) : andO (some a) (andO (some b) (some c)) = some (a && (b && c)) := by
  cases a <;> cases b <;> rfl
theorem andB2 (a b : Bool) : andO (some a) (some b) = some (a && b) := by
  cases a <;> rfl
section
variable {X : Cx} {σ : L2.St} {B H B0 H0 : Hp} {O : Own} {a b c d e tg : Expr} {es : List Expr} {pos p apos : Pos} {α β γ δ : Type} {T : Ty α} {U : Ty β} {S : Ty γ} {W : Ty δ} {cw : Crew} {D : Ends} {rest els body : List Stmt} {st : Stmt}
/-- t in d, d a dict of leads -/
theorem cv_inD (i : Nat) {l : Addr} {ts : List (List Nat)} {m : Option (List Nat)} {nm : Str} {np : Pos} (hu : X.A.units + 64 < cLine) (ha : EV X σ B O a (tS cw) m) (hO : (l, HO.dK (kvsT cw ts)) ∈ O) (hv : ∀ s ∈ ts, ∀ i ∈ s, i < cw.l.length)
    (hN : X.N[i]? = some nm := by rfl) (hvi : Vis X.env.scope nm := by first | exact Or.inl rfl | exact Or.inr (Or.inl rfl) | exact Or.inr (Or.inr rfl)) (hs : σ[i]? = some (some (.ref l)) := by rfl) (hd : (nm == ("__debug__" : Str)) = false := by decide) (hcd : (nm == ("__classdict__" : Str)) = false := by decide)
    (hb : behindInMarks .In (.Name nm np) = false := by rfl) : CV X σ B O (.Compare a [.In] [.Name nm np] pos) (m.bind fun t => some (ts.contains t)) := by
  have key : ∀ z, (m.bind fun t => some (ts.contains t)) = some z → ∀ B1 H, Ex B B1 → In B1 O H → ∀ Q : VK, (∀ B' H', Go B1 H B' H' → Q (.bl z) H') → tDIn (wE X a) (tVar i) σ H Q := by
    intro z hz B1 H e I Q q
    cases m with
    | none => cases hz
    | some t =>
      cases hz
      refine ha t rfl B1 H e I _ fun w B2 H2 g2 r2 => ?_
      have ho := ((I.go g2).ow _ hO).1
      obtain ⟨rfl, hvt, _⟩ := r2
      refine ⟨_, hs, l, _, rfl, DGet.k (k := Sum.inr (str cw t)) ho, ?_⟩
      rw [valT hvt hv]
      exact q B2 H2 g2
  exact ⟨fun z hz B1 H e I Q q => of_e (pe_cmp (pc_din (by omega) p_e (pe_var hN hvi hd hcd)) hb) (key z hz B1 H e I Q fun B' H' g => q _ B' H' g rfl),
    fun z hz B1 H e I Q q => of_t (pt_cmp (pc_din (by omega) p_e (pe_var hN hvi hd hcd)) hb) (key z hz B1 H e I (fun x H' => ∃ k, x = .bl k ∧ Q k H') fun B' H' g => ⟨z, rfl, q B' H' g⟩)⟩
/-- d[t] = True -/
theorem ss_putT (i : Nat) {l : Addr} {ts : List (List Nat)} {m : Option (List Nat)} {t : List Nat} {nm : Str} {np sp_ cp : Pos} {cj : Nat} (hu : X.A.units + 64 < cLine) (hm : m = some t) (hb : EV X σ B O b (tS cw) m) (I : In B O H) (hO : (l, HO.dK (kvsT cw ts)) ∈ O) (hv : ∀ s ∈ ts, ∀ i ∈ s, i < cw.l.length) (hl : ts.length ≤ 40000)
    (k : ∀ B1 H1, Go B H B1 H1 → wSs X rest D σ (upd H1 l (.dK (kvsT cw (insT ts t))))) (hN : X.N[i]? = some nm := by rfl) (hvi : Vis X.env.scope nm := by first | exact Or.inl rfl | exact Or.inr (Or.inl rfl) | exact Or.inr (Or.inr rfl)) (hs : σ[i]? = some (some (.ref l)) := by rfl) (hd : (nm == ("__debug__" : Str)) = false := by decide) (hcd : (nm == ("__classdict__" : Str)) = false := by decide)
    (hsw : swapsWith (.Constant (.bool true) cj cp) (some (.Subscript (.Name nm np) b sp_)) pos.line X.env = pure false := by rfl) : wSs X (.Assign [.Subscript (.Name nm np) b sp_] (.Constant (.bool true) cj cp) pos :: rest) D σ H := by
  refine ss_cons (of_s (ps_dput (by omega) (pe_var hN hvi hd hcd) p_e pe_bl hsw) ?_)
  refine ⟨_, hs, ?_⟩
  refine hb t hm B H (Ex.refl _) I _ fun w B2 H2 g2 r2 => ?_
  have ho := ((I.go g2).ow _ hO).1
  obtain ⟨rfl, hvt, _⟩ := r2
  refine ⟨l, _, rfl, DPut.k (k := Sum.inr (str cw t)) ho (by rw [kvsT_len]; exact Nat.lt_of_le_of_lt hl (by decide)), ?_⟩
  rw [putT hvt hv]
  exact k B2 H2 g2
/-- a call of _law_of -/
theorem of_of {k : Nat} {ps : List Str} (C : Cal X.prog X.w X.K X.mg X.base "_law_of" k ps (SpOf cw)) (hr : Room k X.A) {x : Addr} {s : List Nat} (i j : Nat) {nb nc : Str} {pb pc : Pos} {Q : VK} (hv : ∀ i ∈ s, i < cw.l.length) (h1 : 1 ≤ s.length) (h2 : s.length ≤ 100) (br : Br x B H)
    (hq : ∀ c B' H', c ∈ s → Gz x B H B' H' → Br x B' H' → Q (.str (str cw [c])) H') (hN : X.N[i]? = some nb := by rfl) (hvi : Vis X.env.scope nb := by first | exact Or.inl rfl | exact Or.inr (Or.inl rfl) | exact Or.inr (Or.inr rfl)) (hs : σ[i]? = some (some (.ref x)) := by rfl)
    (hN2 : X.N[j]? = some nc := by rfl) (hvj : Vis X.env.scope nc := by first | exact Or.inl rfl | exact Or.inr (Or.inl rfl) | exact Or.inr (Or.inr rfl)) (hs2 : σ[j]? = some (some (.str (str cw s))) := by rfl)
    (hd : (nb == ("__debug__" : Str)) = false := by decide) (hcd : (nb == ("__classdict__" : Str)) = false := by decide) (hd2 : (nc == ("__debug__" : Str)) = false := by decide) (hcd2 : (nc == ("__classdict__" : Str)) = false := by decide) (hg : Gl X "_law_of" := by rfl)
    (he : starEach [.Name nb pb, .Name nc pc] X.env = (false, eval (.Name nb pb) X.env) :: starEach [.Name nc pc] X.env := by rfl) (he2 : starEach [.Name nc pc] X.env = (false, eval (.Name nc pc) X.env) :: starEach [] X.env := by rfl) (hpl : (backTo pos (starEach [.Name nc pc] X.env)).any (·.1) = false := by rfl) :
    wE X (.Call (.Name "_law_of" p) [.Name nb pb, .Name nc pc] [] pos) σ H Q := by
  refine call_of C hr hg (by decide) he hpl ?_
  refine of_a (pa_cons (pe_var hN hvi hd hcd) (pa_cons (pe_var hN2 hvj hd2 hcd2) pa_nil he2) he) ?_
  exact ⟨_, hs, _, hs2, x, s, B, rfl, hv, h1, h2, br, hq⟩
end
/-- drawn leads that go on -/
def SpDrawn (cw : Crew) : Sp := fun vs H Q _ => ∃ (x : Addr) (n many : Nat) (B : Hp), vs = [.ref x, .str (str cw (List.range' 0 n)), .int (many : Int)] ∧ cw.l.length = n ∧ 1 ≤ n ∧ n ≤ 4 ∧ many ≤ 100 ∧ Br x B H ∧
  ∀ (d : Addr) (ts : List (List Nat)) (m m0 : Nat) (B' H' : Hp), H d = none → B' d = none → H' d = some (.dK (kvsT cw ts)) → Tie n ts m → Off n m0 → m = clo false (List.range' 0 n) m0 → (many = 0 → m0 = 0) → Gz x B H B' H' → Br x B' H' → Q (.ref d) H'
end Ly
/-! sorted leads; a comprehension that draws -/
namespace Ly
open PySem PySem.Spec PyProof.Rows L2 TL
theorem Gz.seal {x D : Addr} {B H B' H' : Hp} {u : HO} (g : Gz x B H B' H') (h0 : H D = none) (nd : B' D = none) (hd : H' D = some u) : Gz x B H (upd B' D u) H' :=
  ⟨g.eb.trans (Ex.new nd), g.kh, g.bh.put hd, fun a o h => by
    by_cases z : a = D
    · subst z
      exact .inr h0
    · rw [upd_ne z] at h
      exact g.fr a o h⟩
theorem Br.seal {x D : Addr} {B H : Hp} {u : HO} (b : Br x B H) (ne : D ≠ x) (hd : H D = Option.some u) : Br x (upd B D u) H := by
  obtain ⟨a, b', c, hb, h⟩ := b.at_
  exact ⟨b.ex.put hd, by rw [upd_ne ne.symm]; exact b.nb, a, b', c, hb, h⟩
theorem tie_keys {cw : Crew} {ts : List (List Nat)} : (kvsT cw ts).map (·.1) = (ts.map (str cw)).map Sum.inr := by
  unfold kvsT
  rw [List.map_map, List.map_map]
  rfl
theorem ties_ok {n m : Nat} {cw : Crew} (h4 : n ≤ 4) (hc : cw.l.length = n) : ∀ s ∈ tiesOf n m, (∀ i ∈ s, i < cw.l.length) ∧ s.length ≤ 100 := fun s hs => by
  obtain ⟨i, j, hi, hj, rfl⟩ := mem_pairs.mp (List.mem_filter.mp hs).1
  refine ⟨fun k hk => ?_, by show 2 ≤ 100; decide⟩
  rcases List.mem_cons.mp hk with e | e
  · omega
  · cases List.mem_singleton.mp e
    omega
theorem ties_len {n m : Nat} (h4 : n ≤ 4) : (tiesOf n m).length ≤ 16 := Nat.le_trans (List.length_filter_le _ _) (pairs_len n h4)
/-- sorted(d) -/
theorem srt_D {cw : Crew} {H : Hp} {d : Addr} {n m : Nat} {ts : List (List Nat)} {Q : VK} (hd : H d = some (.dK (kvsT cw ts))) (T : Tie n ts m) (hc : cw.l.length = n) (q : ∀ p, H p = none → Q (.ref p) (upd H p (.lst (((tiesOf n m).map (str cw)).map V.str)))) :
    ∃ (a : Addr) (kvs : List (Key × V)) (ks : List Str), [V.ref d] = [.ref a] ∧ Rd H a (.dK kvs) ∧ kvs.map (·.1) = ks.map Sum.inr ∧ ks.length < 64 ∧ ∀ ys p, ys.Perm ks → sortedS ys = true → H p = none → Q (.ref p) (upd H p (.lst (ys.map V.str))) :=
  ⟨d, _, ts.map (str cw), rfl, .inl hd, tie_keys, by rw [List.length_map]; have := T.len; omega, fun ys p pm hs np => by
    rw [sort_is (T.val hc) pm hs, T.sort]
    exact q p np⟩
section
variable {X : Cx} {σ : L2.St} {B H B0 H0 : Hp} {O : Own} {a b c d e tg : Expr} {es : List Expr} {pos p apos : Pos} {α β γ δ : Type} {T : Ty α} {U : Ty β} {S : Ty γ} {W : Ty δ} {cw : Crew} {D : Ends} {rest els body : List Stmt} {st : Stmt}
theorem ev_sortD (i : Nat) {dd : Addr} {n m : Nat} {ts : List (List Nat)} {nm : Str} {np : Pos} (hb : Bt X.mg) (hcalm : X.calm = true) (hO : (dd, HO.dK (kvsT cw ts)) ∈ O) (T : Tie n ts m) (hc : cw.l.length = n)
    (hN : X.N[i]? = some nm := by rfl) (hvi : Vis X.env.scope nm := by first | exact Or.inl rfl | exact Or.inr (Or.inl rfl) | exact Or.inr (Or.inr rfl)) (hs : σ[i]? = some (some (.ref dd)) := by rfl) (hd : (nm == ("__debug__" : Str)) = false := by decide) (hcd : (nm == ("__classdict__" : Str)) = false := by decide)
    (hg : Gl X "sorted" := by rfl) (he : starEach [.Name nm np] X.env = (false, eval (.Name nm np) X.env) :: starEach [] X.env := by rfl) : EV X σ B O (.Call (.Name "sorted" p) [.Name nm np] [] pos) (tL (tS cw)) (some (tiesOf n m)) := by
  intro z hz B1 H e I Q q
  cases hz
  refine builtin1 (call_sortedD hcalm) hg hb.sorted PyProof.Rows.boot_sorted (by decide) (by decide) he (ge_ref i hN hvi hs hd hcd) e I fun v B2 H2 g2 r => ?_
  subst r
  refine srt_D ((I.go g2).ow _ hO).1 T hc fun p np => ?_
  exact q _ _ _ (g2.trans (Go.lay g2.bh np)) ⟨p, _, rfl, upd_same, reps_strs (ties_ok T.le hc), by rw [List.length_map, List.length_map]; exact Nat.le_trans (ties_len T.le) (by decide)⟩
/-- a comprehension whose test draws -/
theorem lc_tap {x : Addr} {scope : Scope} {elt iter cnd : Expr} {j : Nat} {xs : List Nat} {f : Nat → Option (List Nat)} {mx : Option (List Nat)} {Q : VK} (hm : mx = some xs) (hi : IV X σ B [] tg iter tN mx) (br : Br x B H)
    (hc : ∀ v k B2 H2, Ex B B2 → tN.rep B2 v k → Br x B2 H2 → ∀ Q : Bool → Hp → Prop, (∀ b B' H', Gz x B2 H2 B' H' → Br x B' H' → Q b H') → ∀ s H0 C cl fp, wT (bl X scope s H0 C cl fp) cnd ((wipe σ [j]).set j (some v)) H2 Q)
    (he : ∀ v k B2, Ex B B2 → tN.rep B2 v k → ∀ s H C cl fp, EV (bl X scope s H C cl fp) ((wipe σ [j]).set j (some v)) B2 [] elt (tS cw) (f k)) (hf : ∀ k ∈ xs, ∃ t, f k = some t)
    (q : ∀ D ps B' H', Gz x B H B' H' → Br x B' H' → (tL (tS cw)).rep B' (.ref D) ps → (∀ p ∈ ps, ∃ k ∈ xs, f k = some p) → Q (.ref D) H') :
    tLc (wI X tg iter) (gName j) (wTb X scope [cnd]) (wEb X scope elt) [j] σ H Q := by
  refine hi xs hm B H (Ex.refl _) ⟨br.ex, fun _ hp => nomatch hp⟩ _ fun J B1 H1 vs g1 sr r1 hl => ?_
  intro D hD
  obtain ⟨G, w, hG⟩ := sr.ex
  have br1 := br.go g1
  have nD : B1 D = none := g1.bh.free hD
  have hDx : D ≠ x := fun e => by
    subst e
    obtain ⟨o, ho⟩ := br1.some
    rw [hD] at ho
    cases ho
  refine lc_it w (Qd := Q (.ref D)) (fun i H' => ∃ B' acc ps, Gz x B1 H1 B' H' ∧ Br x B' H' ∧ B' D = none ∧ H' D = some (.lst acc) ∧ Reps (tS cw) B' acc ps ∧ (∀ p ∈ ps, ∃ k ∈ xs, f k = some p) ∧ acc.length ≤ i) ?_ ?_ ?_ ?_
  · exact ⟨B1, [], [], (Gz.refl g1.bh).mut hD nD, br1.mut nD hDx, nD, upd_same, .nil, (fun _ hp => nomatch hp), Nat.le_refl _⟩
  · intro i H' hi ⟨B', acc, ps, g, b, _⟩
    exact hG H' (g.eb.trans b.ex) fun p hp => nomatch hp
  · intro i v H' H'' hin ⟨B', acc, ps, g, b, nd, hd, rp, hp, hlen⟩ ⟨e1, hx⟩
    subst e1
    obtain ⟨k, hk, rk⟩ := r1.get hx
    have mk : k ∈ xs := List.mem_of_getElem? hk
    have rk' := tN.mono g.eb rk
    refine ⟨wipe1, ?_⟩
    intro s H0 C cl fp
    refine hc v k B' _ (g1.eb.trans g.eb) rk' b _ (fun bb B2 H2 g2 b2 => ?_) s H0 C cl fp
    have nd2 := g2.keep nd hd
    have hd2 := g2.kh _ _ hDx hd
    cases bb with
    | true =>
      refine iteT ?_
      intro s H0 C cl fp
      obtain ⟨t, ht⟩ := hf k mk
      refine he v k B2 ((g1.eb.trans g.eb).trans g2.eb) (tN.mono g2.eb rk') s H0 C cl fp t ht B2 H2 (Ex.refl _) ⟨b2.ex, fun _ hp => nomatch hp⟩ _ fun u B3 H3 g3 r3 => ?_
      have b3 := b2.go g3
      have nd3 := (Gz.of (x := x) g3).keep nd2 hd2
      refine ⟨acc, g3.eh _ _ hd2, Nat.lt_of_le_of_lt hlen (Nat.lt_of_lt_of_le hin (sz_of hl)), B3, acc ++ [u], ps ++ [t], ((g.trans g2 b2.nb).trans (Gz.of g3) b3.nb).mut hD nd3, b3.mut nd3 hDx, nd3, upd_same, (rp.mono (g2.eb.trans g3.eb)).app (.cons r3 .nil), fun p hp' => ?_, ?_⟩
      · rcases List.mem_append.mp hp' with z | z
        · exact hp p z
        · cases List.mem_singleton.mp z
          exact ⟨k, mk, ht⟩
      · rw [List.length_append]
        exact Nat.succ_le_succ hlen
    | false =>
      refine iteF ?_
      exact ⟨B2, acc, ps, g.trans g2 b2.nb, b2, nd2, hd2, rp.mono g2.eb, hp, Nat.le_succ_of_le hlen⟩
  · intro H' ⟨B', acc, ps, g, b, nd, hd, rp, hp, hlen⟩
    have h0 : H D = none := g1.eh.free hD
    exact q D ps (upd B' D (.lst acc)) H' (((Gz.of g1).trans g b.nb).seal h0 nd hd) (b.seal hDx hd) ⟨D, acc, rfl, upd_same, rp.mono (Ex.new nd), Nat.le_trans hlen hl⟩ hp
end
def SpRight : Sp := fun vs H Q _ => ∃ (x : Addr) (B : Hp), vs = [.ref x] ∧ Br x B H ∧ ∀ (B' H' : Hp), Gz x B H B' H' → Br x B' H' → Q (.bl true) H'
end Ly
namespace Cw
open PySem PySem.Spec PyProof.Rows L2 Ly
section
variable {P : Program} {w : World} {K : PySem.W.Frag} {mg : Str → Option Value} {base : Heap} {cw : Crew} {C : Addr}
theorem sc_is_letter : FnScope ["value"] ["value"] (defScope (topS 14)) := ⟨rfl, rfl, rfl, by decide +kernel, rfl, by decide +kernel, by decide +kernel⟩
def m_is_letter (x_value : Nat) : Option (Bool) := some true
abbrev K_is_letter (P : Program) (w : World) (K : PySem.W.Frag) (mg : Str → Option Value) (base : Heap) (cw : Crew) (C : Addr) : Prop := Cal P w K mg base "is_letter" 1 ["value"] (Sp1 (tC cw) tB m_is_letter)
theorem letters_all : ∀ c : Nat, 97 ≤ c → c ≤ 122 → decide (c ∈ ("abcdefghijklmnopqrstuvwxyz" : Str).cps.toList) = true := by
  have h : ((List.range 26).all fun i => decide (97 + i ∈ ("abcdefghijklmnopqrstuvwxyz" : Str).cps.toList)) = true := by decide +kernel
  intro c h1 h2
  have := List.all_eq_true.mp h (c - 97) (List.mem_range.mpr (by omega))
  rwa [show 97 + (c - 97) = c by omega] at this
theorem cv_letters {X : Cx} {σ : L2.St} {B : Hp} {O : Own} {a : Expr} {m : Option Nat} {p pos : Pos} (lt : ∃ t, X.mg "LETTERS" = some (.str "abcdefghijklmnopqrstuvwxyz" t)) (ha : EV X σ B O a (tC cw) m) (hg : Gl X "LETTERS" := by rfl) : CV X σ B O (.Compare a [.In] [.Name "LETTERS" p] pos) (m.bind fun _ => some true) := by
  obtain ⟨t, hm⟩ := lt
  refine cv_of op_in_sign rfl (pe_glob (v := .str "abcdefghijklmnopqrstuvwxyz") hg hm ⟨t, rfl⟩ (by decide)) fun z hz B1 H e I Q q => ?_
  cases m with
  | none => cases hz
  | some x =>
    cases hz
    refine ha x rfl B1 H e I _ fun v B2 H2 g2 r2 => ?_
    refine ⟨cw.l.getD x 0, _, r2.1, rfl, ?_⟩
    have hl := r2.2
    have e1 : cw.l.getD x 0 = cw.l[x] := by rw [List.getD_eq_getElem?_getD, List.getElem?_eq_getElem hl]; rfl
    have hb := cw.low _ (List.getElem_mem hl)
    rw [letters_all _ (by rw [e1]; exact hb.1) (by rw [e1]; exact hb.2)]
    exact q B2 H2 g2
theorem cal_is_letter (d : Df K mg "is_letter" (topS 14) ["value"]) (bt : Bt mg) (lt : ∃ t, mg "LETTERS" = some (.str "abcdefghijklmnopqrstuvwxyz" t)) : K_is_letter P w K mg base cw C := by
  obtain ⟨f, fd, F, mgf, bi⟩ := d.ex
  refine ⟨⟨f, fd, ?_, mgf, F.kp, bi⟩⟩
  refine F.ok sc_is_letter (fun vs H Q E h => ?_) (fun cdv A outer s H0 vs Q E hr h => ⟨wSs _ _, p_ss, ?_⟩)
  · obtain ⟨v_value, x_value, B, r, rfl, _⟩ := h
    rfl
  · obtain ⟨v_value, x_value, B0, r, rfl, r_value, eB, hm, q⟩ := h
    have I0 : In B0 [] H0 := ⟨eB, fun _ hp => nomatch hp⟩
    refine ss_ret (z := r) ?_ (ev_andV (ev_isiC bt (ev_var 0 r_value)) (ev_andV (ev_eqN (ev_lenS bt (ev_toS (ev_var 0 r_value))) ev_int).1 (ev_one (cv_letters lt (ev_var 0 r_value)).1))) I0 fun v9 B9 H9 g9 r9 => q v9 B9 H9 g9 r9
    exact hm
theorem sc_mask_of : FnScope ["things", "lot", "k"] ["things", "lot"] (defScope (topS 21)) := ⟨rfl, rfl, rfl, by decide +kernel, rfl, by decide +kernel, by decide +kernel⟩
def m_mask_of (x_things : List Nat) (x_lot : List Nat) : Option (Nat) :=
  (((((((((some x_things)).bind fun l => some l.length)).bind rng1)).bind fun xs => compM (fun x_k => (op2 (fun x y => some (y.contains x)) (op2 (fun xs i => xs[i]?) (some x_things) (some x_k)) (some x_lot))) (fun x_k => (op2 fShl (some 1) (some x_k))) xs)).bind fun l => some (l.sum))
abbrev K_mask_of (P : Program) (w : World) (K : PySem.W.Frag) (mg : Str → Option Value) (base : Heap) (cw : Crew) (C : Addr) : Prop := Cal P w K mg base "mask_of" 1 ["things", "lot"] (Sp2 (tS cw) (tS cw) tN m_mask_of)
theorem cal_mask_of (d : Df K mg "mask_of" (topS 21) ["things", "lot"]) (bt : Bt mg) : K_mask_of P w K mg base cw C := by
  obtain ⟨f, fd, F, mgf, bi⟩ := d.ex
  refine ⟨⟨f, fd, ?_, mgf, F.kp, bi⟩⟩
  refine F.ok sc_mask_of (fun vs H Q E h => ?_) (fun cdv A outer s H0 vs Q E hr h => ⟨wSs _ _, p_ss, ?_⟩)
  · obtain ⟨v_things, v_lot, x_things, x_lot, B, r, rfl, _⟩ := h
    rfl
  · obtain ⟨v_things, v_lot, x_things, x_lot, B0, r, rfl, r_things, r_lot, eB, hm, q⟩ := h
    have I0 : In B0 [] H0 := ⟨eB, fun _ hp => nomatch hp⟩
    have G0 : Go B0 H0 B0 H0 := Go.refl eB
    exact ss_ret hm (ev_sum bt rfl (es_of (ev_lc (x := "k") rfl sc_mask_of.nd (blkOk_by (by kernel_rfl)) (iv_rng1 bt (ev_lenS bt (ev_var 0 r_things))) (fun _ _ _ _ _ => pg_name (i := 2) sc_mask_of.nd rfl (by first | exact Or.inl rfl | exact Or.inr rfl)) _ _ (fun x_k v_k B1 e1 r_k => by have r_lot := (tS cw).mono e1 r_lot; have r_things := (tS cw).mono e1 r_things; exact fun _ _ _ _ _ => ((ev_inCS (ev_ixS (ev_var 0 r_things) (ev_var 2 r_k)) (ev_var 1 r_lot))).2) (fun x_k v_k B1 e1 r_k _ => by have r_lot := (tS cw).mono e1 r_lot; have r_things := (tS cw).mono e1 r_things; exact fun _ _ _ _ _ => (ev_shl ev_int (ev_var 2 r_k)))))) I0 fun v9 B9 H9 g9 r9 => q v9 B9 H9 (G0.trans g9) r9

theorem sc_lot_of : FnScope ["things", "mask", "k"] ["things", "mask"] (defScope (topS 22)) := ⟨rfl, rfl, rfl, by decide +kernel, rfl, by decide +kernel, by decide +kernel⟩
def m_lot_of (x_things : List Nat) (x_mask : Nat) : Option (List Nat) :=
  (((((((((some x_things)).bind fun l => some l.length)).bind rng1)).bind fun xs => compM (fun x_k => (op2 (fun x y => some (Nat.beq x y)) (op2 fAnd (op2 fShr (some x_mask) (some x_k)) (some 1)) (some 1))) (fun x_k => (op2 (fun xs i => xs[i]?) (some x_things) (some x_k))) xs)).bind fJoin)
abbrev K_lot_of (P : Program) (w : World) (K : PySem.W.Frag) (mg : Str → Option Value) (base : Heap) (cw : Crew) (C : Addr) : Prop := Cal P w K mg base "lot_of" 1 ["things", "mask"] (Sp2 (tS cw) tN (tS cw) m_lot_of)
theorem cal_lot_of (d : Df K mg "lot_of" (topS 22) ["things", "mask"]) (bt : Bt mg) : K_lot_of P w K mg base cw C := by
  obtain ⟨f, fd, F, mgf, bi⟩ := d.ex
  refine ⟨⟨f, fd, ?_, mgf, F.kp, bi⟩⟩
  refine F.ok sc_lot_of (fun vs H Q E h => ?_) (fun cdv A outer s H0 vs Q E hr h => ⟨wSs _ _, p_ss, ?_⟩)
  · obtain ⟨v_things, v_mask, x_things, x_mask, B, r, rfl, _⟩ := h
    rfl
  · obtain ⟨v_things, v_mask, x_things, x_mask, B0, r, rfl, r_things, r_mask, eB, hm, q⟩ := h
    have I0 : In B0 [] H0 := ⟨eB, fun _ hp => nomatch hp⟩
    have G0 : Go B0 H0 B0 H0 := Go.refl eB
    exact ss_ret hm (ev_join (es_of (ev_lc (x := "k") rfl sc_lot_of.nd (blkOk_by (by kernel_rfl)) (iv_rng1 bt (ev_lenS bt (ev_var 0 r_things))) (fun _ _ _ _ _ => pg_name (i := 2) sc_lot_of.nd rfl (by first | exact Or.inl rfl | exact Or.inr rfl)) _ _ (fun x_k v_k B1 e1 r_k => by have r_things := (tS cw).mono e1 r_things; have r_mask := tN.mono e1 r_mask; exact fun _ _ _ _ _ => ((ev_eqN (ev_and (ev_shr (ev_var 1 r_mask) (ev_var 2 r_k)) ev_int) ev_int)).2) (fun x_k v_k B1 e1 r_k _ => by have r_things := (tS cw).mono e1 r_things; have r_mask := tN.mono e1 r_mask; exact fun _ _ _ _ _ => (ev_ixS (ev_var 0 r_things) (ev_var 2 r_k)))))) I0 fun v9 B9 H9 g9 r9 => q v9 B9 H9 (G0.trans g9) r9

theorem sc_whole_of : FnScope ["things"] ["things"] (defScope (topS 23)) := ⟨rfl, rfl, rfl, by decide +kernel, rfl, by decide +kernel, by decide +kernel⟩
def m_whole_of (x_things : List Nat) : Option (Nat) :=
  (op2 fSub (op2 fShl (some 1) (((some x_things)).bind fun l => some l.length)) (some 1))
abbrev K_whole_of (P : Program) (w : World) (K : PySem.W.Frag) (mg : Str → Option Value) (base : Heap) (cw : Crew) (C : Addr) : Prop := Cal P w K mg base "whole_of" 1 ["things"] (Sp1 (tS cw) tN m_whole_of)
theorem cal_whole_of (d : Df K mg "whole_of" (topS 23) ["things"]) (bt : Bt mg) : K_whole_of P w K mg base cw C := by
  obtain ⟨f, fd, F, mgf, bi⟩ := d.ex
  refine ⟨⟨f, fd, ?_, mgf, F.kp, bi⟩⟩
  refine F.ok sc_whole_of (fun vs H Q E h => ?_) (fun cdv A outer s H0 vs Q E hr h => ⟨wSs _ _, p_ss, ?_⟩)
  · obtain ⟨v_things, x_things, B, r, rfl, _⟩ := h
    rfl
  · obtain ⟨v_things, x_things, B0, r, rfl, r_things, eB, hm, q⟩ := h
    have I0 : In B0 [] H0 := ⟨eB, fun _ hp => nomatch hp⟩
    have G0 : Go B0 H0 B0 H0 := Go.refl eB
    exact ss_ret hm (ev_sub (ev_shl ev_int (ev_lenS bt (ev_var 0 r_things))) ev_int) I0 fun v9 B9 H9 g9 r9 => q v9 B9 H9 (G0.trans g9) r9

theorem sc_is_inside : FnScope ["one", "other"] ["one", "other"] (defScope (topS 26)) := ⟨rfl, rfl, rfl, by decide +kernel, rfl, by decide +kernel, by decide +kernel⟩
def m_is_inside (x_one : Nat) (x_other : Nat) : Option (Bool) :=
  (op2 (fun x y => some (Nat.beq x y)) (op2 fAnd (some x_one) (some x_other)) (some x_one))
abbrev K_is_inside (P : Program) (w : World) (K : PySem.W.Frag) (mg : Str → Option Value) (base : Heap) (cw : Crew) (C : Addr) : Prop := Cal P w K mg base "is_inside" 1 ["one", "other"] (Sp2 tN tN tB m_is_inside)
theorem cal_is_inside (d : Df K mg "is_inside" (topS 26) ["one", "other"]) (bt : Bt mg) : K_is_inside P w K mg base cw C := by
  obtain ⟨f, fd, F, mgf, bi⟩ := d.ex
  refine ⟨⟨f, fd, ?_, mgf, F.kp, bi⟩⟩
  refine F.ok sc_is_inside (fun vs H Q E h => ?_) (fun cdv A outer s H0 vs Q E hr h => ⟨wSs _ _, p_ss, ?_⟩)
  · obtain ⟨v_one, v_other, x_one, x_other, B, r, rfl, _⟩ := h
    rfl
  · obtain ⟨v_one, v_other, x_one, x_other, B0, r, rfl, r_one, r_other, eB, hm, q⟩ := h
    have I0 : In B0 [] H0 := ⟨eB, fun _ hp => nomatch hp⟩
    have G0 : Go B0 H0 B0 H0 := Go.refl eB
    exact ss_ret hm ((ev_eqN (ev_and (ev_var 0 r_one) (ev_var 1 r_other)) (ev_var 0 r_one))).1 I0 fun v9 B9 H9 g9 r9 => q v9 B9 H9 (G0.trans g9) r9

theorem sc_masks_of : FnScope ["things", "family", "lot"] ["things", "family"] (defScope (topS 24)) := ⟨rfl, rfl, rfl, by decide +kernel, rfl, by decide +kernel, by decide +kernel⟩
def m_masks_of (x_things : List Nat) (x_family : List (List Nat)) : Option (List (Nat)) :=
  (((some x_family)).bind fun xs => compM (fun x_lot => (some true)) (fun x_lot => (op2 m_mask_of (some x_things) (some x_lot))) xs)
abbrev K_masks_of (P : Program) (w : World) (K : PySem.W.Frag) (mg : Str → Option Value) (base : Heap) (cw : Crew) (C : Addr) : Prop := Cal P w K mg base "masks_of" 2 ["things", "family"] (Sp2 (tS cw) (tT (tS cw)) (tL tN) m_masks_of)
theorem cal_masks_of (d : Df K mg "masks_of" (topS 24) ["things", "family"]) (bt : Bt mg) (c_mask_of : K_mask_of P w K mg base cw C) : K_masks_of P w K mg base cw C := by
  obtain ⟨f, fd, F, mgf, bi⟩ := d.ex
  refine ⟨⟨f, fd, ?_, mgf, F.kp, bi⟩⟩
  refine F.ok sc_masks_of (fun vs H Q E h => ?_) (fun cdv A outer s H0 vs Q E hr h => ⟨wSs _ _, p_ss, ?_⟩)
  · obtain ⟨v_things, v_family, x_things, x_family, B, r, rfl, _⟩ := h
    rfl
  · obtain ⟨v_things, v_family, x_things, x_family, B0, r, rfl, r_things, r_family, eB, hm, q⟩ := h
    have I0 : In B0 [] H0 := ⟨eB, fun _ hp => nomatch hp⟩
    have G0 : Go B0 H0 B0 H0 := Go.refl eB
    exact ss_ret hm (ev_lc (x := "lot") rfl sc_masks_of.nd (blkOk_by (by kernel_rfl)) (iv_T (ev_var 1 r_family)) (fun _ _ _ _ _ => pg_name (i := 2) sc_masks_of.nd rfl (by first | exact Or.inl rfl | exact Or.inr rfl)) _ _ (fun x_lot v_lot B1 e1 r_lot => rfl) (fun x_lot v_lot B1 e1 r_lot _ => by have r_things := (tS cw).mono e1 r_things; exact fun _ _ _ _ _ => (ev_call2 c_mask_of (hr.mono (by decide)) (ev_var 0 r_things) (ev_var 2 r_lot)))) I0 fun v9 B9 H9 g9 r9 => q v9 B9 H9 (G0.trans g9) r9

theorem sc_is_rising : FnScope ["value", "sign", "k"] ["value"] (defScope (topS 15)) := ⟨rfl, rfl, rfl, by decide +kernel, rfl, by decide +kernel, by decide +kernel⟩
def m_is_rising (x_value : List Nat) : Option (Bool) :=
  ((orO (notO (((some x_value)).bind fun _ => some true)) (notO (((((some x_value)).bind fun xs => compM (fun x_sign => (some true)) (fun x_sign => (((some x_sign)).bind m_is_letter)) xs)).bind fun l => some (l.all id)))).bind fun b2 => bif b2 then (some false) else (((((op2 rngM (((some x_value)).bind fun l => some l.length) (some 1))).bind fun xs => compM (fun x_k => (some true)) (fun x_k => (op2 (fun x y => some (Nat.blt x y)) (op2 (fun xs i => xs[i]?) (some x_value) (some x_k)) (op2 (fun xs i => xs[i]?) (some x_value) (op2 fAdd (some x_k) (some 1))))) xs)).bind fun l => some (l.all id)))
abbrev K_is_rising (P : Program) (w : World) (K : PySem.W.Frag) (mg : Str → Option Value) (base : Heap) (cw : Crew) (C : Addr) : Prop := Cal P w K mg base "is_rising" 2 ["value"] (Sp1 (tS cw) tB m_is_rising)
theorem cal_is_rising (d : Df K mg "is_rising" (topS 15) ["value"]) (bt : Bt mg) (c_is_letter : K_is_letter P w K mg base cw C) : K_is_rising P w K mg base cw C := by
  obtain ⟨f, fd, F, mgf, bi⟩ := d.ex
  refine ⟨⟨f, fd, ?_, mgf, F.kp, bi⟩⟩
  refine F.ok sc_is_rising (fun vs H Q E h => ?_) (fun cdv A outer s H0 vs Q E hr h => ⟨wSs _ _, p_ss, ?_⟩)
  · obtain ⟨v_value, x_value, B, r, rfl, _⟩ := h
    rfl
  · obtain ⟨v_value, x_value, B0, r, rfl, r_value, eB, hm, q⟩ := h
    have I0 : In B0 [] H0 := ⟨eB, fun _ hp => nomatch hp⟩
    have G0 : Go B0 H0 B0 H0 := Go.refl eB
    obtain ⟨b2, hb2, hm⟩ := bind_some hm
    refine ss_if hb2 (tv_w (wv_or (tv_not (tv_of (ev_isiS bt (ev_var 0 r_value)))) (wv_or1 (tv_not (tv_of (ev_all bt rfl (es_of (ev_lc (x := "sign") rfl sc_is_rising.nd (blkOk_by (by kernel_rfl)) (iv_S (ev_var 0 r_value)) (fun _ _ _ _ _ => pg_name (i := 1) sc_is_rising.nd rfl (by first | exact Or.inl rfl | exact Or.inr rfl)) _ _ (fun x_sign v_sign B1 e1 r_sign => rfl) (fun x_sign v_sign B1 e1 r_sign _ => fun _ _ _ _ _ => (ev_call1 c_is_letter (hr.mono (by decide)) (ev_var 1 r_sign))))))))))) I0 (fun hz B2 H2 g2 => ?_) (fun hz B2 H2 g2 => ?_)
    · replace hm := ifT hz hm
      have r_value := (tS cw).mono g2.eb r_value
      have I2 := I0.go g2
      have G2 := G0.trans g2
      exact ss_ret hm ev_bool I2 fun v9 B9 H9 g9 r9 => q v9 B9 H9 (G2.trans g9) r9
    · replace hm := ifF hz hm
      have r_value := (tS cw).mono g2.eb r_value
      have I2 := I0.go g2
      have G2 := G0.trans g2
      refine ss_nil ?_
      exact ss_ret hm (ev_all bt rfl (es_of (ev_lc (x := "k") rfl sc_is_rising.nd (blkOk_by (by kernel_rfl)) (iv_rngM bt (ev_lenS bt (ev_var 0 r_value)) ev_int) (fun _ _ _ _ _ => pg_name (i := 2) sc_is_rising.nd rfl (by first | exact Or.inl rfl | exact Or.inr rfl)) _ _ (fun x_k v_k B3 e3 r_k => rfl) (fun x_k v_k B3 e3 r_k _ => by have r_value := (tS cw).mono e3 r_value; exact fun _ _ _ _ _ => ((ev_ltC (ev_ixS (ev_var 0 r_value) (ev_var 2 r_k)) (ev_ixS (ev_var 0 r_value) (ev_add (ev_var 2 r_k) ev_int)))).1)))) I2 fun v9 B9 H9 g9 r9 => q v9 B9 H9 (G2.trans g9) r9

theorem sc_are_things : FnScope ["value"] ["value"] (defScope (topS 16)) := ⟨rfl, rfl, rfl, by decide +kernel, rfl, by decide +kernel, by decide +kernel⟩
def m_are_things (x_value : List Nat) : Option (Bool) :=
  (andO (((some x_value)).bind m_is_rising) (op3 (fun x y z => some (Nat.ble x y && Nat.ble y z)) (some 1) (((some x_value)).bind fun l => some l.length) (some 7)))
abbrev K_are_things (P : Program) (w : World) (K : PySem.W.Frag) (mg : Str → Option Value) (base : Heap) (cw : Crew) (C : Addr) : Prop := Cal P w K mg base "are_things" 3 ["value"] (Sp1 (tS cw) tB m_are_things)
theorem cal_are_things (d : Df K mg "are_things" (topS 16) ["value"]) (bt : Bt mg) (mt : ∃ t, mg "MOST_THINGS" = some (.int (7 : Nat) t)) (c_is_rising : K_is_rising P w K mg base cw C) : K_are_things P w K mg base cw C := by
  obtain ⟨f, fd, F, mgf, bi⟩ := d.ex
  refine ⟨⟨f, fd, ?_, mgf, F.kp, bi⟩⟩
  refine F.ok sc_are_things (fun vs H Q E h => ?_) (fun cdv A outer s H0 vs Q E hr h => ⟨wSs _ _, p_ss, ?_⟩)
  · obtain ⟨v_value, x_value, B, r, rfl, _⟩ := h
    rfl
  · obtain ⟨v_value, x_value, B0, r, rfl, r_value, eB, hm, q⟩ := h
    have I0 : In B0 [] H0 := ⟨eB, fun _ hp => nomatch hp⟩
    have G0 : Go B0 H0 B0 H0 := Go.refl eB
    exact ss_ret hm (ev_andV (ev_call1 c_is_rising (hr.mono (by decide)) (ev_var 0 r_value)) (ev_one (ev_chain ev_int (ev_lenS bt (ev_var 0 r_value)) (ev_glob rfl mt.choose_spec)))) I0 fun v9 B9 H9 g9 r9 => q v9 B9 H9 (G0.trans g9) r9

theorem sc_check_things : FnScope ["value"] ["value"] (defScope (topS 17)) := ⟨rfl, rfl, rfl, by decide +kernel, rfl, by decide +kernel, by decide +kernel⟩
def m_check_things (x_value : List Nat) : Option (Unit) :=
  ((notO (((some x_value)).bind m_are_things)).bind fun b1 => bif b1 then none else (some ()))
abbrev K_check_things (P : Program) (w : World) (K : PySem.W.Frag) (mg : Str → Option Value) (base : Heap) (cw : Crew) (C : Addr) : Prop := Cal P w K mg base "check_things" 4 ["value"] (Sp1 (tS cw) tU m_check_things)
theorem cal_check_things (d : Df K mg "check_things" (topS 17) ["value"]) (bt : Bt mg) (c_are_things : K_are_things P w K mg base cw C) : K_check_things P w K mg base cw C := by
  obtain ⟨f, fd, F, mgf, bi⟩ := d.ex
  refine ⟨⟨f, fd, ?_, mgf, F.kp, bi⟩⟩
  refine F.ok sc_check_things (fun vs H Q E h => ?_) (fun cdv A outer s H0 vs Q E hr h => ⟨wSs _ _, p_ss, ?_⟩)
  · obtain ⟨v_value, x_value, B, r, rfl, _⟩ := h
    rfl
  · obtain ⟨v_value, x_value, B0, r, rfl, r_value, eB, hm, q⟩ := h
    have I0 : In B0 [] H0 := ⟨eB, fun _ hp => nomatch hp⟩
    have G0 : Go B0 H0 B0 H0 := Go.refl eB
    obtain ⟨b1, hb1, hm⟩ := bind_some hm
    refine ss_if hb1 (tv_not (tv_of (ev_call1 c_are_things (hr.mono (by decide)) (ev_var 0 r_value)))) I0 (fun hz B1 H1 g1 => ?_) (fun hz B1 H1 g1 => ?_)
    · replace hm := ifT hz hm
      have r_value := (tS cw).mono g1.eb r_value
      have I1 := I0.go g1
      have G1 := G0.trans g1
      exact absurd hm (by intro z; cases z)
    · replace hm := ifF hz hm
      have r_value := (tS cw).mono g1.eb r_value
      have I1 := I0.go g1
      have G1 := G0.trans g1
      refine ss_nil ?_
      cases hm
      exact ss_nil (q .non B1 _ G1 rfl)

theorem sc_is_lot : FnScope ["things", "value", "sign"] ["things", "value"] (defScope (topS 18)) := ⟨rfl, rfl, rfl, by decide +kernel, rfl, by decide +kernel, by decide +kernel⟩
def m_is_lot (x_things : List Nat) (x_value : List Nat) : Option (Bool) :=
  (andO (((some x_value)).bind m_is_rising) (((((some x_value)).bind fun xs => compM (fun x_sign => (some true)) (fun x_sign => (op2 (fun x y => some (y.contains x)) (some x_sign) (some x_things))) xs)).bind fun l => some (l.all id)))
abbrev K_is_lot (P : Program) (w : World) (K : PySem.W.Frag) (mg : Str → Option Value) (base : Heap) (cw : Crew) (C : Addr) : Prop := Cal P w K mg base "is_lot" 3 ["things", "value"] (Sp2 (tS cw) (tS cw) tB m_is_lot)
theorem cal_is_lot (d : Df K mg "is_lot" (topS 18) ["things", "value"]) (bt : Bt mg) (c_is_rising : K_is_rising P w K mg base cw C) : K_is_lot P w K mg base cw C := by
  obtain ⟨f, fd, F, mgf, bi⟩ := d.ex
  refine ⟨⟨f, fd, ?_, mgf, F.kp, bi⟩⟩
  refine F.ok sc_is_lot (fun vs H Q E h => ?_) (fun cdv A outer s H0 vs Q E hr h => ⟨wSs _ _, p_ss, ?_⟩)
  · obtain ⟨v_things, v_value, x_things, x_value, B, r, rfl, _⟩ := h
    rfl
  · obtain ⟨v_things, v_value, x_things, x_value, B0, r, rfl, r_things, r_value, eB, hm, q⟩ := h
    have I0 : In B0 [] H0 := ⟨eB, fun _ hp => nomatch hp⟩
    have G0 : Go B0 H0 B0 H0 := Go.refl eB
    exact ss_ret hm (ev_andV (ev_call1 c_is_rising (hr.mono (by decide)) (ev_var 1 r_value)) (ev_one (ev_all bt rfl (es_of (ev_lc (x := "sign") rfl sc_is_lot.nd (blkOk_by (by kernel_rfl)) (iv_S (ev_var 1 r_value)) (fun _ _ _ _ _ => pg_name (i := 2) sc_is_lot.nd rfl (by first | exact Or.inl rfl | exact Or.inr rfl)) _ _ (fun x_sign v_sign B1 e1 r_sign => rfl) (fun x_sign v_sign B1 e1 r_sign _ => by have r_things := (tS cw).mono e1 r_things; exact fun _ _ _ _ _ => ((ev_inCS (ev_var 2 r_sign) (ev_var 0 r_things))).1)))))) I0 fun v9 B9 H9 g9 r9 => q v9 B9 H9 (G0.trans g9) r9

theorem sc_check_lot : FnScope ["things", "value"] ["things", "value"] (defScope (topS 19)) := ⟨rfl, rfl, rfl, by decide +kernel, rfl, by decide +kernel, by decide +kernel⟩
def m_check_lot (x_things : List Nat) (x_value : List Nat) : Option (Unit) :=
  ((notO (op2 m_is_lot (some x_things) (some x_value))).bind fun b1 => bif b1 then none else (some ()))
abbrev K_check_lot (P : Program) (w : World) (K : PySem.W.Frag) (mg : Str → Option Value) (base : Heap) (cw : Crew) (C : Addr) : Prop := Cal P w K mg base "check_lot" 4 ["things", "value"] (Sp2 (tS cw) (tS cw) tU m_check_lot)
theorem cal_check_lot (d : Df K mg "check_lot" (topS 19) ["things", "value"]) (bt : Bt mg) (c_is_lot : K_is_lot P w K mg base cw C) : K_check_lot P w K mg base cw C := by
  obtain ⟨f, fd, F, mgf, bi⟩ := d.ex
  refine ⟨⟨f, fd, ?_, mgf, F.kp, bi⟩⟩
  refine F.ok sc_check_lot (fun vs H Q E h => ?_) (fun cdv A outer s H0 vs Q E hr h => ⟨wSs _ _, p_ss, ?_⟩)
  · obtain ⟨v_things, v_value, x_things, x_value, B, r, rfl, _⟩ := h
    rfl
  · obtain ⟨v_things, v_value, x_things, x_value, B0, r, rfl, r_things, r_value, eB, hm, q⟩ := h
    have I0 : In B0 [] H0 := ⟨eB, fun _ hp => nomatch hp⟩
    have G0 : Go B0 H0 B0 H0 := Go.refl eB
    obtain ⟨b1, hb1, hm⟩ := bind_some hm
    refine ss_if hb1 (tv_not (tv_of (ev_call2 c_is_lot (hr.mono (by decide)) (ev_var 0 r_things) (ev_var 1 r_value)))) I0 (fun hz B1 H1 g1 => ?_) (fun hz B1 H1 g1 => ?_)
    · replace hm := ifT hz hm
      have r_things := (tS cw).mono g1.eb r_things
      have r_value := (tS cw).mono g1.eb r_value
      have I1 := I0.go g1
      have G1 := G0.trans g1
      exact absurd hm (by intro z; cases z)
    · replace hm := ifF hz hm
      have r_things := (tS cw).mono g1.eb r_things
      have r_value := (tS cw).mono g1.eb r_value
      have I1 := I0.go g1
      have G1 := G0.trans g1
      refine ss_nil ?_
      cases hm
      exact ss_nil (q .non B1 _ G1 rfl)

end
end Cw
namespace Cw
open PySem PySem.Spec PyProof.Rows L2 Ly
section
variable {P : Program} {w : World} {K : PySem.W.Frag} {mg : Str → Option Value} {base : Heap} {cw : Crew} {C : Addr}
theorem sc_wrong_in_family : FnScope ["things", "value", "index"] ["things", "value"] (defScope (topS 20)) := ⟨rfl, rfl, rfl, by decide +kernel, rfl, by decide +kernel, by decide +kernel⟩
def m_wrong_in_family (x_things : List Nat) (x_value : List (List Nat)) : Option (Option (Nat)) :=
  ((((((some x_value)).bind fun l => some l.length)).bind rng1).bind fun xs1 => forK (fun x_index (st1 : Unit) k1 => ((orO (notO (op2 m_is_lot (some x_things) (op2 (fun xs i => xs[i]?) (some x_value) (some x_index)))) (andO (op2 (fun x y => some (Nat.blt y x)) (some x_index) (some 0)) (op2 (fun x y => some (!lexB y x)) (op2 (fun xs i => xs[i]?) (some x_value) (some x_index)) (op2 (fun xs i => xs[i]?) (some x_value) (op2 fSub (some x_index) (some 1)))))).bind fun b4 => bif b4 then (((some x_index)).bind fun x => some (some x)) else (k1 ()))) (fun (st1 : Unit) => (some none)) xs1 ())
abbrev K_wrong_in_family (P : Program) (w : World) (K : PySem.W.Frag) (mg : Str → Option Value) (base : Heap) (cw : Crew) (C : Addr) : Prop := Cal P w K mg base "wrong_in_family" 4 ["things", "value"] (Sp2 (tS cw) (tT (tS cw)) (tO tN) m_wrong_in_family)
theorem cal_wrong_in_family (d : Df K mg "wrong_in_family" (topS 20) ["things", "value"]) (bt : Bt mg) (c_is_lot : K_is_lot P w K mg base cw C) : K_wrong_in_family P w K mg base cw C := by
  obtain ⟨f, fd, F, mgf, bi⟩ := d.ex
  refine ⟨⟨f, fd, ?_, mgf, F.kp, bi⟩⟩
  refine F.ok sc_wrong_in_family (fun vs H Q E h => ?_) (fun cdv A outer s H0 vs Q E hr h => ⟨wSs _ _, p_ss, ?_⟩)
  · obtain ⟨v_things, v_value, x_things, x_value, B, r, rfl, _⟩ := h
    rfl
  · obtain ⟨v_things, v_value, x_things, x_value, B0, r, rfl, r_things, r_value, eB, hm, q⟩ := h
    have I0 : In B0 [] H0 := ⟨eB, fun _ hp => nomatch hp⟩
    have G0 : Go B0 H0 B0 H0 := Go.refl eB
    obtain ⟨xs1, hx1, hm⟩ := bind_some hm
    refine ss_for 2 hx1 (iv_rng1 bt (ev_lenT bt (ev_var 1 r_value))) I0.nil (fun Bq rem σq Hq => ∃ (Bp : Hp) (y_index : Option V) (st1 : Unit), σq = [some v_things, some v_value, y_index] ∧ Go B0 H0 Bp Hq ∧ Ex Bq Bp ∧ In Bp [] Hq ∧ forK (fun x_index (st1 : Unit) k1 => ((orO (notO (op2 m_is_lot (some x_things) (op2 (fun xs i => xs[i]?) (some x_value) (some x_index)))) (andO (op2 (fun x y => some (Nat.blt y x)) (some x_index) (some 0)) (op2 (fun x y => some (!lexB y x)) (op2 (fun xs i => xs[i]?) (some x_value) (some x_index)) (op2 (fun xs i => xs[i]?) (some x_value) (op2 fSub (some x_index) (some 1)))))).bind fun b4 => bif b4 then (((some x_index)).bind fun x => some (some x)) else (k1 ()))) (fun (st1 : Unit) => (some none)) rem st1 = some r) ?_ ?_ ?_ ?_ PassesOwn.never rfl (pg_name (i := 2) sc_wrong_in_family.nd rfl (by first | exact Or.inl rfl | exact Or.inr rfl))
    · intro Ba Ha ga
      exact ⟨Ba, none, (), rfl, G0.trans ga, Ex.refl _, I0.go ga, hm⟩
    · intro B1 rem σ1 H1 ⟨Bp, y_index, st1, _, _, e1, I1, _⟩
      exact ⟨e1.trans I1.ex, fun _ hp => nomatch hp⟩
    · intro B1 x_index rem v_index σ1 H1 e1 r_index ⟨B2, y_index, st1, hσ, G2, eL1, I2, hm⟩
      subst hσ
      have r_index := tN.mono eL1 r_index
      obtain ⟨k1, hk1, hm⟩ := forK_step hm
      have r_things := (tS cw).mono (e1.trans eL1) r_things
      have r_value := (tT (tS cw)).mono (e1.trans eL1) r_value
      obtain ⟨b4, hb4, hm⟩ := bind_some hm
      refine ss_if hb4 (tv_w (wv_or (tv_not (tv_of (ev_call2 c_is_lot (hr.mono (by decide)) (ev_var 0 r_things) (ev_ixT (ev_var 1 r_value) (ev_var 2 r_index))))) (wv_or1 (tv_w (wv_and ((ev_gtN (ev_var 2 r_index) ev_int)).2 (wv_and1 ((ev_leS (ev_ixT (ev_var 1 r_value) (ev_var 2 r_index)) (ev_ixT (ev_var 1 r_value) (ev_sub (ev_var 2 r_index) ev_int)))).2)))))) I2 (fun hz B4 H4 g4 => ?_) (fun hz B4 H4 g4 => ?_)
      · replace hm := ifT hz hm
        have r_things := (tS cw).mono g4.eb r_things
        have r_value := (tT (tS cw)).mono g4.eb r_value
        have r_index := tN.mono g4.eb r_index
        have eL1 := eL1.trans g4.eb
        have I4 := I2.go g4
        have G4 := G2.trans g4
        exact ss_ret hm (ev_some (ev_var 2 r_index) nnN) I4 fun v9 B9 H9 g9 r9 => q v9 B9 H9 (G4.trans g9) r9
      · replace hm := ifF hz hm
        have r_things := (tS cw).mono g4.eb r_things
        have r_value := (tT (tS cw)).mono g4.eb r_value
        have r_index := tN.mono g4.eb r_index
        have eL1 := eL1.trans g4.eb
        have I4 := I2.go g4
        have G4 := G2.trans g4
        refine ss_nil ?_
        rw [hk1] at hm
        exact ss_nil ⟨B4, some v_index, (), rfl, G4, eL1, I4, hm⟩
    · intro B1 σ1 H1 e1 ⟨B3, y_index, st1, hσ, G3, ep, I3, hm⟩
      subst hσ
      have hm := forK_end hm
      have r_things := (tS cw).mono (e1.trans ep) r_things
      have r_value := (tT (tS cw)).mono (e1.trans ep) r_value
      exact ss_ret hm ev_noneO I3 fun v9 B9 H9 g9 r9 => q v9 B9 H9 (G3.trans g9) r9

theorem sc_family_of : FnScope ["things", "masks", "mask"] ["things", "masks"] (defScope (topS 25)) := ⟨rfl, rfl, rfl, by decide +kernel, rfl, by decide +kernel, by decide +kernel⟩
def m_family_of (x_things : List Nat) (x_masks : List (Nat)) : Option (List (List Nat)) :=
  (((((((some x_masks)).bind fSortN)).bind fun xs => compM (fun x_mask => (some true)) (fun x_mask => (op2 m_lot_of (some x_things) (some x_mask))) xs)).bind fSortS)
abbrev K_family_of (P : Program) (w : World) (K : PySem.W.Frag) (mg : Str → Option Value) (base : Heap) (cw : Crew) (C : Addr) : Prop := Cal P w K mg base "family_of" 2 ["things", "masks"] (Sp2 (tS cw) (tL tN) (tT (tS cw)) m_family_of)
theorem cal_family_of (d : Df K mg "family_of" (topS 25) ["things", "masks"]) (bt : Bt mg) (c_lot_of : K_lot_of P w K mg base cw C) : K_family_of P w K mg base cw C := by
  obtain ⟨f, fd, F, mgf, bi⟩ := d.ex
  refine ⟨⟨f, fd, ?_, mgf, F.kp, bi⟩⟩
  refine F.ok sc_family_of (fun vs H Q E h => ?_) (fun cdv A outer s H0 vs Q E hr h => ⟨wSs _ _, p_ss, ?_⟩)
  · obtain ⟨v_things, v_masks, x_things, x_masks, B, r, rfl, _⟩ := h
    rfl
  · obtain ⟨v_things, v_masks, x_things, x_masks, B0, r, rfl, r_things, r_masks, eB, hm, q⟩ := h
    have I0 : In B0 [] H0 := ⟨eB, fun _ hp => nomatch hp⟩
    have G0 : Go B0 H0 B0 H0 := Go.refl eB
    exact ss_ret hm (ev_tuple bt (es_of (ev_sortS bt (es_of (ev_lc (x := "mask") rfl sc_family_of.nd (blkOk_by (by kernel_rfl)) (iv_L (es_of (ev_sortSetN bt rfl (es_of (ev_var 1 r_masks))))) (fun _ _ _ _ _ => pg_name (i := 2) sc_family_of.nd rfl (by first | exact Or.inl rfl | exact Or.inr rfl)) _ _ (fun x_mask v_mask B1 e1 r_mask => rfl) (fun x_mask v_mask B1 e1 r_mask _ => by have r_things := (tS cw).mono e1 r_things; exact fun _ _ _ _ _ => (ev_call2 c_lot_of (hr.mono (by decide)) (ev_var 0 r_things) (ev_var 2 r_mask)))))))) I0 fun v9 B9 H9 g9 r9 => q v9 B9 H9 (G0.trans g9) r9

theorem sc_meets_of : FnScope ["things", "masks", "found", "mask", "more", "each"] ["things", "masks"] (defScope (topS 27)) := ⟨rfl, rfl, rfl, by decide +kernel, rfl, by decide +kernel, by decide +kernel⟩
def m_meets_of (x_things : List Nat) (x_masks : List (Nat)) : Option (List (Nat)) :=
  ((((((some x_things)).bind m_whole_of)).bind fun x => some [x]).bind fun x1_found => ((some x_masks).bind fun xs2 => forK (fun x_mask (st2 : (List (Nat))) k2 => ((((((some st2)).bind fun xs => compM (fun x_each => (some true)) (fun x_each => (op2 fAnd (some x_mask) (some x_each))) xs)).bind fSortN).bind fun x5_more => ((op2 fCat (some st2) (((some x5_more)).bind fun xs => compM (fun x_each => (op2 (fun x y => some (!y.any fun z => Nat.beq z x)) (some x_each) (some st2))) (fun x_each => (some x_each)) xs)).bind fun x7_found => (k2 (x7_found))))) (fun (st2 : (List (Nat))) => (some st2)) xs2 (x1_found)))
abbrev K_meets_of (P : Program) (w : World) (K : PySem.W.Frag) (mg : Str → Option Value) (base : Heap) (cw : Crew) (C : Addr) : Prop := Cal P w K mg base "meets_of" 2 ["things", "masks"] (Sp2 (tS cw) (tL tN) (tL tN) m_meets_of)
theorem cal_meets_of (d : Df K mg "meets_of" (topS 27) ["things", "masks"]) (bt : Bt mg) (c_whole_of : K_whole_of P w K mg base cw C) : K_meets_of P w K mg base cw C := by
  obtain ⟨f, fd, F, mgf, bi⟩ := d.ex
  refine ⟨⟨f, fd, ?_, mgf, F.kp, bi⟩⟩
  refine F.ok sc_meets_of (fun vs H Q E h => ?_) (fun cdv A outer s H0 vs Q E hr h => ⟨wSs _ _, p_ss, ?_⟩)
  · obtain ⟨v_things, v_masks, x_things, x_masks, B, r, rfl, _⟩ := h
    rfl
  · obtain ⟨v_things, v_masks, x_things, x_masks, B0, r, rfl, r_things, r_masks, eB, hm, q⟩ := h
    have I0 : In B0 [] H0 := ⟨eB, fun _ hp => nomatch hp⟩
    have G0 : Go B0 H0 B0 H0 := Go.refl eB
    obtain ⟨x1_found, h1, hm⟩ := bind_some hm
    refine ss_set 2 h1 (ev_list1 (ev_call1 c_whole_of (hr.mono (by decide)) (ev_var 0 r_things))) I0 (fun v1_found B1 H1 g1 r1_found => ?_) sc_meets_of.nd
    have r_things := (tS cw).mono g1.eb r_things
    have r_masks := (tL tN).mono g1.eb r_masks
    have I1 := I0.go g1
    have G1 := G0.trans g1
    obtain ⟨xs2, hx2, hm⟩ := bind_some hm
    refine ss_for 3 hx2 (iv_L (es_of (ev_var 1 r_masks))) I1.nil (fun Bq rem σq Hq => ∃ (Bp : Hp) (v_found : V) (y_more : Option V) (y_mask : Option V) (st2 : (List (Nat))), σq = [some v_things, some v_masks, some v_found, y_mask, y_more, none] ∧ Go B0 H0 Bp Hq ∧ Ex Bq Bp ∧ In Bp [] Hq ∧ (tL tN).rep Bp v_found st2 ∧ forK (fun x_mask (st2 : (List (Nat))) k2 => ((((((some st2)).bind fun xs => compM (fun x_each => (some true)) (fun x_each => (op2 fAnd (some x_mask) (some x_each))) xs)).bind fSortN).bind fun x5_more => ((op2 fCat (some st2) (((some x5_more)).bind fun xs => compM (fun x_each => (op2 (fun x y => some (!y.any fun z => Nat.beq z x)) (some x_each) (some st2))) (fun x_each => (some x_each)) xs)).bind fun x7_found => (k2 (x7_found))))) (fun (st2 : (List (Nat))) => (some st2)) rem st2 = some r) ?_ ?_ ?_ ?_ PassesOwn.never rfl (pg_name (i := 3) sc_meets_of.nd rfl (by first | exact Or.inl rfl | exact Or.inr rfl))
    · intro Ba Ha ga
      exact ⟨Ba, v1_found, none, none, (x1_found), rfl, G1.trans ga, Ex.refl _, I1.go ga, ((tL tN).mono ga.eb r1_found), hm⟩
    · intro B1 rem σ1 H1 ⟨Bp, v_found, y_more, y_mask, st2, _, _, e1, I1, _⟩
      exact ⟨e1.trans I1.ex, fun _ hp => nomatch hp⟩
    · intro B1 x_mask rem v_mask σ1 H1 e1 r_mask ⟨B3, v_found, y_more, y_mask, st2, hσ, G3, eL2, I3, r_found, hm⟩
      subst hσ
      have r_mask := tN.mono eL2 r_mask
      obtain ⟨k2, hk2, hm⟩ := forK_step hm
      have r_things := (tS cw).mono (e1.trans eL2) r_things
      have r_masks := (tL tN).mono (e1.trans eL2) r_masks
      obtain ⟨x5_more, h5, hm⟩ := bind_some hm
      refine ss_set 4 h5 (ev_sortSetN bt rfl (es_of (ev_lc (x := "each") rfl sc_meets_of.nd (blkOk_by (by kernel_rfl)) (iv_L (es_of (ev_var 2 r_found))) (fun _ _ _ _ _ => pg_name (i := 5) sc_meets_of.nd rfl (by first | exact Or.inl rfl | exact Or.inr rfl)) _ _ (fun x_each v_each B6 e6 r_each => rfl) (fun x_each v_each B6 e6 r_each _ => by have r_mask := tN.mono e6 r_mask; exact fun _ _ _ _ _ => (ev_and (ev_var 3 r_mask) (ev_var 5 r_each)))))) I3 (fun v5_more B5 H5 g5 r5_more => ?_) sc_meets_of.nd
      have r_things := (tS cw).mono g5.eb r_things
      have r_masks := (tL tN).mono g5.eb r_masks
      have r_found := (tL tN).mono g5.eb r_found
      have r_mask := tN.mono g5.eb r_mask
      have eL2 := eL2.trans g5.eb
      have I5 := I3.go g5
      have G5 := G3.trans g5
      obtain ⟨x7_found, h7, hm⟩ := bind_some hm
      refine ss_set 2 h7 (ev_cat (es_of (ev_var 2 r_found)) (es_of (ev_lc (x := "each") rfl sc_meets_of.nd (blkOk_by (by kernel_rfl)) (iv_L (es_of (ev_var 4 r5_more))) (fun _ _ _ _ _ => pg_name (i := 5) sc_meets_of.nd rfl (by first | exact Or.inl rfl | exact Or.inr rfl)) _ _ (fun x_each v_each B8 e8 r_each => by have r_found := (tL tN).mono e8 r_found; exact fun _ _ _ _ _ => ((ev_niL flatN (ev_var 5 r_each) (es_of (ev_var 2 r_found)))).2) (fun x_each v_each B8 e8 r_each _ => by have r_found := (tL tN).mono e8 r_found; exact fun _ _ _ _ _ => (ev_var 5 r_each))))) I5 (fun v7_found B7 H7 g7 r7_found => ?_) sc_meets_of.nd
      have r_things := (tS cw).mono g7.eb r_things
      have r_masks := (tL tN).mono g7.eb r_masks
      have r_found := (tL tN).mono g7.eb r_found
      have r_mask := tN.mono g7.eb r_mask
      have r5_more := (tL tN).mono g7.eb r5_more
      have eL2 := eL2.trans g7.eb
      have I7 := I5.go g7
      have G7 := G5.trans g7
      rw [hk2] at hm
      exact ss_nil ⟨B7, v7_found, some v5_more, some v_mask, (x7_found), rfl, G7, eL2, I7, r7_found, hm⟩
    · intro B1 σ1 H1 e1 ⟨B4, v_found, y_more, y_mask, st2, hσ, G4, ep, I4, r_found, hm⟩
      subst hσ
      have hm := forK_end hm
      have r_things := (tS cw).mono (e1.trans ep) r_things
      have r_masks := (tL tN).mono (e1.trans ep) r_masks
      exact ss_ret hm (ev_var 2 r_found) I4 fun v9 B9 H9 g9 r9 => q v9 B9 H9 (G4.trans g9) r9

theorem sc_is_closed_family : FnScope ["things", "family", "masks"] ["things", "family"] (defScope (topS 29)) := ⟨rfl, rfl, rfl, by decide +kernel, rfl, by decide +kernel, by decide +kernel⟩
def m_is_closed_family (x_things : List Nat) (x_family : List (List Nat)) : Option (Bool) :=
  ((op2 m_masks_of (some x_things) (some x_family)).bind fun x1_masks => (op2 (fun x y => some (Nat.beq x y)) (((op2 m_meets_of (some x_things) (some x1_masks))).bind fun l => some l.length) (((some x1_masks)).bind fun l => some l.length)))
abbrev K_is_closed_family (P : Program) (w : World) (K : PySem.W.Frag) (mg : Str → Option Value) (base : Heap) (cw : Crew) (C : Addr) : Prop := Cal P w K mg base "is_closed_family" 3 ["things", "family"] (Sp2 (tS cw) (tT (tS cw)) tB m_is_closed_family)
theorem cal_is_closed_family (d : Df K mg "is_closed_family" (topS 29) ["things", "family"]) (bt : Bt mg) (c_masks_of : K_masks_of P w K mg base cw C) (c_meets_of : K_meets_of P w K mg base cw C) : K_is_closed_family P w K mg base cw C := by
  obtain ⟨f, fd, F, mgf, bi⟩ := d.ex
  refine ⟨⟨f, fd, ?_, mgf, F.kp, bi⟩⟩
  refine F.ok sc_is_closed_family (fun vs H Q E h => ?_) (fun cdv A outer s H0 vs Q E hr h => ⟨wSs _ _, p_ss, ?_⟩)
  · obtain ⟨v_things, v_family, x_things, x_family, B, r, rfl, _⟩ := h
    rfl
  · obtain ⟨v_things, v_family, x_things, x_family, B0, r, rfl, r_things, r_family, eB, hm, q⟩ := h
    have I0 : In B0 [] H0 := ⟨eB, fun _ hp => nomatch hp⟩
    have G0 : Go B0 H0 B0 H0 := Go.refl eB
    obtain ⟨x1_masks, h1, hm⟩ := bind_some hm
    refine ss_set 2 h1 (ev_call2 c_masks_of (hr.mono (by decide)) (ev_var 0 r_things) (ev_var 1 r_family)) I0 (fun v1_masks B1 H1 g1 r1_masks => ?_) sc_is_closed_family.nd
    have r_things := (tS cw).mono g1.eb r_things
    have r_family := (tT (tS cw)).mono g1.eb r_family
    have I1 := I0.go g1
    have G1 := G0.trans g1
    exact ss_ret hm ((ev_eqN (ev_lenL bt (es_of (ev_call2 c_meets_of (hr.mono (by decide)) (ev_var 0 r_things) (ev_var 2 r1_masks)))) (ev_lenL bt (es_of (ev_var 2 r1_masks))))).1 I1 fun v9 B9 H9 g9 r9 => q v9 B9 H9 (G1.trans g9) r9

theorem sc_check_closed : FnScope ["things", "family", "index"] ["things", "family"] (defScope (topS 30)) := ⟨rfl, rfl, rfl, by decide +kernel, rfl, by decide +kernel, by decide +kernel⟩
def m_check_closed (x_things : List Nat) (x_family : List (List Nat)) : Option (Unit) :=
  ((notO (((some x_family)).bind fun _ => some true)).bind fun b1 => bif b1 then none else ((op2 m_wrong_in_family (some x_things) (some x_family)).bind fun x2_index => ((orO (((some x2_index)).bind fun x => some x.isSome) (notO (op2 m_is_closed_family (some x_things) (some x_family)))).bind fun b3 => bif b3 then none else (some ()))))
abbrev K_check_closed (P : Program) (w : World) (K : PySem.W.Frag) (mg : Str → Option Value) (base : Heap) (cw : Crew) (C : Addr) : Prop := Cal P w K mg base "check_closed" 5 ["things", "family"] (Sp2 (tS cw) (tT (tS cw)) tU m_check_closed)
theorem cal_check_closed (d : Df K mg "check_closed" (topS 30) ["things", "family"]) (bt : Bt mg) (c_wrong_in_family : K_wrong_in_family P w K mg base cw C) (c_is_closed_family : K_is_closed_family P w K mg base cw C) : K_check_closed P w K mg base cw C := by
  obtain ⟨f, fd, F, mgf, bi⟩ := d.ex
  refine ⟨⟨f, fd, ?_, mgf, F.kp, bi⟩⟩
  refine F.ok sc_check_closed (fun vs H Q E h => ?_) (fun cdv A outer s H0 vs Q E hr h => ⟨wSs _ _, p_ss, ?_⟩)
  · obtain ⟨v_things, v_family, x_things, x_family, B, r, rfl, _⟩ := h
    rfl
  · obtain ⟨v_things, v_family, x_things, x_family, B0, r, rfl, r_things, r_family, eB, hm, q⟩ := h
    have I0 : In B0 [] H0 := ⟨eB, fun _ hp => nomatch hp⟩
    have G0 : Go B0 H0 B0 H0 := Go.refl eB
    obtain ⟨b1, hb1, hm⟩ := bind_some hm
    refine ss_if hb1 (tv_not (tv_of (ev_isiT bt (ev_var 1 r_family)))) I0 (fun hz B1 H1 g1 => ?_) (fun hz B1 H1 g1 => ?_)
    · replace hm := ifT hz hm
      have r_things := (tS cw).mono g1.eb r_things
      have r_family := (tT (tS cw)).mono g1.eb r_family
      have I1 := I0.go g1
      have G1 := G0.trans g1
      exact absurd hm (by intro z; cases z)
    · replace hm := ifF hz hm
      have r_things := (tS cw).mono g1.eb r_things
      have r_family := (tT (tS cw)).mono g1.eb r_family
      have I1 := I0.go g1
      have G1 := G0.trans g1
      refine ss_nil ?_
      obtain ⟨x2_index, h2, hm⟩ := bind_some hm
      refine ss_set 2 h2 (ev_call2 c_wrong_in_family (hr.mono (by decide)) (ev_var 0 r_things) (ev_var 1 r_family)) I1 (fun v2_index B2 H2 g2 r2_index => ?_) sc_check_closed.nd
      have r_things := (tS cw).mono g2.eb r_things
      have r_family := (tT (tS cw)).mono g2.eb r_family
      have I2 := I1.go g2
      have G2 := G1.trans g2
      obtain ⟨b3, hb3, hm⟩ := bind_some hm
      refine ss_if hb3 (tv_w (wv_or ((ev_notN (ev_var 2 r2_index))).2 (wv_or1 (tv_not (tv_of (ev_call2 c_is_closed_family (hr.mono (by decide)) (ev_var 0 r_things) (ev_var 1 r_family))))))) I2 (fun hz B3 H3 g3 => ?_) (fun hz B3 H3 g3 => ?_)
      · replace hm := ifT hz hm
        have r_things := (tS cw).mono g3.eb r_things
        have r_family := (tT (tS cw)).mono g3.eb r_family
        have r2_index := (tO tN).mono g3.eb r2_index
        have I3 := I2.go g3
        have G3 := G2.trans g3
        exact absurd hm (by intro z; cases z)
      · replace hm := ifF hz hm
        have r_things := (tS cw).mono g3.eb r_things
        have r_family := (tT (tS cw)).mono g3.eb r_family
        have r2_index := (tO tN).mono g3.eb r2_index
        have I3 := I2.go g3
        have G3 := G2.trans g3
        refine ss_nil ?_
        cases hm
        exact ss_nil (q .non B3 _ G3 rfl)

end
end Cw
namespace Cw
open PySem PySem.Spec PyProof.Rows L2 Ly
section
variable {P : Program} {w : World} {K : PySem.W.Frag} {mg : Str → Option Value} {base : Heap} {cw : Crew} {C : Addr}
theorem sc_rounds_of : FnScope ["things", "masks", "whole", "closed", "found", "mask", "k"] ["things", "masks"] (defScope (topS 31)) := ⟨rfl, rfl, rfl, by decide +kernel, rfl, by decide +kernel, by decide +kernel⟩
def m_rounds_of (x_things : List Nat) (x_masks : List (Nat)) : Option (List (Nat)) :=
  ((((some x_things)).bind m_whole_of).bind fun x1_whole => (((some x_masks)).bind fSortN).bind fun x1_closed => ((op2 fRep (some x1_whole) (op2 fAdd (some x1_whole) (some 1))).bind fun x2_found => (((some x1_whole).bind rngDown).bind fun xs3 => forK (fun x_mask (st3 : (List (Nat))) k3 => ((op2 (fun x y => some (y.any fun z => Nat.beq z x)) (some x_mask) (some x1_closed)).bind fun b6 => bif b6 then ((some x_mask).bind fun z7 => (some x_mask).bind fun j7 => (fPut st3 j7 z7).bind fun x7_found => (k3 (x7_found))) else ((((((some x_things)).bind fun l => some l.length)).bind rng1).bind fun xs8 => forK (fun x_k (st8 : (List (Nat))) k8 => ((op2 (fun x y => some (Nat.beq x y)) (op2 fAnd (op2 fShr (some x_mask) (some x_k)) (some 1)) (some 0)).bind fun b11 => bif b11 then ((op2 fAnd (op2 (fun xs i => xs[i]?) (some st8) (some x_mask)) (op2 (fun xs i => xs[i]?) (some st8) (op2 fOr (some x_mask) (op2 fShl (some 1) (some x_k))))).bind fun z12 => (some x_mask).bind fun j12 => (fPut st8 j12 z12).bind fun x12_found => (k8 (x12_found))) else (k8 (st8)))) (fun (st8 : (List (Nat))) => (k3 (st8))) xs8 (st3)))) (fun (st3 : (List (Nat))) => (some st3)) xs3 (x2_found))))
abbrev K_rounds_of (P : Program) (w : World) (K : PySem.W.Frag) (mg : Str → Option Value) (base : Heap) (cw : Crew) (C : Addr) : Prop := Cal P w K mg base "rounds_of" 2 ["things", "masks"] (Sp2 (tS cw) (tL tN) (tT tN) m_rounds_of)
theorem cal_rounds_of (d : Df K mg "rounds_of" (topS 31) ["things", "masks"]) (bt : Bt mg) (c_whole_of : K_whole_of P w K mg base cw C) : K_rounds_of P w K mg base cw C := by
  obtain ⟨f, fd, F, mgf, bi⟩ := d.ex
  refine ⟨⟨f, fd, ?_, mgf, F.kp, bi⟩⟩
  refine F.ok sc_rounds_of (fun vs H Q E h => ?_) (fun cdv A outer s H0 vs Q E hr h => ⟨wSs _ _, p_ss, ?_⟩)
  · obtain ⟨v_things, v_masks, x_things, x_masks, B, r, rfl, _⟩ := h
    rfl
  · obtain ⟨v_things, v_masks, x_things, x_masks, B0, r, rfl, r_things, r_masks, eB, hm, q⟩ := h
    have I0 : In B0 [] H0 := ⟨eB, fun _ hp => nomatch hp⟩
    have G0 : Go B0 H0 B0 H0 := Go.refl eB
    obtain ⟨x1_whole, h1, hm⟩ := bind_some hm
    obtain ⟨x1_closed, k1, hm⟩ := bind_some hm
    refine ss_par 2 3 h1 k1 (ev_call1 c_whole_of (hr.mono (by decide)) (ev_var 0 r_things)) (ev_sortSetN bt rfl (es_of (ev_var 1 r_masks))) I0 (fun v1_whole v1_closed B1 H1 g1 r1_whole r1_closed => ?_) rfl sc_rounds_of.nd
    have r_things := (tS cw).mono g1.eb r_things
    have r_masks := (tL tN).mono g1.eb r_masks
    have I1 := I0.go g1
    have G1 := G0.trans g1
    obtain ⟨x2_found, hz2, hm⟩ := bind_some hm
    refine ss_newRep 4 hz2 (ev_var 2 r1_whole) (ev_add (ev_var 2 r1_whole) ev_int) I1 (fun l_found vs_found B2 H2 g2 hl_found rp_found ln_found => ?_) sc_rounds_of.nd
    have r_things := (tS cw).mono g2.eb r_things
    have r_masks := (tL tN).mono g2.eb r_masks
    have r1_whole := tN.mono g2.eb r1_whole
    have r1_closed := (tL tN).mono g2.eb r1_closed
    have h0_found := (G1.trans g2).eh.free hl_found
    have G2 := (G1.trans g2).new (u := .lst vs_found) hl_found
    have I2 := In.one (o := .lst vs_found) g2.bh hl_found
    obtain ⟨xs3, hx3, hm⟩ := bind_some hm
    refine ss_for 5 hx3 (iv_rngDown bt (ev_var 2 r1_whole)) I2.nil (fun Bq rem σq Hq => ∃ (Bp : Hp) (vs_found : List V) (y_k : Option V) (y_mask : Option V) (st3 : (List (Nat))), σq = [some v_things, some v_masks, some v1_whole, some v1_closed, some (.ref l_found), y_mask, y_k] ∧ Go B0 H0 Bp Hq ∧ Ex Bq Bp ∧ In Bp [(l_found, HO.lst vs_found)] Hq ∧ Reps tN Bp vs_found st3 ∧ (vs_found).length ≤ 40000 ∧ forK (fun x_mask (st3 : (List (Nat))) k3 => ((op2 (fun x y => some (y.any fun z => Nat.beq z x)) (some x_mask) (some x1_closed)).bind fun b6 => bif b6 then ((some x_mask).bind fun z7 => (some x_mask).bind fun j7 => (fPut st3 j7 z7).bind fun x7_found => (k3 (x7_found))) else ((((((some x_things)).bind fun l => some l.length)).bind rng1).bind fun xs8 => forK (fun x_k (st8 : (List (Nat))) k8 => ((op2 (fun x y => some (Nat.beq x y)) (op2 fAnd (op2 fShr (some x_mask) (some x_k)) (some 1)) (some 0)).bind fun b11 => bif b11 then ((op2 fAnd (op2 (fun xs i => xs[i]?) (some st8) (some x_mask)) (op2 (fun xs i => xs[i]?) (some st8) (op2 fOr (some x_mask) (op2 fShl (some 1) (some x_k))))).bind fun z12 => (some x_mask).bind fun j12 => (fPut st8 j12 z12).bind fun x12_found => (k8 (x12_found))) else (k8 (st8)))) (fun (st8 : (List (Nat))) => (k3 (st8))) xs8 (st3)))) (fun (st3 : (List (Nat))) => (some st3)) rem st3 = some r) ?_ ?_ ?_ ?_ PassesOwn.never rfl (pg_name (i := 5) sc_rounds_of.nd rfl (by first | exact Or.inl rfl | exact Or.inr rfl))
    · intro Ba Ha ga
      exact ⟨Ba, vs_found, none, none, (x2_found), rfl, G2.trans ga, Ex.refl _, I2.go ga, (rp_found.mono ga.eb), ln_found, hm⟩
    · intro B1 rem σ1 H1 ⟨Bp, vs_found, y_k, y_mask, st3, _, _, e1, I1, _⟩
      exact ⟨e1.trans I1.ex, fun _ hp => nomatch hp⟩
    · intro B1 x_mask rem v_mask σ1 H1 e1 r_mask ⟨B4, vs_found, y_k, y_mask, st3, hσ, G4, eL3, I4, rp_found, ln_found, hm⟩
      subst hσ
      have r_mask := tN.mono eL3 r_mask
      obtain ⟨k3, hk3, hm⟩ := forK_step hm
      have r_things := (tS cw).mono (e1.trans eL3) r_things
      have r_masks := (tL tN).mono (e1.trans eL3) r_masks
      have r1_whole := tN.mono (e1.trans eL3) r1_whole
      have r1_closed := (tL tN).mono (e1.trans eL3) r1_closed
      obtain ⟨b6, hb6, hm⟩ := bind_some hm
      refine ss_if hb6 ((ev_inL flatN (ev_var 5 r_mask) (es_of (ev_var 3 r1_closed)))).2 I4 (fun hz B6 H6 g6 => ?_) (fun hz B6 H6 g6 => ?_)
      · replace hm := ifT hz hm
        have r_things := (tS cw).mono g6.eb r_things
        have r_masks := (tL tN).mono g6.eb r_masks
        have r1_whole := tN.mono g6.eb r1_whole
        have r1_closed := (tL tN).mono g6.eb r1_closed
        have rp_found := rp_found.mono g6.eb
        have r_mask := tN.mono g6.eb r_mask
        have eL3 := eL3.trans g6.eb
        have I6 := I4.go g6
        have G6 := G4.trans g6
        obtain ⟨z7, hz7, hm⟩ := bind_some hm
        obtain ⟨j7, hj7, hm⟩ := bind_some hm
        obtain ⟨x7_found, hy7, hm⟩ := bind_some hm
        obtain ⟨ln7, hy7⟩ := fPut_some hy7
        refine ss_put 4 hz7 hj7 (ev_var 5 r_mask) (ev_var 5 r_mask) I6 List.mem_cons_self (by rw [rp_found.len]; exact ln7) (fun v7 B7 H7 g7 r7 => ?_)
        have r_things := (tS cw).mono g7.eb r_things
        have r_masks := (tL tN).mono g7.eb r_masks
        have r1_whole := tN.mono g7.eb r1_whole
        have r1_closed := (tL tN).mono g7.eb r1_closed
        have rp_found := rp_found.mono g7.eb
        have r_mask := tN.mono g7.eb r_mask
        have eL3 := eL3.trans g7.eb
        have G7 := (G6.trans g7).put h0_found (I6.go g7) (u := .lst (vs_found.set j7 v7))
        have I7 := (I6.go g7).put (u := .lst (vs_found.set j7 v7))
        have rp_found := Reps.set r7 j7 rp_found
        rw [← hy7] at rp_found
        have ln_found : (vs_found.set j7 v7).length ≤ 40000 := by rw [List.length_set]; exact ln_found
        refine ss_nil ?_
        rw [hk3] at hm
        exact ss_nil ⟨B7, (vs_found.set j7 v7), y_k, some v_mask, (x7_found), rfl, G7, eL3, I7, rp_found, ln_found, hm⟩
      · replace hm := ifF hz hm
        have r_things := (tS cw).mono g6.eb r_things
        have r_masks := (tL tN).mono g6.eb r_masks
        have r1_whole := tN.mono g6.eb r1_whole
        have r1_closed := (tL tN).mono g6.eb r1_closed
        have rp_found := rp_found.mono g6.eb
        have r_mask := tN.mono g6.eb r_mask
        have eL3 := eL3.trans g6.eb
        have I6 := I4.go g6
        have G6 := G4.trans g6
        obtain ⟨xs8, hx8, hm⟩ := bind_some hm
        refine ss_for 6 hx8 (iv_rng1 bt (ev_lenS bt (ev_var 0 r_things))) I6.nil (fun Bq rem σq Hq => ∃ (Bp : Hp) (vs_found : List V) (y_k : Option V) (st8 : (List (Nat))), σq = [some v_things, some v_masks, some v1_whole, some v1_closed, some (.ref l_found), some v_mask, y_k] ∧ Go B0 H0 Bp Hq ∧ Ex Bq Bp ∧ In Bp [(l_found, HO.lst vs_found)] Hq ∧ Reps tN Bp vs_found st8 ∧ (vs_found).length ≤ 40000 ∧ forK (fun x_k (st8 : (List (Nat))) k8 => ((op2 (fun x y => some (Nat.beq x y)) (op2 fAnd (op2 fShr (some x_mask) (some x_k)) (some 1)) (some 0)).bind fun b11 => bif b11 then ((op2 fAnd (op2 (fun xs i => xs[i]?) (some st8) (some x_mask)) (op2 (fun xs i => xs[i]?) (some st8) (op2 fOr (some x_mask) (op2 fShl (some 1) (some x_k))))).bind fun z12 => (some x_mask).bind fun j12 => (fPut st8 j12 z12).bind fun x12_found => (k8 (x12_found))) else (k8 (st8)))) (fun (st8 : (List (Nat))) => (k3 (st8))) rem st8 = some r) ?_ ?_ ?_ ?_ PassesOwn.never rfl (pg_name (i := 6) sc_rounds_of.nd rfl (by first | exact Or.inl rfl | exact Or.inr rfl))
        · intro Ba Ha ga
          exact ⟨Ba, vs_found, y_k, (st3), rfl, G6.trans ga, Ex.refl _, I6.go ga, (rp_found.mono ga.eb), ln_found, hm⟩
        · intro B1 rem σ1 H1 ⟨Bp, vs_found, y_k, st8, _, _, e1, I1, _⟩
          exact ⟨e1.trans I1.ex, fun _ hp => nomatch hp⟩
        · intro B1 x_k rem v_k σ1 H1 e1 r_k ⟨B9, vs_found, y_k, st8, hσ, G9, eL8, I9, rp_found, ln_found, hm⟩
          subst hσ
          have r_k := tN.mono eL8 r_k
          obtain ⟨k8, hk8, hm⟩ := forK_step hm
          have r_things := (tS cw).mono (e1.trans eL8) r_things
          have r_masks := (tL tN).mono (e1.trans eL8) r_masks
          have r1_whole := tN.mono (e1.trans eL8) r1_whole
          have r1_closed := (tL tN).mono (e1.trans eL8) r1_closed
          have r_mask := tN.mono (e1.trans eL8) r_mask
          have eL3 := eL3.trans (e1.trans eL8)
          obtain ⟨b11, hb11, hm⟩ := bind_some hm
          refine ss_if hb11 ((ev_eqN (ev_and (ev_shr (ev_var 5 r_mask) (ev_var 6 r_k)) ev_int) ev_int)).2 I9 (fun hz B11 H11 g11 => ?_) (fun hz B11 H11 g11 => ?_)
          · replace hm := ifT hz hm
            have r_things := (tS cw).mono g11.eb r_things
            have r_masks := (tL tN).mono g11.eb r_masks
            have r1_whole := tN.mono g11.eb r1_whole
            have r1_closed := (tL tN).mono g11.eb r1_closed
            have rp_found := rp_found.mono g11.eb
            have r_mask := tN.mono g11.eb r_mask
            have r_k := tN.mono g11.eb r_k
            have eL3 := eL3.trans g11.eb
            have eL8 := eL8.trans g11.eb
            have I11 := I9.go g11
            have G11 := G9.trans g11
            obtain ⟨z12, hz12, hm⟩ := bind_some hm
            obtain ⟨j12, hj12, hm⟩ := bind_some hm
            obtain ⟨x12_found, hy12, hm⟩ := bind_some hm
            obtain ⟨ln12, hy12⟩ := fPut_some hy12
            refine ss_put 4 hz12 hj12 (ev_and (ev_ixL (es_var 4 List.mem_cons_self rp_found ln_found) (ev_var 5 r_mask)) (ev_ixL (es_var 4 List.mem_cons_self rp_found ln_found) (ev_or (ev_var 5 r_mask) (ev_shl ev_int (ev_var 6 r_k))))) (ev_var 5 r_mask) I11 List.mem_cons_self (by rw [rp_found.len]; exact ln12) (fun v12 B12 H12 g12 r12 => ?_)
            have r_things := (tS cw).mono g12.eb r_things
            have r_masks := (tL tN).mono g12.eb r_masks
            have r1_whole := tN.mono g12.eb r1_whole
            have r1_closed := (tL tN).mono g12.eb r1_closed
            have rp_found := rp_found.mono g12.eb
            have r_mask := tN.mono g12.eb r_mask
            have r_k := tN.mono g12.eb r_k
            have eL3 := eL3.trans g12.eb
            have eL8 := eL8.trans g12.eb
            have G12 := (G11.trans g12).put h0_found (I11.go g12) (u := .lst (vs_found.set j12 v12))
            have I12 := (I11.go g12).put (u := .lst (vs_found.set j12 v12))
            have rp_found := Reps.set r12 j12 rp_found
            rw [← hy12] at rp_found
            have ln_found : (vs_found.set j12 v12).length ≤ 40000 := by rw [List.length_set]; exact ln_found
            refine ss_nil ?_
            rw [hk8] at hm
            exact ss_nil ⟨B12, (vs_found.set j12 v12), some v_k, (x12_found), rfl, G12, eL8, I12, rp_found, ln_found, hm⟩
          · replace hm := ifF hz hm
            have r_things := (tS cw).mono g11.eb r_things
            have r_masks := (tL tN).mono g11.eb r_masks
            have r1_whole := tN.mono g11.eb r1_whole
            have r1_closed := (tL tN).mono g11.eb r1_closed
            have rp_found := rp_found.mono g11.eb
            have r_mask := tN.mono g11.eb r_mask
            have r_k := tN.mono g11.eb r_k
            have eL3 := eL3.trans g11.eb
            have eL8 := eL8.trans g11.eb
            have I11 := I9.go g11
            have G11 := G9.trans g11
            refine ss_nil ?_
            rw [hk8] at hm
            exact ss_nil ⟨B11, vs_found, some v_k, (st8), rfl, G11, eL8, I11, rp_found, ln_found, hm⟩
        · intro B1 σ1 H1 e1 ⟨B10, vs_found, y_k, st8, hσ, G10, ep, I10, rp_found, ln_found, hm⟩
          subst hσ
          have hm := forK_end hm
          have r_things := (tS cw).mono (e1.trans ep) r_things
          have r_masks := (tL tN).mono (e1.trans ep) r_masks
          have r1_whole := tN.mono (e1.trans ep) r1_whole
          have r1_closed := (tL tN).mono (e1.trans ep) r1_closed
          have r_mask := tN.mono (e1.trans ep) r_mask
          have eL3 := eL3.trans (e1.trans ep)
          refine ss_nil ?_
          rw [hk3] at hm
          exact ss_nil ⟨B10, vs_found, y_k, some v_mask, (st8), rfl, G10, eL3, I10, rp_found, ln_found, hm⟩
    · intro B1 σ1 H1 e1 ⟨B5, vs_found, y_k, y_mask, st3, hσ, G5, ep, I5, rp_found, ln_found, hm⟩
      subst hσ
      have hm := forK_end hm
      have r_things := (tS cw).mono (e1.trans ep) r_things
      have r_masks := (tL tN).mono (e1.trans ep) r_masks
      have r1_whole := tN.mono (e1.trans ep) r1_whole
      have r1_closed := (tL tN).mono (e1.trans ep) r1_closed
      exact ss_ret hm (ev_tuple bt (es_var 4 List.mem_cons_self rp_found ln_found)) I5 fun v9 B9 H9 g9 r9 => q v9 B9 H9 (G5.trans g9) r9

end
end Cw
namespace Cw
open PySem PySem.Spec PyProof.Rows L2 Ly
section
variable {P : Program} {w : World} {K : PySem.W.Frag} {mg : Str → Option Value} {base : Heap} {cw : Crew} {C : Addr}
theorem sc_check_closer : FnScope ["value"] ["value"] (defScope (topS 39)) := ⟨rfl, rfl, rfl, by decide +kernel, rfl, by decide +kernel, by decide +kernel⟩
def m_check_closer (x_value : Clo) : Option (Unit) :=
  ((notO (((some x_value)).bind fun _ => some true)).bind fun b1 => bif b1 then none else (some ()))
abbrev K_check_closer (P : Program) (w : World) (K : PySem.W.Frag) (mg : Str → Option Value) (base : Heap) (cw : Crew) (C : Addr) : Prop := Cal P w K mg base "check_closer" 1 ["value"] (Sp1 (tCl cw C) tU m_check_closer)
theorem cal_check_closer (d : Df K mg "check_closer" (topS 39) ["value"]) (bt : Bt mg) (cf : ClF P w K mg base C) : K_check_closer P w K mg base cw C := by
  obtain ⟨f, fd, F, mgf, bi⟩ := d.ex
  refine ⟨⟨f, fd, ?_, mgf, F.kp, bi⟩⟩
  refine F.ok sc_check_closer (fun vs H Q E h => ?_) (fun cdv A outer s H0 vs Q E hr h => ⟨wSs _ _, p_ss, ?_⟩)
  · obtain ⟨v_value, x_value, B, r, rfl, _⟩ := h
    rfl
  · obtain ⟨v_value, x_value, B0, r, rfl, r_value, eB, hm, q⟩ := h
    have I0 : In B0 [] H0 := ⟨eB, fun _ hp => nomatch hp⟩
    have G0 : Go B0 H0 B0 H0 := Go.refl eB
    obtain ⟨b1, hb1, hm⟩ := bind_some hm
    refine ss_if hb1 (tv_not (tv_of (ev_isiO bt cf (ev_var 0 r_value)))) I0 (fun hz B1 H1 g1 => ?_) (fun hz B1 H1 g1 => ?_)
    · replace hm := ifT hz hm
      have r_value := (tCl cw C).mono g1.eb r_value
      have I1 := I0.go g1
      have G1 := G0.trans g1
      exact absurd hm (by intro z; cases z)
    · replace hm := ifF hz hm
      have r_value := (tCl cw C).mono g1.eb r_value
      have I1 := I0.go g1
      have G1 := G0.trans g1
      refine ss_nil ?_
      cases hm
      exact ss_nil (q .non B1 _ G1 rfl)

theorem sc_closed_masks : FnScope ["closer", "mask"] ["closer"] (defScope (topS 37)) := ⟨rfl, rfl, rfl, by decide +kernel, rfl, by decide +kernel, by decide +kernel⟩
def m_closed_masks (x_closer : Clo) : Option (List (Nat)) :=
  (((((((((some x_closer)).bind fun c => some c.table)).bind fun l => some l.length)).bind rng1)).bind fun xs => compM (fun x_mask => (op2 (fun x y => some (Nat.beq x y)) (op2 (fun xs i => xs[i]?) (((some x_closer)).bind fun c => some c.table) (some x_mask)) (some x_mask))) (fun x_mask => (some x_mask)) xs)
abbrev K_closed_masks (P : Program) (w : World) (K : PySem.W.Frag) (mg : Str → Option Value) (base : Heap) (cw : Crew) (C : Addr) : Prop := Cal P w K mg base "closed_masks" 1 ["closer"] (Sp1 (tCl cw C) (tL tN) m_closed_masks)
theorem cal_closed_masks (d : Df K mg "closed_masks" (topS 37) ["closer"]) (bt : Bt mg) (cf : ClF P w K mg base C) : K_closed_masks P w K mg base cw C := by
  obtain ⟨f, fd, F, mgf, bi⟩ := d.ex
  refine ⟨⟨f, fd, ?_, mgf, F.kp, bi⟩⟩
  refine F.ok sc_closed_masks (fun vs H Q E h => ?_) (fun cdv A outer s H0 vs Q E hr h => ⟨wSs _ _, p_ss, ?_⟩)
  · obtain ⟨v_closer, x_closer, B, r, rfl, _⟩ := h
    rfl
  · obtain ⟨v_closer, x_closer, B0, r, rfl, r_closer, eB, hm, q⟩ := h
    have I0 : In B0 [] H0 := ⟨eB, fun _ hp => nomatch hp⟩
    have G0 : Go B0 H0 B0 H0 := Go.refl eB
    exact ss_ret hm (ev_lc (x := "mask") rfl sc_closed_masks.nd (blkOk_by (by kernel_rfl)) (iv_rng1 bt (ev_lenT bt (ev_fldT cf (ev_var 0 r_closer)))) (fun _ _ _ _ _ => pg_name (i := 1) sc_closed_masks.nd rfl (by first | exact Or.inl rfl | exact Or.inr rfl)) _ _ (fun x_mask v_mask B1 e1 r_mask => by have r_closer := (tCl cw C).mono e1 r_closer; exact fun _ _ _ _ _ => ((ev_eqN (ev_ixT (ev_fldT cf (ev_var 0 r_closer)) (ev_var 1 r_mask)) (ev_var 1 r_mask))).2) (fun x_mask v_mask B1 e1 r_mask _ => by have r_closer := (tCl cw C).mono e1 r_closer; exact fun _ _ _ _ _ => (ev_var 1 r_mask))) I0 fun v9 B9 H9 g9 r9 => q v9 B9 H9 (G0.trans g9) r9

theorem sc_is_closed_mask : FnScope ["closer", "mask"] ["closer", "mask"] (defScope (topS 62)) := ⟨rfl, rfl, rfl, by decide +kernel, rfl, by decide +kernel, by decide +kernel⟩
def m_is_closed_mask (x_closer : Clo) (x_mask : Nat) : Option (Bool) :=
  (op2 (fun x y => some (Nat.beq x y)) (op2 (fun xs i => xs[i]?) (((some x_closer)).bind fun c => some c.table) (some x_mask)) (some x_mask))
abbrev K_is_closed_mask (P : Program) (w : World) (K : PySem.W.Frag) (mg : Str → Option Value) (base : Heap) (cw : Crew) (C : Addr) : Prop := Cal P w K mg base "is_closed_mask" 1 ["closer", "mask"] (Sp2 (tCl cw C) tN tB m_is_closed_mask)
theorem cal_is_closed_mask (d : Df K mg "is_closed_mask" (topS 62) ["closer", "mask"]) (bt : Bt mg) (cf : ClF P w K mg base C) : K_is_closed_mask P w K mg base cw C := by
  obtain ⟨f, fd, F, mgf, bi⟩ := d.ex
  refine ⟨⟨f, fd, ?_, mgf, F.kp, bi⟩⟩
  refine F.ok sc_is_closed_mask (fun vs H Q E h => ?_) (fun cdv A outer s H0 vs Q E hr h => ⟨wSs _ _, p_ss, ?_⟩)
  · obtain ⟨v_closer, v_mask, x_closer, x_mask, B, r, rfl, _⟩ := h
    rfl
  · obtain ⟨v_closer, v_mask, x_closer, x_mask, B0, r, rfl, r_closer, r_mask, eB, hm, q⟩ := h
    have I0 : In B0 [] H0 := ⟨eB, fun _ hp => nomatch hp⟩
    have G0 : Go B0 H0 B0 H0 := Go.refl eB
    exact ss_ret hm ((ev_eqN (ev_ixT (ev_fldT cf (ev_var 0 r_closer)) (ev_var 1 r_mask)) (ev_var 1 r_mask))).1 I0 fun v9 B9 H9 g9 r9 => q v9 B9 H9 (G0.trans g9) r9

theorem sc_span_of : FnScope ["closer", "one", "other"] ["closer", "one", "other"] (defScope (topS 51)) := ⟨rfl, rfl, rfl, by decide +kernel, rfl, by decide +kernel, by decide +kernel⟩
def m_span_of (x_closer : Clo) (x_one : Nat) (x_other : Nat) : Option (Nat) :=
  (op2 (fun xs i => xs[i]?) (((some x_closer)).bind fun c => some c.table) (op2 fOr (some x_one) (some x_other)))
abbrev K_span_of (P : Program) (w : World) (K : PySem.W.Frag) (mg : Str → Option Value) (base : Heap) (cw : Crew) (C : Addr) : Prop := Cal P w K mg base "span_of" 1 ["closer", "one", "other"] (Sp3 (tCl cw C) tN tN tN m_span_of)
theorem cal_span_of (d : Df K mg "span_of" (topS 51) ["closer", "one", "other"]) (bt : Bt mg) (cf : ClF P w K mg base C) : K_span_of P w K mg base cw C := by
  obtain ⟨f, fd, F, mgf, bi⟩ := d.ex
  refine ⟨⟨f, fd, ?_, mgf, F.kp, bi⟩⟩
  refine F.ok sc_span_of (fun vs H Q E h => ?_) (fun cdv A outer s H0 vs Q E hr h => ⟨wSs _ _, p_ss, ?_⟩)
  · obtain ⟨v_closer, v_one, v_other, x_closer, x_one, x_other, B, r, rfl, _⟩ := h
    rfl
  · obtain ⟨v_closer, v_one, v_other, x_closer, x_one, x_other, B0, r, rfl, r_closer, r_one, r_other, eB, hm, q⟩ := h
    have I0 : In B0 [] H0 := ⟨eB, fun _ hp => nomatch hp⟩
    have G0 : Go B0 H0 B0 H0 := Go.refl eB
    exact ss_ret hm (ev_ixT (ev_fldT cf (ev_var 0 r_closer)) (ev_or (ev_var 1 r_one) (ev_var 2 r_other))) I0 fun v9 B9 H9 g9 r9 => q v9 B9 H9 (G0.trans g9) r9

theorem sc_outside_of : FnScope ["closer", "mask", "k"] ["closer", "mask"] (defScope (topS 41)) := ⟨rfl, rfl, rfl, by decide +kernel, rfl, by decide +kernel, by decide +kernel⟩
def m_outside_of (x_closer : Clo) (x_mask : Nat) : Option (List (Nat)) :=
  (((((((((some x_closer)).bind fun c => some c.things)).bind fun l => some l.length)).bind rng1)).bind fun xs => compM (fun x_k => (op2 (fun x y => some (Nat.beq x y)) (op2 fAnd (op2 fShr (some x_mask) (some x_k)) (some 1)) (some 0))) (fun x_k => (op2 fShl (some 1) (some x_k))) xs)
abbrev K_outside_of (P : Program) (w : World) (K : PySem.W.Frag) (mg : Str → Option Value) (base : Heap) (cw : Crew) (C : Addr) : Prop := Cal P w K mg base "outside_of" 3 ["closer", "mask"] (Sp2 (tCl cw C) tN (tL tN) m_outside_of)
theorem cal_outside_of (d : Df K mg "outside_of" (topS 41) ["closer", "mask"]) (bt : Bt mg) (cf : ClF P w K mg base C) : K_outside_of P w K mg base cw C := by
  obtain ⟨f, fd, F, mgf, bi⟩ := d.ex
  refine ⟨⟨f, fd, ?_, mgf, F.kp, bi⟩⟩
  refine F.ok sc_outside_of (fun vs H Q E h => ?_) (fun cdv A outer s H0 vs Q E hr h => ⟨wSs _ _, p_ss, ?_⟩)
  · obtain ⟨v_closer, v_mask, x_closer, x_mask, B, r, rfl, _⟩ := h
    rfl
  · obtain ⟨v_closer, v_mask, x_closer, x_mask, B0, r, rfl, r_closer, r_mask, eB, hm, q⟩ := h
    have I0 : In B0 [] H0 := ⟨eB, fun _ hp => nomatch hp⟩
    have G0 : Go B0 H0 B0 H0 := Go.refl eB
    exact ss_ret hm (ev_lc (x := "k") rfl sc_outside_of.nd (blkOk_by (by kernel_rfl)) (iv_rng1 bt (ev_lenS bt (ev_things cf (hr.mono (by decide)) (ev_var 0 r_closer)))) (fun _ _ _ _ _ => pg_name (i := 2) sc_outside_of.nd rfl (by first | exact Or.inl rfl | exact Or.inr rfl)) _ _ (fun x_k v_k B1 e1 r_k => by have r_mask := tN.mono e1 r_mask; exact fun _ _ _ _ _ => ((ev_eqN (ev_and (ev_shr (ev_var 1 r_mask) (ev_var 2 r_k)) ev_int) ev_int)).2) (fun x_k v_k B1 e1 r_k _ => by have r_mask := tN.mono e1 r_mask; exact fun _ _ _ _ _ => (ev_shl ev_int (ev_var 2 r_k)))) I0 fun v9 B9 H9 g9 r9 => q v9 B9 H9 (G0.trans g9) r9

theorem sc_end_mask : FnScope ["closer", "mask", "found", "k"] ["closer", "mask"] (defScope (topS 44)) := ⟨rfl, rfl, rfl, by decide +kernel, rfl, by decide +kernel, by decide +kernel⟩
def m_end_mask (x_closer : Clo) (x_mask : Nat) : Option (Nat) :=
  ((some 0).bind fun x1_found => ((((((((some x_closer)).bind fun c => some c.things)).bind fun l => some l.length)).bind rng1).bind fun xs2 => forK (fun x_k (st2 : (Nat)) k2 => ((andO (op2 (fun x y => some (Nat.beq x y)) (op2 fAnd (op2 fShr (some x_mask) (some x_k)) (some 1)) (some 1)) (op2 (fun x y => some (Nat.beq x y)) (op2 fAnd (op2 fShr (op2 (fun xs i => xs[i]?) (((some x_closer)).bind fun c => some c.table) (op2 fSub (some x_mask) (op2 fShl (some 1) (some x_k)))) (some x_k)) (some 1)) (some 0))).bind fun b5 => bif b5 then ((op2 fOr (some st2) (op2 fShl (some 1) (some x_k))).bind fun x6_found => (k2 (x6_found))) else (k2 (st2)))) (fun (st2 : (Nat)) => (some st2)) xs2 (x1_found)))
abbrev K_end_mask (P : Program) (w : World) (K : PySem.W.Frag) (mg : Str → Option Value) (base : Heap) (cw : Crew) (C : Addr) : Prop := Cal P w K mg base "end_mask" 3 ["closer", "mask"] (Sp2 (tCl cw C) tN tN m_end_mask)
theorem cal_end_mask (d : Df K mg "end_mask" (topS 44) ["closer", "mask"]) (bt : Bt mg) (cf : ClF P w K mg base C) : K_end_mask P w K mg base cw C := by
  obtain ⟨f, fd, F, mgf, bi⟩ := d.ex
  refine ⟨⟨f, fd, ?_, mgf, F.kp, bi⟩⟩
  refine F.ok sc_end_mask (fun vs H Q E h => ?_) (fun cdv A outer s H0 vs Q E hr h => ⟨wSs _ _, p_ss, ?_⟩)
  · obtain ⟨v_closer, v_mask, x_closer, x_mask, B, r, rfl, _⟩ := h
    rfl
  · obtain ⟨v_closer, v_mask, x_closer, x_mask, B0, r, rfl, r_closer, r_mask, eB, hm, q⟩ := h
    have I0 : In B0 [] H0 := ⟨eB, fun _ hp => nomatch hp⟩
    have G0 : Go B0 H0 B0 H0 := Go.refl eB
    obtain ⟨x1_found, h1, hm⟩ := bind_some hm
    refine ss_set 2 h1 ev_int I0 (fun v1_found B1 H1 g1 r1_found => ?_) sc_end_mask.nd
    have r_closer := (tCl cw C).mono g1.eb r_closer
    have r_mask := tN.mono g1.eb r_mask
    have I1 := I0.go g1
    have G1 := G0.trans g1
    obtain ⟨xs2, hx2, hm⟩ := bind_some hm
    refine ss_for 3 hx2 (iv_rng1 bt (ev_lenS bt (ev_things cf (hr.mono (by decide)) (ev_var 0 r_closer)))) I1.nil (fun Bq rem σq Hq => ∃ (Bp : Hp) (v_found : V) (y_k : Option V) (st2 : (Nat)), σq = [some v_closer, some v_mask, some v_found, y_k] ∧ Go B0 H0 Bp Hq ∧ Ex Bq Bp ∧ In Bp [] Hq ∧ tN.rep Bp v_found st2 ∧ forK (fun x_k (st2 : (Nat)) k2 => ((andO (op2 (fun x y => some (Nat.beq x y)) (op2 fAnd (op2 fShr (some x_mask) (some x_k)) (some 1)) (some 1)) (op2 (fun x y => some (Nat.beq x y)) (op2 fAnd (op2 fShr (op2 (fun xs i => xs[i]?) (((some x_closer)).bind fun c => some c.table) (op2 fSub (some x_mask) (op2 fShl (some 1) (some x_k)))) (some x_k)) (some 1)) (some 0))).bind fun b5 => bif b5 then ((op2 fOr (some st2) (op2 fShl (some 1) (some x_k))).bind fun x6_found => (k2 (x6_found))) else (k2 (st2)))) (fun (st2 : (Nat)) => (some st2)) rem st2 = some r) ?_ ?_ ?_ ?_ PassesOwn.never rfl (pg_name (i := 3) sc_end_mask.nd rfl (by first | exact Or.inl rfl | exact Or.inr rfl))
    · intro Ba Ha ga
      exact ⟨Ba, v1_found, none, (x1_found), rfl, G1.trans ga, Ex.refl _, I1.go ga, (tN.mono ga.eb r1_found), hm⟩
    · intro B1 rem σ1 H1 ⟨Bp, v_found, y_k, st2, _, _, e1, I1, _⟩
      exact ⟨e1.trans I1.ex, fun _ hp => nomatch hp⟩
    · intro B1 x_k rem v_k σ1 H1 e1 r_k ⟨B3, v_found, y_k, st2, hσ, G3, eL2, I3, r_found, hm⟩
      subst hσ
      have r_k := tN.mono eL2 r_k
      obtain ⟨k2, hk2, hm⟩ := forK_step hm
      have r_closer := (tCl cw C).mono (e1.trans eL2) r_closer
      have r_mask := tN.mono (e1.trans eL2) r_mask
      obtain ⟨b5, hb5, hm⟩ := bind_some hm
      refine ss_if hb5 (tv_w (wv_and ((ev_eqN (ev_and (ev_shr (ev_var 1 r_mask) (ev_var 3 r_k)) ev_int) ev_int)).2 (wv_and1 ((ev_eqN (ev_and (ev_shr (ev_ixT (ev_fldT cf (ev_var 0 r_closer)) (ev_sub (ev_var 1 r_mask) (ev_shl ev_int (ev_var 3 r_k)))) (ev_var 3 r_k)) ev_int) ev_int)).2))) I3 (fun hz B5 H5 g5 => ?_) (fun hz B5 H5 g5 => ?_)
      · replace hm := ifT hz hm
        have r_closer := (tCl cw C).mono g5.eb r_closer
        have r_mask := tN.mono g5.eb r_mask
        have r_found := tN.mono g5.eb r_found
        have r_k := tN.mono g5.eb r_k
        have eL2 := eL2.trans g5.eb
        have I5 := I3.go g5
        have G5 := G3.trans g5
        obtain ⟨x6_found, h6, hm⟩ := bind_some hm
        refine ss_set 2 h6 (ev_or (ev_var 2 r_found) (ev_shl ev_int (ev_var 3 r_k))) I5 (fun v6_found B6 H6 g6 r6_found => ?_) sc_end_mask.nd
        have r_closer := (tCl cw C).mono g6.eb r_closer
        have r_mask := tN.mono g6.eb r_mask
        have r_found := tN.mono g6.eb r_found
        have r_k := tN.mono g6.eb r_k
        have eL2 := eL2.trans g6.eb
        have I6 := I5.go g6
        have G6 := G5.trans g6
        refine ss_nil ?_
        rw [hk2] at hm
        exact ss_nil ⟨B6, v6_found, some v_k, (x6_found), rfl, G6, eL2, I6, r6_found, hm⟩
      · replace hm := ifF hz hm
        have r_closer := (tCl cw C).mono g5.eb r_closer
        have r_mask := tN.mono g5.eb r_mask
        have r_found := tN.mono g5.eb r_found
        have r_k := tN.mono g5.eb r_k
        have eL2 := eL2.trans g5.eb
        have I5 := I3.go g5
        have G5 := G3.trans g5
        refine ss_nil ?_
        rw [hk2] at hm
        exact ss_nil ⟨B5, v_found, some v_k, (st2), rfl, G5, eL2, I5, r_found, hm⟩
    · intro B1 σ1 H1 e1 ⟨B4, v_found, y_k, st2, hσ, G4, ep, I4, r_found, hm⟩
      subst hσ
      have hm := forK_end hm
      have r_closer := (tCl cw C).mono (e1.trans ep) r_closer
      have r_mask := tN.mono (e1.trans ep) r_mask
      exact ss_ret hm (ev_var 2 r_found) I4 fun v9 B9 H9 g9 r9 => q v9 B9 H9 (G4.trans g9) r9

theorem sc_ends : FnScope ["closer", "lot"] ["closer", "lot"] (defScope (topS 45)) := ⟨rfl, rfl, rfl, by decide +kernel, rfl, by decide +kernel, by decide +kernel⟩
def m_ends (x_closer : Clo) (x_lot : List Nat) : Option (List Nat) :=
  ((((some x_closer)).bind m_check_closer).bind fun z1 => ((op2 m_check_lot (((some x_closer)).bind fun c => some c.things) (some x_lot)).bind fun z2 => (op2 m_lot_of (((some x_closer)).bind fun c => some c.things) (op2 m_end_mask (some x_closer) (op2 m_mask_of (((some x_closer)).bind fun c => some c.things) (some x_lot))))))
abbrev K_ends (P : Program) (w : World) (K : PySem.W.Frag) (mg : Str → Option Value) (base : Heap) (cw : Crew) (C : Addr) : Prop := Cal P w K mg base "ends" 5 ["closer", "lot"] (Sp2 (tCl cw C) (tS cw) (tS cw) m_ends)
theorem cal_ends (d : Df K mg "ends" (topS 45) ["closer", "lot"]) (bt : Bt mg) (cf : ClF P w K mg base C) (c_check_closer : K_check_closer P w K mg base cw C) (c_check_lot : K_check_lot P w K mg base cw C) (c_lot_of : K_lot_of P w K mg base cw C) (c_end_mask : K_end_mask P w K mg base cw C) (c_mask_of : K_mask_of P w K mg base cw C) : K_ends P w K mg base cw C := by
  obtain ⟨f, fd, F, mgf, bi⟩ := d.ex
  refine ⟨⟨f, fd, ?_, mgf, F.kp, bi⟩⟩
  refine F.ok sc_ends (fun vs H Q E h => ?_) (fun cdv A outer s H0 vs Q E hr h => ⟨wSs _ _, p_ss, ?_⟩)
  · obtain ⟨v_closer, v_lot, x_closer, x_lot, B, r, rfl, _⟩ := h
    rfl
  · obtain ⟨v_closer, v_lot, x_closer, x_lot, B0, r, rfl, r_closer, r_lot, eB, hm, q⟩ := h
    have I0 : In B0 [] H0 := ⟨eB, fun _ hp => nomatch hp⟩
    have G0 : Go B0 H0 B0 H0 := Go.refl eB
    obtain ⟨z1, hz1, hm⟩ := bind_some hm
    refine ss_do hz1 (ev_call1 c_check_closer (hr.mono (by decide)) (ev_var 0 r_closer)) I0 (fun v1 B1 H1 g1 _ => ?_)
    have r_closer := (tCl cw C).mono g1.eb r_closer
    have r_lot := (tS cw).mono g1.eb r_lot
    have I1 := I0.go g1
    have G1 := G0.trans g1
    obtain ⟨z2, hz2, hm⟩ := bind_some hm
    refine ss_do hz2 (ev_call2 c_check_lot (hr.mono (by decide)) (ev_things cf (hr.mono (by decide)) (ev_var 0 r_closer)) (ev_var 1 r_lot)) I1 (fun v2 B2 H2 g2 _ => ?_)
    have r_closer := (tCl cw C).mono g2.eb r_closer
    have r_lot := (tS cw).mono g2.eb r_lot
    have I2 := I1.go g2
    have G2 := G1.trans g2
    exact ss_ret hm (ev_call2 c_lot_of (hr.mono (by decide)) (ev_things cf (hr.mono (by decide)) (ev_var 0 r_closer)) (ev_call2 c_end_mask (hr.mono (by decide)) (ev_var 0 r_closer) (ev_call2 c_mask_of (hr.mono (by decide)) (ev_things cf (hr.mono (by decide)) (ev_var 0 r_closer)) (ev_var 1 r_lot)))) I2 fun v9 B9 H9 g9 r9 => q v9 B9 H9 (G2.trans g9) r9

end
end Cw
namespace Cw
open PySem PySem.Spec PyProof.Rows L2 Ly
section
variable {P : Program} {w : World} {K : PySem.W.Frag} {mg : Str → Option Value} {base : Heap} {cw : Crew} {C : Addr}
theorem sc_swap_of : FnScope ["closer", "mask", "one", "other", "with_one", "with_other", "each"] ["closer"] (defScope (topS 42)) := ⟨rfl, rfl, rfl, by decide +kernel, rfl, by decide +kernel, by decide +kernel⟩
def m_swap_of (x_closer : Clo) : Option (Option (List (List Nat))) :=
  ((op2 (fun x y => some (!y.any fun z => (fun x y => x == y) z x)) (some []) (((some x_closer)).bind fun c => some c.closed)).bind fun b1 => bif b1 then none else ((((some x_closer)).bind m_closed_masks).bind fun xs2 => forK (fun x_mask (st2 : Unit) k2 => ((op2 m_outside_of (some x_closer) (some x_mask)).bind fun xs5 => forK (fun x_one (st5 : Unit) k5 => ((op2 m_outside_of (some x_closer) (some x_mask)).bind fun xs8 => forK (fun x_other (st8 : Unit) k8 => ((op2 (fun xs i => xs[i]?) (((some x_closer)).bind fun c => some c.table) (op2 fOr (some x_mask) (some x_one))).bind fun x11_with_one => (op2 (fun xs i => xs[i]?) (((some x_closer)).bind fun c => some c.table) (op2 fOr (some x_mask) (some x_other))).bind fun x11_with_other => ((andO (op2 (fun x y => some (!Nat.beq x y)) (some x_one) (some x_other)) (andO (op2 (fun x y => some (!Nat.beq x y)) (op2 fAnd (some x11_with_one) (some x_other)) (some 0)) (op2 (fun x y => some (!Nat.beq x y)) (op2 fAnd (some x11_with_other) (some x_one)) (some 0)))).bind fun b12 => bif b12 then (((((op3 (fun x y z => some [x, y, z]) (some x_mask) (some x_one) (some x_other))).bind fun xs => compM (fun x_each => (some true)) (fun x_each => (op2 m_lot_of (((some x_closer)).bind fun c => some c.things) (some x_each))) xs)).bind fun x => some (some x)) else (k8 ())))) (fun (st8 : Unit) => (k5 ())) xs8 ())) (fun (st5 : Unit) => (k2 ())) xs5 ())) (fun (st2 : Unit) => (some none)) xs2 ()))
abbrev K_swap_of (P : Program) (w : World) (K : PySem.W.Frag) (mg : Str → Option Value) (base : Heap) (cw : Crew) (C : Addr) : Prop := Cal P w K mg base "swap_of" 4 ["closer"] (Sp1 (tCl cw C) (tO (tT (tS cw))) m_swap_of)
theorem cal_swap_of (d : Df K mg "swap_of" (topS 42) ["closer"]) (bt : Bt mg) (cf : ClF P w K mg base C) (c_closed_masks : K_closed_masks P w K mg base cw C) (c_outside_of : K_outside_of P w K mg base cw C) (c_lot_of : K_lot_of P w K mg base cw C) : K_swap_of P w K mg base cw C := by
  obtain ⟨f, fd, F, mgf, bi⟩ := d.ex
  refine ⟨⟨f, fd, ?_, mgf, F.kp, bi⟩⟩
  refine F.ok sc_swap_of (fun vs H Q E h => ?_) (fun cdv A outer s H0 vs Q E hr h => ⟨wSs _ _, p_ss, ?_⟩)
  · obtain ⟨v_closer, x_closer, B, r, rfl, _⟩ := h
    rfl
  · obtain ⟨v_closer, x_closer, B0, r, rfl, r_closer, eB, hm, q⟩ := h
    have I0 : In B0 [] H0 := ⟨eB, fun _ hp => nomatch hp⟩
    have G0 : Go B0 H0 B0 H0 := Go.refl eB
    obtain ⟨b1, hb1, hm⟩ := bind_some hm
    refine ss_if hb1 ((ev_niT flatS (ev_nil (cw := cw)) (ev_closed cf (hr.mono (by decide)) (ev_var 0 r_closer)))).2 I0 (fun hz B1 H1 g1 => ?_) (fun hz B1 H1 g1 => ?_)
    · replace hm := ifT hz hm
      have r_closer := (tCl cw C).mono g1.eb r_closer
      have I1 := I0.go g1
      have G1 := G0.trans g1
      exact absurd hm (by intro z; cases z)
    · replace hm := ifF hz hm
      have r_closer := (tCl cw C).mono g1.eb r_closer
      have I1 := I0.go g1
      have G1 := G0.trans g1
      refine ss_nil ?_
      obtain ⟨xs2, hx2, hm⟩ := bind_some hm
      refine ss_for 1 hx2 (iv_L (es_of (ev_call1 c_closed_masks (hr.mono (by decide)) (ev_var 0 r_closer)))) I1.nil (fun Bq rem σq Hq => ∃ (Bp : Hp) (y_one : Option V) (y_other : Option V) (y_with_one : Option V) (y_with_other : Option V) (y_mask : Option V) (st2 : Unit), σq = [some v_closer, y_mask, y_one, y_other, y_with_one, y_with_other, none] ∧ Go B0 H0 Bp Hq ∧ Ex Bq Bp ∧ In Bp [] Hq ∧ forK (fun x_mask (st2 : Unit) k2 => ((op2 m_outside_of (some x_closer) (some x_mask)).bind fun xs5 => forK (fun x_one (st5 : Unit) k5 => ((op2 m_outside_of (some x_closer) (some x_mask)).bind fun xs8 => forK (fun x_other (st8 : Unit) k8 => ((op2 (fun xs i => xs[i]?) (((some x_closer)).bind fun c => some c.table) (op2 fOr (some x_mask) (some x_one))).bind fun x11_with_one => (op2 (fun xs i => xs[i]?) (((some x_closer)).bind fun c => some c.table) (op2 fOr (some x_mask) (some x_other))).bind fun x11_with_other => ((andO (op2 (fun x y => some (!Nat.beq x y)) (some x_one) (some x_other)) (andO (op2 (fun x y => some (!Nat.beq x y)) (op2 fAnd (some x11_with_one) (some x_other)) (some 0)) (op2 (fun x y => some (!Nat.beq x y)) (op2 fAnd (some x11_with_other) (some x_one)) (some 0)))).bind fun b12 => bif b12 then (((((op3 (fun x y z => some [x, y, z]) (some x_mask) (some x_one) (some x_other))).bind fun xs => compM (fun x_each => (some true)) (fun x_each => (op2 m_lot_of (((some x_closer)).bind fun c => some c.things) (some x_each))) xs)).bind fun x => some (some x)) else (k8 ())))) (fun (st8 : Unit) => (k5 ())) xs8 ())) (fun (st5 : Unit) => (k2 ())) xs5 ())) (fun (st2 : Unit) => (some none)) rem st2 = some r) ?_ ?_ ?_ ?_ PassesOwn.never rfl (pg_name (i := 1) sc_swap_of.nd rfl (by first | exact Or.inl rfl | exact Or.inr rfl))
      · intro Ba Ha ga
        exact ⟨Ba, none, none, none, none, none, (), rfl, G1.trans ga, Ex.refl _, I1.go ga, hm⟩
      · intro B1 rem σ1 H1 ⟨Bp, y_one, y_other, y_with_one, y_with_other, y_mask, st2, _, _, e1, I1, _⟩
        exact ⟨e1.trans I1.ex, fun _ hp => nomatch hp⟩
      · intro B1 x_mask rem v_mask σ1 H1 e1 r_mask ⟨B3, y_one, y_other, y_with_one, y_with_other, y_mask, st2, hσ, G3, eL2, I3, hm⟩
        subst hσ
        have r_mask := tN.mono eL2 r_mask
        obtain ⟨k2, hk2, hm⟩ := forK_step hm
        have r_closer := (tCl cw C).mono (e1.trans eL2) r_closer
        obtain ⟨xs5, hx5, hm⟩ := bind_some hm
        refine ss_for 2 hx5 (iv_L (es_of (ev_call2 c_outside_of (hr.mono (by decide)) (ev_var 0 r_closer) (ev_var 1 r_mask)))) I3.nil (fun Bq rem σq Hq => ∃ (Bp : Hp) (y_other : Option V) (y_with_one : Option V) (y_with_other : Option V) (y_one : Option V) (st5 : Unit), σq = [some v_closer, some v_mask, y_one, y_other, y_with_one, y_with_other, none] ∧ Go B0 H0 Bp Hq ∧ Ex Bq Bp ∧ In Bp [] Hq ∧ forK (fun x_one (st5 : Unit) k5 => ((op2 m_outside_of (some x_closer) (some x_mask)).bind fun xs8 => forK (fun x_other (st8 : Unit) k8 => ((op2 (fun xs i => xs[i]?) (((some x_closer)).bind fun c => some c.table) (op2 fOr (some x_mask) (some x_one))).bind fun x11_with_one => (op2 (fun xs i => xs[i]?) (((some x_closer)).bind fun c => some c.table) (op2 fOr (some x_mask) (some x_other))).bind fun x11_with_other => ((andO (op2 (fun x y => some (!Nat.beq x y)) (some x_one) (some x_other)) (andO (op2 (fun x y => some (!Nat.beq x y)) (op2 fAnd (some x11_with_one) (some x_other)) (some 0)) (op2 (fun x y => some (!Nat.beq x y)) (op2 fAnd (some x11_with_other) (some x_one)) (some 0)))).bind fun b12 => bif b12 then (((((op3 (fun x y z => some [x, y, z]) (some x_mask) (some x_one) (some x_other))).bind fun xs => compM (fun x_each => (some true)) (fun x_each => (op2 m_lot_of (((some x_closer)).bind fun c => some c.things) (some x_each))) xs)).bind fun x => some (some x)) else (k8 ())))) (fun (st8 : Unit) => (k5 ())) xs8 ())) (fun (st5 : Unit) => (k2 ())) rem st5 = some r) ?_ ?_ ?_ ?_ PassesOwn.never rfl (pg_name (i := 2) sc_swap_of.nd rfl (by first | exact Or.inl rfl | exact Or.inr rfl))
        · intro Ba Ha ga
          exact ⟨Ba, y_other, y_with_one, y_with_other, y_one, (), rfl, G3.trans ga, Ex.refl _, I3.go ga, hm⟩
        · intro B1 rem σ1 H1 ⟨Bp, y_other, y_with_one, y_with_other, y_one, st5, _, _, e1, I1, _⟩
          exact ⟨e1.trans I1.ex, fun _ hp => nomatch hp⟩
        · intro B1 x_one rem v_one σ1 H1 e1 r_one ⟨B6, y_other, y_with_one, y_with_other, y_one, st5, hσ, G6, eL5, I6, hm⟩
          subst hσ
          have r_one := tN.mono eL5 r_one
          obtain ⟨k5, hk5, hm⟩ := forK_step hm
          have r_closer := (tCl cw C).mono (e1.trans eL5) r_closer
          have r_mask := tN.mono (e1.trans eL5) r_mask
          have eL2 := eL2.trans (e1.trans eL5)
          obtain ⟨xs8, hx8, hm⟩ := bind_some hm
          refine ss_for 3 hx8 (iv_L (es_of (ev_call2 c_outside_of (hr.mono (by decide)) (ev_var 0 r_closer) (ev_var 1 r_mask)))) I6.nil (fun Bq rem σq Hq => ∃ (Bp : Hp) (y_with_one : Option V) (y_with_other : Option V) (y_other : Option V) (st8 : Unit), σq = [some v_closer, some v_mask, some v_one, y_other, y_with_one, y_with_other, none] ∧ Go B0 H0 Bp Hq ∧ Ex Bq Bp ∧ In Bp [] Hq ∧ forK (fun x_other (st8 : Unit) k8 => ((op2 (fun xs i => xs[i]?) (((some x_closer)).bind fun c => some c.table) (op2 fOr (some x_mask) (some x_one))).bind fun x11_with_one => (op2 (fun xs i => xs[i]?) (((some x_closer)).bind fun c => some c.table) (op2 fOr (some x_mask) (some x_other))).bind fun x11_with_other => ((andO (op2 (fun x y => some (!Nat.beq x y)) (some x_one) (some x_other)) (andO (op2 (fun x y => some (!Nat.beq x y)) (op2 fAnd (some x11_with_one) (some x_other)) (some 0)) (op2 (fun x y => some (!Nat.beq x y)) (op2 fAnd (some x11_with_other) (some x_one)) (some 0)))).bind fun b12 => bif b12 then (((((op3 (fun x y z => some [x, y, z]) (some x_mask) (some x_one) (some x_other))).bind fun xs => compM (fun x_each => (some true)) (fun x_each => (op2 m_lot_of (((some x_closer)).bind fun c => some c.things) (some x_each))) xs)).bind fun x => some (some x)) else (k8 ())))) (fun (st8 : Unit) => (k5 ())) rem st8 = some r) ?_ ?_ ?_ ?_ PassesOwn.never rfl (pg_name (i := 3) sc_swap_of.nd rfl (by first | exact Or.inl rfl | exact Or.inr rfl))
          · intro Ba Ha ga
            exact ⟨Ba, y_with_one, y_with_other, y_other, (), rfl, G6.trans ga, Ex.refl _, I6.go ga, hm⟩
          · intro B1 rem σ1 H1 ⟨Bp, y_with_one, y_with_other, y_other, st8, _, _, e1, I1, _⟩
            exact ⟨e1.trans I1.ex, fun _ hp => nomatch hp⟩
          · intro B1 x_other rem v_other σ1 H1 e1 r_other ⟨B9, y_with_one, y_with_other, y_other, st8, hσ, G9, eL8, I9, hm⟩
            subst hσ
            have r_other := tN.mono eL8 r_other
            obtain ⟨k8, hk8, hm⟩ := forK_step hm
            have r_closer := (tCl cw C).mono (e1.trans eL8) r_closer
            have r_mask := tN.mono (e1.trans eL8) r_mask
            have r_one := tN.mono (e1.trans eL8) r_one
            have eL2 := eL2.trans (e1.trans eL8)
            have eL5 := eL5.trans (e1.trans eL8)
            obtain ⟨x11_with_one, h11, hm⟩ := bind_some hm
            obtain ⟨x11_with_other, k11, hm⟩ := bind_some hm
            refine ss_par 4 5 h11 k11 (ev_ixT (ev_fldT cf (ev_var 0 r_closer)) (ev_or (ev_var 1 r_mask) (ev_var 2 r_one))) (ev_ixT (ev_fldT cf (ev_var 0 r_closer)) (ev_or (ev_var 1 r_mask) (ev_var 3 r_other))) I9 (fun v11_with_one v11_with_other B11 H11 g11 r11_with_one r11_with_other => ?_) rfl sc_swap_of.nd
            have r_closer := (tCl cw C).mono g11.eb r_closer
            have r_mask := tN.mono g11.eb r_mask
            have r_one := tN.mono g11.eb r_one
            have r_other := tN.mono g11.eb r_other
            have eL2 := eL2.trans g11.eb
            have eL5 := eL5.trans g11.eb
            have eL8 := eL8.trans g11.eb
            have I11 := I9.go g11
            have G11 := G9.trans g11
            obtain ⟨b12, hb12, hm⟩ := bind_some hm
            refine ss_if hb12 (tv_w (wv_and ((ev_neN (ev_var 2 r_one) (ev_var 3 r_other))).2 (wv_and ((ev_neN (ev_and (ev_var 4 r11_with_one) (ev_var 3 r_other)) ev_int)).2 (wv_and1 ((ev_neN (ev_and (ev_var 5 r11_with_other) (ev_var 2 r_one)) ev_int)).2)))) I11 (fun hz B12 H12 g12 => ?_) (fun hz B12 H12 g12 => ?_)
            · replace hm := ifT hz hm
              have r_closer := (tCl cw C).mono g12.eb r_closer
              have r_mask := tN.mono g12.eb r_mask
              have r_one := tN.mono g12.eb r_one
              have r_other := tN.mono g12.eb r_other
              have r11_with_one := tN.mono g12.eb r11_with_one
              have r11_with_other := tN.mono g12.eb r11_with_other
              have eL2 := eL2.trans g12.eb
              have eL5 := eL5.trans g12.eb
              have eL8 := eL8.trans g12.eb
              have I12 := I11.go g12
              have G12 := G11.trans g12
              exact ss_ret hm (ev_some (ev_tuple bt (es_of (ev_lc (x := "each") rfl sc_swap_of.nd (blkOk_by (by kernel_rfl)) (iv_T (ev_tup3 (ev_var 1 r_mask) (ev_var 2 r_one) (ev_var 3 r_other))) (fun _ _ _ _ _ => pg_name (i := 6) sc_swap_of.nd rfl (by first | exact Or.inl rfl | exact Or.inr rfl)) _ _ (fun x_each v_each B13 e13 r_each => rfl) (fun x_each v_each B13 e13 r_each _ => by have r_closer := (tCl cw C).mono e13 r_closer; exact fun _ _ _ _ _ => (ev_call2 c_lot_of (hr.mono (by decide)) (ev_things cf (hr.mono (by decide)) (ev_var 0 r_closer)) (ev_var 6 r_each)))))) nnT) I12 fun v9 B9 H9 g9 r9 => q v9 B9 H9 (G12.trans g9) r9
            · replace hm := ifF hz hm
              have r_closer := (tCl cw C).mono g12.eb r_closer
              have r_mask := tN.mono g12.eb r_mask
              have r_one := tN.mono g12.eb r_one
              have r_other := tN.mono g12.eb r_other
              have r11_with_one := tN.mono g12.eb r11_with_one
              have r11_with_other := tN.mono g12.eb r11_with_other
              have eL2 := eL2.trans g12.eb
              have eL5 := eL5.trans g12.eb
              have eL8 := eL8.trans g12.eb
              have I12 := I11.go g12
              have G12 := G11.trans g12
              refine ss_nil ?_
              rw [hk8] at hm
              exact ss_nil ⟨B12, some v11_with_one, some v11_with_other, some v_other, (), rfl, G12, eL8, I12, hm⟩
          · intro B1 σ1 H1 e1 ⟨B10, y_with_one, y_with_other, y_other, st8, hσ, G10, ep, I10, hm⟩
            subst hσ
            have hm := forK_end hm
            have r_closer := (tCl cw C).mono (e1.trans ep) r_closer
            have r_mask := tN.mono (e1.trans ep) r_mask
            have r_one := tN.mono (e1.trans ep) r_one
            have eL2 := eL2.trans (e1.trans ep)
            have eL5 := eL5.trans (e1.trans ep)
            rw [hk5] at hm
            exact ss_nil ⟨B10, y_other, y_with_one, y_with_other, some v_one, (), rfl, G10, eL5, I10, hm⟩
        · intro B1 σ1 H1 e1 ⟨B7, y_other, y_with_one, y_with_other, y_one, st5, hσ, G7, ep, I7, hm⟩
          subst hσ
          have hm := forK_end hm
          have r_closer := (tCl cw C).mono (e1.trans ep) r_closer
          have r_mask := tN.mono (e1.trans ep) r_mask
          have eL2 := eL2.trans (e1.trans ep)
          rw [hk2] at hm
          exact ss_nil ⟨B7, y_one, y_other, y_with_one, y_with_other, some v_mask, (), rfl, G7, eL2, I7, hm⟩
      · intro B1 σ1 H1 e1 ⟨B4, y_one, y_other, y_with_one, y_with_other, y_mask, st2, hσ, G4, ep, I4, hm⟩
        subst hσ
        have hm := forK_end hm
        have r_closer := (tCl cw C).mono (e1.trans ep) r_closer
        exact ss_ret hm ev_noneO I4 fun v9 B9 H9 g9 r9 => q v9 B9 H9 (G4.trans g9) r9

theorem sc_is_convex : FnScope ["closer"] ["closer"] (defScope (topS 43)) := ⟨rfl, rfl, rfl, by decide +kernel, rfl, by decide +kernel, by decide +kernel⟩
def m_is_convex (x_closer : Clo) : Option (Bool) :=
  ((((some x_closer)).bind m_check_closer).bind fun z1 => (((((some x_closer)).bind m_swap_of)).bind fun x => some x.isNone))
abbrev K_is_convex (P : Program) (w : World) (K : PySem.W.Frag) (mg : Str → Option Value) (base : Heap) (cw : Crew) (C : Addr) : Prop := Cal P w K mg base "is_convex" 5 ["closer"] (Sp1 (tCl cw C) tB m_is_convex)
theorem cal_is_convex (d : Df K mg "is_convex" (topS 43) ["closer"]) (bt : Bt mg) (c_check_closer : K_check_closer P w K mg base cw C) (c_swap_of : K_swap_of P w K mg base cw C) : K_is_convex P w K mg base cw C := by
  obtain ⟨f, fd, F, mgf, bi⟩ := d.ex
  refine ⟨⟨f, fd, ?_, mgf, F.kp, bi⟩⟩
  refine F.ok sc_is_convex (fun vs H Q E h => ?_) (fun cdv A outer s H0 vs Q E hr h => ⟨wSs _ _, p_ss, ?_⟩)
  · obtain ⟨v_closer, x_closer, B, r, rfl, _⟩ := h
    rfl
  · obtain ⟨v_closer, x_closer, B0, r, rfl, r_closer, eB, hm, q⟩ := h
    have I0 : In B0 [] H0 := ⟨eB, fun _ hp => nomatch hp⟩
    have G0 : Go B0 H0 B0 H0 := Go.refl eB
    obtain ⟨z1, hz1, hm⟩ := bind_some hm
    refine ss_do hz1 (ev_call1 c_check_closer (hr.mono (by decide)) (ev_var 0 r_closer)) I0 (fun v1 B1 H1 g1 _ => ?_)
    have r_closer := (tCl cw C).mono g1.eb r_closer
    have I1 := I0.go g1
    have G1 := G0.trans g1
    exact ss_ret hm ((ev_isN (ev_call1 c_swap_of (hr.mono (by decide)) (ev_var 0 r_closer)))).1 I1 fun v9 B9 H9 g9 r9 => q v9 B9 H9 (G1.trans g9) r9

theorem sc_barring_of : FnScope ["closer", "mask", "one", "other", "each"] ["closer"] (defScope (topS 47)) := ⟨rfl, rfl, rfl, by decide +kernel, rfl, by decide +kernel, by decide +kernel⟩
def m_barring_of (x_closer : Clo) : Option (Option (List (List Nat))) :=
  ((((some x_closer)).bind m_closed_masks).bind fun xs1 => forK (fun x_mask (st1 : Unit) k1 => ((op2 m_outside_of (some x_closer) (some x_mask)).bind fun xs4 => forK (fun x_one (st4 : Unit) k4 => ((op2 m_outside_of (some x_closer) (some x_mask)).bind fun xs7 => forK (fun x_other (st7 : Unit) k7 => ((andO (op2 (fun x y => some (!Nat.beq x y)) (op2 fAnd (op2 (fun xs i => xs[i]?) (((some x_closer)).bind fun c => some c.table) (op2 fOr (some x_mask) (some x_one))) (some x_other)) (some 0)) (op2 (fun x y => some (Nat.beq x y)) (op2 fAnd (op2 (fun xs i => xs[i]?) (((some x_closer)).bind fun c => some c.table) (op2 fOr (some x_mask) (some x_other))) (some x_one)) (some 0))).bind fun b10 => bif b10 then (((((op3 (fun x y z => some [x, y, z]) (some x_mask) (some x_one) (some x_other))).bind fun xs => compM (fun x_each => (some true)) (fun x_each => (op2 m_lot_of (((some x_closer)).bind fun c => some c.things) (some x_each))) xs)).bind fun x => some (some x)) else (k7 ()))) (fun (st7 : Unit) => (k4 ())) xs7 ())) (fun (st4 : Unit) => (k1 ())) xs4 ())) (fun (st1 : Unit) => (some none)) xs1 ())
abbrev K_barring_of (P : Program) (w : World) (K : PySem.W.Frag) (mg : Str → Option Value) (base : Heap) (cw : Crew) (C : Addr) : Prop := Cal P w K mg base "barring_of" 4 ["closer"] (Sp1 (tCl cw C) (tO (tT (tS cw))) m_barring_of)
theorem cal_barring_of (d : Df K mg "barring_of" (topS 47) ["closer"]) (bt : Bt mg) (cf : ClF P w K mg base C) (c_closed_masks : K_closed_masks P w K mg base cw C) (c_outside_of : K_outside_of P w K mg base cw C) (c_lot_of : K_lot_of P w K mg base cw C) : K_barring_of P w K mg base cw C := by
  obtain ⟨f, fd, F, mgf, bi⟩ := d.ex
  refine ⟨⟨f, fd, ?_, mgf, F.kp, bi⟩⟩
  refine F.ok sc_barring_of (fun vs H Q E h => ?_) (fun cdv A outer s H0 vs Q E hr h => ⟨wSs _ _, p_ss, ?_⟩)
  · obtain ⟨v_closer, x_closer, B, r, rfl, _⟩ := h
    rfl
  · obtain ⟨v_closer, x_closer, B0, r, rfl, r_closer, eB, hm, q⟩ := h
    have I0 : In B0 [] H0 := ⟨eB, fun _ hp => nomatch hp⟩
    have G0 : Go B0 H0 B0 H0 := Go.refl eB
    obtain ⟨xs1, hx1, hm⟩ := bind_some hm
    refine ss_for 1 hx1 (iv_L (es_of (ev_call1 c_closed_masks (hr.mono (by decide)) (ev_var 0 r_closer)))) I0.nil (fun Bq rem σq Hq => ∃ (Bp : Hp) (y_one : Option V) (y_other : Option V) (y_mask : Option V) (st1 : Unit), σq = [some v_closer, y_mask, y_one, y_other, none] ∧ Go B0 H0 Bp Hq ∧ Ex Bq Bp ∧ In Bp [] Hq ∧ forK (fun x_mask (st1 : Unit) k1 => ((op2 m_outside_of (some x_closer) (some x_mask)).bind fun xs4 => forK (fun x_one (st4 : Unit) k4 => ((op2 m_outside_of (some x_closer) (some x_mask)).bind fun xs7 => forK (fun x_other (st7 : Unit) k7 => ((andO (op2 (fun x y => some (!Nat.beq x y)) (op2 fAnd (op2 (fun xs i => xs[i]?) (((some x_closer)).bind fun c => some c.table) (op2 fOr (some x_mask) (some x_one))) (some x_other)) (some 0)) (op2 (fun x y => some (Nat.beq x y)) (op2 fAnd (op2 (fun xs i => xs[i]?) (((some x_closer)).bind fun c => some c.table) (op2 fOr (some x_mask) (some x_other))) (some x_one)) (some 0))).bind fun b10 => bif b10 then (((((op3 (fun x y z => some [x, y, z]) (some x_mask) (some x_one) (some x_other))).bind fun xs => compM (fun x_each => (some true)) (fun x_each => (op2 m_lot_of (((some x_closer)).bind fun c => some c.things) (some x_each))) xs)).bind fun x => some (some x)) else (k7 ()))) (fun (st7 : Unit) => (k4 ())) xs7 ())) (fun (st4 : Unit) => (k1 ())) xs4 ())) (fun (st1 : Unit) => (some none)) rem st1 = some r) ?_ ?_ ?_ ?_ PassesOwn.never rfl (pg_name (i := 1) sc_barring_of.nd rfl (by first | exact Or.inl rfl | exact Or.inr rfl))
    · intro Ba Ha ga
      exact ⟨Ba, none, none, none, (), rfl, G0.trans ga, Ex.refl _, I0.go ga, hm⟩
    · intro B1 rem σ1 H1 ⟨Bp, y_one, y_other, y_mask, st1, _, _, e1, I1, _⟩
      exact ⟨e1.trans I1.ex, fun _ hp => nomatch hp⟩
    · intro B1 x_mask rem v_mask σ1 H1 e1 r_mask ⟨B2, y_one, y_other, y_mask, st1, hσ, G2, eL1, I2, hm⟩
      subst hσ
      have r_mask := tN.mono eL1 r_mask
      obtain ⟨k1, hk1, hm⟩ := forK_step hm
      have r_closer := (tCl cw C).mono (e1.trans eL1) r_closer
      obtain ⟨xs4, hx4, hm⟩ := bind_some hm
      refine ss_for 2 hx4 (iv_L (es_of (ev_call2 c_outside_of (hr.mono (by decide)) (ev_var 0 r_closer) (ev_var 1 r_mask)))) I2.nil (fun Bq rem σq Hq => ∃ (Bp : Hp) (y_other : Option V) (y_one : Option V) (st4 : Unit), σq = [some v_closer, some v_mask, y_one, y_other, none] ∧ Go B0 H0 Bp Hq ∧ Ex Bq Bp ∧ In Bp [] Hq ∧ forK (fun x_one (st4 : Unit) k4 => ((op2 m_outside_of (some x_closer) (some x_mask)).bind fun xs7 => forK (fun x_other (st7 : Unit) k7 => ((andO (op2 (fun x y => some (!Nat.beq x y)) (op2 fAnd (op2 (fun xs i => xs[i]?) (((some x_closer)).bind fun c => some c.table) (op2 fOr (some x_mask) (some x_one))) (some x_other)) (some 0)) (op2 (fun x y => some (Nat.beq x y)) (op2 fAnd (op2 (fun xs i => xs[i]?) (((some x_closer)).bind fun c => some c.table) (op2 fOr (some x_mask) (some x_other))) (some x_one)) (some 0))).bind fun b10 => bif b10 then (((((op3 (fun x y z => some [x, y, z]) (some x_mask) (some x_one) (some x_other))).bind fun xs => compM (fun x_each => (some true)) (fun x_each => (op2 m_lot_of (((some x_closer)).bind fun c => some c.things) (some x_each))) xs)).bind fun x => some (some x)) else (k7 ()))) (fun (st7 : Unit) => (k4 ())) xs7 ())) (fun (st4 : Unit) => (k1 ())) rem st4 = some r) ?_ ?_ ?_ ?_ PassesOwn.never rfl (pg_name (i := 2) sc_barring_of.nd rfl (by first | exact Or.inl rfl | exact Or.inr rfl))
      · intro Ba Ha ga
        exact ⟨Ba, y_other, y_one, (), rfl, G2.trans ga, Ex.refl _, I2.go ga, hm⟩
      · intro B1 rem σ1 H1 ⟨Bp, y_other, y_one, st4, _, _, e1, I1, _⟩
        exact ⟨e1.trans I1.ex, fun _ hp => nomatch hp⟩
      · intro B1 x_one rem v_one σ1 H1 e1 r_one ⟨B5, y_other, y_one, st4, hσ, G5, eL4, I5, hm⟩
        subst hσ
        have r_one := tN.mono eL4 r_one
        obtain ⟨k4, hk4, hm⟩ := forK_step hm
        have r_closer := (tCl cw C).mono (e1.trans eL4) r_closer
        have r_mask := tN.mono (e1.trans eL4) r_mask
        have eL1 := eL1.trans (e1.trans eL4)
        obtain ⟨xs7, hx7, hm⟩ := bind_some hm
        refine ss_for 3 hx7 (iv_L (es_of (ev_call2 c_outside_of (hr.mono (by decide)) (ev_var 0 r_closer) (ev_var 1 r_mask)))) I5.nil (fun Bq rem σq Hq => ∃ (Bp : Hp) (y_other : Option V) (st7 : Unit), σq = [some v_closer, some v_mask, some v_one, y_other, none] ∧ Go B0 H0 Bp Hq ∧ Ex Bq Bp ∧ In Bp [] Hq ∧ forK (fun x_other (st7 : Unit) k7 => ((andO (op2 (fun x y => some (!Nat.beq x y)) (op2 fAnd (op2 (fun xs i => xs[i]?) (((some x_closer)).bind fun c => some c.table) (op2 fOr (some x_mask) (some x_one))) (some x_other)) (some 0)) (op2 (fun x y => some (Nat.beq x y)) (op2 fAnd (op2 (fun xs i => xs[i]?) (((some x_closer)).bind fun c => some c.table) (op2 fOr (some x_mask) (some x_other))) (some x_one)) (some 0))).bind fun b10 => bif b10 then (((((op3 (fun x y z => some [x, y, z]) (some x_mask) (some x_one) (some x_other))).bind fun xs => compM (fun x_each => (some true)) (fun x_each => (op2 m_lot_of (((some x_closer)).bind fun c => some c.things) (some x_each))) xs)).bind fun x => some (some x)) else (k7 ()))) (fun (st7 : Unit) => (k4 ())) rem st7 = some r) ?_ ?_ ?_ ?_ PassesOwn.never rfl (pg_name (i := 3) sc_barring_of.nd rfl (by first | exact Or.inl rfl | exact Or.inr rfl))
        · intro Ba Ha ga
          exact ⟨Ba, y_other, (), rfl, G5.trans ga, Ex.refl _, I5.go ga, hm⟩
        · intro B1 rem σ1 H1 ⟨Bp, y_other, st7, _, _, e1, I1, _⟩
          exact ⟨e1.trans I1.ex, fun _ hp => nomatch hp⟩
        · intro B1 x_other rem v_other σ1 H1 e1 r_other ⟨B8, y_other, st7, hσ, G8, eL7, I8, hm⟩
          subst hσ
          have r_other := tN.mono eL7 r_other
          obtain ⟨k7, hk7, hm⟩ := forK_step hm
          have r_closer := (tCl cw C).mono (e1.trans eL7) r_closer
          have r_mask := tN.mono (e1.trans eL7) r_mask
          have r_one := tN.mono (e1.trans eL7) r_one
          have eL1 := eL1.trans (e1.trans eL7)
          have eL4 := eL4.trans (e1.trans eL7)
          obtain ⟨b10, hb10, hm⟩ := bind_some hm
          refine ss_if hb10 (tv_w (wv_and ((ev_neN (ev_and (ev_ixT (ev_fldT cf (ev_var 0 r_closer)) (ev_or (ev_var 1 r_mask) (ev_var 2 r_one))) (ev_var 3 r_other)) ev_int)).2 (wv_and1 ((ev_eqN (ev_and (ev_ixT (ev_fldT cf (ev_var 0 r_closer)) (ev_or (ev_var 1 r_mask) (ev_var 3 r_other))) (ev_var 2 r_one)) ev_int)).2))) I8 (fun hz B10 H10 g10 => ?_) (fun hz B10 H10 g10 => ?_)
          · replace hm := ifT hz hm
            have r_closer := (tCl cw C).mono g10.eb r_closer
            have r_mask := tN.mono g10.eb r_mask
            have r_one := tN.mono g10.eb r_one
            have r_other := tN.mono g10.eb r_other
            have eL1 := eL1.trans g10.eb
            have eL4 := eL4.trans g10.eb
            have eL7 := eL7.trans g10.eb
            have I10 := I8.go g10
            have G10 := G8.trans g10
            exact ss_ret hm (ev_some (ev_tuple bt (es_of (ev_lc (x := "each") rfl sc_barring_of.nd (blkOk_by (by kernel_rfl)) (iv_T (ev_tup3 (ev_var 1 r_mask) (ev_var 2 r_one) (ev_var 3 r_other))) (fun _ _ _ _ _ => pg_name (i := 4) sc_barring_of.nd rfl (by first | exact Or.inl rfl | exact Or.inr rfl)) _ _ (fun x_each v_each B11 e11 r_each => rfl) (fun x_each v_each B11 e11 r_each _ => by have r_closer := (tCl cw C).mono e11 r_closer; exact fun _ _ _ _ _ => (ev_call2 c_lot_of (hr.mono (by decide)) (ev_things cf (hr.mono (by decide)) (ev_var 0 r_closer)) (ev_var 4 r_each)))))) nnT) I10 fun v9 B9 H9 g9 r9 => q v9 B9 H9 (G10.trans g9) r9
          · replace hm := ifF hz hm
            have r_closer := (tCl cw C).mono g10.eb r_closer
            have r_mask := tN.mono g10.eb r_mask
            have r_one := tN.mono g10.eb r_one
            have r_other := tN.mono g10.eb r_other
            have eL1 := eL1.trans g10.eb
            have eL4 := eL4.trans g10.eb
            have eL7 := eL7.trans g10.eb
            have I10 := I8.go g10
            have G10 := G8.trans g10
            refine ss_nil ?_
            rw [hk7] at hm
            exact ss_nil ⟨B10, some v_other, (), rfl, G10, eL7, I10, hm⟩
        · intro B1 σ1 H1 e1 ⟨B9, y_other, st7, hσ, G9, ep, I9, hm⟩
          subst hσ
          have hm := forK_end hm
          have r_closer := (tCl cw C).mono (e1.trans ep) r_closer
          have r_mask := tN.mono (e1.trans ep) r_mask
          have r_one := tN.mono (e1.trans ep) r_one
          have eL1 := eL1.trans (e1.trans ep)
          have eL4 := eL4.trans (e1.trans ep)
          rw [hk4] at hm
          exact ss_nil ⟨B9, y_other, some v_one, (), rfl, G9, eL4, I9, hm⟩
      · intro B1 σ1 H1 e1 ⟨B6, y_other, y_one, st4, hσ, G6, ep, I6, hm⟩
        subst hσ
        have hm := forK_end hm
        have r_closer := (tCl cw C).mono (e1.trans ep) r_closer
        have r_mask := tN.mono (e1.trans ep) r_mask
        have eL1 := eL1.trans (e1.trans ep)
        rw [hk1] at hm
        exact ss_nil ⟨B6, y_one, y_other, some v_mask, (), rfl, G6, eL1, I6, hm⟩
    · intro B1 σ1 H1 e1 ⟨B3, y_one, y_other, y_mask, st1, hσ, G3, ep, I3, hm⟩
      subst hσ
      have hm := forK_end hm
      have r_closer := (tCl cw C).mono (e1.trans ep) r_closer
      exact ss_ret hm ev_noneO I3 fun v9 B9 H9 g9 r9 => q v9 B9 H9 (G3.trans g9) r9

theorem sc_has_exchange : FnScope ["closer"] ["closer"] (defScope (topS 48)) := ⟨rfl, rfl, rfl, by decide +kernel, rfl, by decide +kernel, by decide +kernel⟩
def m_has_exchange (x_closer : Clo) : Option (Bool) :=
  ((((some x_closer)).bind m_check_closer).bind fun z1 => (((((some x_closer)).bind m_barring_of)).bind fun x => some x.isNone))
abbrev K_has_exchange (P : Program) (w : World) (K : PySem.W.Frag) (mg : Str → Option Value) (base : Heap) (cw : Crew) (C : Addr) : Prop := Cal P w K mg base "has_exchange" 5 ["closer"] (Sp1 (tCl cw C) tB m_has_exchange)
theorem cal_has_exchange (d : Df K mg "has_exchange" (topS 48) ["closer"]) (bt : Bt mg) (c_check_closer : K_check_closer P w K mg base cw C) (c_barring_of : K_barring_of P w K mg base cw C) : K_has_exchange P w K mg base cw C := by
  obtain ⟨f, fd, F, mgf, bi⟩ := d.ex
  refine ⟨⟨f, fd, ?_, mgf, F.kp, bi⟩⟩
  refine F.ok sc_has_exchange (fun vs H Q E h => ?_) (fun cdv A outer s H0 vs Q E hr h => ⟨wSs _ _, p_ss, ?_⟩)
  · obtain ⟨v_closer, x_closer, B, r, rfl, _⟩ := h
    rfl
  · obtain ⟨v_closer, x_closer, B0, r, rfl, r_closer, eB, hm, q⟩ := h
    have I0 : In B0 [] H0 := ⟨eB, fun _ hp => nomatch hp⟩
    have G0 : Go B0 H0 B0 H0 := Go.refl eB
    obtain ⟨z1, hz1, hm⟩ := bind_some hm
    refine ss_do hz1 (ev_call1 c_check_closer (hr.mono (by decide)) (ev_var 0 r_closer)) I0 (fun v1 B1 H1 g1 _ => ?_)
    have r_closer := (tCl cw C).mono g1.eb r_closer
    have I1 := I0.go g1
    have G1 := G0.trans g1
    exact ss_ret hm ((ev_isN (ev_call1 c_barring_of (hr.mono (by decide)) (ev_var 0 r_closer)))).1 I1 fun v9 B9 H9 g9 r9 => q v9 B9 H9 (G1.trans g9) r9

theorem sc_check_convex : FnScope ["closer", "found"] ["closer"] (defScope (topS 61)) := ⟨rfl, rfl, rfl, by decide +kernel, rfl, by decide +kernel, by decide +kernel⟩
def m_check_convex (x_closer : Clo) : Option (Unit) :=
  ((((some x_closer)).bind m_swap_of).bind fun x1_found => ((((some x1_found)).bind fun x => some x.isSome).bind fun b2 => bif b2 then none else (some ())))
abbrev K_check_convex (P : Program) (w : World) (K : PySem.W.Frag) (mg : Str → Option Value) (base : Heap) (cw : Crew) (C : Addr) : Prop := Cal P w K mg base "check_convex" 5 ["closer"] (Sp1 (tCl cw C) tU m_check_convex)
theorem cal_check_convex (d : Df K mg "check_convex" (topS 61) ["closer"]) (bt : Bt mg) (c_swap_of : K_swap_of P w K mg base cw C) : K_check_convex P w K mg base cw C := by
  obtain ⟨f, fd, F, mgf, bi⟩ := d.ex
  refine ⟨⟨f, fd, ?_, mgf, F.kp, bi⟩⟩
  refine F.ok sc_check_convex (fun vs H Q E h => ?_) (fun cdv A outer s H0 vs Q E hr h => ⟨wSs _ _, p_ss, ?_⟩)
  · obtain ⟨v_closer, x_closer, B, r, rfl, _⟩ := h
    rfl
  · obtain ⟨v_closer, x_closer, B0, r, rfl, r_closer, eB, hm, q⟩ := h
    have I0 : In B0 [] H0 := ⟨eB, fun _ hp => nomatch hp⟩
    have G0 : Go B0 H0 B0 H0 := Go.refl eB
    obtain ⟨x1_found, h1, hm⟩ := bind_some hm
    refine ss_set 1 h1 (ev_call1 c_swap_of (hr.mono (by decide)) (ev_var 0 r_closer)) I0 (fun v1_found B1 H1 g1 r1_found => ?_) sc_check_convex.nd
    have r_closer := (tCl cw C).mono g1.eb r_closer
    have I1 := I0.go g1
    have G1 := G0.trans g1
    obtain ⟨b2, hb2, hm⟩ := bind_some hm
    refine ss_if hb2 ((ev_notN (ev_var 1 r1_found))).2 I1 (fun hz B2 H2 g2 => ?_) (fun hz B2 H2 g2 => ?_)
    · replace hm := ifT hz hm
      have r_closer := (tCl cw C).mono g2.eb r_closer
      have r1_found := (tO (tT (tS cw))).mono g2.eb r1_found
      have I2 := I1.go g2
      have G2 := G1.trans g2
      exact absurd hm (by intro z; cases z)
    · replace hm := ifF hz hm
      have r_closer := (tCl cw C).mono g2.eb r_closer
      have r1_found := (tO (tT (tS cw))).mono g2.eb r1_found
      have I2 := I1.go g2
      have G2 := G1.trans g2
      refine ss_nil ?_
      cases hm
      exact ss_nil (q .non B2 _ G2 rfl)

end
end Cw
namespace Cw
open PySem PySem.Spec PyProof.Rows L2 Ly
section
variable {P : Program} {w : World} {K : PySem.W.Frag} {mg : Str → Option Value} {base : Heap} {cw : Crew} {C : Addr}
theorem sc_corner_masks : FnScope ["closer", "closed", "found", "whole", "mask", "over", "each"] ["closer"] (defScope (topS 59)) := ⟨rfl, rfl, rfl, by decide +kernel, rfl, by decide +kernel, by decide +kernel⟩
def m_corner_masks (x_closer : Clo) : Option (List (Nat)) :=
  ((((some x_closer)).bind m_closed_masks).bind fun x1_closed => ((((((some x_closer)).bind fun c => some c.things)).bind m_whole_of).bind fun x2_whole => ((some x1_closed).bind fun xs3 => forK (fun x_mask (st3 : (List (Nat))) k3 => ((some x2_whole).bind fun x6_over => ((some x1_closed).bind fun xs7 => forK (fun x_each (st7 : (Nat)) k7 => ((andO (op2 (fun x y => some (!Nat.beq x y)) (some x_each) (some x_mask)) (op2 m_is_inside (some x_mask) (some x_each))).bind fun b10 => bif b10 then ((op2 fAnd (some st7) (some x_each)).bind fun x11_over => (k7 (x11_over))) else (k7 (st7)))) (fun (st7 : (Nat)) => ((op2 (fun x y => some (!Nat.beq x y)) (some st7) (some x_mask)).bind fun b12 => bif b12 then ((some x_mask).bind fun z13 => (fApp st3 z13).bind fun x13_found => (k3 (x13_found))) else (k3 (st3)))) xs7 (x6_over)))) (fun (st3 : (List (Nat))) => (some st3)) xs3 ([]))))
abbrev K_corner_masks (P : Program) (w : World) (K : PySem.W.Frag) (mg : Str → Option Value) (base : Heap) (cw : Crew) (C : Addr) : Prop := Cal P w K mg base "corner_masks" 3 ["closer"] (Sp1 (tCl cw C) (tL tN) m_corner_masks)
theorem cal_corner_masks (d : Df K mg "corner_masks" (topS 59) ["closer"]) (bt : Bt mg) (cf : ClF P w K mg base C) (c_closed_masks : K_closed_masks P w K mg base cw C) (c_whole_of : K_whole_of P w K mg base cw C) (c_is_inside : K_is_inside P w K mg base cw C) : K_corner_masks P w K mg base cw C := by
  obtain ⟨f, fd, F, mgf, bi⟩ := d.ex
  refine ⟨⟨f, fd, ?_, mgf, F.kp, bi⟩⟩
  refine F.ok sc_corner_masks (fun vs H Q E h => ?_) (fun cdv A outer s H0 vs Q E hr h => ⟨wSs _ _, p_ss, ?_⟩)
  · obtain ⟨v_closer, x_closer, B, r, rfl, _⟩ := h
    rfl
  · obtain ⟨v_closer, x_closer, B0, r, rfl, r_closer, eB, hm, q⟩ := h
    have I0 : In B0 [] H0 := ⟨eB, fun _ hp => nomatch hp⟩
    have G0 : Go B0 H0 B0 H0 := Go.refl eB
    obtain ⟨x1_closed, h1, hm⟩ := bind_some hm
    refine ss_parNew 1 2 h1 (ev_call1 c_closed_masks (hr.mono (by decide)) (ev_var 0 r_closer)) I0 (fun v1_closed l_found B1 H1 g1 r1_closed hl_found => ?_) rfl sc_corner_masks.nd
    have r_closer := (tCl cw C).mono g1.eb r_closer
    have h0_found := (G0.trans g1).eh.free hl_found
    have G1 := (G0.trans g1).new (u := .lst []) hl_found
    have I1 := In.one (o := .lst []) g1.bh hl_found
    have rp_found : Reps tN B1 [] [] := .nil
    have ln_found : ([] : List V).length ≤ 40000 := Nat.zero_le _
    obtain ⟨x2_whole, h2, hm⟩ := bind_some hm
    refine ss_set 3 h2 (ev_call1 c_whole_of (hr.mono (by decide)) (ev_things cf (hr.mono (by decide)) (ev_var 0 r_closer))) I1 (fun v2_whole B2 H2 g2 r2_whole => ?_) sc_corner_masks.nd
    have r_closer := (tCl cw C).mono g2.eb r_closer
    have r1_closed := (tL tN).mono g2.eb r1_closed
    have rp_found := rp_found.mono g2.eb
    have I2 := I1.go g2
    have G2 := G1.trans g2
    obtain ⟨xs3, hx3, hm⟩ := bind_some hm
    refine ss_for 4 hx3 (iv_L (es_of (ev_var 1 r1_closed))) I2.nil (fun Bq rem σq Hq => ∃ (Bp : Hp) (vs_found : List V) (y_over : Option V) (y_each : Option V) (y_mask : Option V) (st3 : (List (Nat))), σq = [some v_closer, some v1_closed, some (.ref l_found), some v2_whole, y_mask, y_over, y_each] ∧ Go B0 H0 Bp Hq ∧ Ex Bq Bp ∧ In Bp [(l_found, HO.lst vs_found)] Hq ∧ Reps tN Bp vs_found st3 ∧ (vs_found).length ≤ 40000 ∧ forK (fun x_mask (st3 : (List (Nat))) k3 => ((some x2_whole).bind fun x6_over => ((some x1_closed).bind fun xs7 => forK (fun x_each (st7 : (Nat)) k7 => ((andO (op2 (fun x y => some (!Nat.beq x y)) (some x_each) (some x_mask)) (op2 m_is_inside (some x_mask) (some x_each))).bind fun b10 => bif b10 then ((op2 fAnd (some st7) (some x_each)).bind fun x11_over => (k7 (x11_over))) else (k7 (st7)))) (fun (st7 : (Nat)) => ((op2 (fun x y => some (!Nat.beq x y)) (some st7) (some x_mask)).bind fun b12 => bif b12 then ((some x_mask).bind fun z13 => (fApp st3 z13).bind fun x13_found => (k3 (x13_found))) else (k3 (st3)))) xs7 (x6_over)))) (fun (st3 : (List (Nat))) => (some st3)) rem st3 = some r) ?_ ?_ ?_ ?_ PassesOwn.never rfl (pg_name (i := 4) sc_corner_masks.nd rfl (by first | exact Or.inl rfl | exact Or.inr rfl))
    · intro Ba Ha ga
      exact ⟨Ba, [], none, none, none, ([]), rfl, G2.trans ga, Ex.refl _, I2.go ga, (rp_found.mono ga.eb), ln_found, hm⟩
    · intro B1 rem σ1 H1 ⟨Bp, vs_found, y_over, y_each, y_mask, st3, _, _, e1, I1, _⟩
      exact ⟨e1.trans I1.ex, fun _ hp => nomatch hp⟩
    · intro B1 x_mask rem v_mask σ1 H1 e1 r_mask ⟨B4, vs_found, y_over, y_each, y_mask, st3, hσ, G4, eL3, I4, rp_found, ln_found, hm⟩
      subst hσ
      have r_mask := tN.mono eL3 r_mask
      obtain ⟨k3, hk3, hm⟩ := forK_step hm
      have r_closer := (tCl cw C).mono (e1.trans eL3) r_closer
      have r1_closed := (tL tN).mono (e1.trans eL3) r1_closed
      have r2_whole := tN.mono (e1.trans eL3) r2_whole
      obtain ⟨x6_over, h6, hm⟩ := bind_some hm
      refine ss_set 5 h6 (ev_var 3 r2_whole) I4 (fun v6_over B6 H6 g6 r6_over => ?_) sc_corner_masks.nd
      have r_closer := (tCl cw C).mono g6.eb r_closer
      have r1_closed := (tL tN).mono g6.eb r1_closed
      have rp_found := rp_found.mono g6.eb
      have r2_whole := tN.mono g6.eb r2_whole
      have r_mask := tN.mono g6.eb r_mask
      have eL3 := eL3.trans g6.eb
      have I6 := I4.go g6
      have G6 := G4.trans g6
      obtain ⟨xs7, hx7, hm⟩ := bind_some hm
      refine ss_for 6 hx7 (iv_L (es_of (ev_var 1 r1_closed))) I6.nil (fun Bq rem σq Hq => ∃ (Bp : Hp) (v_over : V) (y_each : Option V) (st7 : (Nat)), σq = [some v_closer, some v1_closed, some (.ref l_found), some v2_whole, some v_mask, some v_over, y_each] ∧ Go B0 H0 Bp Hq ∧ Ex Bq Bp ∧ In Bp [(l_found, HO.lst vs_found)] Hq ∧ tN.rep Bp v_over st7 ∧ Reps tN Bp vs_found st3 ∧ (vs_found).length ≤ 40000 ∧ forK (fun x_each (st7 : (Nat)) k7 => ((andO (op2 (fun x y => some (!Nat.beq x y)) (some x_each) (some x_mask)) (op2 m_is_inside (some x_mask) (some x_each))).bind fun b10 => bif b10 then ((op2 fAnd (some st7) (some x_each)).bind fun x11_over => (k7 (x11_over))) else (k7 (st7)))) (fun (st7 : (Nat)) => ((op2 (fun x y => some (!Nat.beq x y)) (some st7) (some x_mask)).bind fun b12 => bif b12 then ((some x_mask).bind fun z13 => (fApp st3 z13).bind fun x13_found => (k3 (x13_found))) else (k3 (st3)))) rem st7 = some r) ?_ ?_ ?_ ?_ PassesOwn.never rfl (pg_name (i := 6) sc_corner_masks.nd rfl (by first | exact Or.inl rfl | exact Or.inr rfl))
      · intro Ba Ha ga
        exact ⟨Ba, v6_over, y_each, (x6_over), rfl, G6.trans ga, Ex.refl _, I6.go ga, (tN.mono ga.eb r6_over), (rp_found.mono ga.eb), ln_found, hm⟩
      · intro B1 rem σ1 H1 ⟨Bp, v_over, y_each, st7, _, _, e1, I1, _⟩
        exact ⟨e1.trans I1.ex, fun _ hp => nomatch hp⟩
      · intro B1 x_each rem v_each σ1 H1 e1 r_each ⟨B8, v_over, y_each, st7, hσ, G8, eL7, I8, r_over, rp_found, ln_found, hm⟩
        subst hσ
        have r_each := tN.mono eL7 r_each
        obtain ⟨k7, hk7, hm⟩ := forK_step hm
        have r_closer := (tCl cw C).mono (e1.trans eL7) r_closer
        have r1_closed := (tL tN).mono (e1.trans eL7) r1_closed
        have r2_whole := tN.mono (e1.trans eL7) r2_whole
        have r_mask := tN.mono (e1.trans eL7) r_mask
        have eL3 := eL3.trans (e1.trans eL7)
        obtain ⟨b10, hb10, hm⟩ := bind_some hm
        refine ss_if hb10 (tv_w (wv_and ((ev_neN (ev_var 6 r_each) (ev_var 4 r_mask))).2 (wv_and1 (tv_of (ev_call2 c_is_inside (hr.mono (by decide)) (ev_var 4 r_mask) (ev_var 6 r_each)))))) I8 (fun hz B10 H10 g10 => ?_) (fun hz B10 H10 g10 => ?_)
        · replace hm := ifT hz hm
          have r_closer := (tCl cw C).mono g10.eb r_closer
          have r1_closed := (tL tN).mono g10.eb r1_closed
          have rp_found := rp_found.mono g10.eb
          have r2_whole := tN.mono g10.eb r2_whole
          have r_mask := tN.mono g10.eb r_mask
          have r_over := tN.mono g10.eb r_over
          have r_each := tN.mono g10.eb r_each
          have eL3 := eL3.trans g10.eb
          have eL7 := eL7.trans g10.eb
          have I10 := I8.go g10
          have G10 := G8.trans g10
          obtain ⟨x11_over, h11, hm⟩ := bind_some hm
          refine ss_set 5 h11 (ev_and (ev_var 5 r_over) (ev_var 6 r_each)) I10 (fun v11_over B11 H11 g11 r11_over => ?_) sc_corner_masks.nd
          have r_closer := (tCl cw C).mono g11.eb r_closer
          have r1_closed := (tL tN).mono g11.eb r1_closed
          have rp_found := rp_found.mono g11.eb
          have r2_whole := tN.mono g11.eb r2_whole
          have r_mask := tN.mono g11.eb r_mask
          have r_over := tN.mono g11.eb r_over
          have r_each := tN.mono g11.eb r_each
          have eL3 := eL3.trans g11.eb
          have eL7 := eL7.trans g11.eb
          have I11 := I10.go g11
          have G11 := G10.trans g11
          refine ss_nil ?_
          rw [hk7] at hm
          exact ss_nil ⟨B11, v11_over, some v_each, (x11_over), rfl, G11, eL7, I11, r11_over, rp_found, ln_found, hm⟩
        · replace hm := ifF hz hm
          have r_closer := (tCl cw C).mono g10.eb r_closer
          have r1_closed := (tL tN).mono g10.eb r1_closed
          have rp_found := rp_found.mono g10.eb
          have r2_whole := tN.mono g10.eb r2_whole
          have r_mask := tN.mono g10.eb r_mask
          have r_over := tN.mono g10.eb r_over
          have r_each := tN.mono g10.eb r_each
          have eL3 := eL3.trans g10.eb
          have eL7 := eL7.trans g10.eb
          have I10 := I8.go g10
          have G10 := G8.trans g10
          refine ss_nil ?_
          rw [hk7] at hm
          exact ss_nil ⟨B10, v_over, some v_each, (st7), rfl, G10, eL7, I10, r_over, rp_found, ln_found, hm⟩
      · intro B1 σ1 H1 e1 ⟨B9, v_over, y_each, st7, hσ, G9, ep, I9, r_over, rp_found, ln_found, hm⟩
        subst hσ
        have hm := forK_end hm
        have r_closer := (tCl cw C).mono (e1.trans ep) r_closer
        have r1_closed := (tL tN).mono (e1.trans ep) r1_closed
        have r2_whole := tN.mono (e1.trans ep) r2_whole
        have r_mask := tN.mono (e1.trans ep) r_mask
        have eL3 := eL3.trans (e1.trans ep)
        obtain ⟨b12, hb12, hm⟩ := bind_some hm
        refine ss_if hb12 ((ev_neN (ev_var 5 r_over) (ev_var 4 r_mask))).2 I9 (fun hz B12 H12 g12 => ?_) (fun hz B12 H12 g12 => ?_)
        · replace hm := ifT hz hm
          have r_closer := (tCl cw C).mono g12.eb r_closer
          have r1_closed := (tL tN).mono g12.eb r1_closed
          have rp_found := rp_found.mono g12.eb
          have r2_whole := tN.mono g12.eb r2_whole
          have r_mask := tN.mono g12.eb r_mask
          have r_over := tN.mono g12.eb r_over
          have eL3 := eL3.trans g12.eb
          have I12 := I9.go g12
          have G12 := G9.trans g12
          obtain ⟨z13, hz13, hm⟩ := bind_some hm
          obtain ⟨x13_found, hy13, hm⟩ := bind_some hm
          obtain ⟨ln13, hy13⟩ := fApp_some hy13
          refine ss_app 2 hz13 (ev_var 4 r_mask) I12 List.mem_cons_self ln_found (fun v13 B13 H13 g13 r13 => ?_)
          have r_closer := (tCl cw C).mono g13.eb r_closer
          have r1_closed := (tL tN).mono g13.eb r1_closed
          have rp_found := rp_found.mono g13.eb
          have r2_whole := tN.mono g13.eb r2_whole
          have r_mask := tN.mono g13.eb r_mask
          have r_over := tN.mono g13.eb r_over
          have eL3 := eL3.trans g13.eb
          have G13 := (G12.trans g13).put h0_found (I12.go g13) (u := .lst (vs_found ++ [v13]))
          have I13 := (I12.go g13).put (u := .lst (vs_found ++ [v13]))
          have rp_found := rp_found.app (.cons r13 .nil)
          rw [← hy13] at rp_found
          have ln_found : (vs_found ++ [v13]).length ≤ 40000 := by rw [rp_found.len, hy13, List.length_append]; exact Nat.le_trans (Nat.succ_le_succ ln13) (by decide)
          refine ss_nil ?_
          rw [hk3] at hm
          exact ss_nil ⟨B13, (vs_found ++ [v13]), some v_over, y_each, some v_mask, (x13_found), rfl, G13, eL3, I13, rp_found, ln_found, hm⟩
        · replace hm := ifF hz hm
          have r_closer := (tCl cw C).mono g12.eb r_closer
          have r1_closed := (tL tN).mono g12.eb r1_closed
          have rp_found := rp_found.mono g12.eb
          have r2_whole := tN.mono g12.eb r2_whole
          have r_mask := tN.mono g12.eb r_mask
          have r_over := tN.mono g12.eb r_over
          have eL3 := eL3.trans g12.eb
          have I12 := I9.go g12
          have G12 := G9.trans g12
          refine ss_nil ?_
          rw [hk3] at hm
          exact ss_nil ⟨B12, vs_found, some v_over, y_each, some v_mask, (st3), rfl, G12, eL3, I12, rp_found, ln_found, hm⟩
    · intro B1 σ1 H1 e1 ⟨B5, vs_found, y_over, y_each, y_mask, st3, hσ, G5, ep, I5, rp_found, ln_found, hm⟩
      subst hσ
      have hm := forK_end hm
      have r_closer := (tCl cw C).mono (e1.trans ep) r_closer
      have r1_closed := (tL tN).mono (e1.trans ep) r1_closed
      have r2_whole := tN.mono (e1.trans ep) r2_whole
      obtain ⟨B14, G14, I14, e14, r_found⟩ := frzL G5 eB h0_found I5 rp_found ln_found
      have r_closer := (tCl cw C).mono e14 r_closer
      have r1_closed := (tL tN).mono e14 r1_closed
      have r2_whole := tN.mono e14 r2_whole
      exact ss_ret hm (ev_var 2 r_found) I14 fun v9 B9 H9 g9 r9 => q v9 B9 H9 (G14.trans g9) r9

theorem sc_wrong_union_of : FnScope ["closer", "masks", "k", "j", "both", "lot"] ["closer"] (defScope (topS 71)) := ⟨rfl, rfl, rfl, by decide +kernel, rfl, by decide +kernel, by decide +kernel⟩
def m_wrong_union_of (x_closer : Clo) : Option (Option (Unit)) :=
  ((op2 (fun x y => some (!y.any fun z => (fun x y => x == y) z x)) (some []) (((some x_closer)).bind fun c => some c.closed)).bind fun b1 => bif b1 then none else ((((((some x_closer)).bind fun c => some c.closed)).bind fun xs => compM (fun x_lot => (some true)) (fun x_lot => (op2 m_mask_of (((some x_closer)).bind fun c => some c.things) (some x_lot))) xs).bind fun x2_masks => ((((((some x2_masks)).bind fun l => some l.length)).bind rng1).bind fun xs4 => forK (fun x_k (st4 : Unit) k4 => ((((some x_k)).bind rng1).bind fun xs7 => forK (fun x_j (st7 : Unit) k7 => ((op2 fOr (op2 (fun xs i => xs[i]?) (some x2_masks) (some x_j)) (op2 (fun xs i => xs[i]?) (some x2_masks) (some x_k))).bind fun x10_both => ((op2 (fun x y => some (!Nat.beq x y)) (op2 (fun xs i => xs[i]?) (((some x_closer)).bind fun c => some c.table) (some x10_both)) (some x10_both)).bind fun b11 => bif b11 then none else (k7 ())))) (fun (st7 : Unit) => (k4 ())) xs7 ())) (fun (st4 : Unit) => (some none)) xs4 ())))
abbrev K_wrong_union_of (P : Program) (w : World) (K : PySem.W.Frag) (mg : Str → Option Value) (base : Heap) (cw : Crew) (C : Addr) : Prop := Cal P w K mg base "wrong_union_of" 3 ["closer"] (Sp1 (tCl cw C) (tO tU) m_wrong_union_of)
theorem cal_wrong_union_of (d : Df K mg "wrong_union_of" (topS 71) ["closer"]) (bt : Bt mg) (cf : ClF P w K mg base C) (c_mask_of : K_mask_of P w K mg base cw C) : K_wrong_union_of P w K mg base cw C := by
  obtain ⟨f, fd, F, mgf, bi⟩ := d.ex
  refine ⟨⟨f, fd, ?_, mgf, F.kp, bi⟩⟩
  refine F.ok sc_wrong_union_of (fun vs H Q E h => ?_) (fun cdv A outer s H0 vs Q E hr h => ⟨wSs _ _, p_ss, ?_⟩)
  · obtain ⟨v_closer, x_closer, B, r, rfl, _⟩ := h
    rfl
  · obtain ⟨v_closer, x_closer, B0, r, rfl, r_closer, eB, hm, q⟩ := h
    have I0 : In B0 [] H0 := ⟨eB, fun _ hp => nomatch hp⟩
    have G0 : Go B0 H0 B0 H0 := Go.refl eB
    obtain ⟨b1, hb1, hm⟩ := bind_some hm
    refine ss_if hb1 ((ev_niT flatS (ev_nil (cw := cw)) (ev_closed cf (hr.mono (by decide)) (ev_var 0 r_closer)))).2 I0 (fun hz B1 H1 g1 => ?_) (fun hz B1 H1 g1 => ?_)
    · replace hm := ifT hz hm
      have r_closer := (tCl cw C).mono g1.eb r_closer
      have I1 := I0.go g1
      have G1 := G0.trans g1
      exact absurd hm (by intro z; cases z)
    · replace hm := ifF hz hm
      have r_closer := (tCl cw C).mono g1.eb r_closer
      have I1 := I0.go g1
      have G1 := G0.trans g1
      refine ss_nil ?_
      obtain ⟨x2_masks, h2, hm⟩ := bind_some hm
      refine ss_setLc 1 (x := "lot") _ _ h2 rfl sc_wrong_union_of.nd (blkOk_by (by kernel_rfl)) (iv_T (ev_closed cf (hr.mono (by decide)) (ev_var 0 r_closer))) (fun _ _ _ _ _ => pg_name (i := 5) sc_wrong_union_of.nd rfl (by first | exact Or.inl rfl | exact Or.inr rfl)) (fun x_lot v_lot B3 e3 r_lot => rfl) (fun x_lot v_lot B3 e3 r_lot _ => by have r_closer := (tCl cw C).mono e3 r_closer; exact fun _ _ _ _ _ => (ev_call2 c_mask_of (hr.mono (by decide)) (ev_things cf (hr.mono (by decide)) (ev_var 0 r_closer)) (ev_var 5 r_lot))) I1 (fun v2_masks B2 H2 g2 r2_masks => ?_)
      have r_closer := (tCl cw C).mono g2.eb r_closer
      have I2 := I1.go g2
      have G2 := G1.trans g2
      obtain ⟨xs4, hx4, hm⟩ := bind_some hm
      refine ss_for 2 hx4 (iv_rng1 bt (ev_lenL bt (es_of (ev_var 1 r2_masks)))) I2.nil (fun Bq rem σq Hq => ∃ (Bp : Hp) (y_j : Option V) (y_both : Option V) (y_k : Option V) (st4 : Unit), σq = [some v_closer, some v2_masks, y_k, y_j, y_both, none] ∧ Go B0 H0 Bp Hq ∧ Ex Bq Bp ∧ In Bp [] Hq ∧ forK (fun x_k (st4 : Unit) k4 => ((((some x_k)).bind rng1).bind fun xs7 => forK (fun x_j (st7 : Unit) k7 => ((op2 fOr (op2 (fun xs i => xs[i]?) (some x2_masks) (some x_j)) (op2 (fun xs i => xs[i]?) (some x2_masks) (some x_k))).bind fun x10_both => ((op2 (fun x y => some (!Nat.beq x y)) (op2 (fun xs i => xs[i]?) (((some x_closer)).bind fun c => some c.table) (some x10_both)) (some x10_both)).bind fun b11 => bif b11 then none else (k7 ())))) (fun (st7 : Unit) => (k4 ())) xs7 ())) (fun (st4 : Unit) => (some none)) rem st4 = some r) ?_ ?_ ?_ ?_ PassesOwn.never rfl (pg_name (i := 2) sc_wrong_union_of.nd rfl (by first | exact Or.inl rfl | exact Or.inr rfl))
      · intro Ba Ha ga
        exact ⟨Ba, none, none, none, (), rfl, G2.trans ga, Ex.refl _, I2.go ga, hm⟩
      · intro B1 rem σ1 H1 ⟨Bp, y_j, y_both, y_k, st4, _, _, e1, I1, _⟩
        exact ⟨e1.trans I1.ex, fun _ hp => nomatch hp⟩
      · intro B1 x_k rem v_k σ1 H1 e1 r_k ⟨B5, y_j, y_both, y_k, st4, hσ, G5, eL4, I5, hm⟩
        subst hσ
        have r_k := tN.mono eL4 r_k
        obtain ⟨k4, hk4, hm⟩ := forK_step hm
        have r_closer := (tCl cw C).mono (e1.trans eL4) r_closer
        have r2_masks := (tL tN).mono (e1.trans eL4) r2_masks
        obtain ⟨xs7, hx7, hm⟩ := bind_some hm
        refine ss_for 3 hx7 (iv_rng1 bt (ev_var 2 r_k)) I5.nil (fun Bq rem σq Hq => ∃ (Bp : Hp) (y_both : Option V) (y_j : Option V) (st7 : Unit), σq = [some v_closer, some v2_masks, some v_k, y_j, y_both, none] ∧ Go B0 H0 Bp Hq ∧ Ex Bq Bp ∧ In Bp [] Hq ∧ forK (fun x_j (st7 : Unit) k7 => ((op2 fOr (op2 (fun xs i => xs[i]?) (some x2_masks) (some x_j)) (op2 (fun xs i => xs[i]?) (some x2_masks) (some x_k))).bind fun x10_both => ((op2 (fun x y => some (!Nat.beq x y)) (op2 (fun xs i => xs[i]?) (((some x_closer)).bind fun c => some c.table) (some x10_both)) (some x10_both)).bind fun b11 => bif b11 then none else (k7 ())))) (fun (st7 : Unit) => (k4 ())) rem st7 = some r) ?_ ?_ ?_ ?_ PassesOwn.never rfl (pg_name (i := 3) sc_wrong_union_of.nd rfl (by first | exact Or.inl rfl | exact Or.inr rfl))
        · intro Ba Ha ga
          exact ⟨Ba, y_both, y_j, (), rfl, G5.trans ga, Ex.refl _, I5.go ga, hm⟩
        · intro B1 rem σ1 H1 ⟨Bp, y_both, y_j, st7, _, _, e1, I1, _⟩
          exact ⟨e1.trans I1.ex, fun _ hp => nomatch hp⟩
        · intro B1 x_j rem v_j σ1 H1 e1 r_j ⟨B8, y_both, y_j, st7, hσ, G8, eL7, I8, hm⟩
          subst hσ
          have r_j := tN.mono eL7 r_j
          obtain ⟨k7, hk7, hm⟩ := forK_step hm
          have r_closer := (tCl cw C).mono (e1.trans eL7) r_closer
          have r2_masks := (tL tN).mono (e1.trans eL7) r2_masks
          have r_k := tN.mono (e1.trans eL7) r_k
          have eL4 := eL4.trans (e1.trans eL7)
          obtain ⟨x10_both, h10, hm⟩ := bind_some hm
          refine ss_set 4 h10 (ev_or (ev_ixL (es_of (ev_var 1 r2_masks)) (ev_var 3 r_j)) (ev_ixL (es_of (ev_var 1 r2_masks)) (ev_var 2 r_k))) I8 (fun v10_both B10 H10 g10 r10_both => ?_) sc_wrong_union_of.nd
          have r_closer := (tCl cw C).mono g10.eb r_closer
          have r2_masks := (tL tN).mono g10.eb r2_masks
          have r_k := tN.mono g10.eb r_k
          have r_j := tN.mono g10.eb r_j
          have eL4 := eL4.trans g10.eb
          have eL7 := eL7.trans g10.eb
          have I10 := I8.go g10
          have G10 := G8.trans g10
          obtain ⟨b11, hb11, hm⟩ := bind_some hm
          refine ss_if hb11 ((ev_neN (ev_ixT (ev_fldT cf (ev_var 0 r_closer)) (ev_var 4 r10_both)) (ev_var 4 r10_both))).2 I10 (fun hz B11 H11 g11 => ?_) (fun hz B11 H11 g11 => ?_)
          · replace hm := ifT hz hm
            have r_closer := (tCl cw C).mono g11.eb r_closer
            have r2_masks := (tL tN).mono g11.eb r2_masks
            have r_k := tN.mono g11.eb r_k
            have r_j := tN.mono g11.eb r_j
            have r10_both := tN.mono g11.eb r10_both
            have eL4 := eL4.trans g11.eb
            have eL7 := eL7.trans g11.eb
            have I11 := I10.go g11
            have G11 := G10.trans g11
            exact absurd hm (by intro z; cases z)
          · replace hm := ifF hz hm
            have r_closer := (tCl cw C).mono g11.eb r_closer
            have r2_masks := (tL tN).mono g11.eb r2_masks
            have r_k := tN.mono g11.eb r_k
            have r_j := tN.mono g11.eb r_j
            have r10_both := tN.mono g11.eb r10_both
            have eL4 := eL4.trans g11.eb
            have eL7 := eL7.trans g11.eb
            have I11 := I10.go g11
            have G11 := G10.trans g11
            refine ss_nil ?_
            rw [hk7] at hm
            exact ss_nil ⟨B11, some v10_both, some v_j, (), rfl, G11, eL7, I11, hm⟩
        · intro B1 σ1 H1 e1 ⟨B9, y_both, y_j, st7, hσ, G9, ep, I9, hm⟩
          subst hσ
          have hm := forK_end hm
          have r_closer := (tCl cw C).mono (e1.trans ep) r_closer
          have r2_masks := (tL tN).mono (e1.trans ep) r2_masks
          have r_k := tN.mono (e1.trans ep) r_k
          have eL4 := eL4.trans (e1.trans ep)
          rw [hk4] at hm
          exact ss_nil ⟨B9, y_j, y_both, some v_k, (), rfl, G9, eL4, I9, hm⟩
      · intro B1 σ1 H1 e1 ⟨B6, y_j, y_both, y_k, st4, hσ, G6, ep, I6, hm⟩
        subst hσ
        have hm := forK_end hm
        have r_closer := (tCl cw C).mono (e1.trans ep) r_closer
        have r2_masks := (tL tN).mono (e1.trans ep) r2_masks
        exact ss_ret hm ev_noneO I6 fun v9 B9 H9 g9 r9 => q v9 B9 H9 (G6.trans g9) r9

theorem sc_is_topology : FnScope ["closer"] ["closer"] (defScope (topS 72)) := ⟨rfl, rfl, rfl, by decide +kernel, rfl, by decide +kernel, by decide +kernel⟩
def m_is_topology (x_closer : Clo) : Option (Bool) :=
  ((((some x_closer)).bind m_check_closer).bind fun z1 => (((((some x_closer)).bind m_wrong_union_of)).bind fun x => some x.isNone))
abbrev K_is_topology (P : Program) (w : World) (K : PySem.W.Frag) (mg : Str → Option Value) (base : Heap) (cw : Crew) (C : Addr) : Prop := Cal P w K mg base "is_topology" 4 ["closer"] (Sp1 (tCl cw C) tB m_is_topology)
theorem cal_is_topology (d : Df K mg "is_topology" (topS 72) ["closer"]) (bt : Bt mg) (c_check_closer : K_check_closer P w K mg base cw C) (c_wrong_union_of : K_wrong_union_of P w K mg base cw C) : K_is_topology P w K mg base cw C := by
  obtain ⟨f, fd, F, mgf, bi⟩ := d.ex
  refine ⟨⟨f, fd, ?_, mgf, F.kp, bi⟩⟩
  refine F.ok sc_is_topology (fun vs H Q E h => ?_) (fun cdv A outer s H0 vs Q E hr h => ⟨wSs _ _, p_ss, ?_⟩)
  · obtain ⟨v_closer, x_closer, B, r, rfl, _⟩ := h
    rfl
  · obtain ⟨v_closer, x_closer, B0, r, rfl, r_closer, eB, hm, q⟩ := h
    have I0 : In B0 [] H0 := ⟨eB, fun _ hp => nomatch hp⟩
    have G0 : Go B0 H0 B0 H0 := Go.refl eB
    obtain ⟨z1, hz1, hm⟩ := bind_some hm
    refine ss_do hz1 (ev_call1 c_check_closer (hr.mono (by decide)) (ev_var 0 r_closer)) I0 (fun v1 B1 H1 g1 _ => ?_)
    have r_closer := (tCl cw C).mono g1.eb r_closer
    have I1 := I0.go g1
    have G1 := G0.trans g1
    exact ss_ret hm ((ev_isN (ev_call1 c_wrong_union_of (hr.mono (by decide)) (ev_var 0 r_closer)))).1 I1 fun v9 B9 H9 g9 r9 => q v9 B9 H9 (G1.trans g9) r9

theorem sc_leads_of : FnScope ["closer", "found", "things", "k", "goals", "j"] ["closer"] (defScope (topS 73)) := ⟨rfl, rfl, rfl, by decide +kernel, rfl, by decide +kernel, by decide +kernel⟩
def m_leads_of (x_closer : Clo) : Option (List (List Nat)) :=
  ((some []).bind fun x1_found => (((some x_closer)).bind fun c => some c.things).bind fun x1_things => ((((((some x1_things)).bind fun l => some l.length)).bind rng1).bind fun xs2 => forK (fun x_k (st2 : (List (List Nat))) k2 => ((op2 (fun xs i => xs[i]?) (((some x_closer)).bind fun c => some c.table) (op2 fShl (some 1) (some x_k))).bind fun x5_goals => ((op2 fCat (some st2) (((((((some x1_things)).bind fun l => some l.length)).bind rng1)).bind fun xs => compM (fun x_j => (andO (op2 (fun x y => some (!Nat.beq x y)) (some x_j) (some x_k)) (op2 (fun x y => some (Nat.beq x y)) (op2 fAnd (op2 fShr (some x5_goals) (some x_j)) (some 1)) (some 1)))) (fun x_j => (op2 fCatS (((op2 (fun xs i => xs[i]?) (some x1_things) (some x_k))).bind fun i => some [i]) (((op2 (fun xs i => xs[i]?) (some x1_things) (some x_j))).bind fun i => some [i]))) xs)).bind fun x6_found => (k2 (x6_found))))) (fun (st2 : (List (List Nat))) => (some st2)) xs2 (x1_found)))
abbrev K_leads_of (P : Program) (w : World) (K : PySem.W.Frag) (mg : Str → Option Value) (base : Heap) (cw : Crew) (C : Addr) : Prop := Cal P w K mg base "leads_of" 3 ["closer"] (Sp1 (tCl cw C) (tL (tS cw)) m_leads_of)
theorem cal_leads_of (d : Df K mg "leads_of" (topS 73) ["closer"]) (bt : Bt mg) (cf : ClF P w K mg base C) : K_leads_of P w K mg base cw C := by
  obtain ⟨f, fd, F, mgf, bi⟩ := d.ex
  refine ⟨⟨f, fd, ?_, mgf, F.kp, bi⟩⟩
  refine F.ok sc_leads_of (fun vs H Q E h => ?_) (fun cdv A outer s H0 vs Q E hr h => ⟨wSs _ _, p_ss, ?_⟩)
  · obtain ⟨v_closer, x_closer, B, r, rfl, _⟩ := h
    rfl
  · obtain ⟨v_closer, x_closer, B0, r, rfl, r_closer, eB, hm, q⟩ := h
    have I0 : In B0 [] H0 := ⟨eB, fun _ hp => nomatch hp⟩
    have G0 : Go B0 H0 B0 H0 := Go.refl eB
    obtain ⟨x1_found, h1, hm⟩ := bind_some hm
    obtain ⟨x1_things, k1, hm⟩ := bind_some hm
    refine ss_parT 1 2 h1 k1 (ev_list0 (T := (tS cw))) (ev_things cf (hr.mono (by decide)) (ev_var 0 r_closer)) I0 (fun v1_found v1_things B1 H1 g1 r1_found r1_things => ?_) rfl sc_leads_of.nd
    have r_closer := (tCl cw C).mono g1.eb r_closer
    have I1 := I0.go g1
    have G1 := G0.trans g1
    obtain ⟨xs2, hx2, hm⟩ := bind_some hm
    refine ss_for 3 hx2 (iv_rng1 bt (ev_lenS bt (ev_var 2 r1_things))) I1.nil (fun Bq rem σq Hq => ∃ (Bp : Hp) (v_found : V) (y_goals : Option V) (y_k : Option V) (st2 : (List (List Nat))), σq = [some v_closer, some v_found, some v1_things, y_k, y_goals, none] ∧ Go B0 H0 Bp Hq ∧ Ex Bq Bp ∧ In Bp [] Hq ∧ (tL (tS cw)).rep Bp v_found st2 ∧ forK (fun x_k (st2 : (List (List Nat))) k2 => ((op2 (fun xs i => xs[i]?) (((some x_closer)).bind fun c => some c.table) (op2 fShl (some 1) (some x_k))).bind fun x5_goals => ((op2 fCat (some st2) (((((((some x1_things)).bind fun l => some l.length)).bind rng1)).bind fun xs => compM (fun x_j => (andO (op2 (fun x y => some (!Nat.beq x y)) (some x_j) (some x_k)) (op2 (fun x y => some (Nat.beq x y)) (op2 fAnd (op2 fShr (some x5_goals) (some x_j)) (some 1)) (some 1)))) (fun x_j => (op2 fCatS (((op2 (fun xs i => xs[i]?) (some x1_things) (some x_k))).bind fun i => some [i]) (((op2 (fun xs i => xs[i]?) (some x1_things) (some x_j))).bind fun i => some [i]))) xs)).bind fun x6_found => (k2 (x6_found))))) (fun (st2 : (List (List Nat))) => (some st2)) rem st2 = some r) ?_ ?_ ?_ ?_ PassesOwn.never rfl (pg_name (i := 3) sc_leads_of.nd rfl (by first | exact Or.inl rfl | exact Or.inr rfl))
    · intro Ba Ha ga
      exact ⟨Ba, v1_found, none, none, (x1_found), rfl, G1.trans ga, Ex.refl _, I1.go ga, ((tL (tS cw)).mono ga.eb r1_found), hm⟩
    · intro B1 rem σ1 H1 ⟨Bp, v_found, y_goals, y_k, st2, _, _, e1, I1, _⟩
      exact ⟨e1.trans I1.ex, fun _ hp => nomatch hp⟩
    · intro B1 x_k rem v_k σ1 H1 e1 r_k ⟨B3, v_found, y_goals, y_k, st2, hσ, G3, eL2, I3, r_found, hm⟩
      subst hσ
      have r_k := tN.mono eL2 r_k
      obtain ⟨k2, hk2, hm⟩ := forK_step hm
      have r_closer := (tCl cw C).mono (e1.trans eL2) r_closer
      have r1_things := (tS cw).mono (e1.trans eL2) r1_things
      obtain ⟨x5_goals, h5, hm⟩ := bind_some hm
      refine ss_set 4 h5 (ev_ixT (ev_fldT cf (ev_var 0 r_closer)) (ev_shl ev_int (ev_var 3 r_k))) I3 (fun v5_goals B5 H5 g5 r5_goals => ?_) sc_leads_of.nd
      have r_closer := (tCl cw C).mono g5.eb r_closer
      have r_found := (tL (tS cw)).mono g5.eb r_found
      have r1_things := (tS cw).mono g5.eb r1_things
      have r_k := tN.mono g5.eb r_k
      have eL2 := eL2.trans g5.eb
      have I5 := I3.go g5
      have G5 := G3.trans g5
      obtain ⟨x6_found, h6, hm⟩ := bind_some hm
      refine ss_set 1 h6 (ev_cat (es_of (ev_var 1 r_found)) (es_of (ev_lc (x := "j") rfl sc_leads_of.nd (blkOk_by (by kernel_rfl)) (iv_rng1 bt (ev_lenS bt (ev_var 2 r1_things))) (fun _ _ _ _ _ => pg_name (i := 5) sc_leads_of.nd rfl (by first | exact Or.inl rfl | exact Or.inr rfl)) _ _ (fun x_j v_j B7 e7 r_j => by have r1_things := (tS cw).mono e7 r1_things; have r_k := tN.mono e7 r_k; have r5_goals := tN.mono e7 r5_goals; exact fun _ _ _ _ _ => (tv_w (wv_and ((ev_neN (ev_var 5 r_j) (ev_var 3 r_k))).2 (wv_and1 ((ev_eqN (ev_and (ev_shr (ev_var 4 r5_goals) (ev_var 5 r_j)) ev_int) ev_int)).2)))) (fun x_j v_j B7 e7 r_j _ => by have r1_things := (tS cw).mono e7 r1_things; have r_k := tN.mono e7 r_k; have r5_goals := tN.mono e7 r5_goals; exact fun _ _ _ _ _ => (ev_catS (ev_toS (ev_ixS (ev_var 2 r1_things) (ev_var 3 r_k))) (ev_toS (ev_ixS (ev_var 2 r1_things) (ev_var 5 r_j)))))))) I5 (fun v6_found B6 H6 g6 r6_found => ?_) sc_leads_of.nd
      have r_closer := (tCl cw C).mono g6.eb r_closer
      have r_found := (tL (tS cw)).mono g6.eb r_found
      have r1_things := (tS cw).mono g6.eb r1_things
      have r_k := tN.mono g6.eb r_k
      have r5_goals := tN.mono g6.eb r5_goals
      have eL2 := eL2.trans g6.eb
      have I6 := I5.go g6
      have G6 := G5.trans g6
      rw [hk2] at hm
      exact ss_nil ⟨B6, v6_found, some v5_goals, some v_k, (x6_found), rfl, G6, eL2, I6, r6_found, hm⟩
    · intro B1 σ1 H1 e1 ⟨B4, v_found, y_goals, y_k, st2, hσ, G4, ep, I4, r_found, hm⟩
      subst hσ
      have hm := forK_end hm
      have r_closer := (tCl cw C).mono (e1.trans ep) r_closer
      have r1_things := (tS cw).mono (e1.trans ep) r1_things
      exact ss_ret hm (ev_var 1 r_found) I4 fun v9 B9 H9 g9 r9 => q v9 B9 H9 (G4.trans g9) r9

theorem sc_leads : FnScope ["closer"] ["closer"] (defScope (topS 74)) := ⟨rfl, rfl, rfl, by decide +kernel, rfl, by decide +kernel, by decide +kernel⟩
def m_leads (x_closer : Clo) : Option (List (List Nat)) :=
  ((((some x_closer)).bind m_check_closer).bind fun z1 => (((some x_closer)).bind m_leads_of))
abbrev K_leads (P : Program) (w : World) (K : PySem.W.Frag) (mg : Str → Option Value) (base : Heap) (cw : Crew) (C : Addr) : Prop := Cal P w K mg base "leads" 4 ["closer"] (Sp1 (tCl cw C) (tT (tS cw)) m_leads)
theorem cal_leads (d : Df K mg "leads" (topS 74) ["closer"]) (bt : Bt mg) (c_check_closer : K_check_closer P w K mg base cw C) (c_leads_of : K_leads_of P w K mg base cw C) : K_leads P w K mg base cw C := by
  obtain ⟨f, fd, F, mgf, bi⟩ := d.ex
  refine ⟨⟨f, fd, ?_, mgf, F.kp, bi⟩⟩
  refine F.ok sc_leads (fun vs H Q E h => ?_) (fun cdv A outer s H0 vs Q E hr h => ⟨wSs _ _, p_ss, ?_⟩)
  · obtain ⟨v_closer, x_closer, B, r, rfl, _⟩ := h
    rfl
  · obtain ⟨v_closer, x_closer, B0, r, rfl, r_closer, eB, hm, q⟩ := h
    have I0 : In B0 [] H0 := ⟨eB, fun _ hp => nomatch hp⟩
    have G0 : Go B0 H0 B0 H0 := Go.refl eB
    obtain ⟨z1, hz1, hm⟩ := bind_some hm
    refine ss_do hz1 (ev_call1 c_check_closer (hr.mono (by decide)) (ev_var 0 r_closer)) I0 (fun v1 B1 H1 g1 _ => ?_)
    have r_closer := (tCl cw C).mono g1.eb r_closer
    have I1 := I0.go g1
    have G1 := G0.trans g1
    exact ss_ret hm (ev_tuple bt (es_of (ev_call1 c_leads_of (hr.mono (by decide)) (ev_var 0 r_closer)))) I1 fun v9 B9 H9 g9 r9 => q v9 B9 H9 (G1.trans g9) r9

end
end Cw
namespace Cw
open PySem PySem.Spec PyProof.Rows L2 Ly
section
variable {P : Program} {w : World} {K : PySem.W.Frag} {mg : Str → Option Value} {base : Heap} {cw : Crew} {C : Addr}
theorem sc_is_lead : FnScope ["things", "value"] ["things", "value"] (defScope (topS 75)) := ⟨rfl, rfl, rfl, by decide +kernel, rfl, by decide +kernel, by decide +kernel⟩
def m_is_lead (x_things : List Nat) (x_value : List Nat) : Option (Bool) :=
  ((orO (notO (((some x_value)).bind fun _ => some true)) (op2 (fun x y => some (!Nat.beq x y)) (((some x_value)).bind fun l => some l.length) (some 2))).bind fun b1 => bif b1 then (some false) else (andO (op2 (fun x y => some (y.contains x)) (op2 (fun xs i => xs[i]?) (some x_value) (some 0)) (some x_things)) (andO (op2 (fun x y => some (y.contains x)) (op2 (fun xs i => xs[i]?) (some x_value) (some 1)) (some x_things)) (op2 (fun x y => some (!Nat.beq x y)) (op2 (fun xs i => xs[i]?) (some x_value) (some 0)) (op2 (fun xs i => xs[i]?) (some x_value) (some 1))))))
abbrev K_is_lead (P : Program) (w : World) (K : PySem.W.Frag) (mg : Str → Option Value) (base : Heap) (cw : Crew) (C : Addr) : Prop := Cal P w K mg base "is_lead" 1 ["things", "value"] (Sp2 (tS cw) (tS cw) tB m_is_lead)
theorem cal_is_lead (d : Df K mg "is_lead" (topS 75) ["things", "value"]) (bt : Bt mg) : K_is_lead P w K mg base cw C := by
  obtain ⟨f, fd, F, mgf, bi⟩ := d.ex
  refine ⟨⟨f, fd, ?_, mgf, F.kp, bi⟩⟩
  refine F.ok sc_is_lead (fun vs H Q E h => ?_) (fun cdv A outer s H0 vs Q E hr h => ⟨wSs _ _, p_ss, ?_⟩)
  · obtain ⟨v_things, v_value, x_things, x_value, B, r, rfl, _⟩ := h
    rfl
  · obtain ⟨v_things, v_value, x_things, x_value, B0, r, rfl, r_things, r_value, eB, hm, q⟩ := h
    have I0 : In B0 [] H0 := ⟨eB, fun _ hp => nomatch hp⟩
    have G0 : Go B0 H0 B0 H0 := Go.refl eB
    obtain ⟨b1, hb1, hm⟩ := bind_some hm
    refine ss_if hb1 (tv_w (wv_or (tv_not (tv_of (ev_isiS bt (ev_var 1 r_value)))) (wv_or1 ((ev_neN (ev_lenS bt (ev_var 1 r_value)) ev_int)).2))) I0 (fun hz B1 H1 g1 => ?_) (fun hz B1 H1 g1 => ?_)
    · replace hm := ifT hz hm
      have r_things := (tS cw).mono g1.eb r_things
      have r_value := (tS cw).mono g1.eb r_value
      have I1 := I0.go g1
      have G1 := G0.trans g1
      exact ss_ret hm ev_bool I1 fun v9 B9 H9 g9 r9 => q v9 B9 H9 (G1.trans g9) r9
    · replace hm := ifF hz hm
      have r_things := (tS cw).mono g1.eb r_things
      have r_value := (tS cw).mono g1.eb r_value
      have I1 := I0.go g1
      have G1 := G0.trans g1
      refine ss_nil ?_
      exact ss_ret hm (ev_andV ((ev_inCS (ev_ixS (ev_var 1 r_value) ev_int) (ev_var 0 r_things))).1 (ev_andV ((ev_inCS (ev_ixS (ev_var 1 r_value) ev_int) (ev_var 0 r_things))).1 (ev_one ((ev_neC (ev_ixS (ev_var 1 r_value) ev_int) (ev_ixS (ev_var 1 r_value) ev_int))).1))) I1 fun v9 B9 H9 g9 r9 => q v9 B9 H9 (G1.trans g9) r9

theorem sc_go_on : FnScope ["some", "one", "other"] ["some"] (defScope (topS 76)) := ⟨rfl, rfl, rfl, by decide +kernel, rfl, by decide +kernel, by decide +kernel⟩
def m_go_on (x_some : List (List Nat)) : Option (Bool) :=
  ((some x_some).bind fun xs1 => forK (fun x_one (st1 : Unit) k1 => ((some x_some).bind fun xs4 => forK (fun x_other (st4 : Unit) k4 => ((andO (op2 (fun x y => some (Nat.beq x y)) (op2 (fun xs i => xs[i]?) (some x_one) (some 1)) (op2 (fun xs i => xs[i]?) (some x_other) (some 0))) (andO (op2 (fun x y => some (!Nat.beq x y)) (op2 (fun xs i => xs[i]?) (some x_one) (some 0)) (op2 (fun xs i => xs[i]?) (some x_other) (some 1))) (op2 (fun x y => some (!y.any fun z => (fun x y => x == y) z x)) (op2 fCatS (((op2 (fun xs i => xs[i]?) (some x_one) (some 0))).bind fun i => some [i]) (((op2 (fun xs i => xs[i]?) (some x_other) (some 1))).bind fun i => some [i])) (some x_some)))).bind fun b7 => bif b7 then (some false) else (k4 ()))) (fun (st4 : Unit) => (k1 ())) xs4 ())) (fun (st1 : Unit) => (some true)) xs1 ())
abbrev K_go_on (P : Program) (w : World) (K : PySem.W.Frag) (mg : Str → Option Value) (base : Heap) (cw : Crew) (C : Addr) : Prop := Cal P w K mg base "go_on" 1 ["some"] (Sp1 (tT (tS cw)) tB m_go_on)
theorem cal_go_on (d : Df K mg "go_on" (topS 76) ["some"]) (bt : Bt mg) : K_go_on P w K mg base cw C := by
  obtain ⟨f, fd, F, mgf, bi⟩ := d.ex
  refine ⟨⟨f, fd, ?_, mgf, F.kp, bi⟩⟩
  refine F.ok sc_go_on (fun vs H Q E h => ?_) (fun cdv A outer s H0 vs Q E hr h => ⟨wSs _ _, p_ss, ?_⟩)
  · obtain ⟨v_some, x_some, B, r, rfl, _⟩ := h
    rfl
  · obtain ⟨v_some, x_some, B0, r, rfl, r_some, eB, hm, q⟩ := h
    have I0 : In B0 [] H0 := ⟨eB, fun _ hp => nomatch hp⟩
    have G0 : Go B0 H0 B0 H0 := Go.refl eB
    obtain ⟨xs1, hx1, hm⟩ := bind_some hm
    refine ss_for 1 hx1 (iv_T (ev_var 0 r_some)) I0.nil (fun Bq rem σq Hq => ∃ (Bp : Hp) (y_other : Option V) (y_one : Option V) (st1 : Unit), σq = [some v_some, y_one, y_other] ∧ Go B0 H0 Bp Hq ∧ Ex Bq Bp ∧ In Bp [] Hq ∧ forK (fun x_one (st1 : Unit) k1 => ((some x_some).bind fun xs4 => forK (fun x_other (st4 : Unit) k4 => ((andO (op2 (fun x y => some (Nat.beq x y)) (op2 (fun xs i => xs[i]?) (some x_one) (some 1)) (op2 (fun xs i => xs[i]?) (some x_other) (some 0))) (andO (op2 (fun x y => some (!Nat.beq x y)) (op2 (fun xs i => xs[i]?) (some x_one) (some 0)) (op2 (fun xs i => xs[i]?) (some x_other) (some 1))) (op2 (fun x y => some (!y.any fun z => (fun x y => x == y) z x)) (op2 fCatS (((op2 (fun xs i => xs[i]?) (some x_one) (some 0))).bind fun i => some [i]) (((op2 (fun xs i => xs[i]?) (some x_other) (some 1))).bind fun i => some [i])) (some x_some)))).bind fun b7 => bif b7 then (some false) else (k4 ()))) (fun (st4 : Unit) => (k1 ())) xs4 ())) (fun (st1 : Unit) => (some true)) rem st1 = some r) ?_ ?_ ?_ ?_ PassesOwn.never rfl (pg_name (i := 1) sc_go_on.nd rfl (by first | exact Or.inl rfl | exact Or.inr rfl))
    · intro Ba Ha ga
      exact ⟨Ba, none, none, (), rfl, G0.trans ga, Ex.refl _, I0.go ga, hm⟩
    · intro B1 rem σ1 H1 ⟨Bp, y_other, y_one, st1, _, _, e1, I1, _⟩
      exact ⟨e1.trans I1.ex, fun _ hp => nomatch hp⟩
    · intro B1 x_one rem v_one σ1 H1 e1 r_one ⟨B2, y_other, y_one, st1, hσ, G2, eL1, I2, hm⟩
      subst hσ
      have r_one := (tS cw).mono eL1 r_one
      obtain ⟨k1, hk1, hm⟩ := forK_step hm
      have r_some := (tT (tS cw)).mono (e1.trans eL1) r_some
      obtain ⟨xs4, hx4, hm⟩ := bind_some hm
      refine ss_for 2 hx4 (iv_T (ev_var 0 r_some)) I2.nil (fun Bq rem σq Hq => ∃ (Bp : Hp) (y_other : Option V) (st4 : Unit), σq = [some v_some, some v_one, y_other] ∧ Go B0 H0 Bp Hq ∧ Ex Bq Bp ∧ In Bp [] Hq ∧ forK (fun x_other (st4 : Unit) k4 => ((andO (op2 (fun x y => some (Nat.beq x y)) (op2 (fun xs i => xs[i]?) (some x_one) (some 1)) (op2 (fun xs i => xs[i]?) (some x_other) (some 0))) (andO (op2 (fun x y => some (!Nat.beq x y)) (op2 (fun xs i => xs[i]?) (some x_one) (some 0)) (op2 (fun xs i => xs[i]?) (some x_other) (some 1))) (op2 (fun x y => some (!y.any fun z => (fun x y => x == y) z x)) (op2 fCatS (((op2 (fun xs i => xs[i]?) (some x_one) (some 0))).bind fun i => some [i]) (((op2 (fun xs i => xs[i]?) (some x_other) (some 1))).bind fun i => some [i])) (some x_some)))).bind fun b7 => bif b7 then (some false) else (k4 ()))) (fun (st4 : Unit) => (k1 ())) rem st4 = some r) ?_ ?_ ?_ ?_ PassesOwn.never rfl (pg_name (i := 2) sc_go_on.nd rfl (by first | exact Or.inl rfl | exact Or.inr rfl))
      · intro Ba Ha ga
        exact ⟨Ba, y_other, (), rfl, G2.trans ga, Ex.refl _, I2.go ga, hm⟩
      · intro B1 rem σ1 H1 ⟨Bp, y_other, st4, _, _, e1, I1, _⟩
        exact ⟨e1.trans I1.ex, fun _ hp => nomatch hp⟩
      · intro B1 x_other rem v_other σ1 H1 e1 r_other ⟨B5, y_other, st4, hσ, G5, eL4, I5, hm⟩
        subst hσ
        have r_other := (tS cw).mono eL4 r_other
        obtain ⟨k4, hk4, hm⟩ := forK_step hm
        have r_some := (tT (tS cw)).mono (e1.trans eL4) r_some
        have r_one := (tS cw).mono (e1.trans eL4) r_one
        have eL1 := eL1.trans (e1.trans eL4)
        obtain ⟨b7, hb7, hm⟩ := bind_some hm
        refine ss_if hb7 (tv_w (wv_and ((ev_eqC (ev_ixS (ev_var 1 r_one) ev_int) (ev_ixS (ev_var 2 r_other) ev_int))).2 (wv_and ((ev_neC (ev_ixS (ev_var 1 r_one) ev_int) (ev_ixS (ev_var 2 r_other) ev_int))).2 (wv_and1 ((ev_niT flatS (ev_catS (ev_toS (ev_ixS (ev_var 1 r_one) ev_int)) (ev_toS (ev_ixS (ev_var 2 r_other) ev_int))) (ev_var 0 r_some))).2)))) I5 (fun hz B7 H7 g7 => ?_) (fun hz B7 H7 g7 => ?_)
        · replace hm := ifT hz hm
          have r_some := (tT (tS cw)).mono g7.eb r_some
          have r_one := (tS cw).mono g7.eb r_one
          have r_other := (tS cw).mono g7.eb r_other
          have eL1 := eL1.trans g7.eb
          have eL4 := eL4.trans g7.eb
          have I7 := I5.go g7
          have G7 := G5.trans g7
          exact ss_ret hm ev_bool I7 fun v9 B9 H9 g9 r9 => q v9 B9 H9 (G7.trans g9) r9
        · replace hm := ifF hz hm
          have r_some := (tT (tS cw)).mono g7.eb r_some
          have r_one := (tS cw).mono g7.eb r_one
          have r_other := (tS cw).mono g7.eb r_other
          have eL1 := eL1.trans g7.eb
          have eL4 := eL4.trans g7.eb
          have I7 := I5.go g7
          have G7 := G5.trans g7
          refine ss_nil ?_
          rw [hk4] at hm
          exact ss_nil ⟨B7, some v_other, (), rfl, G7, eL4, I7, hm⟩
      · intro B1 σ1 H1 e1 ⟨B6, y_other, st4, hσ, G6, ep, I6, hm⟩
        subst hσ
        have hm := forK_end hm
        have r_some := (tT (tS cw)).mono (e1.trans ep) r_some
        have r_one := (tS cw).mono (e1.trans ep) r_one
        have eL1 := eL1.trans (e1.trans ep)
        rw [hk1] at hm
        exact ss_nil ⟨B6, y_other, some v_one, (), rfl, G6, eL1, I6, hm⟩
    · intro B1 σ1 H1 e1 ⟨B3, y_other, y_one, st1, hσ, G3, ep, I3, hm⟩
      subst hσ
      have hm := forK_end hm
      have r_some := (tT (tS cw)).mono (e1.trans ep) r_some
      exact ss_ret hm ev_bool I3 fun v9 B9 H9 g9 r9 => q v9 B9 H9 (G3.trans g9) r9

theorem sc_check_leads : FnScope ["things", "value", "index"] ["things", "value"] (defScope (topS 77)) := ⟨rfl, rfl, rfl, by decide +kernel, rfl, by decide +kernel, by decide +kernel⟩
def m_check_leads (x_things : List Nat) (x_value : List (List Nat)) : Option (Unit) :=
  ((notO (((some x_value)).bind fun _ => some true)).bind fun b1 => bif b1 then none else ((((((some x_value)).bind fun l => some l.length)).bind rng1).bind fun xs2 => forK (fun x_index (st2 : Unit) k2 => ((orO (notO (op2 m_is_lead (some x_things) (op2 (fun xs i => xs[i]?) (some x_value) (some x_index)))) (andO (op2 (fun x y => some (Nat.blt y x)) (some x_index) (some 0)) (op2 (fun x y => some (!lexB y x)) (op2 (fun xs i => xs[i]?) (some x_value) (some x_index)) (op2 (fun xs i => xs[i]?) (some x_value) (op2 fSub (some x_index) (some 1)))))).bind fun b5 => bif b5 then none else (k2 ()))) (fun (st2 : Unit) => ((notO (((some x_value)).bind m_go_on)).bind fun b6 => bif b6 then none else (some ()))) xs2 ()))
abbrev K_check_leads (P : Program) (w : World) (K : PySem.W.Frag) (mg : Str → Option Value) (base : Heap) (cw : Crew) (C : Addr) : Prop := Cal P w K mg base "check_leads" 2 ["things", "value"] (Sp2 (tS cw) (tT (tS cw)) tU m_check_leads)
theorem cal_check_leads (d : Df K mg "check_leads" (topS 77) ["things", "value"]) (bt : Bt mg) (c_is_lead : K_is_lead P w K mg base cw C) (c_go_on : K_go_on P w K mg base cw C) : K_check_leads P w K mg base cw C := by
  obtain ⟨f, fd, F, mgf, bi⟩ := d.ex
  refine ⟨⟨f, fd, ?_, mgf, F.kp, bi⟩⟩
  refine F.ok sc_check_leads (fun vs H Q E h => ?_) (fun cdv A outer s H0 vs Q E hr h => ⟨wSs _ _, p_ss, ?_⟩)
  · obtain ⟨v_things, v_value, x_things, x_value, B, r, rfl, _⟩ := h
    rfl
  · obtain ⟨v_things, v_value, x_things, x_value, B0, r, rfl, r_things, r_value, eB, hm, q⟩ := h
    have I0 : In B0 [] H0 := ⟨eB, fun _ hp => nomatch hp⟩
    have G0 : Go B0 H0 B0 H0 := Go.refl eB
    obtain ⟨b1, hb1, hm⟩ := bind_some hm
    refine ss_if hb1 (tv_not (tv_of (ev_isiT bt (ev_var 1 r_value)))) I0 (fun hz B1 H1 g1 => ?_) (fun hz B1 H1 g1 => ?_)
    · replace hm := ifT hz hm
      have r_things := (tS cw).mono g1.eb r_things
      have r_value := (tT (tS cw)).mono g1.eb r_value
      have I1 := I0.go g1
      have G1 := G0.trans g1
      exact absurd hm (by intro z; cases z)
    · replace hm := ifF hz hm
      have r_things := (tS cw).mono g1.eb r_things
      have r_value := (tT (tS cw)).mono g1.eb r_value
      have I1 := I0.go g1
      have G1 := G0.trans g1
      refine ss_nil ?_
      obtain ⟨xs2, hx2, hm⟩ := bind_some hm
      refine ss_for 2 hx2 (iv_rng1 bt (ev_lenT bt (ev_var 1 r_value))) I1.nil (fun Bq rem σq Hq => ∃ (Bp : Hp) (y_index : Option V) (st2 : Unit), σq = [some v_things, some v_value, y_index] ∧ Go B0 H0 Bp Hq ∧ Ex Bq Bp ∧ In Bp [] Hq ∧ forK (fun x_index (st2 : Unit) k2 => ((orO (notO (op2 m_is_lead (some x_things) (op2 (fun xs i => xs[i]?) (some x_value) (some x_index)))) (andO (op2 (fun x y => some (Nat.blt y x)) (some x_index) (some 0)) (op2 (fun x y => some (!lexB y x)) (op2 (fun xs i => xs[i]?) (some x_value) (some x_index)) (op2 (fun xs i => xs[i]?) (some x_value) (op2 fSub (some x_index) (some 1)))))).bind fun b5 => bif b5 then none else (k2 ()))) (fun (st2 : Unit) => ((notO (((some x_value)).bind m_go_on)).bind fun b6 => bif b6 then none else (some ()))) rem st2 = some r) ?_ ?_ ?_ ?_ PassesOwn.never rfl (pg_name (i := 2) sc_check_leads.nd rfl (by first | exact Or.inl rfl | exact Or.inr rfl))
      · intro Ba Ha ga
        exact ⟨Ba, none, (), rfl, G1.trans ga, Ex.refl _, I1.go ga, hm⟩
      · intro B1 rem σ1 H1 ⟨Bp, y_index, st2, _, _, e1, I1, _⟩
        exact ⟨e1.trans I1.ex, fun _ hp => nomatch hp⟩
      · intro B1 x_index rem v_index σ1 H1 e1 r_index ⟨B3, y_index, st2, hσ, G3, eL2, I3, hm⟩
        subst hσ
        have r_index := tN.mono eL2 r_index
        obtain ⟨k2, hk2, hm⟩ := forK_step hm
        have r_things := (tS cw).mono (e1.trans eL2) r_things
        have r_value := (tT (tS cw)).mono (e1.trans eL2) r_value
        obtain ⟨b5, hb5, hm⟩ := bind_some hm
        refine ss_if hb5 (tv_w (wv_or (tv_not (tv_of (ev_call2 c_is_lead (hr.mono (by decide)) (ev_var 0 r_things) (ev_ixT (ev_var 1 r_value) (ev_var 2 r_index))))) (wv_or1 (tv_w (wv_and ((ev_gtN (ev_var 2 r_index) ev_int)).2 (wv_and1 ((ev_leS (ev_ixT (ev_var 1 r_value) (ev_var 2 r_index)) (ev_ixT (ev_var 1 r_value) (ev_sub (ev_var 2 r_index) ev_int)))).2)))))) I3 (fun hz B5 H5 g5 => ?_) (fun hz B5 H5 g5 => ?_)
        · replace hm := ifT hz hm
          have r_things := (tS cw).mono g5.eb r_things
          have r_value := (tT (tS cw)).mono g5.eb r_value
          have r_index := tN.mono g5.eb r_index
          have eL2 := eL2.trans g5.eb
          have I5 := I3.go g5
          have G5 := G3.trans g5
          exact absurd hm (by intro z; cases z)
        · replace hm := ifF hz hm
          have r_things := (tS cw).mono g5.eb r_things
          have r_value := (tT (tS cw)).mono g5.eb r_value
          have r_index := tN.mono g5.eb r_index
          have eL2 := eL2.trans g5.eb
          have I5 := I3.go g5
          have G5 := G3.trans g5
          refine ss_nil ?_
          rw [hk2] at hm
          exact ss_nil ⟨B5, some v_index, (), rfl, G5, eL2, I5, hm⟩
      · intro B1 σ1 H1 e1 ⟨B4, y_index, st2, hσ, G4, ep, I4, hm⟩
        subst hσ
        have hm := forK_end hm
        have r_things := (tS cw).mono (e1.trans ep) r_things
        have r_value := (tT (tS cw)).mono (e1.trans ep) r_value
        obtain ⟨b6, hb6, hm⟩ := bind_some hm
        refine ss_if hb6 (tv_not (tv_of (ev_call1 c_go_on (hr.mono (by decide)) (ev_var 1 r_value)))) I4 (fun hz B6 H6 g6 => ?_) (fun hz B6 H6 g6 => ?_)
        · replace hm := ifT hz hm
          have r_things := (tS cw).mono g6.eb r_things
          have r_value := (tT (tS cw)).mono g6.eb r_value
          have I6 := I4.go g6
          have G6 := G4.trans g6
          exact absurd hm (by intro z; cases z)
        · replace hm := ifF hz hm
          have r_things := (tS cw).mono g6.eb r_things
          have r_value := (tT (tS cw)).mono g6.eb r_value
          have I6 := I4.go g6
          have G6 := G4.trans g6
          refine ss_nil ?_
          cases hm
          exact ss_nil (q .non B6 _ G6 rfl)

theorem sc__law_is_in : FnScope ["_law_pack", "_law_more", "_law_each"] ["_law_pack", "_law_more"] (defScope (topS 83)) := ⟨rfl, rfl, rfl, by decide +kernel, rfl, by decide +kernel, by decide +kernel⟩
def m__law_is_in (x__law_pack : List Nat) (x__law_more : List Nat) : Option (Bool) :=
  (((((some x__law_pack)).bind fun xs => compM (fun x__law_each => (some true)) (fun x__law_each => (op2 (fun x y => some (y.contains x)) (some x__law_each) (some x__law_more))) xs)).bind fun l => some (l.all id))
abbrev K__law_is_in (P : Program) (w : World) (K : PySem.W.Frag) (mg : Str → Option Value) (base : Heap) (cw : Crew) (C : Addr) : Prop := Cal P w K mg base "_law_is_in" 1 ["_law_pack", "_law_more"] (Sp2 (tS cw) (tS cw) tB m__law_is_in)
theorem cal__law_is_in (d : Df K mg "_law_is_in" (topS 83) ["_law_pack", "_law_more"]) (bt : Bt mg) : K__law_is_in P w K mg base cw C := by
  obtain ⟨f, fd, F, mgf, bi⟩ := d.ex
  refine ⟨⟨f, fd, ?_, mgf, F.kp, bi⟩⟩
  refine F.ok sc__law_is_in (fun vs H Q E h => ?_) (fun cdv A outer s H0 vs Q E hr h => ⟨wSs _ _, p_ss, ?_⟩)
  · obtain ⟨v__law_pack, v__law_more, x__law_pack, x__law_more, B, r, rfl, _⟩ := h
    rfl
  · obtain ⟨v__law_pack, v__law_more, x__law_pack, x__law_more, B0, r, rfl, r__law_pack, r__law_more, eB, hm, q⟩ := h
    have I0 : In B0 [] H0 := ⟨eB, fun _ hp => nomatch hp⟩
    have G0 : Go B0 H0 B0 H0 := Go.refl eB
    exact ss_ret hm (ev_all bt rfl (es_of (ev_lc (x := "_law_each") rfl sc__law_is_in.nd (blkOk_by (by kernel_rfl)) (iv_S (ev_var 0 r__law_pack)) (fun _ _ _ _ _ => pg_name (i := 2) sc__law_is_in.nd rfl (by first | exact Or.inl rfl | exact Or.inr rfl)) _ _ (fun x__law_each v__law_each B1 e1 r__law_each => rfl) (fun x__law_each v__law_each B1 e1 r__law_each _ => by have r__law_more := (tS cw).mono e1 r__law_more; exact fun _ _ _ _ _ => ((ev_inCS (ev_var 2 r__law_each) (ev_var 1 r__law_more))).1)))) I0 fun v9 B9 H9 g9 r9 => q v9 B9 H9 (G0.trans g9) r9

theorem sc__law_packs : FnScope ["_law_crew_here", "_law_found", "_law_each", "_law_pack"] ["_law_crew_here"] (defScope (topS 84)) := ⟨rfl, rfl, rfl, by decide +kernel, rfl, by decide +kernel, by decide +kernel⟩
def m__law_packs (x__law_crew_here : List Nat) : Option (List (List Nat)) :=
  ((((some [])).bind fun x => some [x]).bind fun x1__law_found => ((some x__law_crew_here).bind fun xs2 => forK (fun x__law_each (st2 : (List (List Nat))) k2 => ((op2 fCat (some st2) (((some st2)).bind fun xs => compM (fun x__law_pack => (some true)) (fun x__law_pack => (op2 fCatS (some x__law_pack) (((some x__law_each)).bind fun i => some [i]))) xs)).bind fun x5__law_found => (k2 (x5__law_found)))) (fun (st2 : (List (List Nat))) => (((some st2)).bind fSortS)) xs2 (x1__law_found)))
abbrev K__law_packs (P : Program) (w : World) (K : PySem.W.Frag) (mg : Str → Option Value) (base : Heap) (cw : Crew) (C : Addr) : Prop := Cal P w K mg base "_law_packs" 1 ["_law_crew_here"] (Sp1 (tS cw) (tL (tS cw)) m__law_packs)
theorem cal__law_packs (d : Df K mg "_law_packs" (topS 84) ["_law_crew_here"]) (bt : Bt mg) : K__law_packs P w K mg base cw C := by
  obtain ⟨f, fd, F, mgf, bi⟩ := d.ex
  refine ⟨⟨f, fd, ?_, mgf, F.kp, bi⟩⟩
  refine F.ok sc__law_packs (fun vs H Q E h => ?_) (fun cdv A outer s H0 vs Q E hr h => ⟨wSs _ _, p_ss, ?_⟩)
  · obtain ⟨v__law_crew_here, x__law_crew_here, B, r, rfl, _⟩ := h
    rfl
  · obtain ⟨v__law_crew_here, x__law_crew_here, B0, r, rfl, r__law_crew_here, eB, hm, q⟩ := h
    have I0 : In B0 [] H0 := ⟨eB, fun _ hp => nomatch hp⟩
    have G0 : Go B0 H0 B0 H0 := Go.refl eB
    obtain ⟨x1__law_found, h1, hm⟩ := bind_some hm
    refine ss_set 1 h1 (ev_list1 (ev_nil (cw := cw))) I0 (fun v1__law_found B1 H1 g1 r1__law_found => ?_) sc__law_packs.nd
    have r__law_crew_here := (tS cw).mono g1.eb r__law_crew_here
    have I1 := I0.go g1
    have G1 := G0.trans g1
    obtain ⟨xs2, hx2, hm⟩ := bind_some hm
    refine ss_for 2 hx2 (iv_S (ev_var 0 r__law_crew_here)) I1.nil (fun Bq rem σq Hq => ∃ (Bp : Hp) (v__law_found : V) (y__law_each : Option V) (st2 : (List (List Nat))), σq = [some v__law_crew_here, some v__law_found, y__law_each, none] ∧ Go B0 H0 Bp Hq ∧ Ex Bq Bp ∧ In Bp [] Hq ∧ (tL (tS cw)).rep Bp v__law_found st2 ∧ forK (fun x__law_each (st2 : (List (List Nat))) k2 => ((op2 fCat (some st2) (((some st2)).bind fun xs => compM (fun x__law_pack => (some true)) (fun x__law_pack => (op2 fCatS (some x__law_pack) (((some x__law_each)).bind fun i => some [i]))) xs)).bind fun x5__law_found => (k2 (x5__law_found)))) (fun (st2 : (List (List Nat))) => (((some st2)).bind fSortS)) rem st2 = some r) ?_ ?_ ?_ ?_ PassesOwn.never rfl (pg_name (i := 2) sc__law_packs.nd rfl (by first | exact Or.inl rfl | exact Or.inr rfl))
    · intro Ba Ha ga
      exact ⟨Ba, v1__law_found, none, (x1__law_found), rfl, G1.trans ga, Ex.refl _, I1.go ga, ((tL (tS cw)).mono ga.eb r1__law_found), hm⟩
    · intro B1 rem σ1 H1 ⟨Bp, v__law_found, y__law_each, st2, _, _, e1, I1, _⟩
      exact ⟨e1.trans I1.ex, fun _ hp => nomatch hp⟩
    · intro B1 x__law_each rem v__law_each σ1 H1 e1 r__law_each ⟨B3, v__law_found, y__law_each, st2, hσ, G3, eL2, I3, r__law_found, hm⟩
      subst hσ
      have r__law_each := (tC cw).mono eL2 r__law_each
      obtain ⟨k2, hk2, hm⟩ := forK_step hm
      have r__law_crew_here := (tS cw).mono (e1.trans eL2) r__law_crew_here
      obtain ⟨x5__law_found, h5, hm⟩ := bind_some hm
      refine ss_set 1 h5 (ev_cat (es_of (ev_var 1 r__law_found)) (es_of (ev_lc (x := "_law_pack") rfl sc__law_packs.nd (blkOk_by (by kernel_rfl)) (iv_L (es_of (ev_var 1 r__law_found))) (fun _ _ _ _ _ => pg_name (i := 3) sc__law_packs.nd rfl (by first | exact Or.inl rfl | exact Or.inr rfl)) _ _ (fun x__law_pack v__law_pack B6 e6 r__law_pack => rfl) (fun x__law_pack v__law_pack B6 e6 r__law_pack _ => by have r__law_each := (tC cw).mono e6 r__law_each; exact fun _ _ _ _ _ => (ev_catS (ev_var 3 r__law_pack) (ev_toS (ev_var 2 r__law_each))))))) I3 (fun v5__law_found B5 H5 g5 r5__law_found => ?_) sc__law_packs.nd
      have r__law_crew_here := (tS cw).mono g5.eb r__law_crew_here
      have r__law_found := (tL (tS cw)).mono g5.eb r__law_found
      have r__law_each := (tC cw).mono g5.eb r__law_each
      have eL2 := eL2.trans g5.eb
      have I5 := I3.go g5
      have G5 := G3.trans g5
      rw [hk2] at hm
      exact ss_nil ⟨B5, v5__law_found, some v__law_each, (x5__law_found), rfl, G5, eL2, I5, r5__law_found, hm⟩
    · intro B1 σ1 H1 e1 ⟨B4, v__law_found, y__law_each, st2, hσ, G4, ep, I4, r__law_found, hm⟩
      subst hσ
      have hm := forK_end hm
      have r__law_crew_here := (tS cw).mono (e1.trans ep) r__law_crew_here
      exact ss_ret hm (ev_sortS bt (es_of (ev_var 1 r__law_found))) I4 fun v9 B9 H9 g9 r9 => q v9 B9 H9 (G4.trans g9) r9

theorem sc__law_led_halls : FnScope ["_law_crew_here", "_law_ties", "_law_found", "_law_pack", "_law_tie"] ["_law_crew_here", "_law_ties"] (defScope (topS 87)) := ⟨rfl, rfl, rfl, by decide +kernel, rfl, by decide +kernel, by decide +kernel⟩
def m__law_led_halls (x__law_crew_here : List Nat) (x__law_ties : List (List Nat)) : Option (List (List Nat)) :=
  ((((some x__law_crew_here)).bind m__law_packs).bind fun xs2 => forK (fun x__law_pack (st2 : (List (List Nat))) k2 => ((op2 (fun x y => some (eqL (fun x y => x == y) x y)) (((some x__law_ties)).bind fun xs => compM (fun x__law_tie => (andO (op2 (fun x y => some (y.contains x)) (op2 (fun xs i => xs[i]?) (some x__law_tie) (some 0)) (some x__law_pack)) (op2 (fun x y => some (!y.contains x)) (op2 (fun xs i => xs[i]?) (some x__law_tie) (some 1)) (some x__law_pack)))) (fun x__law_tie => (some x__law_tie)) xs) (some [])).bind fun b6 => bif b6 then ((some x__law_pack).bind fun z7 => (fApp st2 z7).bind fun x7__law_found => (k2 (x7__law_found))) else (k2 (st2)))) (fun (st2 : (List (List Nat))) => (some st2)) xs2 ([]))
abbrev K__law_led_halls (P : Program) (w : World) (K : PySem.W.Frag) (mg : Str → Option Value) (base : Heap) (cw : Crew) (C : Addr) : Prop := Cal P w K mg base "_law_led_halls" 2 ["_law_crew_here", "_law_ties"] (Sp2 (tS cw) (tT (tS cw)) (tT (tS cw)) m__law_led_halls)
theorem cal__law_led_halls (d : Df K mg "_law_led_halls" (topS 87) ["_law_crew_here", "_law_ties"]) (bt : Bt mg) (c__law_packs : K__law_packs P w K mg base cw C) : K__law_led_halls P w K mg base cw C := by
  obtain ⟨f, fd, F, mgf, bi⟩ := d.ex
  refine ⟨⟨f, fd, ?_, mgf, F.kp, bi⟩⟩
  refine F.ok sc__law_led_halls (fun vs H Q E h => ?_) (fun cdv A outer s H0 vs Q E hr h => ⟨wSs _ _, p_ss, ?_⟩)
  · obtain ⟨v__law_crew_here, v__law_ties, x__law_crew_here, x__law_ties, B, r, rfl, _⟩ := h
    rfl
  · obtain ⟨v__law_crew_here, v__law_ties, x__law_crew_here, x__law_ties, B0, r, rfl, r__law_crew_here, r__law_ties, eB, hm, q⟩ := h
    have I0 : In B0 [] H0 := ⟨eB, fun _ hp => nomatch hp⟩
    have G0 : Go B0 H0 B0 H0 := Go.refl eB
    refine ss_new 2 I0 (fun l__law_found hl__law_found => ?_) sc__law_led_halls.nd
    have h0__law_found := G0.eh.free hl__law_found
    have G1 := G0.new (u := .lst []) hl__law_found
    have I1 := In.one (o := .lst []) I0.ex hl__law_found
    have rp__law_found : Reps (tS cw) B0 [] [] := .nil
    have ln__law_found : ([] : List V).length ≤ 40000 := Nat.zero_le _
    obtain ⟨xs2, hx2, hm⟩ := bind_some hm
    refine ss_for 3 hx2 (iv_L (es_of (ev_call1 c__law_packs (hr.mono (by decide)) (ev_var 0 r__law_crew_here)))) I1.nil (fun Bq rem σq Hq => ∃ (Bp : Hp) (vs__law_found : List V) (y__law_pack : Option V) (st2 : (List (List Nat))), σq = [some v__law_crew_here, some v__law_ties, some (.ref l__law_found), y__law_pack, none] ∧ Go B0 H0 Bp Hq ∧ Ex Bq Bp ∧ In Bp [(l__law_found, HO.lst vs__law_found)] Hq ∧ Reps (tS cw) Bp vs__law_found st2 ∧ (vs__law_found).length ≤ 40000 ∧ forK (fun x__law_pack (st2 : (List (List Nat))) k2 => ((op2 (fun x y => some (eqL (fun x y => x == y) x y)) (((some x__law_ties)).bind fun xs => compM (fun x__law_tie => (andO (op2 (fun x y => some (y.contains x)) (op2 (fun xs i => xs[i]?) (some x__law_tie) (some 0)) (some x__law_pack)) (op2 (fun x y => some (!y.contains x)) (op2 (fun xs i => xs[i]?) (some x__law_tie) (some 1)) (some x__law_pack)))) (fun x__law_tie => (some x__law_tie)) xs) (some [])).bind fun b6 => bif b6 then ((some x__law_pack).bind fun z7 => (fApp st2 z7).bind fun x7__law_found => (k2 (x7__law_found))) else (k2 (st2)))) (fun (st2 : (List (List Nat))) => (some st2)) rem st2 = some r) ?_ ?_ ?_ ?_ PassesOwn.never rfl (pg_name (i := 3) sc__law_led_halls.nd rfl (by first | exact Or.inl rfl | exact Or.inr rfl))
    · intro Ba Ha ga
      exact ⟨Ba, [], none, ([]), rfl, G1.trans ga, Ex.refl _, I1.go ga, (rp__law_found.mono ga.eb), ln__law_found, hm⟩
    · intro B1 rem σ1 H1 ⟨Bp, vs__law_found, y__law_pack, st2, _, _, e1, I1, _⟩
      exact ⟨e1.trans I1.ex, fun _ hp => nomatch hp⟩
    · intro B1 x__law_pack rem v__law_pack σ1 H1 e1 r__law_pack ⟨B3, vs__law_found, y__law_pack, st2, hσ, G3, eL2, I3, rp__law_found, ln__law_found, hm⟩
      subst hσ
      have r__law_pack := (tS cw).mono eL2 r__law_pack
      obtain ⟨k2, hk2, hm⟩ := forK_step hm
      have r__law_crew_here := (tS cw).mono (e1.trans eL2) r__law_crew_here
      have r__law_ties := (tT (tS cw)).mono (e1.trans eL2) r__law_ties
      obtain ⟨b6, hb6, hm⟩ := bind_some hm
      refine ss_if hb6 ((cv_eqL datS (u64 hr) (es_of (ev_lc (x := "_law_tie") rfl sc__law_led_halls.nd (blkOk_by (by kernel_rfl)) (iv_T (ev_var 1 r__law_ties)) (fun _ _ _ _ _ => pg_name (i := 4) sc__law_led_halls.nd rfl (by first | exact Or.inl rfl | exact Or.inr rfl)) _ _ (fun x__law_tie v__law_tie B5 e5 r__law_tie => by have r__law_pack := (tS cw).mono e5 r__law_pack; exact fun _ _ _ _ _ => (tv_w (wv_and ((ev_inCS (ev_ixS (ev_var 4 r__law_tie) ev_int) (ev_var 3 r__law_pack))).2 (wv_and1 ((ev_niCS (ev_ixS (ev_var 4 r__law_tie) ev_int) (ev_var 3 r__law_pack))).2)))) (fun x__law_tie v__law_tie B5 e5 r__law_tie _ => by have r__law_pack := (tS cw).mono e5 r__law_pack; exact fun _ _ _ _ _ => (ev_var 4 r__law_tie)))) (es_of (T := (tS cw)) ev_list0))).2 I3 (fun hz B6 H6 g6 => ?_) (fun hz B6 H6 g6 => ?_)
      · replace hm := ifT hz hm
        have r__law_crew_here := (tS cw).mono g6.eb r__law_crew_here
        have r__law_ties := (tT (tS cw)).mono g6.eb r__law_ties
        have rp__law_found := rp__law_found.mono g6.eb
        have r__law_pack := (tS cw).mono g6.eb r__law_pack
        have eL2 := eL2.trans g6.eb
        have I6 := I3.go g6
        have G6 := G3.trans g6
        obtain ⟨z7, hz7, hm⟩ := bind_some hm
        obtain ⟨x7__law_found, hy7, hm⟩ := bind_some hm
        obtain ⟨ln7, hy7⟩ := fApp_some hy7
        refine ss_app 2 hz7 (ev_var 3 r__law_pack) I6 List.mem_cons_self ln__law_found (fun v7 B7 H7 g7 r7 => ?_)
        have r__law_crew_here := (tS cw).mono g7.eb r__law_crew_here
        have r__law_ties := (tT (tS cw)).mono g7.eb r__law_ties
        have rp__law_found := rp__law_found.mono g7.eb
        have r__law_pack := (tS cw).mono g7.eb r__law_pack
        have eL2 := eL2.trans g7.eb
        have G7 := (G6.trans g7).put h0__law_found (I6.go g7) (u := .lst (vs__law_found ++ [v7]))
        have I7 := (I6.go g7).put (u := .lst (vs__law_found ++ [v7]))
        have rp__law_found := rp__law_found.app (.cons r7 .nil)
        rw [← hy7] at rp__law_found
        have ln__law_found : (vs__law_found ++ [v7]).length ≤ 40000 := by rw [rp__law_found.len, hy7, List.length_append]; exact Nat.le_trans (Nat.succ_le_succ ln7) (by decide)
        refine ss_nil ?_
        rw [hk2] at hm
        exact ss_nil ⟨B7, (vs__law_found ++ [v7]), some v__law_pack, (x7__law_found), rfl, G7, eL2, I7, rp__law_found, ln__law_found, hm⟩
      · replace hm := ifF hz hm
        have r__law_crew_here := (tS cw).mono g6.eb r__law_crew_here
        have r__law_ties := (tT (tS cw)).mono g6.eb r__law_ties
        have rp__law_found := rp__law_found.mono g6.eb
        have r__law_pack := (tS cw).mono g6.eb r__law_pack
        have eL2 := eL2.trans g6.eb
        have I6 := I3.go g6
        have G6 := G3.trans g6
        refine ss_nil ?_
        rw [hk2] at hm
        exact ss_nil ⟨B6, vs__law_found, some v__law_pack, (st2), rfl, G6, eL2, I6, rp__law_found, ln__law_found, hm⟩
    · intro B1 σ1 H1 e1 ⟨B4, vs__law_found, y__law_pack, st2, hσ, G4, ep, I4, rp__law_found, ln__law_found, hm⟩
      subst hσ
      have hm := forK_end hm
      have r__law_crew_here := (tS cw).mono (e1.trans ep) r__law_crew_here
      have r__law_ties := (tT (tS cw)).mono (e1.trans ep) r__law_ties
      exact ss_ret hm (ev_tuple bt (es_var 2 List.mem_cons_self rp__law_found ln__law_found)) I4 fun v9 B9 H9 g9 r9 => q v9 B9 H9 (G4.trans g9) r9

theorem sc__law_most_free : FnScope ["_law_crew_here", "_law_ties", "_law_best", "_law_pack", "_law_tie"] ["_law_crew_here", "_law_ties"] (defScope (topS 91)) := ⟨rfl, rfl, rfl, by decide +kernel, rfl, by decide +kernel, by decide +kernel⟩
def m__law_most_free (x__law_crew_here : List Nat) (x__law_ties : List (List Nat)) : Option (Nat) :=
  ((some 0).bind fun x1__law_best => ((((some x__law_crew_here)).bind m__law_packs).bind fun xs2 => forK (fun x__law_pack (st2 : (Nat)) k2 => ((op2 (fun x y => some (eqL (fun x y => x == y) x y)) (((some x__law_ties)).bind fun xs => compM (fun x__law_tie => (andO (op2 (fun x y => some (y.contains x)) (op2 (fun xs i => xs[i]?) (some x__law_tie) (some 0)) (some x__law_pack)) (op2 (fun x y => some (y.contains x)) (op2 (fun xs i => xs[i]?) (some x__law_tie) (some 1)) (some x__law_pack)))) (fun x__law_tie => (some x__law_tie)) xs) (some [])).bind fun b6 => bif b6 then ((op2 (fun x y => some (Nat.max x y)) (some st2) (((some x__law_pack)).bind fun l => some l.length)).bind fun x7__law_best => (k2 (x7__law_best))) else (k2 (st2)))) (fun (st2 : (Nat)) => (some st2)) xs2 (x1__law_best)))
abbrev K__law_most_free (P : Program) (w : World) (K : PySem.W.Frag) (mg : Str → Option Value) (base : Heap) (cw : Crew) (C : Addr) : Prop := Cal P w K mg base "_law_most_free" 2 ["_law_crew_here", "_law_ties"] (Sp2 (tS cw) (tT (tS cw)) tN m__law_most_free)
theorem cal__law_most_free (d : Df K mg "_law_most_free" (topS 91) ["_law_crew_here", "_law_ties"]) (bt : Bt mg) (c__law_packs : K__law_packs P w K mg base cw C) : K__law_most_free P w K mg base cw C := by
  obtain ⟨f, fd, F, mgf, bi⟩ := d.ex
  refine ⟨⟨f, fd, ?_, mgf, F.kp, bi⟩⟩
  refine F.ok sc__law_most_free (fun vs H Q E h => ?_) (fun cdv A outer s H0 vs Q E hr h => ⟨wSs _ _, p_ss, ?_⟩)
  · obtain ⟨v__law_crew_here, v__law_ties, x__law_crew_here, x__law_ties, B, r, rfl, _⟩ := h
    rfl
  · obtain ⟨v__law_crew_here, v__law_ties, x__law_crew_here, x__law_ties, B0, r, rfl, r__law_crew_here, r__law_ties, eB, hm, q⟩ := h
    have I0 : In B0 [] H0 := ⟨eB, fun _ hp => nomatch hp⟩
    have G0 : Go B0 H0 B0 H0 := Go.refl eB
    obtain ⟨x1__law_best, h1, hm⟩ := bind_some hm
    refine ss_set 2 h1 ev_int I0 (fun v1__law_best B1 H1 g1 r1__law_best => ?_) sc__law_most_free.nd
    have r__law_crew_here := (tS cw).mono g1.eb r__law_crew_here
    have r__law_ties := (tT (tS cw)).mono g1.eb r__law_ties
    have I1 := I0.go g1
    have G1 := G0.trans g1
    obtain ⟨xs2, hx2, hm⟩ := bind_some hm
    refine ss_for 3 hx2 (iv_L (es_of (ev_call1 c__law_packs (hr.mono (by decide)) (ev_var 0 r__law_crew_here)))) I1.nil (fun Bq rem σq Hq => ∃ (Bp : Hp) (v__law_best : V) (y__law_pack : Option V) (st2 : (Nat)), σq = [some v__law_crew_here, some v__law_ties, some v__law_best, y__law_pack, none] ∧ Go B0 H0 Bp Hq ∧ Ex Bq Bp ∧ In Bp [] Hq ∧ tN.rep Bp v__law_best st2 ∧ forK (fun x__law_pack (st2 : (Nat)) k2 => ((op2 (fun x y => some (eqL (fun x y => x == y) x y)) (((some x__law_ties)).bind fun xs => compM (fun x__law_tie => (andO (op2 (fun x y => some (y.contains x)) (op2 (fun xs i => xs[i]?) (some x__law_tie) (some 0)) (some x__law_pack)) (op2 (fun x y => some (y.contains x)) (op2 (fun xs i => xs[i]?) (some x__law_tie) (some 1)) (some x__law_pack)))) (fun x__law_tie => (some x__law_tie)) xs) (some [])).bind fun b6 => bif b6 then ((op2 (fun x y => some (Nat.max x y)) (some st2) (((some x__law_pack)).bind fun l => some l.length)).bind fun x7__law_best => (k2 (x7__law_best))) else (k2 (st2)))) (fun (st2 : (Nat)) => (some st2)) rem st2 = some r) ?_ ?_ ?_ ?_ PassesOwn.never rfl (pg_name (i := 3) sc__law_most_free.nd rfl (by first | exact Or.inl rfl | exact Or.inr rfl))
    · intro Ba Ha ga
      exact ⟨Ba, v1__law_best, none, (x1__law_best), rfl, G1.trans ga, Ex.refl _, I1.go ga, (tN.mono ga.eb r1__law_best), hm⟩
    · intro B1 rem σ1 H1 ⟨Bp, v__law_best, y__law_pack, st2, _, _, e1, I1, _⟩
      exact ⟨e1.trans I1.ex, fun _ hp => nomatch hp⟩
    · intro B1 x__law_pack rem v__law_pack σ1 H1 e1 r__law_pack ⟨B3, v__law_best, y__law_pack, st2, hσ, G3, eL2, I3, r__law_best, hm⟩
      subst hσ
      have r__law_pack := (tS cw).mono eL2 r__law_pack
      obtain ⟨k2, hk2, hm⟩ := forK_step hm
      have r__law_crew_here := (tS cw).mono (e1.trans eL2) r__law_crew_here
      have r__law_ties := (tT (tS cw)).mono (e1.trans eL2) r__law_ties
      obtain ⟨b6, hb6, hm⟩ := bind_some hm
      refine ss_if hb6 ((cv_eqL datS (u64 hr) (es_of (ev_lc (x := "_law_tie") rfl sc__law_most_free.nd (blkOk_by (by kernel_rfl)) (iv_T (ev_var 1 r__law_ties)) (fun _ _ _ _ _ => pg_name (i := 4) sc__law_most_free.nd rfl (by first | exact Or.inl rfl | exact Or.inr rfl)) _ _ (fun x__law_tie v__law_tie B5 e5 r__law_tie => by have r__law_pack := (tS cw).mono e5 r__law_pack; exact fun _ _ _ _ _ => (tv_w (wv_and ((ev_inCS (ev_ixS (ev_var 4 r__law_tie) ev_int) (ev_var 3 r__law_pack))).2 (wv_and1 ((ev_inCS (ev_ixS (ev_var 4 r__law_tie) ev_int) (ev_var 3 r__law_pack))).2)))) (fun x__law_tie v__law_tie B5 e5 r__law_tie _ => by have r__law_pack := (tS cw).mono e5 r__law_pack; exact fun _ _ _ _ _ => (ev_var 4 r__law_tie)))) (es_of (T := (tS cw)) ev_list0))).2 I3 (fun hz B6 H6 g6 => ?_) (fun hz B6 H6 g6 => ?_)
      · replace hm := ifT hz hm
        have r__law_crew_here := (tS cw).mono g6.eb r__law_crew_here
        have r__law_ties := (tT (tS cw)).mono g6.eb r__law_ties
        have r__law_best := tN.mono g6.eb r__law_best
        have r__law_pack := (tS cw).mono g6.eb r__law_pack
        have eL2 := eL2.trans g6.eb
        have I6 := I3.go g6
        have G6 := G3.trans g6
        obtain ⟨x7__law_best, h7, hm⟩ := bind_some hm
        refine ss_set 2 h7 (ev_max bt rfl (ev_var 2 r__law_best) (ev_lenS bt (ev_var 3 r__law_pack))) I6 (fun v7__law_best B7 H7 g7 r7__law_best => ?_) sc__law_most_free.nd
        have r__law_crew_here := (tS cw).mono g7.eb r__law_crew_here
        have r__law_ties := (tT (tS cw)).mono g7.eb r__law_ties
        have r__law_best := tN.mono g7.eb r__law_best
        have r__law_pack := (tS cw).mono g7.eb r__law_pack
        have eL2 := eL2.trans g7.eb
        have I7 := I6.go g7
        have G7 := G6.trans g7
        refine ss_nil ?_
        rw [hk2] at hm
        exact ss_nil ⟨B7, v7__law_best, some v__law_pack, (x7__law_best), rfl, G7, eL2, I7, r7__law_best, hm⟩
      · replace hm := ifF hz hm
        have r__law_crew_here := (tS cw).mono g6.eb r__law_crew_here
        have r__law_ties := (tT (tS cw)).mono g6.eb r__law_ties
        have r__law_best := tN.mono g6.eb r__law_best
        have r__law_pack := (tS cw).mono g6.eb r__law_pack
        have eL2 := eL2.trans g6.eb
        have I6 := I3.go g6
        have G6 := G3.trans g6
        refine ss_nil ?_
        rw [hk2] at hm
        exact ss_nil ⟨B6, v__law_best, some v__law_pack, (st2), rfl, G6, eL2, I6, r__law_best, hm⟩
    · intro B1 σ1 H1 e1 ⟨B4, v__law_best, y__law_pack, st2, hσ, G4, ep, I4, r__law_best, hm⟩
      subst hσ
      have hm := forK_end hm
      have r__law_crew_here := (tS cw).mono (e1.trans ep) r__law_crew_here
      have r__law_ties := (tT (tS cw)).mono (e1.trans ep) r__law_ties
      exact ss_ret hm (ev_var 2 r__law_best) I4 fun v9 B9 H9 g9 r9 => q v9 B9 H9 (G4.trans g9) r9

theorem sc__law_orders : FnScope ["_law_crew_here", "_law_ties", "_law_found", "_law_turn", "_law_later", "_law_head", "_law_each", "_law_ahead", "_law_x"] ["_law_crew_here", "_law_ties"] (defScope (topS 90)) := ⟨rfl, rfl, rfl, by decide +kernel, rfl, by decide +kernel, by decide +kernel⟩
def m__law_orders (x__law_crew_here : List Nat) (x__law_ties : List (List Nat)) : Option (List (List Nat)) :=
  ((((some [])).bind fun x => some [x]).bind fun x1__law_found => ((((((some x__law_crew_here)).bind fun l => some l.length)).bind rng1).bind fun xs2 => forK (fun x__law_turn (st2 : (List (List Nat))) k2 => ((some st2).bind fun xs6 => forK (fun x__law_head (st6 : (List (List Nat))) k6 => ((some x__law_crew_here).bind fun xs9 => forK (fun x__law_each (st9 : (List (List Nat))) k9 => ((((some x__law_crew_here)).bind fun xs => compM (fun x__law_x => (op2 (fun x y => some (y.any fun z => (fun x y => x == y) z x)) (op2 fCatS (((some x__law_x)).bind fun i => some [i]) (((some x__law_each)).bind fun i => some [i])) (some x__law_ties))) (fun x__law_x => (some x__law_x)) xs).bind fun x12__law_ahead => ((andO (op2 (fun x y => some (!y.contains x)) (some x__law_each) (some x__law_head)) (op2 m__law_is_in (((some x12__law_ahead)).bind fJoin) (some x__law_head))).bind fun b14 => bif b14 then ((op2 fCatS (some x__law_head) (((some x__law_each)).bind fun i => some [i])).bind fun z15 => (fApp st9 z15).bind fun x15__law_later => (k9 (x15__law_later))) else (k9 (st9))))) (fun (st9 : (List (List Nat))) => (k6 (st9))) xs9 (st6))) (fun (st6 : (List (List Nat))) => ((some st6).bind fun x17__law_found => (k2 (x17__law_found)))) xs6 ([]))) (fun (st2 : (List (List Nat))) => (((some st2)).bind fSortS)) xs2 (x1__law_found)))
abbrev K__law_orders (P : Program) (w : World) (K : PySem.W.Frag) (mg : Str → Option Value) (base : Heap) (cw : Crew) (C : Addr) : Prop := Cal P w K mg base "_law_orders" 2 ["_law_crew_here", "_law_ties"] (Sp2 (tS cw) (tT (tS cw)) (tT (tS cw)) m__law_orders)
theorem cal__law_orders (d : Df K mg "_law_orders" (topS 90) ["_law_crew_here", "_law_ties"]) (bt : Bt mg) (c__law_is_in : K__law_is_in P w K mg base cw C) : K__law_orders P w K mg base cw C := by
  obtain ⟨f, fd, F, mgf, bi⟩ := d.ex
  refine ⟨⟨f, fd, ?_, mgf, F.kp, bi⟩⟩
  refine F.ok sc__law_orders (fun vs H Q E h => ?_) (fun cdv A outer s H0 vs Q E hr h => ⟨wSs _ _, p_ss, ?_⟩)
  · obtain ⟨v__law_crew_here, v__law_ties, x__law_crew_here, x__law_ties, B, r, rfl, _⟩ := h
    rfl
  · obtain ⟨v__law_crew_here, v__law_ties, x__law_crew_here, x__law_ties, B0, r, rfl, r__law_crew_here, r__law_ties, eB, hm, q⟩ := h
    have I0 : In B0 [] H0 := ⟨eB, fun _ hp => nomatch hp⟩
    have G0 : Go B0 H0 B0 H0 := Go.refl eB
    obtain ⟨x1__law_found, h1, hm⟩ := bind_some hm
    refine ss_set 2 h1 (ev_list1 (ev_nil (cw := cw))) I0 (fun v1__law_found B1 H1 g1 r1__law_found => ?_) sc__law_orders.nd
    have r__law_crew_here := (tS cw).mono g1.eb r__law_crew_here
    have r__law_ties := (tT (tS cw)).mono g1.eb r__law_ties
    have I1 := I0.go g1
    have G1 := G0.trans g1
    obtain ⟨xs2, hx2, hm⟩ := bind_some hm
    refine ss_for 3 hx2 (iv_rng1 bt (ev_lenS bt (ev_var 0 r__law_crew_here))) I1.nil (fun Bq rem σq Hq => ∃ (Bp : Hp) (v__law_found : V) (y__law_later : Option V) (y__law_head : Option V) (y__law_each : Option V) (y__law_ahead : Option V) (y__law_turn : Option V) (st2 : (List (List Nat))), σq = [some v__law_crew_here, some v__law_ties, some v__law_found, y__law_turn, y__law_later, y__law_head, y__law_each, y__law_ahead, none] ∧ Go B0 H0 Bp Hq ∧ Ex Bq Bp ∧ In Bp [] Hq ∧ (tL (tS cw)).rep Bp v__law_found st2 ∧ forK (fun x__law_turn (st2 : (List (List Nat))) k2 => ((some st2).bind fun xs6 => forK (fun x__law_head (st6 : (List (List Nat))) k6 => ((some x__law_crew_here).bind fun xs9 => forK (fun x__law_each (st9 : (List (List Nat))) k9 => ((((some x__law_crew_here)).bind fun xs => compM (fun x__law_x => (op2 (fun x y => some (y.any fun z => (fun x y => x == y) z x)) (op2 fCatS (((some x__law_x)).bind fun i => some [i]) (((some x__law_each)).bind fun i => some [i])) (some x__law_ties))) (fun x__law_x => (some x__law_x)) xs).bind fun x12__law_ahead => ((andO (op2 (fun x y => some (!y.contains x)) (some x__law_each) (some x__law_head)) (op2 m__law_is_in (((some x12__law_ahead)).bind fJoin) (some x__law_head))).bind fun b14 => bif b14 then ((op2 fCatS (some x__law_head) (((some x__law_each)).bind fun i => some [i])).bind fun z15 => (fApp st9 z15).bind fun x15__law_later => (k9 (x15__law_later))) else (k9 (st9))))) (fun (st9 : (List (List Nat))) => (k6 (st9))) xs9 (st6))) (fun (st6 : (List (List Nat))) => ((some st6).bind fun x17__law_found => (k2 (x17__law_found)))) xs6 ([]))) (fun (st2 : (List (List Nat))) => (((some st2)).bind fSortS)) rem st2 = some r) ?_ ?_ ?_ ?_ PassesOwn.never rfl (pg_name (i := 3) sc__law_orders.nd rfl (by first | exact Or.inl rfl | exact Or.inr rfl))
    · intro Ba Ha ga
      exact ⟨Ba, v1__law_found, none, none, none, none, none, (x1__law_found), rfl, G1.trans ga, Ex.refl _, I1.go ga, ((tL (tS cw)).mono ga.eb r1__law_found), hm⟩
    · intro B1 rem σ1 H1 ⟨Bp, v__law_found, y__law_later, y__law_head, y__law_each, y__law_ahead, y__law_turn, st2, _, _, e1, I1, _⟩
      exact ⟨e1.trans I1.ex, fun _ hp => nomatch hp⟩
    · intro B1 x__law_turn rem v__law_turn σ1 H1 e1 r__law_turn ⟨B3, v__law_found, y__law_later, y__law_head, y__law_each, y__law_ahead, y__law_turn, st2, hσ, G3, eL2, I3, r__law_found, hm⟩
      subst hσ
      have r__law_turn := tN.mono eL2 r__law_turn
      obtain ⟨k2, hk2, hm⟩ := forK_step hm
      have r__law_crew_here := (tS cw).mono (e1.trans eL2) r__law_crew_here
      have r__law_ties := (tT (tS cw)).mono (e1.trans eL2) r__law_ties
      refine ss_new 4 I3 (fun l__law_later hl__law_later => ?_) sc__law_orders.nd
      have h0__law_later := G3.eh.free hl__law_later
      have G5 := G3.new (u := .lst []) hl__law_later
      have I5 := In.one (o := .lst []) I3.ex hl__law_later
      have rp__law_later : Reps (tS cw) B3 [] [] := .nil
      have ln__law_later : ([] : List V).length ≤ 40000 := Nat.zero_le _
      obtain ⟨xs6, hx6, hm⟩ := bind_some hm
      refine ss_for 5 hx6 (iv_L (es_of (ev_var 2 r__law_found))) I5.nil (fun Bq rem σq Hq => ∃ (Bp : Hp) (vs__law_later : List V) (y__law_each : Option V) (y__law_ahead : Option V) (y__law_head : Option V) (st6 : (List (List Nat))), σq = [some v__law_crew_here, some v__law_ties, some v__law_found, some v__law_turn, some (.ref l__law_later), y__law_head, y__law_each, y__law_ahead, none] ∧ Go B0 H0 Bp Hq ∧ Ex Bq Bp ∧ In Bp [(l__law_later, HO.lst vs__law_later)] Hq ∧ Reps (tS cw) Bp vs__law_later st6 ∧ (vs__law_later).length ≤ 40000 ∧ forK (fun x__law_head (st6 : (List (List Nat))) k6 => ((some x__law_crew_here).bind fun xs9 => forK (fun x__law_each (st9 : (List (List Nat))) k9 => ((((some x__law_crew_here)).bind fun xs => compM (fun x__law_x => (op2 (fun x y => some (y.any fun z => (fun x y => x == y) z x)) (op2 fCatS (((some x__law_x)).bind fun i => some [i]) (((some x__law_each)).bind fun i => some [i])) (some x__law_ties))) (fun x__law_x => (some x__law_x)) xs).bind fun x12__law_ahead => ((andO (op2 (fun x y => some (!y.contains x)) (some x__law_each) (some x__law_head)) (op2 m__law_is_in (((some x12__law_ahead)).bind fJoin) (some x__law_head))).bind fun b14 => bif b14 then ((op2 fCatS (some x__law_head) (((some x__law_each)).bind fun i => some [i])).bind fun z15 => (fApp st9 z15).bind fun x15__law_later => (k9 (x15__law_later))) else (k9 (st9))))) (fun (st9 : (List (List Nat))) => (k6 (st9))) xs9 (st6))) (fun (st6 : (List (List Nat))) => ((some st6).bind fun x17__law_found => (k2 (x17__law_found)))) rem st6 = some r) ?_ ?_ ?_ ?_ PassesOwn.never rfl (pg_name (i := 5) sc__law_orders.nd rfl (by first | exact Or.inl rfl | exact Or.inr rfl))
      · intro Ba Ha ga
        exact ⟨Ba, [], y__law_each, y__law_ahead, y__law_head, ([]), rfl, G5.trans ga, Ex.refl _, I5.go ga, (rp__law_later.mono ga.eb), ln__law_later, hm⟩
      · intro B1 rem σ1 H1 ⟨Bp, vs__law_later, y__law_each, y__law_ahead, y__law_head, st6, _, _, e1, I1, _⟩
        exact ⟨e1.trans I1.ex, fun _ hp => nomatch hp⟩
      · intro B1 x__law_head rem v__law_head σ1 H1 e1 r__law_head ⟨B7, vs__law_later, y__law_each, y__law_ahead, y__law_head, st6, hσ, G7, eL6, I7, rp__law_later, ln__law_later, hm⟩
        subst hσ
        have r__law_head := (tS cw).mono eL6 r__law_head
        obtain ⟨k6, hk6, hm⟩ := forK_step hm
        have r__law_crew_here := (tS cw).mono (e1.trans eL6) r__law_crew_here
        have r__law_ties := (tT (tS cw)).mono (e1.trans eL6) r__law_ties
        have r__law_found := (tL (tS cw)).mono (e1.trans eL6) r__law_found
        have r__law_turn := tN.mono (e1.trans eL6) r__law_turn
        have eL2 := eL2.trans (e1.trans eL6)
        obtain ⟨xs9, hx9, hm⟩ := bind_some hm
        refine ss_for 6 hx9 (iv_S (ev_var 0 r__law_crew_here)) I7.nil (fun Bq rem σq Hq => ∃ (Bp : Hp) (vs__law_later : List V) (y__law_ahead : Option V) (y__law_each : Option V) (st9 : (List (List Nat))), σq = [some v__law_crew_here, some v__law_ties, some v__law_found, some v__law_turn, some (.ref l__law_later), some v__law_head, y__law_each, y__law_ahead, none] ∧ Go B0 H0 Bp Hq ∧ Ex Bq Bp ∧ In Bp [(l__law_later, HO.lst vs__law_later)] Hq ∧ Reps (tS cw) Bp vs__law_later st9 ∧ (vs__law_later).length ≤ 40000 ∧ forK (fun x__law_each (st9 : (List (List Nat))) k9 => ((((some x__law_crew_here)).bind fun xs => compM (fun x__law_x => (op2 (fun x y => some (y.any fun z => (fun x y => x == y) z x)) (op2 fCatS (((some x__law_x)).bind fun i => some [i]) (((some x__law_each)).bind fun i => some [i])) (some x__law_ties))) (fun x__law_x => (some x__law_x)) xs).bind fun x12__law_ahead => ((andO (op2 (fun x y => some (!y.contains x)) (some x__law_each) (some x__law_head)) (op2 m__law_is_in (((some x12__law_ahead)).bind fJoin) (some x__law_head))).bind fun b14 => bif b14 then ((op2 fCatS (some x__law_head) (((some x__law_each)).bind fun i => some [i])).bind fun z15 => (fApp st9 z15).bind fun x15__law_later => (k9 (x15__law_later))) else (k9 (st9))))) (fun (st9 : (List (List Nat))) => (k6 (st9))) rem st9 = some r) ?_ ?_ ?_ ?_ PassesOwn.never rfl (pg_name (i := 6) sc__law_orders.nd rfl (by first | exact Or.inl rfl | exact Or.inr rfl))
        · intro Ba Ha ga
          exact ⟨Ba, vs__law_later, y__law_ahead, y__law_each, (st6), rfl, G7.trans ga, Ex.refl _, I7.go ga, (rp__law_later.mono ga.eb), ln__law_later, hm⟩
        · intro B1 rem σ1 H1 ⟨Bp, vs__law_later, y__law_ahead, y__law_each, st9, _, _, e1, I1, _⟩
          exact ⟨e1.trans I1.ex, fun _ hp => nomatch hp⟩
        · intro B1 x__law_each rem v__law_each σ1 H1 e1 r__law_each ⟨B10, vs__law_later, y__law_ahead, y__law_each, st9, hσ, G10, eL9, I10, rp__law_later, ln__law_later, hm⟩
          subst hσ
          have r__law_each := (tC cw).mono eL9 r__law_each
          obtain ⟨k9, hk9, hm⟩ := forK_step hm
          have r__law_crew_here := (tS cw).mono (e1.trans eL9) r__law_crew_here
          have r__law_ties := (tT (tS cw)).mono (e1.trans eL9) r__law_ties
          have r__law_found := (tL (tS cw)).mono (e1.trans eL9) r__law_found
          have r__law_turn := tN.mono (e1.trans eL9) r__law_turn
          have r__law_head := (tS cw).mono (e1.trans eL9) r__law_head
          have eL2 := eL2.trans (e1.trans eL9)
          have eL6 := eL6.trans (e1.trans eL9)
          obtain ⟨x12__law_ahead, h12, hm⟩ := bind_some hm
          refine ss_setLc 7 (x := "_law_x") _ _ h12 rfl sc__law_orders.nd (blkOk_by (by kernel_rfl)) (iv_S (ev_var 0 r__law_crew_here)) (fun _ _ _ _ _ => pg_name (i := 8) sc__law_orders.nd rfl (by first | exact Or.inl rfl | exact Or.inr rfl)) (fun x__law_x v__law_x B13 e13 r__law_x => by have r__law_ties := (tT (tS cw)).mono e13 r__law_ties; have r__law_each := (tC cw).mono e13 r__law_each; exact fun _ _ _ _ _ => ((ev_inT flatS (ev_catS (ev_toS (ev_var 8 r__law_x)) (ev_toS (ev_var 6 r__law_each))) (ev_var 1 r__law_ties))).2) (fun x__law_x v__law_x B13 e13 r__law_x _ => by have r__law_ties := (tT (tS cw)).mono e13 r__law_ties; have r__law_each := (tC cw).mono e13 r__law_each; exact fun _ _ _ _ _ => (ev_var 8 r__law_x)) I10 (fun v12__law_ahead B12 H12 g12 r12__law_ahead => ?_)
          have r__law_crew_here := (tS cw).mono g12.eb r__law_crew_here
          have r__law_ties := (tT (tS cw)).mono g12.eb r__law_ties
          have r__law_found := (tL (tS cw)).mono g12.eb r__law_found
          have r__law_turn := tN.mono g12.eb r__law_turn
          have rp__law_later := rp__law_later.mono g12.eb
          have r__law_head := (tS cw).mono g12.eb r__law_head
          have r__law_each := (tC cw).mono g12.eb r__law_each
          have eL2 := eL2.trans g12.eb
          have eL6 := eL6.trans g12.eb
          have eL9 := eL9.trans g12.eb
          have I12 := I10.go g12
          have G12 := G10.trans g12
          obtain ⟨b14, hb14, hm⟩ := bind_some hm
          refine ss_if hb14 (tv_w (wv_and ((ev_niCS (ev_var 6 r__law_each) (ev_var 5 r__law_head))).2 (wv_and1 (tv_of (ev_call2 c__law_is_in (hr.mono (by decide)) (ev_join (es_of (ev_var 7 r12__law_ahead))) (ev_var 5 r__law_head)))))) I12 (fun hz B14 H14 g14 => ?_) (fun hz B14 H14 g14 => ?_)
          · replace hm := ifT hz hm
            have r__law_crew_here := (tS cw).mono g14.eb r__law_crew_here
            have r__law_ties := (tT (tS cw)).mono g14.eb r__law_ties
            have r__law_found := (tL (tS cw)).mono g14.eb r__law_found
            have r__law_turn := tN.mono g14.eb r__law_turn
            have rp__law_later := rp__law_later.mono g14.eb
            have r__law_head := (tS cw).mono g14.eb r__law_head
            have r__law_each := (tC cw).mono g14.eb r__law_each
            have r12__law_ahead := (tL (tC cw)).mono g14.eb r12__law_ahead
            have eL2 := eL2.trans g14.eb
            have eL6 := eL6.trans g14.eb
            have eL9 := eL9.trans g14.eb
            have I14 := I12.go g14
            have G14 := G12.trans g14
            obtain ⟨z15, hz15, hm⟩ := bind_some hm
            obtain ⟨x15__law_later, hy15, hm⟩ := bind_some hm
            obtain ⟨ln15, hy15⟩ := fApp_some hy15
            refine ss_app 4 hz15 (ev_catS (ev_var 5 r__law_head) (ev_toS (ev_var 6 r__law_each))) I14 List.mem_cons_self ln__law_later (fun v15 B15 H15 g15 r15 => ?_)
            have r__law_crew_here := (tS cw).mono g15.eb r__law_crew_here
            have r__law_ties := (tT (tS cw)).mono g15.eb r__law_ties
            have r__law_found := (tL (tS cw)).mono g15.eb r__law_found
            have r__law_turn := tN.mono g15.eb r__law_turn
            have rp__law_later := rp__law_later.mono g15.eb
            have r__law_head := (tS cw).mono g15.eb r__law_head
            have r__law_each := (tC cw).mono g15.eb r__law_each
            have r12__law_ahead := (tL (tC cw)).mono g15.eb r12__law_ahead
            have eL2 := eL2.trans g15.eb
            have eL6 := eL6.trans g15.eb
            have eL9 := eL9.trans g15.eb
            have G15 := (G14.trans g15).put h0__law_later (I14.go g15) (u := .lst (vs__law_later ++ [v15]))
            have I15 := (I14.go g15).put (u := .lst (vs__law_later ++ [v15]))
            have rp__law_later := rp__law_later.app (.cons r15 .nil)
            rw [← hy15] at rp__law_later
            have ln__law_later : (vs__law_later ++ [v15]).length ≤ 40000 := by rw [rp__law_later.len, hy15, List.length_append]; exact Nat.le_trans (Nat.succ_le_succ ln15) (by decide)
            refine ss_nil ?_
            rw [hk9] at hm
            exact ss_nil ⟨B15, (vs__law_later ++ [v15]), some v12__law_ahead, some v__law_each, (x15__law_later), rfl, G15, eL9, I15, rp__law_later, ln__law_later, hm⟩
          · replace hm := ifF hz hm
            have r__law_crew_here := (tS cw).mono g14.eb r__law_crew_here
            have r__law_ties := (tT (tS cw)).mono g14.eb r__law_ties
            have r__law_found := (tL (tS cw)).mono g14.eb r__law_found
            have r__law_turn := tN.mono g14.eb r__law_turn
            have rp__law_later := rp__law_later.mono g14.eb
            have r__law_head := (tS cw).mono g14.eb r__law_head
            have r__law_each := (tC cw).mono g14.eb r__law_each
            have r12__law_ahead := (tL (tC cw)).mono g14.eb r12__law_ahead
            have eL2 := eL2.trans g14.eb
            have eL6 := eL6.trans g14.eb
            have eL9 := eL9.trans g14.eb
            have I14 := I12.go g14
            have G14 := G12.trans g14
            refine ss_nil ?_
            rw [hk9] at hm
            exact ss_nil ⟨B14, vs__law_later, some v12__law_ahead, some v__law_each, (st9), rfl, G14, eL9, I14, rp__law_later, ln__law_later, hm⟩
        · intro B1 σ1 H1 e1 ⟨B11, vs__law_later, y__law_ahead, y__law_each, st9, hσ, G11, ep, I11, rp__law_later, ln__law_later, hm⟩
          subst hσ
          have hm := forK_end hm
          have r__law_crew_here := (tS cw).mono (e1.trans ep) r__law_crew_here
          have r__law_ties := (tT (tS cw)).mono (e1.trans ep) r__law_ties
          have r__law_found := (tL (tS cw)).mono (e1.trans ep) r__law_found
          have r__law_turn := tN.mono (e1.trans ep) r__law_turn
          have r__law_head := (tS cw).mono (e1.trans ep) r__law_head
          have eL2 := eL2.trans (e1.trans ep)
          have eL6 := eL6.trans (e1.trans ep)
          rw [hk6] at hm
          exact ss_nil ⟨B11, vs__law_later, y__law_each, y__law_ahead, some v__law_head, (st9), rfl, G11, eL6, I11, rp__law_later, ln__law_later, hm⟩
      · intro B1 σ1 H1 e1 ⟨B8, vs__law_later, y__law_each, y__law_ahead, y__law_head, st6, hσ, G8, ep, I8, rp__law_later, ln__law_later, hm⟩
        subst hσ
        have hm := forK_end hm
        have r__law_crew_here := (tS cw).mono (e1.trans ep) r__law_crew_here
        have r__law_ties := (tT (tS cw)).mono (e1.trans ep) r__law_ties
        have r__law_found := (tL (tS cw)).mono (e1.trans ep) r__law_found
        have r__law_turn := tN.mono (e1.trans ep) r__law_turn
        have eL2 := eL2.trans (e1.trans ep)
        obtain ⟨B16, G16, I16, e16, r__law_later⟩ := frzL G8 eB h0__law_later I8 rp__law_later ln__law_later
        have r__law_crew_here := (tS cw).mono e16 r__law_crew_here
        have r__law_ties := (tT (tS cw)).mono e16 r__law_ties
        have r__law_found := (tL (tS cw)).mono e16 r__law_found
        have r__law_turn := tN.mono e16 r__law_turn
        have eL2 := eL2.trans e16
        obtain ⟨x17__law_found, h17, hm⟩ := bind_some hm
        refine ss_set 2 h17 (ev_var 4 r__law_later) I16 (fun v17__law_found B17 H17 g17 r17__law_found => ?_) sc__law_orders.nd
        have r__law_crew_here := (tS cw).mono g17.eb r__law_crew_here
        have r__law_ties := (tT (tS cw)).mono g17.eb r__law_ties
        have r__law_found := (tL (tS cw)).mono g17.eb r__law_found
        have r__law_turn := tN.mono g17.eb r__law_turn
        have r__law_later := (tL (tS cw)).mono g17.eb r__law_later
        have eL2 := eL2.trans g17.eb
        have I17 := I16.go g17
        have G17 := G16.trans g17
        rw [hk2] at hm
        exact ss_nil ⟨B17, v17__law_found, some (.ref l__law_later), y__law_head, y__law_each, y__law_ahead, some v__law_turn, (x17__law_found), rfl, G17, eL2, I17, r17__law_found, hm⟩
    · intro B1 σ1 H1 e1 ⟨B4, v__law_found, y__law_later, y__law_head, y__law_each, y__law_ahead, y__law_turn, st2, hσ, G4, ep, I4, r__law_found, hm⟩
      subst hσ
      have hm := forK_end hm
      have r__law_crew_here := (tS cw).mono (e1.trans ep) r__law_crew_here
      have r__law_ties := (tT (tS cw)).mono (e1.trans ep) r__law_ties
      exact ss_ret hm (ev_tuple bt (es_of (ev_sortS bt (es_of (ev_var 2 r__law_found))))) I4 fun v9 B9 H9 g9 r9 => q v9 B9 H9 (G4.trans g9) r9

end
end Cw
namespace Cw
open PySem PySem.Spec PyProof.Rows L2 Ly
section
variable {P : Program} {w : World} {K : PySem.W.Frag} {mg : Str → Option Value} {base : Heap} {cw : Crew} {C : Addr}
def m_closer (x_things : List Nat) (x_closed : List (List Nat)) : Option Clo :=
  ((some x_things).bind m_check_things).bind fun _ => (op2 m_check_closed (some x_things) (some x_closed)).bind fun _ => (op2 m_rounds_of (some x_things) (op2 m_masks_of (some x_things) (some x_closed))).bind fun t => some ⟨x_things, x_closed, t⟩
theorem sc_init : FnScope ["self", "things", "closed"] ["self", "things", "closed"] (defScope (inClass (topS 35) 0)) := ⟨rfl, rfl, rfl, by decide +kernel, rfl, by decide +kernel, by decide +kernel⟩
theorem flds3 {a b c : V} : putF "table" c (putF "family" b (putF "letters" a [])) = [(("letters" : Str), a), (("family" : Str), b), (("table" : Str), c)] := by
  have h1 : ¬ (("letters" : Str) = "family") := by decide +kernel
  have h2 : ¬ (("letters" : Str) = "table") := by decide +kernel
  have h3 : ¬ (("family" : Str) = "table") := by decide +kernel
  show putF "table" c (if ("letters" : Str) = "family" then [(("letters" : Str), b)] else (("letters" : Str), a) :: [(("family" : Str), b)]) = _
  rw [if_neg h1]
  show (if ("letters" : Str) = "table" then [(("letters" : Str), c), (("family" : Str), b)] else (("letters" : Str), a) :: (if ("family" : Str) = "table" then [(("family" : Str), c)] else (("family" : Str), b) :: [(("table" : Str), c)])) = _
  rw [if_neg h2, if_neg h3]
structure Gx (x : Addr) (B H B' H' : Hp) : Prop where
  eb : Ex B B'
  kh : ∀ a o, a ≠ x → H a = some o → H' a = some o
  fr : ∀ a o, B' a = some o → B a = some o ∨ H a = none
theorem Gx.refl {x : Addr} {B H : Hp} : Gx x B H B H := ⟨Ex.refl _, fun _ _ _ h => h, fun _ _ h => .inl h⟩
theorem Gx.go {x : Addr} {B H B1 H1 B2 H2 : Hp} {u : HO} (g : Gx x B H B1 H1) (k : Go B1 H1 B2 H2) (I : In B2 [(x, u)] H2) : Gx x B H B2 H2 := ⟨g.eb.trans k.eb, fun a o n h => k.eh _ _ (g.kh a o n h), fun a o h => by
  rcases k.fr a o h with z | z
  · exact g.fr a o z
  · by_cases e : a = x
    · subst e
      have := (I.ow _ List.mem_cons_self).2
      rw [h] at this
      cases this
    · cases q : H a with
      | none => exact .inr rfl
      | some o' =>
        rw [g.kh a o' e q] at z
        cases z⟩
theorem Gx.put {x : Addr} {B H B1 H1 : Hp} {u : HO} (g : Gx x B H B1 H1) : Gx x B H B1 (upd H1 x u) := ⟨g.eb, fun a o n h => by
  rw [upd_ne n]
  exact g.kh a o n h, g.fr⟩
theorem len_putF (f : Str) (v : V) (fs : List (Str × V)) (h : fs.length < 900) : (putF f v fs).length < 1000 := by
  have := length_putF f v fs
  omega
theorem ok_init {f : Addr} {fd : FuncData} (F : Fun K "__init__" "Closer.__init__" (inClass (topS 35) 0) f fd) (cl : Cls K C) (nL : NoAttr K C "letters") (nF : NoAttr K C "family") (nT : NoAttr K C "table")
    (c_check_things : K_check_things P w K mg base cw C) (c_check_closed : K_check_closed P w K mg base cw C) (c_masks_of : K_masks_of P w K mg base cw C) (c_rounds_of : K_rounds_of P w K mg base cw C) : FnOk P w K mg base CX0 9 f fd ["self", "things", "closed"] (SpInit cw C m_closer) := by
  refine F.ok sc_init (fun vs H Q E h => ?_) (fun cdv A outer s H0 vs Q E hr h => ⟨wSs _ _, p_ss, ?_⟩)
  · obtain ⟨x, dx, v, w', ts, fam, B, c, rfl, _⟩ := h
    rfl
  · obtain ⟨x, dx, v, w', ts, fam, B0, c, rfl, I0, r1, r2, hm, q⟩ := h
    have hx0 := I0.ow _ List.mem_cons_self
    have G0 : Gx x B0 H0 B0 H0 := Gx.refl
    obtain ⟨z1, h1, hm⟩ := bind_some hm
    refine ss_do h1 (ev_call1 c_check_things (hr.mono (by decide)) (ev_var 1 r1)) I0 (fun v1 B1 H1 g1 _ => ?_)
    have r1 := (tS cw).mono g1.eb r1
    have r2 := (tT (tS cw)).mono g1.eb r2
    have I1 := I0.go g1
    have G1 := G0.go g1 I1
    obtain ⟨z2, h2, hm⟩ := bind_some hm
    refine ss_do h2 (ev_call2 c_check_closed (hr.mono (by decide)) (ev_var 1 r1) (ev_var 2 r2)) I1 (fun v2 B2 H2 g2 _ => ?_)
    have r1 := (tS cw).mono g2.eb r1
    have r2 := (tT (tS cw)).mono g2.eb r2
    have I2 := I1.go g2
    have G2 := G1.go g2 I2
    refine ss_fld 0 rfl (ev_var 1 r1) I2 List.mem_cons_self cl nL (by decide) (fun v3 B3 H3 g3 r3 => ?_)
    have r1 := (tS cw).mono g3.eb r1
    have r2 := (tT (tS cw)).mono g3.eb r2
    have w3 : v3 = v := r3.1.trans r1.1.symm
    subst w3
    have G3 := (G2.go g3 (I2.go g3)).put (u := .ins C dx (putF "letters" v3 []))
    have I3 := (I2.go g3).put (u := .ins C dx (putF "letters" v3 []))
    refine ss_fldV 2 r2 I3 List.mem_cons_self cl nF (len_putF _ _ _ (by decide)) ?_
    have G4 := G3.put (u := .ins C dx (putF "family" w' (putF "letters" v3 [])))
    have I4 := I3.put (u := .ins C dx (putF "family" w' (putF "letters" v3 [])))
    obtain ⟨z5, h5, hm⟩ := bind_some hm
    cases hm
    refine ss_fld 0 h5 (ev_call2 c_rounds_of (hr.mono (by decide)) (ev_var 1 r1) (ev_call2 c_masks_of (hr.mono (by decide)) (ev_var 1 r1) (ev_var 2 r2))) I4 List.mem_cons_self cl nT (by have a := length_putF "family" w' (putF "letters" v3 []); have b := length_putF "letters" v3 []; have e : ([] : List (Str × V)).length = 0 := rfl; omega) (fun v5 B5 H5 g5 r5 => ?_)
    have G5 := (G4.go g5 (I4.go g5)).put (u := .ins C dx (putF "table" v5 (putF "family" w' (putF "letters" v3 []))))
    have I5 := (I4.go g5).put (u := .ins C dx (putF "table" v5 (putF "family" w' (putF "letters" v3 []))))
    refine ss_nil (q B5 _ _ G5.kh G5.eb I5 G5.fr ⟨v5, flds3, r5, rfl, rfl⟩)
theorem sc_closer_of_masks : FnScope ["things", "masks"] ["things", "masks"] (defScope (topS 38)) := ⟨rfl, rfl, rfl, by decide +kernel, rfl, by decide +kernel, by decide +kernel⟩
def m_closer_of_masks (x_things : List Nat) (x_masks : List Nat) : Option Clo :=
  op2 m_closer (some x_things) (op2 m_family_of (some x_things) (op2 m_meets_of (some x_things) (some x_masks)))
abbrev K_closer_of_masks (P : Program) (w : World) (K : PySem.W.Frag) (mg : Str → Option Value) (base : Heap) (cw : Crew) (C : Addr) : Prop := Cal P w K mg base "closer_of_masks" 12 ["things", "masks"] (Sp2 (tS cw) (tL tN) (tCl cw C) m_closer_of_masks)
theorem cal_closer_of_masks (d : Df K mg "closer_of_masks" (topS 38) ["things", "masks"]) (bt : Bt mg) {fi : Addr} {fdi : FuncData} (M : Mk K C fi) (Fi : FnOk P w K mg base CX0 9 fi fdi ["self", "things", "closed"] (SpInit cw C m_closer)) (bi : Binds K fdi ["self", "things", "closed"] []) (mgC : mg "Closer" = some (.ref C))
    (c_family_of : K_family_of P w K mg base cw C) (c_meets_of : K_meets_of P w K mg base cw C) : K_closer_of_masks P w K mg base cw C := by
  obtain ⟨f, fd, F, mgf, bd⟩ := d.ex
  refine ⟨⟨f, fd, ?_, mgf, F.kp, bd⟩⟩
  refine F.ok sc_closer_of_masks (fun vs H Q E h => ?_) (fun cdv A outer s H0 vs Q E hr h => ⟨wSs _ _, p_ss, ?_⟩)
  · obtain ⟨v_things, v_masks, x_things, x_masks, B, r, rfl, _⟩ := h
    rfl
  · obtain ⟨v_things, v_masks, x_things, x_masks, B0, r, rfl, r_things, r_masks, eB, hm, q⟩ := h
    have I0 : In B0 [] H0 := ⟨eB, fun _ hp => nomatch hp⟩
    exact ss_ret hm (ev_make M Fi bi mgC (hr.mono (by decide)) (ev_var 0 r_things) (ev_call2 c_family_of (hr.mono (by decide)) (ev_var 0 r_things) (ev_call2 c_meets_of (hr.mono (by decide)) (ev_var 0 r_things) (ev_var 1 r_masks)))) I0 fun v9 B9 H9 g9 r9 => q v9 B9 H9 g9 r9
theorem sc_by_leads : FnScope ["things", "some", "pairs", "found", "mask", "lead", "start", "goal"] ["things", "some"] (defScope (topS 78)) := ⟨rfl, rfl, rfl, by decide +kernel, rfl, by decide +kernel, by decide +kernel⟩
def m_by_leads (x_things : List Nat) (x_some : List (List Nat)) : Option (Clo) :=
  ((((some x_things)).bind m_check_things).bind fun z1 => ((op2 m_check_leads (some x_things) (some x_some)).bind fun z2 => ((((some x_some)).bind fun xs => compM (fun x_lead => (some true)) (fun x_lead => (op2 (fun x y => some (x, y)) (op2 m_mask_of (some x_things) (((op2 (fun xs i => xs[i]?) (some x_lead) (some 0))).bind fun i => some [i])) (op2 m_mask_of (some x_things) (((op2 (fun xs i => xs[i]?) (some x_lead) (some 1))).bind fun i => some [i])))) xs).bind fun x3_pairs => ((((op2 fAdd (((some x_things)).bind m_whole_of) (some 1))).bind rng1).bind fun xs5 => forK (fun x_mask (st5 : (List (Nat))) k5 => ((((((some x3_pairs)).bind fun xs => compM (fun x_p => (some true)) (fun x_p => (orO (op2 (fun x y => some (Nat.beq x y)) (op2 fAnd (some x_mask) (some x_p.1)) (some 0)) (op2 (fun x y => some (!Nat.beq x y)) (op2 fAnd (some x_mask) (some x_p.2)) (some 0)))) xs)).bind fun l => some (l.all id)).bind fun b9 => bif b9 then ((some x_mask).bind fun z10 => (fApp st5 z10).bind fun x10_found => (k5 (x10_found))) else (k5 (st5)))) (fun (st5 : (List (Nat))) => (op2 m_closer_of_masks (some x_things) (some st5))) xs5 ([])))))
abbrev K_by_leads (P : Program) (w : World) (K : PySem.W.Frag) (mg : Str → Option Value) (base : Heap) (cw : Crew) (C : Addr) : Prop := Cal P w K mg base "by_leads" 13 ["things", "some"] (Sp2 (tS cw) (tT (tS cw)) (tCl cw C) m_by_leads)
theorem cal_by_leads (d : Df K mg "by_leads" (topS 78) ["things", "some"]) (bt : Bt mg) (c_check_things : K_check_things P w K mg base cw C) (c_check_leads : K_check_leads P w K mg base cw C) (c_mask_of : K_mask_of P w K mg base cw C) (c_whole_of : K_whole_of P w K mg base cw C) (c_closer_of_masks : K_closer_of_masks P w K mg base cw C) : K_by_leads P w K mg base cw C := by
  obtain ⟨f, fd, F, mgf, bi⟩ := d.ex
  refine ⟨⟨f, fd, ?_, mgf, F.kp, bi⟩⟩
  refine F.ok sc_by_leads (fun vs H Q E h => ?_) (fun cdv A outer s H0 vs Q E hr h => ⟨wSs _ _, p_ss, ?_⟩)
  · obtain ⟨v_things, v_some, x_things, x_some, B, r, rfl, _⟩ := h
    rfl
  · obtain ⟨v_things, v_some, x_things, x_some, B0, r, rfl, r_things, r_some, eB, hm, q⟩ := h
    have I0 : In B0 [] H0 := ⟨eB, fun _ hp => nomatch hp⟩
    have G0 : Go B0 H0 B0 H0 := Go.refl eB
    obtain ⟨z1, hz1, hm⟩ := bind_some hm
    refine ss_do hz1 (ev_call1 c_check_things (hr.mono (by decide)) (ev_var 0 r_things)) I0 (fun v1 B1 H1 g1 _ => ?_)
    have r_things := (tS cw).mono g1.eb r_things
    have r_some := (tT (tS cw)).mono g1.eb r_some
    have I1 := I0.go g1
    have G1 := G0.trans g1
    obtain ⟨z2, hz2, hm⟩ := bind_some hm
    refine ss_do hz2 (ev_call2 c_check_leads (hr.mono (by decide)) (ev_var 0 r_things) (ev_var 1 r_some)) I1 (fun v2 B2 H2 g2 _ => ?_)
    have r_things := (tS cw).mono g2.eb r_things
    have r_some := (tT (tS cw)).mono g2.eb r_some
    have I2 := I1.go g2
    have G2 := G1.trans g2
    obtain ⟨x3_pairs, h3, hm⟩ := bind_some hm
    refine ss_parNew 2 3 h3 (ev_lc (x := "lead") rfl sc_by_leads.nd (blkOk_by (by kernel_rfl)) (iv_T (ev_var 1 r_some)) (fun _ _ _ _ _ => pg_name (i := 5) sc_by_leads.nd rfl (by first | exact Or.inl rfl | exact Or.inr rfl)) _ _ (fun x_lead v_lead B4 e4 r_lead => rfl) (fun x_lead v_lead B4 e4 r_lead _ => by have r_things := (tS cw).mono e4 r_things; exact fun _ _ _ _ _ => (ev_pair (ev_call2 c_mask_of (hr.mono (by decide)) (ev_var 0 r_things) (ev_toS (ev_ixS (ev_var 5 r_lead) ev_int))) (ev_call2 c_mask_of (hr.mono (by decide)) (ev_var 0 r_things) (ev_toS (ev_ixS (ev_var 5 r_lead) ev_int)))))) I2 (fun v3_pairs l_found B3 H3 g3 r3_pairs hl_found => ?_) rfl sc_by_leads.nd
    have r_things := (tS cw).mono g3.eb r_things
    have r_some := (tT (tS cw)).mono g3.eb r_some
    have h0_found := (G2.trans g3).eh.free hl_found
    have G3 := (G2.trans g3).new (u := .lst []) hl_found
    have I3 := In.one (o := .lst []) g3.bh hl_found
    have rp_found : Reps tN B3 [] [] := .nil
    have ln_found : ([] : List V).length ≤ 40000 := Nat.zero_le _
    obtain ⟨xs5, hx5, hm⟩ := bind_some hm
    refine ss_for 4 hx5 (iv_rng1 bt (ev_add (ev_call1 c_whole_of (hr.mono (by decide)) (ev_var 0 r_things)) ev_int)) I3.nil (fun Bq rem σq Hq => ∃ (Bp : Hp) (vs_found : List V) (y_mask : Option V) (st5 : (List (Nat))), σq = [some v_things, some v_some, some v3_pairs, some (.ref l_found), y_mask, none, none, none] ∧ Go B0 H0 Bp Hq ∧ Ex Bq Bp ∧ In Bp [(l_found, HO.lst vs_found)] Hq ∧ Reps tN Bp vs_found st5 ∧ (vs_found).length ≤ 40000 ∧ forK (fun x_mask (st5 : (List (Nat))) k5 => ((((((some x3_pairs)).bind fun xs => compM (fun x_p => (some true)) (fun x_p => (orO (op2 (fun x y => some (Nat.beq x y)) (op2 fAnd (some x_mask) (some x_p.1)) (some 0)) (op2 (fun x y => some (!Nat.beq x y)) (op2 fAnd (some x_mask) (some x_p.2)) (some 0)))) xs)).bind fun l => some (l.all id)).bind fun b9 => bif b9 then ((some x_mask).bind fun z10 => (fApp st5 z10).bind fun x10_found => (k5 (x10_found))) else (k5 (st5)))) (fun (st5 : (List (Nat))) => (op2 m_closer_of_masks (some x_things) (some st5))) rem st5 = some r) ?_ ?_ ?_ ?_ PassesOwn.never rfl (pg_name (i := 4) sc_by_leads.nd rfl (by first | exact Or.inl rfl | exact Or.inr rfl))
    · intro Ba Ha ga
      exact ⟨Ba, [], none, ([]), rfl, G3.trans ga, Ex.refl _, I3.go ga, (rp_found.mono ga.eb), ln_found, hm⟩
    · intro B1 rem σ1 H1 ⟨Bp, vs_found, y_mask, st5, _, _, e1, I1, _⟩
      exact ⟨e1.trans I1.ex, fun _ hp => nomatch hp⟩
    · intro B1 x_mask rem v_mask σ1 H1 e1 r_mask ⟨B6, vs_found, y_mask, st5, hσ, G6, eL5, I6, rp_found, ln_found, hm⟩
      subst hσ
      have r_mask := tN.mono eL5 r_mask
      obtain ⟨k5, hk5, hm⟩ := forK_step hm
      have r_things := (tS cw).mono (e1.trans eL5) r_things
      have r_some := (tT (tS cw)).mono (e1.trans eL5) r_some
      have r3_pairs := (tL (tP tN tN)).mono (e1.trans eL5) r3_pairs
      obtain ⟨b9, hb9, hm⟩ := bind_some hm
      refine ss_if hb9 (tv_of (ev_all bt rfl (es_of (ev_lcP (x1 := "start") (x2 := "goal") rfl sc_by_leads.nd (blkOk_by (by kernel_rfl)) (iv_L (es_of (ev_var 2 r3_pairs))) (fun _ _ _ _ _ => pg_tup rfl (pgs_cons (pg_name (i := 6) sc_by_leads.nd rfl (Or.inl rfl)) (pgs_cons (pg_name (i := 7) sc_by_leads.nd rfl (Or.inl rfl)) pgs_nil))) _ _ (fun _ _ => rfl) (fun x_p w1 w2 B8 e8 r_start r_goal => rfl) (fun x_p w1 w2 B8 e8 r_start r_goal _ => by have r_mask := tN.mono e8 r_mask; exact fun _ _ _ _ _ => (ev_orV ((ev_eqN (ev_and (ev_var 4 r_mask) (ev_var 6 r_start)) ev_int)).1 (ev_one ((ev_neN (ev_and (ev_var 4 r_mask) (ev_var 7 r_goal)) ev_int)).1))))))) I6 (fun hz B9 H9 g9 => ?_) (fun hz B9 H9 g9 => ?_)
      · replace hm := ifT hz hm
        have r_things := (tS cw).mono g9.eb r_things
        have r_some := (tT (tS cw)).mono g9.eb r_some
        have r3_pairs := (tL (tP tN tN)).mono g9.eb r3_pairs
        have rp_found := rp_found.mono g9.eb
        have r_mask := tN.mono g9.eb r_mask
        have eL5 := eL5.trans g9.eb
        have I9 := I6.go g9
        have G9 := G6.trans g9
        obtain ⟨z10, hz10, hm⟩ := bind_some hm
        obtain ⟨x10_found, hy10, hm⟩ := bind_some hm
        obtain ⟨ln10, hy10⟩ := fApp_some hy10
        refine ss_app 3 hz10 (ev_var 4 r_mask) I9 List.mem_cons_self ln_found (fun v10 B10 H10 g10 r10 => ?_)
        have r_things := (tS cw).mono g10.eb r_things
        have r_some := (tT (tS cw)).mono g10.eb r_some
        have r3_pairs := (tL (tP tN tN)).mono g10.eb r3_pairs
        have rp_found := rp_found.mono g10.eb
        have r_mask := tN.mono g10.eb r_mask
        have eL5 := eL5.trans g10.eb
        have G10 := (G9.trans g10).put h0_found (I9.go g10) (u := .lst (vs_found ++ [v10]))
        have I10 := (I9.go g10).put (u := .lst (vs_found ++ [v10]))
        have rp_found := rp_found.app (.cons r10 .nil)
        rw [← hy10] at rp_found
        have ln_found : (vs_found ++ [v10]).length ≤ 40000 := by rw [rp_found.len, hy10, List.length_append]; exact Nat.le_trans (Nat.succ_le_succ ln10) (by decide)
        refine ss_nil ?_
        rw [hk5] at hm
        exact ss_nil ⟨B10, (vs_found ++ [v10]), some v_mask, (x10_found), rfl, G10, eL5, I10, rp_found, ln_found, hm⟩
      · replace hm := ifF hz hm
        have r_things := (tS cw).mono g9.eb r_things
        have r_some := (tT (tS cw)).mono g9.eb r_some
        have r3_pairs := (tL (tP tN tN)).mono g9.eb r3_pairs
        have rp_found := rp_found.mono g9.eb
        have r_mask := tN.mono g9.eb r_mask
        have eL5 := eL5.trans g9.eb
        have I9 := I6.go g9
        have G9 := G6.trans g9
        refine ss_nil ?_
        rw [hk5] at hm
        exact ss_nil ⟨B9, vs_found, some v_mask, (st5), rfl, G9, eL5, I9, rp_found, ln_found, hm⟩
    · intro B1 σ1 H1 e1 ⟨B7, vs_found, y_mask, st5, hσ, G7, ep, I7, rp_found, ln_found, hm⟩
      subst hσ
      have hm := forK_end hm
      have r_things := (tS cw).mono (e1.trans ep) r_things
      have r_some := (tT (tS cw)).mono (e1.trans ep) r_some
      have r3_pairs := (tL (tP tN tN)).mono (e1.trans ep) r3_pairs
      obtain ⟨B11, G11, I11, e11, r_found⟩ := frzL G7 eB h0_found I7 rp_found ln_found
      have r_things := (tS cw).mono e11 r_things
      have r_some := (tT (tS cw)).mono e11 r_some
      have r3_pairs := (tL (tP tN tN)).mono e11 r3_pairs
      exact ss_ret hm (ev_call2 c_closer_of_masks (hr.mono (by decide)) (ev_var 0 r_things) (ev_var 3 r_found)) I11 fun v9 B9 H9 g9 r9 => q v9 B9 H9 (G11.trans g9) r9

end
end Cw
namespace Cw
open PySem PySem.Spec PyProof.Rows L2 Ly
section
variable {P : Program} {w : World} {K : PySem.W.Frag} {mg : Str → Option Value} {base : Heap} {cw : Crew} {C : Addr}
theorem sc_covers_of : FnScope ["closer", "closed", "found", "mask", "under", "each", "one"] ["closer"] (defScope (topS 50)) := ⟨rfl, rfl, rfl, by decide +kernel, rfl, by decide +kernel, by decide +kernel⟩
def m_covers_of (x_closer : Clo) : Option (List (Nat × (List (Nat)))) :=
  ((((some x_closer)).bind m_closed_masks).bind fun x1_closed => ((some x1_closed).bind fun xs2 => forK (fun x_mask (st2 : (List (Nat × (List (Nat))))) k2 => ((((some x1_closed)).bind fun xs => compM (fun x_each => (andO (op2 (fun x y => some (!Nat.beq x y)) (some x_each) (some x_mask)) (op2 m_is_inside (some x_each) (some x_mask)))) (fun x_each => (some x_each)) xs).bind fun x5_under => ((((some x5_under)).bind fun xs => compM (fun x_each => (notO (((((some x5_under)).bind fun xs => compM (fun x_one => (some true)) (fun x_one => (andO (op2 (fun x y => some (!Nat.beq x y)) (some x_each) (some x_one)) (op2 m_is_inside (some x_each) (some x_one)))) xs)).bind fun l => some (l.any id)))) (fun x_each => (some x_each)) xs).bind fun z9 => (some x_mask).bind fun j9 => (fPutD st2 j9 z9).bind fun x9_found => (k2 (x9_found))))) (fun (st2 : (List (Nat × (List (Nat))))) => (some st2)) xs2 ([])))
abbrev K_covers_of (P : Program) (w : World) (K : PySem.W.Frag) (mg : Str → Option Value) (base : Heap) (cw : Crew) (C : Addr) : Prop := Cal P w K mg base "covers_of" 2 ["closer"] (Sp1 (tCl cw C) (tD (tL tN)) m_covers_of)
theorem cal_covers_of (d : Df K mg "covers_of" (topS 50) ["closer"]) (bt : Bt mg) (c_closed_masks : K_closed_masks P w K mg base cw C) (c_is_inside : K_is_inside P w K mg base cw C) : K_covers_of P w K mg base cw C := by
  obtain ⟨f, fd, F, mgf, bi⟩ := d.ex
  refine ⟨⟨f, fd, ?_, mgf, F.kp, bi⟩⟩
  refine F.ok sc_covers_of (fun vs H Q E h => ?_) (fun cdv A outer s H0 vs Q E hr h => ⟨wSs _ _, p_ss, ?_⟩)
  · obtain ⟨v_closer, x_closer, B, r, rfl, _⟩ := h
    rfl
  · obtain ⟨v_closer, x_closer, B0, r, rfl, r_closer, eB, hm, q⟩ := h
    have I0 : In B0 [] H0 := ⟨eB, fun _ hp => nomatch hp⟩
    have G0 : Go B0 H0 B0 H0 := Go.refl eB
    obtain ⟨x1_closed, h1, hm⟩ := bind_some hm
    refine ss_parNewD 1 2 h1 (ev_call1 c_closed_masks (hr.mono (by decide)) (ev_var 0 r_closer)) I0 (fun v1_closed l_found B1 H1 g1 r1_closed hl_found => ?_) rfl sc_covers_of.nd
    have r_closer := (tCl cw C).mono g1.eb r_closer
    have h0_found := (G0.trans g1).eh.free hl_found
    have G1 := (G0.trans g1).new (u := .dK []) hl_found
    have I1 := In.one (o := .dK []) g1.bh hl_found
    have rp_found : RepD (tL tN) B1 [] [] := .nil
    have ln_found : ([] : List (Key × V)).length ≤ 40000 := Nat.zero_le _
    obtain ⟨xs2, hx2, hm⟩ := bind_some hm
    refine ss_for 3 hx2 (iv_L (es_of (ev_var 1 r1_closed))) I1.nil (fun Bq rem σq Hq => ∃ (Bp : Hp) (vs_found : List (Key × V)) (y_under : Option V) (y_mask : Option V) (st2 : (List (Nat × (List (Nat))))), σq = [some v_closer, some v1_closed, some (.ref l_found), y_mask, y_under, none, none] ∧ Go B0 H0 Bp Hq ∧ Ex Bq Bp ∧ In Bp [(l_found, HO.dK vs_found)] Hq ∧ RepD (tL tN) Bp vs_found st2 ∧ (vs_found).length ≤ 40000 ∧ forK (fun x_mask (st2 : (List (Nat × (List (Nat))))) k2 => ((((some x1_closed)).bind fun xs => compM (fun x_each => (andO (op2 (fun x y => some (!Nat.beq x y)) (some x_each) (some x_mask)) (op2 m_is_inside (some x_each) (some x_mask)))) (fun x_each => (some x_each)) xs).bind fun x5_under => ((((some x5_under)).bind fun xs => compM (fun x_each => (notO (((((some x5_under)).bind fun xs => compM (fun x_one => (some true)) (fun x_one => (andO (op2 (fun x y => some (!Nat.beq x y)) (some x_each) (some x_one)) (op2 m_is_inside (some x_each) (some x_one)))) xs)).bind fun l => some (l.any id)))) (fun x_each => (some x_each)) xs).bind fun z9 => (some x_mask).bind fun j9 => (fPutD st2 j9 z9).bind fun x9_found => (k2 (x9_found))))) (fun (st2 : (List (Nat × (List (Nat))))) => (some st2)) rem st2 = some r) ?_ ?_ ?_ ?_ PassesOwn.never rfl (pg_name (i := 3) sc_covers_of.nd rfl (by first | exact Or.inl rfl | exact Or.inr rfl))
    · intro Ba Ha ga
      exact ⟨Ba, [], none, none, ([]), rfl, G1.trans ga, Ex.refl _, I1.go ga, (rp_found.mono ga.eb), ln_found, hm⟩
    · intro B1 rem σ1 H1 ⟨Bp, vs_found, y_under, y_mask, st2, _, _, e1, I1, _⟩
      exact ⟨e1.trans I1.ex, fun _ hp => nomatch hp⟩
    · intro B1 x_mask rem v_mask σ1 H1 e1 r_mask ⟨B3, vs_found, y_under, y_mask, st2, hσ, G3, eL2, I3, rp_found, ln_found, hm⟩
      subst hσ
      have r_mask := tN.mono eL2 r_mask
      obtain ⟨k2, hk2, hm⟩ := forK_step hm
      have r_closer := (tCl cw C).mono (e1.trans eL2) r_closer
      have r1_closed := (tL tN).mono (e1.trans eL2) r1_closed
      obtain ⟨x5_under, h5, hm⟩ := bind_some hm
      refine ss_set 4 h5 (ev_lc (x := "each") rfl sc_covers_of.nd (blkOk_by (by kernel_rfl)) (iv_L (es_of (ev_var 1 r1_closed))) (fun _ _ _ _ _ => pg_name (i := 5) sc_covers_of.nd rfl (by first | exact Or.inl rfl | exact Or.inr rfl)) _ _ (fun x_each v_each B6 e6 r_each => by have r_mask := tN.mono e6 r_mask; exact fun _ _ _ _ _ => (tv_w (wv_and ((ev_neN (ev_var 5 r_each) (ev_var 3 r_mask))).2 (wv_and1 (tv_of (ev_call2 c_is_inside (hr.mono (by decide)) (ev_var 5 r_each) (ev_var 3 r_mask))))))) (fun x_each v_each B6 e6 r_each _ => by have r_mask := tN.mono e6 r_mask; exact fun _ _ _ _ _ => (ev_var 5 r_each))) I3 (fun v5_under B5 H5 g5 r5_under => ?_) sc_covers_of.nd
      have r_closer := (tCl cw C).mono g5.eb r_closer
      have r1_closed := (tL tN).mono g5.eb r1_closed
      have rp_found := rp_found.mono g5.eb
      have r_mask := tN.mono g5.eb r_mask
      have eL2 := eL2.trans g5.eb
      have I5 := I3.go g5
      have G5 := G3.trans g5
      obtain ⟨z9, hz9, hm⟩ := bind_some hm
      obtain ⟨j9, hj9, hm⟩ := bind_some hm
      obtain ⟨x9_found, hy9, hm⟩ := bind_some hm
      obtain ⟨ln9, hy9⟩ := fPutD_some hy9
      refine ss_dput 2 (u64 hr) hz9 hj9 (ev_lc (x := "each") rfl sc_covers_of.nd (blkOk_by (by kernel_rfl)) (iv_L (es_of (ev_var 4 r5_under))) (fun _ _ _ _ _ => pg_name (i := 5) sc_covers_of.nd rfl (by first | exact Or.inl rfl | exact Or.inr rfl)) _ _ (fun x_each v_each B7 e7 r_each => by have r5_under := (tL tN).mono e7 r5_under; exact fun _ _ _ _ _ => (tv_not (tv_of (ev_any bt rfl (es_of (ev_lc (x := "one") rfl sc_covers_of.nd (blkOk_by (by kernel_rfl)) (iv_L (es_of (ev_var 4 r5_under))) (fun _ _ _ _ _ => pg_name (i := 6) sc_covers_of.nd rfl (by first | exact Or.inl rfl | exact Or.inr rfl)) _ _ (fun x_one v_one B8 e8 r_one => rfl) (fun x_one v_one B8 e8 r_one _ => by have r_each := tN.mono e8 r_each; exact fun _ _ _ _ _ => (ev_andV ((ev_neN (ev_var 5 r_each) (ev_var 6 r_one))).1 (ev_one (ev_call2 c_is_inside (hr.mono (by decide)) (ev_var 5 r_each) (ev_var 6 r_one))))))))))) (fun x_each v_each B7 e7 r_each _ => by have r5_under := (tL tN).mono e7 r5_under; exact fun _ _ _ _ _ => (ev_var 5 r_each))) (ev_var 3 r_mask) I5 List.mem_cons_self ln_found (fun v9 B9 H9 g9 r9 => ?_)
      have r_closer := (tCl cw C).mono g9.eb r_closer
      have r1_closed := (tL tN).mono g9.eb r1_closed
      have rp_found := rp_found.mono g9.eb
      have r_mask := tN.mono g9.eb r_mask
      have r5_under := (tL tN).mono g9.eb r5_under
      have eL2 := eL2.trans g9.eb
      have G9 := (G5.trans g9).put h0_found (I5.go g9) (u := .dK (putK vs_found (Sum.inl (j9 : Int)) v9))
      have I9 := (I5.go g9).put (u := .dK (putK vs_found (Sum.inl (j9 : Int)) v9))
      have ln_found : (putK vs_found (Sum.inl (j9 : Int)) v9).length ≤ 40000 := lenPut (by rw [rp_found.len]; exact ln9)
      have rp_found := RepD.put j9 r9 rp_found
      rw [← hy9] at rp_found
      rw [hk2] at hm
      exact ss_nil ⟨B9, (putK vs_found (Sum.inl (j9 : Int)) v9), some v5_under, some v_mask, (x9_found), rfl, G9, eL2, I9, rp_found, ln_found, hm⟩
    · intro B1 σ1 H1 e1 ⟨B4, vs_found, y_under, y_mask, st2, hσ, G4, ep, I4, rp_found, ln_found, hm⟩
      subst hσ
      have hm := forK_end hm
      have r_closer := (tCl cw C).mono (e1.trans ep) r_closer
      have r1_closed := (tL tN).mono (e1.trans ep) r1_closed
      refine frzD G4 eB h0_found I4 rp_found ln_found (fun B10 H10 G10 I10 e10 r_found => ?_)
      have r_closer := (tCl cw C).mono e10 r_closer
      have r1_closed := (tL tN).mono e10 r1_closed
      exact ss_ret hm (ev_var 2 r_found) I10 fun v9 B9 H9 g9 r9 => q v9 B9 H9 (G10.trans g9) r9

theorem sc_counts_by_lots : FnScope ["closer", "found", "mask", "less", "k", "each"] ["closer"] (defScope (topS 63)) := ⟨rfl, rfl, rfl, by decide +kernel, rfl, by decide +kernel, by decide +kernel⟩
def m_counts_by_lots (x_closer : Clo) : Option (List (Nat × (Nat))) :=
  ((some 1).bind fun z1 => (some 0).bind fun j1 => ((op2 rng2 (some 1) (((((some x_closer)).bind fun c => some c.table)).bind fun l => some l.length)).bind fun xs2 => forK (fun x_mask (st2 : (List (Nat × (Nat)))) k2 => ((op2 m_is_closed_mask (some x_closer) (some x_mask)).bind fun b5 => bif b5 then ((((((((((some x_closer)).bind fun c => some c.things)).bind fun l => some l.length)).bind rng1)).bind fun xs => compM (fun x_k => (op2 (fun x y => some (Nat.beq x y)) (op2 fAnd (op2 fShr (some x_mask) (some x_k)) (some 1)) (some 1))) (fun x_k => (op2 fSub (some x_mask) (op2 fShl (some 1) (some x_k)))) xs).bind fun x6_less => ((((((some x6_less)).bind fun xs => compM (fun x_each => (some true)) (fun x_each => (op3 (fun kvs k z => some ((gD kvs k).getD z)) (some st2) (some x_each) (some 0))) xs)).bind fun l => some (l.sum)).bind fun z9 => (some x_mask).bind fun j9 => (fPutD st2 j9 z9).bind fun x9_found => (k2 (x9_found)))) else (k2 (st2)))) (fun (st2 : (List (Nat × (Nat)))) => (some st2)) xs2 ([(j1, z1)])))
abbrev K_counts_by_lots (P : Program) (w : World) (K : PySem.W.Frag) (mg : Str → Option Value) (base : Heap) (cw : Crew) (C : Addr) : Prop := Cal P w K mg base "counts_by_lots" 3 ["closer"] (Sp1 (tCl cw C) (tD tN) m_counts_by_lots)
theorem cal_counts_by_lots (d : Df K mg "counts_by_lots" (topS 63) ["closer"]) (bt : Bt mg) (cf : ClF P w K mg base C) (c_is_closed_mask : K_is_closed_mask P w K mg base cw C) : K_counts_by_lots P w K mg base cw C := by
  obtain ⟨f, fd, F, mgf, bi⟩ := d.ex
  refine ⟨⟨f, fd, ?_, mgf, F.kp, bi⟩⟩
  refine F.ok sc_counts_by_lots (fun vs H Q E h => ?_) (fun cdv A outer s H0 vs Q E hr h => ⟨wSs _ _, p_ss, ?_⟩)
  · obtain ⟨v_closer, x_closer, B, r, rfl, _⟩ := h
    rfl
  · obtain ⟨v_closer, x_closer, B0, r, rfl, r_closer, eB, hm, q⟩ := h
    have I0 : In B0 [] H0 := ⟨eB, fun _ hp => nomatch hp⟩
    have G0 : Go B0 H0 B0 H0 := Go.refl eB
    obtain ⟨z1, hz1, hm⟩ := bind_some hm
    obtain ⟨j1, hj1, hm⟩ := bind_some hm
    refine ss_newD1 1 hz1 hj1 ev_int ev_int I0 (fun l_found w1 B1 H1 hl_found g1 r1 => ?_) sc_counts_by_lots.nd
    have h0_found := G0.eh.free hl_found
    have G1 := G0.new (u := .dK []) hl_found
    have I1 := In.one (o := .dK []) I0.ex hl_found
    have r_closer := (tCl cw C).mono g1.eb r_closer
    have G1 := (G1.trans g1).put h0_found (I1.go g1) (u := .dK [(Sum.inl (j1 : Int), w1)])
    have I1 := (I1.go g1).put (u := .dK [(Sum.inl (j1 : Int), w1)])
    have rp_found : RepD tN B1 [(Sum.inl (j1 : Int), w1)] [(j1, z1)] := .cons j1 r1 .nil
    have ln_found : ([(Sum.inl (j1 : Int), w1)] : List (Key × V)).length ≤ 40000 := Nat.le_of_ble_eq_true rfl
    obtain ⟨xs2, hx2, hm⟩ := bind_some hm
    refine ss_for 2 hx2 (iv_rng2 bt ev_int (ev_lenT bt (ev_fldT cf (ev_var 0 r_closer)))) I1.nil (fun Bq rem σq Hq => ∃ (Bp : Hp) (vs_found : List (Key × V)) (y_less : Option V) (y_mask : Option V) (st2 : (List (Nat × (Nat)))), σq = [some v_closer, some (.ref l_found), y_mask, y_less, none, none] ∧ Go B0 H0 Bp Hq ∧ Ex Bq Bp ∧ In Bp [(l_found, HO.dK vs_found)] Hq ∧ RepD tN Bp vs_found st2 ∧ (vs_found).length ≤ 40000 ∧ forK (fun x_mask (st2 : (List (Nat × (Nat)))) k2 => ((op2 m_is_closed_mask (some x_closer) (some x_mask)).bind fun b5 => bif b5 then ((((((((((some x_closer)).bind fun c => some c.things)).bind fun l => some l.length)).bind rng1)).bind fun xs => compM (fun x_k => (op2 (fun x y => some (Nat.beq x y)) (op2 fAnd (op2 fShr (some x_mask) (some x_k)) (some 1)) (some 1))) (fun x_k => (op2 fSub (some x_mask) (op2 fShl (some 1) (some x_k)))) xs).bind fun x6_less => ((((((some x6_less)).bind fun xs => compM (fun x_each => (some true)) (fun x_each => (op3 (fun kvs k z => some ((gD kvs k).getD z)) (some st2) (some x_each) (some 0))) xs)).bind fun l => some (l.sum)).bind fun z9 => (some x_mask).bind fun j9 => (fPutD st2 j9 z9).bind fun x9_found => (k2 (x9_found)))) else (k2 (st2)))) (fun (st2 : (List (Nat × (Nat)))) => (some st2)) rem st2 = some r) ?_ ?_ ?_ ?_ PassesOwn.never rfl (pg_name (i := 2) sc_counts_by_lots.nd rfl (by first | exact Or.inl rfl | exact Or.inr rfl))
    · intro Ba Ha ga
      exact ⟨Ba, [(Sum.inl (j1 : Int), w1)], none, none, ([(j1, z1)]), rfl, G1.trans ga, Ex.refl _, I1.go ga, (rp_found.mono ga.eb), ln_found, hm⟩
    · intro B1 rem σ1 H1 ⟨Bp, vs_found, y_less, y_mask, st2, _, _, e1, I1, _⟩
      exact ⟨e1.trans I1.ex, fun _ hp => nomatch hp⟩
    · intro B1 x_mask rem v_mask σ1 H1 e1 r_mask ⟨B3, vs_found, y_less, y_mask, st2, hσ, G3, eL2, I3, rp_found, ln_found, hm⟩
      subst hσ
      have r_mask := tN.mono eL2 r_mask
      obtain ⟨k2, hk2, hm⟩ := forK_step hm
      have r_closer := (tCl cw C).mono (e1.trans eL2) r_closer
      obtain ⟨b5, hb5, hm⟩ := bind_some hm
      refine ss_if hb5 (tv_of (ev_call2 c_is_closed_mask (hr.mono (by decide)) (ev_var 0 r_closer) (ev_var 2 r_mask))) I3 (fun hz B5 H5 g5 => ?_) (fun hz B5 H5 g5 => ?_)
      · replace hm := ifT hz hm
        have r_closer := (tCl cw C).mono g5.eb r_closer
        have rp_found := rp_found.mono g5.eb
        have r_mask := tN.mono g5.eb r_mask
        have eL2 := eL2.trans g5.eb
        have I5 := I3.go g5
        have G5 := G3.trans g5
        obtain ⟨x6_less, h6, hm⟩ := bind_some hm
        refine ss_setLc 3 (x := "k") _ _ h6 rfl sc_counts_by_lots.nd (blkOk_by (by kernel_rfl)) (iv_rng1 bt (ev_lenS bt (ev_things cf (hr.mono (by decide)) (ev_var 0 r_closer)))) (fun _ _ _ _ _ => pg_name (i := 4) sc_counts_by_lots.nd rfl (by first | exact Or.inl rfl | exact Or.inr rfl)) (fun x_k v_k B7 e7 r_k => by have r_mask := tN.mono e7 r_mask; exact fun _ _ _ _ _ => ((ev_eqN (ev_and (ev_shr (ev_var 2 r_mask) (ev_var 4 r_k)) ev_int) ev_int)).2) (fun x_k v_k B7 e7 r_k _ => by have r_mask := tN.mono e7 r_mask; exact fun _ _ _ _ _ => (ev_sub (ev_var 2 r_mask) (ev_shl ev_int (ev_var 4 r_k)))) I5 (fun v6_less B6 H6 g6 r6_less => ?_)
        have r_closer := (tCl cw C).mono g6.eb r_closer
        have rp_found := rp_found.mono g6.eb
        have r_mask := tN.mono g6.eb r_mask
        have eL2 := eL2.trans g6.eb
        have I6 := I5.go g6
        have G6 := G5.trans g6
        obtain ⟨z9, hz9, hm⟩ := bind_some hm
        obtain ⟨j9, hj9, hm⟩ := bind_some hm
        obtain ⟨x9_found, hy9, hm⟩ := bind_some hm
        obtain ⟨ln9, hy9⟩ := fPutD_some hy9
        refine ss_dput 1 (u64 hr) hz9 hj9 (ev_sum bt rfl (es_of (ev_lc (x := "each") rfl sc_counts_by_lots.nd (blkOk_by (by kernel_rfl)) (iv_L (es_of (ev_var 3 r6_less))) (fun _ _ _ _ _ => pg_name (i := 5) sc_counts_by_lots.nd rfl (by first | exact Or.inl rfl | exact Or.inr rfl)) _ _ (fun x_each v_each B8 e8 r_each => rfl) (fun x_each v_each B8 e8 r_each _ => by have rp_found := rp_found.mono e8; exact fun _ _ _ _ _ => (ev_dget (u64 hr) (ed_var 1 List.mem_cons_self rp_found ln_found) (ev_var 5 r_each) ev_int))))) (ev_var 2 r_mask) I6 List.mem_cons_self ln_found (fun v9 B9 H9 g9 r9 => ?_)
        have r_closer := (tCl cw C).mono g9.eb r_closer
        have rp_found := rp_found.mono g9.eb
        have r_mask := tN.mono g9.eb r_mask
        have r6_less := (tL tN).mono g9.eb r6_less
        have eL2 := eL2.trans g9.eb
        have G9 := (G6.trans g9).put h0_found (I6.go g9) (u := .dK (putK vs_found (Sum.inl (j9 : Int)) v9))
        have I9 := (I6.go g9).put (u := .dK (putK vs_found (Sum.inl (j9 : Int)) v9))
        have ln_found : (putK vs_found (Sum.inl (j9 : Int)) v9).length ≤ 40000 := lenPut (by rw [rp_found.len]; exact ln9)
        have rp_found := RepD.put j9 r9 rp_found
        rw [← hy9] at rp_found
        refine ss_nil ?_
        rw [hk2] at hm
        exact ss_nil ⟨B9, (putK vs_found (Sum.inl (j9 : Int)) v9), some v6_less, some v_mask, (x9_found), rfl, G9, eL2, I9, rp_found, ln_found, hm⟩
      · replace hm := ifF hz hm
        have r_closer := (tCl cw C).mono g5.eb r_closer
        have rp_found := rp_found.mono g5.eb
        have r_mask := tN.mono g5.eb r_mask
        have eL2 := eL2.trans g5.eb
        have I5 := I3.go g5
        have G5 := G3.trans g5
        refine ss_nil ?_
        rw [hk2] at hm
        exact ss_nil ⟨B5, vs_found, y_less, some v_mask, (st2), rfl, G5, eL2, I5, rp_found, ln_found, hm⟩
    · intro B1 σ1 H1 e1 ⟨B4, vs_found, y_less, y_mask, st2, hσ, G4, ep, I4, rp_found, ln_found, hm⟩
      subst hσ
      have hm := forK_end hm
      have r_closer := (tCl cw C).mono (e1.trans ep) r_closer
      refine frzD G4 eB h0_found I4 rp_found ln_found (fun B10 H10 G10 I10 e10 r_found => ?_)
      have r_closer := (tCl cw C).mono e10 r_closer
      exact ss_ret hm (ev_var 1 r_found) I10 fun v9 B9 H9 g9 r9 => q v9 B9 H9 (G10.trans g9) r9

theorem sc_root_masks : FnScope ["closer", "found", "mask", "under"] ["closer"] (defScope (topS 52)) := ⟨rfl, rfl, rfl, by decide +kernel, rfl, by decide +kernel, by decide +kernel⟩
def m_root_masks (x_closer : Clo) : Option (List (Nat)) :=
  ((((some x_closer)).bind m_covers_of).bind fun xs2 => forK (fun p_mask (st2 : (List (Nat))) k2 => ((op2 (fun x y => some (Nat.beq x y)) (((some p_mask.2)).bind fun l => some l.length) (some 1)).bind fun b5 => bif b5 then ((some p_mask.1).bind fun z6 => (fApp st2 z6).bind fun x6_found => (k2 (x6_found))) else (k2 (st2)))) (fun (st2 : (List (Nat))) => (some st2)) xs2 ([]))
abbrev K_root_masks (P : Program) (w : World) (K : PySem.W.Frag) (mg : Str → Option Value) (base : Heap) (cw : Crew) (C : Addr) : Prop := Cal P w K mg base "root_masks" 3 ["closer"] (Sp1 (tCl cw C) (tL tN) m_root_masks)
theorem cal_root_masks (d : Df K mg "root_masks" (topS 52) ["closer"]) (bt : Bt mg) (c_covers_of : K_covers_of P w K mg base cw C) : K_root_masks P w K mg base cw C := by
  obtain ⟨f, fd, F, mgf, bi⟩ := d.ex
  refine ⟨⟨f, fd, ?_, mgf, F.kp, bi⟩⟩
  refine F.ok sc_root_masks (fun vs H Q E h => ?_) (fun cdv A outer s H0 vs Q E hr h => ⟨wSs _ _, p_ss, ?_⟩)
  · obtain ⟨v_closer, x_closer, B, r, rfl, _⟩ := h
    rfl
  · obtain ⟨v_closer, x_closer, B0, r, rfl, r_closer, eB, hm, q⟩ := h
    have I0 : In B0 [] H0 := ⟨eB, fun _ hp => nomatch hp⟩
    have G0 : Go B0 H0 B0 H0 := Go.refl eB
    refine ss_new 1 I0 (fun l_found hl_found => ?_) sc_root_masks.nd
    have h0_found := G0.eh.free hl_found
    have G1 := G0.new (u := .lst []) hl_found
    have I1 := In.one (o := .lst []) I0.ex hl_found
    have rp_found : Reps tN B0 [] [] := .nil
    have ln_found : ([] : List V).length ≤ 40000 := Nat.zero_le _
    obtain ⟨xs2, hx2, hm⟩ := bind_some hm
    refine ss_forD 2 3 hx2 (ev_call1 c_covers_of (hr.mono (by decide)) (ev_var 0 r_closer)) I1 (fun Bq rem σq Hq => ∃ (Bp : Hp) (vs_found : List V) (y_mask : Option V) (y_under : Option V) (st2 : (List (Nat))), σq = [some v_closer, some (.ref l_found), y_mask, y_under] ∧ Go B0 H0 Bp Hq ∧ Ex Bq Bp ∧ In Bp [(l_found, HO.lst vs_found)] Hq ∧ Reps tN Bp vs_found st2 ∧ (vs_found).length ≤ 40000 ∧ forK (fun p_mask (st2 : (List (Nat))) k2 => ((op2 (fun x y => some (Nat.beq x y)) (((some p_mask.2)).bind fun l => some l.length) (some 1)).bind fun b5 => bif b5 then ((some p_mask.1).bind fun z6 => (fApp st2 z6).bind fun x6_found => (k2 (x6_found))) else (k2 (st2)))) (fun (st2 : (List (Nat))) => (some st2)) rem st2 = some r) ?_ ?_ ?_ ?_ PassesOwn.never rfl (pg_tup rfl (pgs_cons (pg_name (i := 2) sc_root_masks.nd rfl (by first | exact Or.inl rfl | exact Or.inr rfl)) (pgs_cons (pg_name (i := 3) sc_root_masks.nd rfl (by first | exact Or.inl rfl | exact Or.inr rfl)) pgs_nil)))
    · intro Ba Ha ga
      exact ⟨Ba, [], none, none, ([]), rfl, G1.trans ga, Ex.refl _, I1.go ga, (rp_found.mono ga.eb), ln_found, hm⟩
    · intro B1 rem σ1 H1 ⟨Bp, vs_found, y_mask, y_under, st2, _, _, e1, I1, _⟩
      exact e1.trans I1.ex
    · intro B1 n_mask x_under rem v_under σ1 H1 H8 e1 r_under ⟨B3, vs_found, y_mask, y_under, st2, hσ, G3, eL2, I3, rp_found, ln_found, hm⟩ gk
      subst hσ
      have gk := gk B3 I3.ex
      have I3 := I3.go gk
      have G3 := G3.trans gk
      have r_under := (tL tN).mono eL2 r_under
      have r_mask : tN.rep B3 (.int (n_mask : Int)) n_mask := rfl
      obtain ⟨k2, hk2, hm⟩ := forK_step hm
      have r_closer := (tCl cw C).mono (e1.trans eL2) r_closer
      obtain ⟨b5, hb5, hm⟩ := bind_some hm
      refine ss_if hb5 ((ev_eqN (ev_lenL bt (es_of (ev_var 3 r_under))) ev_int)).2 I3 (fun hz B5 H5 g5 => ?_) (fun hz B5 H5 g5 => ?_)
      · replace hm := ifT hz hm
        have r_closer := (tCl cw C).mono g5.eb r_closer
        have rp_found := rp_found.mono g5.eb
        have r_mask := tN.mono g5.eb r_mask
        have r_under := (tL tN).mono g5.eb r_under
        have eL2 := eL2.trans g5.eb
        have I5 := I3.go g5
        have G5 := G3.trans g5
        obtain ⟨z6, hz6, hm⟩ := bind_some hm
        obtain ⟨x6_found, hy6, hm⟩ := bind_some hm
        obtain ⟨ln6, hy6⟩ := fApp_some hy6
        refine ss_app 1 hz6 (ev_var 2 r_mask) I5 List.mem_cons_self ln_found (fun v6 B6 H6 g6 r6 => ?_)
        have r_closer := (tCl cw C).mono g6.eb r_closer
        have rp_found := rp_found.mono g6.eb
        have r_mask := tN.mono g6.eb r_mask
        have r_under := (tL tN).mono g6.eb r_under
        have eL2 := eL2.trans g6.eb
        have G6 := (G5.trans g6).put h0_found (I5.go g6) (u := .lst (vs_found ++ [v6]))
        have I6 := (I5.go g6).put (u := .lst (vs_found ++ [v6]))
        have rp_found := rp_found.app (.cons r6 .nil)
        rw [← hy6] at rp_found
        have ln_found : (vs_found ++ [v6]).length ≤ 40000 := by rw [rp_found.len, hy6, List.length_append]; exact Nat.le_trans (Nat.succ_le_succ ln6) (by decide)
        refine ss_nil ?_
        rw [hk2] at hm
        exact ss_nil ⟨B6, (vs_found ++ [v6]), some (.int (n_mask : Int)), some v_under, (x6_found), rfl, G6, eL2, I6, rp_found, ln_found, hm⟩
      · replace hm := ifF hz hm
        have r_closer := (tCl cw C).mono g5.eb r_closer
        have rp_found := rp_found.mono g5.eb
        have r_mask := tN.mono g5.eb r_mask
        have r_under := (tL tN).mono g5.eb r_under
        have eL2 := eL2.trans g5.eb
        have I5 := I3.go g5
        have G5 := G3.trans g5
        refine ss_nil ?_
        rw [hk2] at hm
        exact ss_nil ⟨B5, vs_found, some (.int (n_mask : Int)), some v_under, (st2), rfl, G5, eL2, I5, rp_found, ln_found, hm⟩
    · intro B1 σ1 H1 e1 ⟨B4, vs_found, y_mask, y_under, st2, hσ, G4, ep, I4, rp_found, ln_found, hm⟩
      subst hσ
      have hm := forK_end hm
      have r_closer := (tCl cw C).mono (e1.trans ep) r_closer
      obtain ⟨B7, G7, I7, e7, r_found⟩ := frzL G4 eB h0_found I4 rp_found ln_found
      have r_closer := (tCl cw C).mono e7 r_closer
      exact ss_ret hm (ev_var 1 r_found) I7 fun v9 B9 H9 g9 r9 => q v9 B9 H9 (G7.trans g9) r9

theorem sc_roots : FnScope ["closer"] ["closer"] (defScope (topS 53)) := ⟨rfl, rfl, rfl, by decide +kernel, rfl, by decide +kernel, by decide +kernel⟩
def m_roots (x_closer : Clo) : Option (List (List Nat)) :=
  ((((some x_closer)).bind m_check_closer).bind fun z1 => (op2 m_family_of (((some x_closer)).bind fun c => some c.things) (((some x_closer)).bind m_root_masks)))
abbrev K_roots (P : Program) (w : World) (K : PySem.W.Frag) (mg : Str → Option Value) (base : Heap) (cw : Crew) (C : Addr) : Prop := Cal P w K mg base "roots" 4 ["closer"] (Sp1 (tCl cw C) (tT (tS cw)) m_roots)
theorem cal_roots (d : Df K mg "roots" (topS 53) ["closer"]) (bt : Bt mg) (cf : ClF P w K mg base C) (c_check_closer : K_check_closer P w K mg base cw C) (c_family_of : K_family_of P w K mg base cw C) (c_root_masks : K_root_masks P w K mg base cw C) : K_roots P w K mg base cw C := by
  obtain ⟨f, fd, F, mgf, bi⟩ := d.ex
  refine ⟨⟨f, fd, ?_, mgf, F.kp, bi⟩⟩
  refine F.ok sc_roots (fun vs H Q E h => ?_) (fun cdv A outer s H0 vs Q E hr h => ⟨wSs _ _, p_ss, ?_⟩)
  · obtain ⟨v_closer, x_closer, B, r, rfl, _⟩ := h
    rfl
  · obtain ⟨v_closer, x_closer, B0, r, rfl, r_closer, eB, hm, q⟩ := h
    have I0 : In B0 [] H0 := ⟨eB, fun _ hp => nomatch hp⟩
    have G0 : Go B0 H0 B0 H0 := Go.refl eB
    obtain ⟨z1, hz1, hm⟩ := bind_some hm
    refine ss_do hz1 (ev_call1 c_check_closer (hr.mono (by decide)) (ev_var 0 r_closer)) I0 (fun v1 B1 H1 g1 _ => ?_)
    have r_closer := (tCl cw C).mono g1.eb r_closer
    have I1 := I0.go g1
    have G1 := G0.trans g1
    exact ss_ret hm (ev_call2 c_family_of (hr.mono (by decide)) (ev_things cf (hr.mono (by decide)) (ev_var 0 r_closer)) (ev_call1 c_root_masks (hr.mono (by decide)) (ev_var 0 r_closer))) I1 fun v9 B9 H9 g9 r9 => q v9 B9 H9 (G1.trans g9) r9

end
end Cw
namespace Cw
open PySem PySem.Spec PyProof.Rows L2 Ly
section
variable {P : Program} {w : World} {K : PySem.W.Frag} {mg : Str → Option Value} {base : Heap} {cw : Crew} {C : Addr}
theorem sc_count_down : FnScope ["closer", "some", "many", "number", "taken", "k", "one", "each"] ["closer"] (defScope (topS 54)) := ⟨rfl, rfl, rfl, by decide +kernel, rfl, by decide +kernel, by decide +kernel⟩
def m_count_down (x_closer : Clo) : Option (Nat) :=
  ((((some x_closer)).bind m_check_closer).bind fun z1 => ((((some x_closer)).bind m_root_masks).bind fun x2_some => (some 0).bind fun x2_many => ((((op2 fShl (some 1) (((some x2_some)).bind fun l => some l.length))).bind rng1).bind fun xs3 => forK (fun x_number (st3 : (Nat)) k3 => ((((((((some x2_some)).bind fun l => some l.length)).bind rng1)).bind fun xs => compM (fun x_k => (op2 (fun x y => some (Nat.beq x y)) (op2 fAnd (op2 fShr (some x_number) (some x_k)) (some 1)) (some 1))) (fun x_k => (op2 (fun xs i => xs[i]?) (some x2_some) (some x_k))) xs).bind fun x6_taken => (((((((some x6_taken)).bind fun xs => compC (fun x_one => ((some x2_some)).bind fun ys => compM (fun x_each => (op2 m_is_inside (some x_each) (some x_one))) (fun x_each => (op2 (fun x y => some (y.any fun z => Nat.beq z x)) (some x_each) (some x6_taken))) ys) xs).bind fLim)).bind fun l => some (l.all id)).bind fun b9 => bif b9 then ((op2 fAdd (some st3) (some 1)).bind fun x10_many => (k3 (x10_many))) else (k3 (st3))))) (fun (st3 : (Nat)) => (some st3)) xs3 (x2_many))))
abbrev K_count_down (P : Program) (w : World) (K : PySem.W.Frag) (mg : Str → Option Value) (base : Heap) (cw : Crew) (C : Addr) : Prop := Cal P w K mg base "count_down" 4 ["closer"] (Sp1 (tCl cw C) tN m_count_down)
theorem cal_count_down (d : Df K mg "count_down" (topS 54) ["closer"]) (bt : Bt mg) (c_check_closer : K_check_closer P w K mg base cw C) (c_root_masks : K_root_masks P w K mg base cw C) (c_is_inside : K_is_inside P w K mg base cw C) : K_count_down P w K mg base cw C := by
  obtain ⟨f, fd, F, mgf, bi⟩ := d.ex
  refine ⟨⟨f, fd, ?_, mgf, F.kp, bi⟩⟩
  refine F.ok sc_count_down (fun vs H Q E h => ?_) (fun cdv A outer s H0 vs Q E hr h => ⟨wSs _ _, p_ss, ?_⟩)
  · obtain ⟨v_closer, x_closer, B, r, rfl, _⟩ := h
    rfl
  · obtain ⟨v_closer, x_closer, B0, r, rfl, r_closer, eB, hm, q⟩ := h
    have I0 : In B0 [] H0 := ⟨eB, fun _ hp => nomatch hp⟩
    have G0 : Go B0 H0 B0 H0 := Go.refl eB
    obtain ⟨z1, hz1, hm⟩ := bind_some hm
    refine ss_do hz1 (ev_call1 c_check_closer (hr.mono (by decide)) (ev_var 0 r_closer)) I0 (fun v1 B1 H1 g1 _ => ?_)
    have r_closer := (tCl cw C).mono g1.eb r_closer
    have I1 := I0.go g1
    have G1 := G0.trans g1
    obtain ⟨x2_some, h2, hm⟩ := bind_some hm
    obtain ⟨x2_many, k2, hm⟩ := bind_some hm
    refine ss_parT 1 2 h2 k2 (ev_call1 c_root_masks (hr.mono (by decide)) (ev_var 0 r_closer)) ev_int I1 (fun v2_some v2_many B2 H2 g2 r2_some r2_many => ?_) rfl sc_count_down.nd
    have r_closer := (tCl cw C).mono g2.eb r_closer
    have I2 := I1.go g2
    have G2 := G1.trans g2
    obtain ⟨xs3, hx3, hm⟩ := bind_some hm
    refine ss_for 3 hx3 (iv_rng1 bt (ev_shl ev_int (ev_lenL bt (es_of (ev_var 1 r2_some))))) I2.nil (fun Bq rem σq Hq => ∃ (Bp : Hp) (v_many : V) (y_taken : Option V) (y_number : Option V) (st3 : (Nat)), σq = [some v_closer, some v2_some, some v_many, y_number, y_taken, none, none, none] ∧ Go B0 H0 Bp Hq ∧ Ex Bq Bp ∧ In Bp [] Hq ∧ tN.rep Bp v_many st3 ∧ forK (fun x_number (st3 : (Nat)) k3 => ((((((((some x2_some)).bind fun l => some l.length)).bind rng1)).bind fun xs => compM (fun x_k => (op2 (fun x y => some (Nat.beq x y)) (op2 fAnd (op2 fShr (some x_number) (some x_k)) (some 1)) (some 1))) (fun x_k => (op2 (fun xs i => xs[i]?) (some x2_some) (some x_k))) xs).bind fun x6_taken => (((((((some x6_taken)).bind fun xs => compC (fun x_one => ((some x2_some)).bind fun ys => compM (fun x_each => (op2 m_is_inside (some x_each) (some x_one))) (fun x_each => (op2 (fun x y => some (y.any fun z => Nat.beq z x)) (some x_each) (some x6_taken))) ys) xs).bind fLim)).bind fun l => some (l.all id)).bind fun b9 => bif b9 then ((op2 fAdd (some st3) (some 1)).bind fun x10_many => (k3 (x10_many))) else (k3 (st3))))) (fun (st3 : (Nat)) => (some st3)) rem st3 = some r) ?_ ?_ ?_ ?_ PassesOwn.never rfl (pg_name (i := 3) sc_count_down.nd rfl (by first | exact Or.inl rfl | exact Or.inr rfl))
    · intro Ba Ha ga
      exact ⟨Ba, v2_many, none, none, (x2_many), rfl, G2.trans ga, Ex.refl _, I2.go ga, (tN.mono ga.eb r2_many), hm⟩
    · intro B1 rem σ1 H1 ⟨Bp, v_many, y_taken, y_number, st3, _, _, e1, I1, _⟩
      exact ⟨e1.trans I1.ex, fun _ hp => nomatch hp⟩
    · intro B1 x_number rem v_number σ1 H1 e1 r_number ⟨B4, v_many, y_taken, y_number, st3, hσ, G4, eL3, I4, r_many, hm⟩
      subst hσ
      have r_number := tN.mono eL3 r_number
      obtain ⟨k3, hk3, hm⟩ := forK_step hm
      have r_closer := (tCl cw C).mono (e1.trans eL3) r_closer
      have r2_some := (tL tN).mono (e1.trans eL3) r2_some
      obtain ⟨x6_taken, h6, hm⟩ := bind_some hm
      refine ss_set 4 h6 (ev_lc (x := "k") rfl sc_count_down.nd (blkOk_by (by kernel_rfl)) (iv_rng1 bt (ev_lenL bt (es_of (ev_var 1 r2_some)))) (fun _ _ _ _ _ => pg_name (i := 5) sc_count_down.nd rfl (by first | exact Or.inl rfl | exact Or.inr rfl)) _ _ (fun x_k v_k B7 e7 r_k => by have r2_some := (tL tN).mono e7 r2_some; have r_number := tN.mono e7 r_number; exact fun _ _ _ _ _ => ((ev_eqN (ev_and (ev_shr (ev_var 3 r_number) (ev_var 5 r_k)) ev_int) ev_int)).2) (fun x_k v_k B7 e7 r_k _ => by have r2_some := (tL tN).mono e7 r2_some; have r_number := tN.mono e7 r_number; exact fun _ _ _ _ _ => (ev_ixL (es_of (ev_var 1 r2_some)) (ev_var 5 r_k)))) I4 (fun v6_taken B6 H6 g6 r6_taken => ?_) sc_count_down.nd
      have r_closer := (tCl cw C).mono g6.eb r_closer
      have r2_some := (tL tN).mono g6.eb r2_some
      have r_many := tN.mono g6.eb r_many
      have r_number := tN.mono g6.eb r_number
      have eL3 := eL3.trans g6.eb
      have I6 := I4.go g6
      have G6 := G4.trans g6
      obtain ⟨b9, hb9, hm⟩ := bind_some hm
      refine ss_if hb9 (tv_of (ev_all bt rfl (es_of (ev_lc2 (x1 := "one") (x2 := "each") rfl sc_count_down.nd (blkOk_by (by kernel_rfl)) (iv_L (es_of (ev_var 4 r6_taken))) (fun _ _ _ _ _ => pg_name (i := 6) sc_count_down.nd rfl (by first | exact Or.inl rfl | exact Or.inr rfl)) (fun _ _ _ _ _ => pg_name (i := 7) sc_count_down.nd rfl (by first | exact Or.inl rfl | exact Or.inr rfl)) (fun x_one => (some x2_some)) (fun x_one x_each => (op2 m_is_inside (some x_each) (some x_one))) (fun x_one x_each => (op2 (fun x y => some (y.any fun z => Nat.beq z x)) (some x_each) (some x6_taken))) (fun _ => rfl) (fun x_one v_one B8 e8 r_one => by have r6_taken := (tL tN).mono e8 r6_taken; have r2_some := (tL tN).mono e8 r2_some; exact fun _ _ _ _ _ => (iv_L (es_of (ev_var 1 r2_some)))) (fun x_one v_one x_each v_each B8 e8 r_one r_each => by have r6_taken := (tL tN).mono e8 r6_taken; have r2_some := (tL tN).mono e8 r2_some; exact fun _ _ _ _ _ => (tv_of (ev_call2 c_is_inside (hr.mono (by decide)) (ev_var 7 r_each) (ev_var 6 r_one)))) (fun x_one v_one x_each v_each B8 e8 r_one r_each => by have r6_taken := (tL tN).mono e8 r6_taken; have r2_some := (tL tN).mono e8 r2_some; exact fun _ _ _ _ _ => ((ev_inL flatN (ev_var 7 r_each) (es_of (ev_var 4 r6_taken)))).1))))) I6 (fun hz B9 H9 g9 => ?_) (fun hz B9 H9 g9 => ?_)
      · replace hm := ifT hz hm
        have r_closer := (tCl cw C).mono g9.eb r_closer
        have r2_some := (tL tN).mono g9.eb r2_some
        have r_many := tN.mono g9.eb r_many
        have r_number := tN.mono g9.eb r_number
        have r6_taken := (tL tN).mono g9.eb r6_taken
        have eL3 := eL3.trans g9.eb
        have I9 := I6.go g9
        have G9 := G6.trans g9
        obtain ⟨x10_many, h10, hm⟩ := bind_some hm
        refine ss_set 2 h10 (ev_add (ev_var 2 r_many) ev_int) I9 (fun v10_many B10 H10 g10 r10_many => ?_) sc_count_down.nd
        have r_closer := (tCl cw C).mono g10.eb r_closer
        have r2_some := (tL tN).mono g10.eb r2_some
        have r_many := tN.mono g10.eb r_many
        have r_number := tN.mono g10.eb r_number
        have r6_taken := (tL tN).mono g10.eb r6_taken
        have eL3 := eL3.trans g10.eb
        have I10 := I9.go g10
        have G10 := G9.trans g10
        refine ss_nil ?_
        rw [hk3] at hm
        exact ss_nil ⟨B10, v10_many, some v6_taken, some v_number, (x10_many), rfl, G10, eL3, I10, r10_many, hm⟩
      · replace hm := ifF hz hm
        have r_closer := (tCl cw C).mono g9.eb r_closer
        have r2_some := (tL tN).mono g9.eb r2_some
        have r_many := tN.mono g9.eb r_many
        have r_number := tN.mono g9.eb r_number
        have r6_taken := (tL tN).mono g9.eb r6_taken
        have eL3 := eL3.trans g9.eb
        have I9 := I6.go g9
        have G9 := G6.trans g9
        refine ss_nil ?_
        rw [hk3] at hm
        exact ss_nil ⟨B9, v_many, some v6_taken, some v_number, (st3), rfl, G9, eL3, I9, r_many, hm⟩
    · intro B1 σ1 H1 e1 ⟨B5, v_many, y_taken, y_number, st3, hσ, G5, ep, I5, r_many, hm⟩
      subst hσ
      have hm := forK_end hm
      have r_closer := (tCl cw C).mono (e1.trans ep) r_closer
      have r2_some := (tL tN).mono (e1.trans ep) r2_some
      exact ss_ret hm (ev_var 2 r_many) I5 fun v9 B9 H9 g9 r9 => q v9 B9 H9 (G5.trans g9) r9

end
end Cw
namespace Cw
open PySem PySem.Spec PyProof.Rows L2 Ly
section
variable {P : Program} {w : World} {K : PySem.W.Frag} {mg : Str → Option Value} {base : Heap} {cw : Crew} {C : Addr}
theorem sc_peels_from : FnScope ["closer", "mask", "found", "k", "tail"] ["closer", "mask"] (defScope (topS 64)) := ⟨rfl, rfl, rfl, by decide +kernel, rfl, by decide +kernel, by decide +kernel⟩
def m_peels_from : Nat → (Clo) → (Nat) → Option (List (List Nat))
  | 0, _, _ => none
  | dd + 1, x_closer, x_mask => ((op2 (fun x y => some (Nat.beq x y)) (some x_mask) (some 0)).bind fun b1 => bif b1 then (((some [])).bind fun x => some [x]) else ((some []).bind fun x2_found => ((((((((some x_closer)).bind fun c => some c.things)).bind fun l => some l.length)).bind rng1).bind fun xs3 => forK (fun x_k (st3 : (List (List Nat))) k3 => ((andO (op2 (fun x y => some (Nat.beq x y)) (op2 fAnd (op2 fShr (some x_mask) (some x_k)) (some 1)) (some 1)) (op2 m_is_closed_mask (some x_closer) (op2 fSub (some x_mask) (op2 fShl (some 1) (some x_k))))).bind fun b6 => bif b6 then ((op2 fCat (some st3) (((op2 (m_peels_from dd) (some x_closer) (op2 fSub (some x_mask) (op2 fShl (some 1) (some x_k))))).bind fun xs => compM (fun x_tail => (some true)) (fun x_tail => (op2 fCatS (((op2 (fun xs i => xs[i]?) (((some x_closer)).bind fun c => some c.things) (some x_k))).bind fun i => some [i]) (some x_tail))) xs)).bind fun x7_found => (k3 (x7_found))) else (k3 (st3)))) (fun (st3 : (List (List Nat))) => (some st3)) xs3 (x2_found))))
abbrev K_peels_from (P : Program) (w : World) (K : PySem.W.Frag) (mg : Str → Option Value) (base : Heap) (cw : Crew) (C : Addr) : Prop := Cal P w K mg base "peels_from" 9 ["closer", "mask"] (Sp2 (tCl cw C) tN (tL (tS cw)) (m_peels_from 6))
theorem cal_peels_from (d : Df K mg "peels_from" (topS 64) ["closer", "mask"]) (bt : Bt mg) (cf : ClF P w K mg base C) (c_is_closed_mask : K_is_closed_mask P w K mg base cw C) : K_peels_from P w K mg base cw C := by
  obtain ⟨f, fd, F, mgf, bi⟩ := d.ex
  have all : ∀ dd, Cal P w K mg base "peels_from" (3 + dd) ["closer", "mask"] (Sp2 (tCl cw C) tN (tL (tS cw)) (m_peels_from dd)) := by
    intro dd
    induction dd with
    | zero =>
      refine ⟨⟨f, fd, ?_, mgf, F.kp, bi⟩⟩
      refine F.ok sc_peels_from (fun vs H Q E h => ?_) (fun cdv A outer s H0 vs Q E hr h => ⟨wSs _ _, p_ss, ?_⟩)
      · obtain ⟨v_closer, v_mask, x_closer, x_mask, B, r, rfl, _⟩ := h
        rfl
      · obtain ⟨v_closer, v_mask, x_closer, x_mask, B0, r, rfl, r_closer, r_mask, eB, hm, q⟩ := h
        cases hm
    | succ dd ih =>
      refine ⟨⟨f, fd, ?_, mgf, F.kp, bi⟩⟩
      refine F.ok sc_peels_from (fun vs H Q E h => ?_) (fun cdv A outer s H0 vs Q E hr h => ⟨wSs _ _, p_ss, ?_⟩)
      · obtain ⟨v_closer, v_mask, x_closer, x_mask, B, r, rfl, _⟩ := h
        rfl
      · obtain ⟨v_closer, v_mask, x_closer, x_mask, B0, r, rfl, r_closer, r_mask, eB, hm, q⟩ := h
        have I0 : In B0 [] H0 := ⟨eB, fun _ hp => nomatch hp⟩
        have G0 : Go B0 H0 B0 H0 := Go.refl eB
        obtain ⟨b1, hb1, hm⟩ := bind_some hm
        refine ss_if hb1 ((ev_eqN (ev_var 1 r_mask) ev_int)).2 I0 (fun hz B1 H1 g1 => ?_) (fun hz B1 H1 g1 => ?_)
        · replace hm := ifT hz hm
          have r_closer := (tCl cw C).mono g1.eb r_closer
          have r_mask := tN.mono g1.eb r_mask
          have I1 := I0.go g1
          have G1 := G0.trans g1
          exact ss_ret hm (ev_list1 (ev_nil (cw := cw))) I1 fun v9 B9 H9 g9 r9 => q v9 B9 H9 (G1.trans g9) r9
        · replace hm := ifF hz hm
          have r_closer := (tCl cw C).mono g1.eb r_closer
          have r_mask := tN.mono g1.eb r_mask
          have I1 := I0.go g1
          have G1 := G0.trans g1
          refine ss_nil ?_
          obtain ⟨x2_found, h2, hm⟩ := bind_some hm
          refine ss_set 2 h2 (ev_list0 (T := (tS cw))) I1 (fun v2_found B2 H2 g2 r2_found => ?_) sc_peels_from.nd
          have r_closer := (tCl cw C).mono g2.eb r_closer
          have r_mask := tN.mono g2.eb r_mask
          have I2 := I1.go g2
          have G2 := G1.trans g2
          obtain ⟨xs3, hx3, hm⟩ := bind_some hm
          refine ss_for 3 hx3 (iv_rng1 bt (ev_lenS bt (ev_things cf (hr.mono (by show _ ≤ 3 + dd; omega)) (ev_var 0 r_closer)))) I2.nil (fun Bq rem σq Hq => ∃ (Bp : Hp) (v_found : V) (y_k : Option V) (st3 : (List (List Nat))), σq = [some v_closer, some v_mask, some v_found, y_k, none] ∧ Go B0 H0 Bp Hq ∧ Ex Bq Bp ∧ In Bp [] Hq ∧ (tL (tS cw)).rep Bp v_found st3 ∧ forK (fun x_k (st3 : (List (List Nat))) k3 => ((andO (op2 (fun x y => some (Nat.beq x y)) (op2 fAnd (op2 fShr (some x_mask) (some x_k)) (some 1)) (some 1)) (op2 m_is_closed_mask (some x_closer) (op2 fSub (some x_mask) (op2 fShl (some 1) (some x_k))))).bind fun b6 => bif b6 then ((op2 fCat (some st3) (((op2 (m_peels_from dd) (some x_closer) (op2 fSub (some x_mask) (op2 fShl (some 1) (some x_k))))).bind fun xs => compM (fun x_tail => (some true)) (fun x_tail => (op2 fCatS (((op2 (fun xs i => xs[i]?) (((some x_closer)).bind fun c => some c.things) (some x_k))).bind fun i => some [i]) (some x_tail))) xs)).bind fun x7_found => (k3 (x7_found))) else (k3 (st3)))) (fun (st3 : (List (List Nat))) => (some st3)) rem st3 = some r) ?_ ?_ ?_ ?_ PassesOwn.never rfl (pg_name (i := 3) sc_peels_from.nd rfl (by first | exact Or.inl rfl | exact Or.inr rfl))
          · intro Ba Ha ga
            exact ⟨Ba, v2_found, none, (x2_found), rfl, G2.trans ga, Ex.refl _, I2.go ga, ((tL (tS cw)).mono ga.eb r2_found), hm⟩
          · intro B1 rem σ1 H1 ⟨Bp, v_found, y_k, st3, _, _, e1, I1, _⟩
            exact ⟨e1.trans I1.ex, fun _ hp => nomatch hp⟩
          · intro B1 x_k rem v_k σ1 H1 e1 r_k ⟨B4, v_found, y_k, st3, hσ, G4, eL3, I4, r_found, hm⟩
            subst hσ
            have r_k := tN.mono eL3 r_k
            obtain ⟨k3, hk3, hm⟩ := forK_step hm
            have r_closer := (tCl cw C).mono (e1.trans eL3) r_closer
            have r_mask := tN.mono (e1.trans eL3) r_mask
            obtain ⟨b6, hb6, hm⟩ := bind_some hm
            refine ss_if hb6 (tv_w (wv_and ((ev_eqN (ev_and (ev_shr (ev_var 1 r_mask) (ev_var 3 r_k)) ev_int) ev_int)).2 (wv_and1 (tv_of (ev_call2 c_is_closed_mask (hr.mono (by show _ ≤ 3 + dd; omega)) (ev_var 0 r_closer) (ev_sub (ev_var 1 r_mask) (ev_shl ev_int (ev_var 3 r_k)))))))) I4 (fun hz B6 H6 g6 => ?_) (fun hz B6 H6 g6 => ?_)
            · replace hm := ifT hz hm
              have r_closer := (tCl cw C).mono g6.eb r_closer
              have r_mask := tN.mono g6.eb r_mask
              have r_found := (tL (tS cw)).mono g6.eb r_found
              have r_k := tN.mono g6.eb r_k
              have eL3 := eL3.trans g6.eb
              have I6 := I4.go g6
              have G6 := G4.trans g6
              obtain ⟨x7_found, h7, hm⟩ := bind_some hm
              refine ss_set 2 h7 (ev_cat (es_of (ev_var 2 r_found)) (es_of (ev_lc (x := "tail") rfl sc_peels_from.nd (blkOk_by (by kernel_rfl)) (iv_L (es_of (ev_call2 ih (hr.mono (by show _ ≤ 3 + dd; omega)) (ev_var 0 r_closer) (ev_sub (ev_var 1 r_mask) (ev_shl ev_int (ev_var 3 r_k)))))) (fun _ _ _ _ _ => pg_name (i := 4) sc_peels_from.nd rfl (by first | exact Or.inl rfl | exact Or.inr rfl)) _ _ (fun x_tail v_tail B8 e8 r_tail => rfl) (fun x_tail v_tail B8 e8 r_tail _ => by have r_k := tN.mono e8 r_k; have r_closer := (tCl cw C).mono e8 r_closer; exact fun _ _ _ _ _ => (ev_catS (ev_toS (ev_ixS (ev_things cf (hr.mono (by show _ ≤ 3 + dd; omega)) (ev_var 0 r_closer)) (ev_var 3 r_k))) (ev_var 4 r_tail)))))) I6 (fun v7_found B7 H7 g7 r7_found => ?_) sc_peels_from.nd
              have r_closer := (tCl cw C).mono g7.eb r_closer
              have r_mask := tN.mono g7.eb r_mask
              have r_found := (tL (tS cw)).mono g7.eb r_found
              have r_k := tN.mono g7.eb r_k
              have eL3 := eL3.trans g7.eb
              have I7 := I6.go g7
              have G7 := G6.trans g7
              refine ss_nil ?_
              rw [hk3] at hm
              exact ss_nil ⟨B7, v7_found, some v_k, (x7_found), rfl, G7, eL3, I7, r7_found, hm⟩
            · replace hm := ifF hz hm
              have r_closer := (tCl cw C).mono g6.eb r_closer
              have r_mask := tN.mono g6.eb r_mask
              have r_found := (tL (tS cw)).mono g6.eb r_found
              have r_k := tN.mono g6.eb r_k
              have eL3 := eL3.trans g6.eb
              have I6 := I4.go g6
              have G6 := G4.trans g6
              refine ss_nil ?_
              rw [hk3] at hm
              exact ss_nil ⟨B6, v_found, some v_k, (st3), rfl, G6, eL3, I6, r_found, hm⟩
          · intro B1 σ1 H1 e1 ⟨B5, v_found, y_k, st3, hσ, G5, ep, I5, r_found, hm⟩
            subst hσ
            have hm := forK_end hm
            have r_closer := (tCl cw C).mono (e1.trans ep) r_closer
            have r_mask := tN.mono (e1.trans ep) r_mask
            exact ss_ret hm (ev_var 2 r_found) I5 fun v9 B9 H9 g9 r9 => q v9 B9 H9 (G5.trans g9) r9
  exact all 6

theorem sc_peels : FnScope ["closer"] ["closer"] (defScope (topS 65)) := ⟨rfl, rfl, rfl, by decide +kernel, rfl, by decide +kernel, by decide +kernel⟩
def m_peels (x_closer : Clo) : Option (List (List Nat)) :=
  ((((some x_closer)).bind m_check_closer).bind fun z1 => ((((some x_closer)).bind m_check_convex).bind fun z2 => (op2 (m_peels_from 6) (some x_closer) (((((some x_closer)).bind fun c => some c.things)).bind m_whole_of))))
abbrev K_peels (P : Program) (w : World) (K : PySem.W.Frag) (mg : Str → Option Value) (base : Heap) (cw : Crew) (C : Addr) : Prop := Cal P w K mg base "peels" 10 ["closer"] (Sp1 (tCl cw C) (tT (tS cw)) m_peels)
theorem cal_peels (d : Df K mg "peels" (topS 65) ["closer"]) (bt : Bt mg) (cf : ClF P w K mg base C) (c_check_closer : K_check_closer P w K mg base cw C) (c_check_convex : K_check_convex P w K mg base cw C) (c_peels_from : K_peels_from P w K mg base cw C) (c_whole_of : K_whole_of P w K mg base cw C) : K_peels P w K mg base cw C := by
  obtain ⟨f, fd, F, mgf, bi⟩ := d.ex
  refine ⟨⟨f, fd, ?_, mgf, F.kp, bi⟩⟩
  refine F.ok sc_peels (fun vs H Q E h => ?_) (fun cdv A outer s H0 vs Q E hr h => ⟨wSs _ _, p_ss, ?_⟩)
  · obtain ⟨v_closer, x_closer, B, r, rfl, _⟩ := h
    rfl
  · obtain ⟨v_closer, x_closer, B0, r, rfl, r_closer, eB, hm, q⟩ := h
    have I0 : In B0 [] H0 := ⟨eB, fun _ hp => nomatch hp⟩
    have G0 : Go B0 H0 B0 H0 := Go.refl eB
    obtain ⟨z1, hz1, hm⟩ := bind_some hm
    refine ss_do hz1 (ev_call1 c_check_closer (hr.mono (by decide)) (ev_var 0 r_closer)) I0 (fun v1 B1 H1 g1 _ => ?_)
    have r_closer := (tCl cw C).mono g1.eb r_closer
    have I1 := I0.go g1
    have G1 := G0.trans g1
    obtain ⟨z2, hz2, hm⟩ := bind_some hm
    refine ss_do hz2 (ev_call1 c_check_convex (hr.mono (by decide)) (ev_var 0 r_closer)) I1 (fun v2 B2 H2 g2 _ => ?_)
    have r_closer := (tCl cw C).mono g2.eb r_closer
    have I2 := I1.go g2
    have G2 := G1.trans g2
    exact ss_ret hm (ev_tuple bt (es_of (ev_call2 c_peels_from (hr.mono (by decide)) (ev_var 0 r_closer) (ev_call1 c_whole_of (hr.mono (by decide)) (ev_things cf (hr.mono (by decide)) (ev_var 0 r_closer)))))) I2 fun v9 B9 H9 g9 r9 => q v9 B9 H9 (G2.trans g9) r9

theorem sc_count_peels : FnScope ["closer"] ["closer"] (defScope (topS 66)) := ⟨rfl, rfl, rfl, by decide +kernel, rfl, by decide +kernel, by decide +kernel⟩
def m_count_peels (x_closer : Clo) : Option (Nat) :=
  ((((some x_closer)).bind m_check_closer).bind fun z1 => ((((some x_closer)).bind m_check_convex).bind fun z2 => (op2 gD (((some x_closer)).bind m_counts_by_lots) (((((some x_closer)).bind fun c => some c.things)).bind m_whole_of))))
abbrev K_count_peels (P : Program) (w : World) (K : PySem.W.Frag) (mg : Str → Option Value) (base : Heap) (cw : Crew) (C : Addr) : Prop := Cal P w K mg base "count_peels" 6 ["closer"] (Sp1 (tCl cw C) tN m_count_peels)
theorem cal_count_peels (d : Df K mg "count_peels" (topS 66) ["closer"]) (bt : Bt mg) (cf : ClF P w K mg base C) (c_check_closer : K_check_closer P w K mg base cw C) (c_check_convex : K_check_convex P w K mg base cw C) (c_counts_by_lots : K_counts_by_lots P w K mg base cw C) (c_whole_of : K_whole_of P w K mg base cw C) : K_count_peels P w K mg base cw C := by
  obtain ⟨f, fd, F, mgf, bi⟩ := d.ex
  refine ⟨⟨f, fd, ?_, mgf, F.kp, bi⟩⟩
  refine F.ok sc_count_peels (fun vs H Q E h => ?_) (fun cdv A outer s H0 vs Q E hr h => ⟨wSs _ _, p_ss, ?_⟩)
  · obtain ⟨v_closer, x_closer, B, r, rfl, _⟩ := h
    rfl
  · obtain ⟨v_closer, x_closer, B0, r, rfl, r_closer, eB, hm, q⟩ := h
    have I0 : In B0 [] H0 := ⟨eB, fun _ hp => nomatch hp⟩
    have G0 : Go B0 H0 B0 H0 := Go.refl eB
    obtain ⟨z1, hz1, hm⟩ := bind_some hm
    refine ss_do hz1 (ev_call1 c_check_closer (hr.mono (by decide)) (ev_var 0 r_closer)) I0 (fun v1 B1 H1 g1 _ => ?_)
    have r_closer := (tCl cw C).mono g1.eb r_closer
    have I1 := I0.go g1
    have G1 := G0.trans g1
    obtain ⟨z2, hz2, hm⟩ := bind_some hm
    refine ss_do hz2 (ev_call1 c_check_convex (hr.mono (by decide)) (ev_var 0 r_closer)) I1 (fun v2 B2 H2 g2 _ => ?_)
    have r_closer := (tCl cw C).mono g2.eb r_closer
    have I2 := I1.go g2
    have G2 := G1.trans g2
    exact ss_ret hm (ev_dix (u64 hr) (ed_of (ev_call1 c_counts_by_lots (hr.mono (by decide)) (ev_var 0 r_closer))) (ev_call1 c_whole_of (hr.mono (by decide)) (ev_things cf (hr.mono (by decide)) (ev_var 0 r_closer)))) I2 fun v9 B9 H9 g9 r9 => q v9 B9 H9 (G2.trans g9) r9

end
end Cw
namespace Cw
open PySem PySem.Spec PyProof.Rows L2 Ly
section
variable {P : Program} {w : World} {K : PySem.W.Frag} {mg : Str → Option Value} {base : Heap} {cw : Crew} {C : Addr}
def m_try : Nat → List Nat → List (Nat × Nat) → Nat → List Nat → Option (Bool × List (Nat × Nat) × List Nat)
  | 0, _, _, _, _ => none
  | dd + 1, ts, mates, low, seen => (((some ts).bind fun l => some l.length).bind rng1).bind fun xs => forK (fun high (st : List (Nat × Nat) × List Nat) k =>
      (andO (op2 (fun x y => some (!Nat.beq x y)) (some low) (some high)) (andO (op2 (fun x y => some (!y.any fun z => Nat.beq z x)) (some high) (some st.2)) (op2 m_is_inside (op2 (fun xs i => xs[i]?) (some ts) (some low)) (op2 (fun xs i => xs[i]?) (some ts) (some high))))).bind fun b => bif b then (fApp st.2 high).bind fun seen2 =>
        (op2 (fun k xs => some (!(gD xs k).isSome)) (some high) (some st.1)).bind fun b2 => bif b2 then (fPutD st.1 high low).bind fun mm => some (true, mm, seen2)
          else (op2 gD (some st.1) (some high)).bind fun o => (m_try dd ts st.1 o seen2).bind fun r => bif r.1 then (fPutD r.2.1 high low).bind fun mm => some (true, mm, r.2.2) else k r.2
      else k st) (fun st => some (false, st)) xs (mates, seen)
def SpJoin (f : List Nat → List (Nat × Nat) → Nat → List Nat → Option (Bool × List (Nat × Nat) × List Nat)) : Sp := fun vs H Q _ => ∃ (vt vl : V) (x y : Addr) (kvs : List (Key × V)) (svs : List V) (ts : List Nat) (mates : List (Nat × Nat)) (low : Nat) (seen : List Nat) (B : Hp) (r : Bool × List (Nat × Nat) × List Nat),
  vs = [vt, .ref x, vl, .ref y] ∧ x ≠ y ∧ (tL tN).rep B vt ts ∧ tN.rep B vl low ∧ In B (two x y kvs svs) H ∧ RepD tN B kvs mates ∧ Reps tN B svs seen ∧ kvs.length ≤ 40000 ∧ svs.length ≤ 40000 ∧ f ts mates low seen = some r ∧
  ∀ B' H' kvs' svs', Gm x y B H B' H' → In B' (two x y kvs' svs') H' → RepD tN B' kvs' r.2.1 → Reps tN B' svs' r.2.2 → kvs'.length ≤ 40000 → svs'.length ≤ 40000 → Q (.bl r.1) H'
theorem sc_try : FnScope ["tops_here", "mates", "low", "seen", "high"] ["tops_here", "mates", "low", "seen"] (defScope (topS 67)) := ⟨rfl, rfl, rfl, by decide +kernel, rfl, by decide +kernel, by decide +kernel⟩
theorem cal_try (d : Df K mg "try_to_join" (topS 67) ["tops_here", "mates", "low", "seen"]) (bt : Bt mg) (c_is_inside : K_is_inside P w K mg base cw C) : ∀ dd, Cal P w K mg base "try_to_join" (1 + dd) ["tops_here", "mates", "low", "seen"] (SpJoin (m_try dd)) := by
  obtain ⟨f, fd, F, mgf, bi⟩ := d.ex
  intro dd
  induction dd with
  | zero =>
    refine ⟨⟨f, fd, ?_, mgf, F.kp, bi⟩⟩
    refine F.ok sc_try (fun vs H Q E h => ?_) (fun cdv A outer s H0 vs Q E hr h => ⟨wSs _ _, p_ss, ?_⟩)
    · obtain ⟨vt, vl, x, y, kvs, svs, ts, mates, low, seen, B, r, rfl, _⟩ := h
      rfl
    · obtain ⟨vt, vl, x, y, kvs, svs, ts, mates, low, seen, B, r, rfl, _, _, _, _, _, _, _, _, hm, _⟩ := h
      cases hm
  | succ dd ih =>
    refine ⟨⟨f, fd, ?_, mgf, F.kp, bi⟩⟩
    refine F.ok sc_try (fun vs H Q E h => ?_) (fun cdv A outer s H0 vs Q E hr h => ⟨wSs _ _, p_ss, ?_⟩)
    · obtain ⟨vt, vl, x, y, kvs, svs, ts, mates, low, seen, B, r, rfl, _⟩ := h
      rfl
    · obtain ⟨vt, vl, x, y, kvs, svs, ts, mates, low, seen, B0, r, rfl, ne, rt, rl, I0, rk, rs, lk, ls, hm, q⟩ := h
      obtain ⟨xs, hx, hm⟩ := bind_some hm
      refine ss_for 4 hx (iv_rng1 bt (ev_lenL bt (es_of (ev_var 0 rt)))) I0.nil (fun Bq rem σq Hq => ∃ (Bp : Hp) (kvs : List (Key × V)) (svs : List V) (yh : Option V) (st : List (Nat × Nat) × List Nat), σq = [some vt, some (.ref x), some vl, some (.ref y), yh] ∧ Gm x y B0 H0 Bp Hq ∧ Ex Bq Bp ∧ In Bp (two x y kvs svs) Hq ∧ RepD tN Bp kvs st.1 ∧ Reps tN Bp svs st.2 ∧ kvs.length ≤ 40000 ∧ svs.length ≤ 40000 ∧ forK (fun high (st : List (Nat × Nat) × List Nat) k =>
      (andO (op2 (fun x y => some (!Nat.beq x y)) (some low) (some high)) (andO (op2 (fun x y => some (!y.any fun z => Nat.beq z x)) (some high) (some st.2)) (op2 m_is_inside (op2 (fun xs i => xs[i]?) (some ts) (some low)) (op2 (fun xs i => xs[i]?) (some ts) (some high))))).bind fun b => bif b then (fApp st.2 high).bind fun seen2 =>
        (op2 (fun k xs => some (!(gD xs k).isSome)) (some high) (some st.1)).bind fun b2 => bif b2 then (fPutD st.1 high low).bind fun mm => some (true, mm, seen2)
          else (op2 gD (some st.1) (some high)).bind fun o => (m_try dd ts st.1 o seen2).bind fun r => bif r.1 then (fPutD r.2.1 high low).bind fun mm => some (true, mm, r.2.2) else k r.2
      else k st) (fun st => some (false, st)) rem st = some r) ?_ ?_ ?_ ?_ PassesOwn.never rfl (pg_name (i := 4) sc_try.nd rfl (by first | exact Or.inl rfl | exact Or.inr rfl))
      · intro Ba Ha ga
        exact ⟨Ba, kvs, svs, none, (mates, seen), rfl, Gm.of ga, Ex.refl _, I0.go ga, rk.mono ga.eb, rs.mono ga.eb, lk, ls, hm⟩
      · intro B1 rem σ1 H1 ⟨Bp, kvs, svs, yh, st, _, _, e1, I1, _⟩
        exact ⟨e1.trans I1.ex, fun _ hp => nomatch hp⟩
      · intro B1 high rem vh σ1 H1 e1 rh ⟨B2, kvs, svs, yh, st, hσ, G2, eL, I2, rk, rs, lk, ls, hm⟩
        subst hσ
        have rh := tN.mono eL rh
        have rt := (tL tN).mono (e1.trans eL) rt
        have rl := tN.mono (e1.trans eL) rl
        obtain ⟨kk, hk, hm⟩ := forK_step hm
        obtain ⟨b, hb, hm⟩ := bind_some hm
        have m1 : ∀ {kvs : List (Key × V)} {svs : List V}, (x, HO.dK kvs) ∈ two x y kvs svs := fun {_ _} => List.mem_cons_self
        have m2 : ∀ {kvs : List (Key × V)} {svs : List V}, (y, HO.lst svs) ∈ two x y kvs svs := fun {_ _} => List.mem_cons_of_mem _ List.mem_cons_self
        refine ss_if hb (tv_w (wv_and (ev_neN (ev_var 2 rl) (ev_var 4 rh)).2 (wv_and (ev_niL flatN (ev_var 4 rh) (es_var 3 m2 rs ls)).2 (wv_and1 (tv_of (ev_call2 c_is_inside (hr.mono (by show _ ≤ 1 + dd; omega)) (ev_ixL (es_of (ev_var 0 rt)) (ev_var 2 rl)) (ev_ixL (es_of (ev_var 0 rt)) (ev_var 4 rh)))))))) I2 (fun hz B3 H3 g3 => ?_) (fun hz B3 H3 g3 => ?_)
        · replace hm := ifT hz hm
          obtain ⟨seen2, hs2, hm⟩ := bind_some hm
          obtain ⟨ln2, es2⟩ := fApp_some hs2
          have I3 := I2.go g3
          have G3 := G2.trans (Gm.of g3) I3.n1 I3.n2
          have rh := tN.mono g3.eb rh
          refine ss_app 3 rfl (ev_var 4 rh) I3 m2 ls (fun v4 B4 H4 g4 r4 => ?_)
          have I4 := (I3.go g4).putB (svs' := svs ++ [v4]) ne
          have G4 := (G3.trans (Gm.of g4) (I3.go g4).n1 (I3.go g4).n2).put2 (u := .lst (svs ++ [v4]))
          have rs4 : Reps tN B4 (svs ++ [v4]) seen2 := by rw [es2]; exact (rs.mono (g3.eb.trans g4.eb)).app (.cons r4 .nil)
          have ls4 : (svs ++ [v4]).length ≤ 40000 := by rw [rs4.len, es2, List.length_append]; exact Nat.le_trans (Nat.succ_le_succ ln2) (by decide)
          have rk4 := rk.mono (g3.eb.trans g4.eb)
          have rh := tN.mono g4.eb rh
          have rt := (tL tN).mono (g3.eb.trans g4.eb) rt
          have rl := tN.mono (g3.eb.trans g4.eb) rl
          have e4 := (e1.trans eL).trans (g3.eb.trans g4.eb)
          have eL4 := eL.trans (g3.eb.trans g4.eb)
          obtain ⟨b2, hb2, hm⟩ := bind_some hm
          refine ss_ifK (fun H5 => ∃ B5 kvs5 svs5 mates5 seen5, Gm x y B0 H0 B5 H5 ∧ Ex B4 B5 ∧ In B5 (two x y kvs5 svs5) H5 ∧ RepD tN B5 kvs5 mates5 ∧ Reps tN B5 svs5 seen5 ∧ kvs5.length ≤ 40000 ∧ svs5.length ≤ 40000 ∧ ((fPutD mates5 high low).bind fun mm => some (true, mm, seen5)) = some r)
            (fun H5 => ∃ B5 kvs5 svs5 mates5 seen5, Gm x y B0 H0 B5 H5 ∧ Ex B4 B5 ∧ In B5 (two x y kvs5 svs5) H5 ∧ RepD tN B5 kvs5 mates5 ∧ Reps tN B5 svs5 seen5 ∧ kvs5.length ≤ 40000 ∧ svs5.length ≤ 40000 ∧ kk (mates5, seen5) = some r) ?_ ?_ ?_
          · refine of_t (PW.pt (pw_or p_t (pw_or1 p_t))) ?_
            refine (cv_dni (u64 hr) (ev_var 4 rh) (ed_var 1 m1 rk4 lk)).2 b2 hb2 B4 _ (Ex.refl _) I4 _ fun B5 H5 g5 => ?_
            have I5 := I4.go g5
            have G5 := G4.trans (Gm.of g5) I5.n1 I5.n2
            cases b2 with
            | true =>
              refine iteT (iteT ?_)
              exact ⟨B5, kvs, _, st.1, seen2, G5, g5.eb, I5, rk4.mono g5.eb, rs4.mono g5.eb, lk, ls4, hm⟩
            | false =>
              refine iteF ?_
              obtain ⟨o, ho, hm⟩ := bind_some (show ((op2 gD (some st.1) (some high)).bind fun o => (m_try dd ts st.1 o seen2).bind fun r => bif r.1 then (fPutD r.2.1 high low).bind fun mm => some (true, mm, r.2.2) else kk r.2) = some r from hm)
              obtain ⟨r6, hr6, hm⟩ := bind_some hm
              refine of_t (pt_val p_e (by intro _; rfl)) ?_
              refine call_of ih (hr.mono (by show _ ≤ 1 + dd; omega)) rfl (by decide) rfl rfl ?_
              refine av_cons (es := [_, _, _]) (ev_ge (ev_var (T := tL tN) 0 ((tL tN).mono g5.eb rt)) rfl) (av_cons (ge_ref 1) (av_cons (ev_ge (ev_dix (u64 hr) (ed_var 1 m1 (rk4.mono g5.eb) lk) (ev_var 4 (tN.mono g5.eb rh))) ho) (av_cons (ge_ref 3) av_nil (R3 := fun B vs => vs = [.ref y]) (fun r g h => by rw [h, r]) rfl)
                (R3 := fun B vs => ∃ v, vs = [v, .ref y] ∧ tN.rep B v o) (fun r g h => ⟨_, by rw [h], tN.mono g.eb r⟩) rfl) (R3 := fun B vs => ∃ v, vs = [.ref x, v, .ref y] ∧ tN.rep B v o) (fun r g h => by
                  obtain ⟨v, rfl, h2⟩ := h
                  exact ⟨v, by rw [r], h2⟩) rfl) (R3 := fun B vs => ∃ u v, vs = [u, .ref x, v, .ref y] ∧ (tL tN).rep B u ts ∧ tN.rep B v o) (fun r g h => by
                  obtain ⟨v, rfl, h2⟩ := h
                  exact ⟨_, v, rfl, (tL tN).mono g.eb r, h2⟩) rfl B5 H5 (Ex.refl _) I5 _ fun vs B6 H6 g6 r6' => ?_
              obtain ⟨u, v, rfl, ru, rv⟩ := r6'
              have I6 := I5.go g6
              have G6 := G5.trans (Gm.of g6) I6.n1 I6.n2
              refine ⟨u, v, x, y, kvs, _, ts, st.1, o, seen2, B6, r6, rfl, ne, ru, rv, I6, rk4.mono (g5.eb.trans g6.eb), rs4.mono (g5.eb.trans g6.eb), lk, ls4, hr6, fun B7 H7 kvs7 svs7 g7 I7 rk7 rs7 lk7 ls7 => ⟨r6.1, rfl, ?_⟩⟩
              have G7 := G6.trans g7 I7.n1 I7.n2
              have E7 := (g5.eb.trans g6.eb).trans g7.eb
              cases hr1 : r6.1 with
              | true =>
                rw [hr1] at hm
                exact iteT ⟨B7, kvs7, svs7, r6.2.1, r6.2.2, G7, E7, I7, rk7, rs7, lk7, ls7, hm⟩
              | false =>
                rw [hr1] at hm
                exact iteF ⟨B7, kvs7, svs7, r6.2.1, r6.2.2, G7, E7, I7, rk7, rs7, lk7, ls7, hm⟩
          · rintro H5 ⟨B5, kvs5, svs5, mates5, seen5, G5, E5, I5, rk5, rs5, lk5, ls5, hm⟩
            obtain ⟨mm, hmm, hm⟩ := bind_some hm
            obtain ⟨ln5, em5⟩ := fPutD_some hmm
            cases hm
            refine ss_dput 1 (u64 hr) rfl rfl (ev_var 2 (tN.mono E5 rl)) (ev_var 4 (tN.mono E5 rh)) I5 m1 lk5 (fun v8 B8 H8 g8 r8 => ?_)
            have I8 := (I5.go g8).putA (kvs' := putK kvs5 (Sum.inl (high : Int)) v8) ne
            have G8 := (G5.trans (Gm.of g8) (I5.go g8).n1 (I5.go g8).n2).put1 (u := .dK (putK kvs5 (Sum.inl (high : Int)) v8))
            refine ss_ret rfl ev_bool I8 fun v9 B9 H9 g9 r9 => ?_
            cases r9
            exact q B9 H9 _ _ (G8.trans (Gm.of g9) (I8.go g9).n1 (I8.go g9).n2) (I8.go g9) (by rw [em5]; exact ((rk5.mono g8.eb).put high r8).mono g9.eb) (rs5.mono (g8.eb.trans g9.eb)) (lenPut (by rw [rk5.len]; exact ln5)) ls5
          · rintro H5 ⟨B5, kvs5, svs5, mates5, seen5, G5, E5, I5, rk5, rs5, lk5, ls5, hm⟩
            rw [hk] at hm
            refine ss_nil (ss_nil ?_)
            exact ss_nil ⟨B5, kvs5, svs5, some vh, (mates5, seen5), rfl, G5, eL4.trans E5, I5, rk5, rs5, lk5, ls5, hm⟩
        · replace hm := ifF hz hm
          have I3 := I2.go g3
          have G3 := G2.trans (Gm.of g3) I3.n1 I3.n2
          rw [hk] at hm
          refine ss_nil ?_
          exact ss_nil ⟨B3, kvs, svs, some vh, st, rfl, G3, eL.trans g3.eb, I3, rk.mono g3.eb, rs.mono g3.eb, lk, ls, hm⟩
      · intro B1 σ1 H1 e1 ⟨B2, kvs, svs, yh, st, hσ, G2, eL, I2, rk, rs, lk, ls, hm⟩
        subst hσ
        have hm := forK_end hm
        cases hm
        exact ss_ret rfl ev_bool I2 fun v9 B9 H9 g9 r9 => by
          cases r9
          exact q B9 H9 kvs svs (G2.trans (Gm.of g9) (I2.go g9).n1 (I2.go g9).n2) (I2.go g9) (rk.mono g9.eb) (rs.mono g9.eb) lk ls
theorem Gm.go {x y : Addr} {B0 H0 B H B1 H1 : Hp} {kvs : List (Key × V)} {svs : List V} (g : Go B0 H0 B H) (k : Gm x y B H B1 H1) (n1 : H0 x = none) (n2 : H0 y = none) (I : In B1 (two x y kvs svs) H1) : Go B0 H0 B1 H1 :=
  ⟨g.eb.trans k.eb, fun a o h => k.kh a o (ne_of_none h n1) (ne_of_none h n2) (g.eh a o h), I.ex, fun a o h => (k.fr a o h).elim (fun z => g.fr a o z) fun z => .inr (g.eh.free z)⟩
theorem sc_joined_corners : FnScope ["closer", "tops_here", "mates", "low"] ["closer"] (defScope (topS 68)) := ⟨rfl, rfl, rfl, by decide +kernel, rfl, by decide +kernel, by decide +kernel⟩
def m_joined_corners (c : Clo) : Option (List Nat × List (Nat × Nat)) :=
  (((some c).bind m_corner_masks).bind fSortL).bind fun tops => (((some tops).bind fun l => some l.length).bind rng1).bind fun xs => forK (fun low (mates : List (Nat × Nat)) k => (m_try 8 tops mates low []).bind fun r => k r.2.1) (fun mates => some (tops, mates)) xs []
abbrev K_joined_corners (P : Program) (w : World) (K : PySem.W.Frag) (mg : Str → Option Value) (base : Heap) (cw : Crew) (C : Addr) : Prop := Cal P w K mg base "joined_corners" 12 ["closer"] (Sp1 (tCl cw C) (tP (tL tN) (tD tN)) m_joined_corners)
theorem cal_joined_corners (d : Df K mg "joined_corners" (topS 68) ["closer"]) (bt : Bt mg) (c_corner_masks : K_corner_masks P w K mg base cw C) (c_try : Cal P w K mg base "try_to_join" (1 + 8) ["tops_here", "mates", "low", "seen"] (SpJoin (m_try 8))) : K_joined_corners P w K mg base cw C := by
  obtain ⟨f, fd, F, mgf, bi⟩ := d.ex
  refine ⟨⟨f, fd, ?_, mgf, F.kp, bi⟩⟩
  refine F.ok sc_joined_corners (fun vs H Q E h => ?_) (fun cdv A outer s H0 vs Q E hr h => ⟨wSs _ _, p_ss, ?_⟩)
  · obtain ⟨v_closer, x_closer, B, r, rfl, _⟩ := h
    rfl
  · obtain ⟨v_closer, x_closer, B0, r, rfl, r_closer, eB, hm, q⟩ := h
    have I0 : In B0 [] H0 := ⟨eB, fun _ hp => nomatch hp⟩
    have G0 : Go B0 H0 B0 H0 := Go.refl eB
    obtain ⟨x_tops, h1, hm⟩ := bind_some hm
    refine ss_parNewD 1 2 h1 (ev_sortL bt (es_of (ev_call1 c_corner_masks (hr.mono (by decide)) (ev_var 0 r_closer)))) I0 (fun v_tops l_m B1 H1 g1 r_tops hl_m => ?_) rfl sc_joined_corners.nd
    have h0_m := g1.eh.free hl_m
    have G1 := g1.new (u := .dK []) hl_m
    have I1 := In.one (o := .dK []) g1.bh hl_m
    obtain ⟨xs3, hx3, hm⟩ := bind_some hm
    refine ss_for 3 hx3 (iv_rng1 bt (ev_lenL bt (es_of (ev_var 1 r_tops)))) I1.nil (fun Bq rem σq Hq => ∃ (Bp : Hp) (kvs : List (Key × V)) (y : Option V) (st : List (Nat × Nat)), σq = [some v_closer, some v_tops, some (.ref l_m), y] ∧ Go B0 H0 Bp Hq ∧ Ex Bq Bp ∧ In Bp [(l_m, HO.dK kvs)] Hq ∧ RepD tN Bp kvs st ∧ kvs.length ≤ 40000 ∧
      forK (fun low (mates : List (Nat × Nat)) k => (m_try 8 x_tops mates low []).bind fun r => k r.2.1) (fun mates => some (x_tops, mates)) rem st = some r) ?_ ?_ ?_ ?_ PassesOwn.never rfl (pg_name (i := 3) sc_joined_corners.nd rfl (by first | exact Or.inl rfl | exact Or.inr rfl))
    · intro Ba Ha ga
      exact ⟨Ba, [], none, [], rfl, G1.trans ga, Ex.refl _, I1.go ga, .nil, Nat.zero_le _, hm⟩
    · intro B2 rem σ2 H2 ⟨Bp, kvs, y, st, _, _, e1, I2, _⟩
      exact ⟨e1.trans I2.ex, fun _ hp => nomatch hp⟩
    · intro B2 low rem vl σ2 H2 e1 rl ⟨B3, kvs, y, st, hσ, G3, eL, I3, rk, lk, hm⟩
      subst hσ
      have rl := tN.mono eL rl
      have r_tops := (tL tN).mono (e1.trans eL) r_tops
      obtain ⟨kk, hkk, hm⟩ := forK_step hm
      obtain ⟨r6, hr6, hm⟩ := bind_some hm
      refine ss_cons (of_s (ps_expr p_e rfl) ?_)
      refine call_of c_try (hr.mono (by decide)) rfl (by decide) rfl rfl ?_
      refine of_a (pa_cons p_e (pa_cons p_e (pa_cons p_e (pa_cons (pe_lst pa_nil) pa_nil rfl) rfl) rfl) rfl) ?_
      refine ev_ge (ev_var (T := tL tN) (O := [(l_m, HO.dK kvs)]) 1 r_tops) rfl B3 H2 (Ex.refl _) I3 _ fun v4 B4 H4 g4 r4 => ?_
      have I4 := I3.go g4
      refine (ge_ref (O := [(l_m, HO.dK kvs)]) (B := B4) (v := .ref l_m) 2 : GE _ _ _ _ _ _) B4 H4 (Ex.refl _) I4 _ fun v5 B5 H5 g5 r5 => ?_
      have I5 := I4.go g5
      refine ev_ge (ev_var (T := tN) (O := [(l_m, HO.dK kvs)]) 3 (tN.mono (g4.eb.trans g5.eb) rl)) rfl B5 H5 (Ex.refl _) I5 _ fun v6 B6 H6 g6 r6' => ?_
      have I6 := I5.go g6
      refine ⟨Nat.zero_le _, fun l hl => ?_⟩
      have G6 := ((G3.trans g4).trans g5).trans g6
      have G7 := G6.new (u := .lst []) hl
      have hm6 := I6.ow _ List.mem_cons_self
      have ne : l_m ≠ l := ne_of_none hm6.1 hl
      have I7 : In B6 (two l_m l kvs []) (upd H6 l (.lst [])) := ⟨I6.ex.mut (g6.bh.free hl), fun p hp => by
        rcases List.mem_cons.mp hp with z | z
        · subst z
          exact ⟨by rw [upd_ne ne]; exact hm6.1, hm6.2⟩
        · cases List.mem_singleton.mp z
          exact ⟨upd_same, g6.bh.free hl⟩⟩
      refine ⟨v4, v6, l_m, l, kvs, [], x_tops, st, low, [], B6, r6, by rw [r5], ne, (tL tN).mono (g5.eb.trans g6.eb) r4, r6', I7, rk.mono ((g4.eb.trans g5.eb).trans g6.eb), .nil, lk, Nat.zero_le _, hr6, fun B8 H8 kvs8 svs8 g8 I8 rk8 rs8 lk8 ls8 => ?_⟩
      have G8 := Gm.go G7 g8 h0_m (G6.eh.free hl) I8
      rw [hkk] at hm
      exact ss_nil ⟨B8, kvs8, some vl, r6.2.1, rfl, G8, eL.trans (((g4.eb.trans g5.eb).trans g6.eb).trans g8.eb), ⟨I8.ex, fun p hp => by
        rw [List.mem_singleton.mp hp]
        exact I8.ow _ List.mem_cons_self⟩, rk8, lk8, hm⟩
    · intro B2 σ2 H2 e1 ⟨B3, kvs, y, st, hσ, G3, eL, I3, rk, lk, hm⟩
      subst hσ
      have hm := forK_end hm
      have r_tops := (tL tN).mono (e1.trans eL) r_tops
      refine frzD G3 eB h0_m I3 rk lk (fun B4 H4 G4 I4 e4 r_m => ?_)
      have r_tops := (tL tN).mono e4 r_tops
      exact ss_ret hm (ev_pair (ev_var 1 r_tops) (ev_var 2 r_m)) I4 fun v9 B9 H9 g9 r9 => q v9 B9 H9 (G4.trans g9) r9
theorem sc_fewest_rows : FnScope ["closer", "tops_here", "mates"] ["closer"] (defScope (topS 69)) := ⟨rfl, rfl, rfl, by decide +kernel, rfl, by decide +kernel, by decide +kernel⟩
def m_fewest_rows (c : Clo) : Option Nat := ((some c).bind m_check_closer).bind fun _ => ((some c).bind m_check_convex).bind fun _ => ((some c).bind m_joined_corners).bind fun r => op2 fSub ((some r.1).bind fun l => some l.length) ((some r.2).bind fun l => some l.length)
abbrev K_fewest_rows (P : Program) (w : World) (K : PySem.W.Frag) (mg : Str → Option Value) (base : Heap) (cw : Crew) (C : Addr) : Prop := Cal P w K mg base "fewest_rows" 13 ["closer"] (Sp1 (tCl cw C) tN m_fewest_rows)
theorem cal_fewest_rows (d : Df K mg "fewest_rows" (topS 69) ["closer"]) (bt : Bt mg) (c_check_closer : K_check_closer P w K mg base cw C) (c_check_convex : K_check_convex P w K mg base cw C) (c_joined_corners : K_joined_corners P w K mg base cw C) : K_fewest_rows P w K mg base cw C := by
  obtain ⟨f, fd, F, mgf, bi⟩ := d.ex
  refine ⟨⟨f, fd, ?_, mgf, F.kp, bi⟩⟩
  refine F.ok sc_fewest_rows (fun vs H Q E h => ?_) (fun cdv A outer s H0 vs Q E hr h => ⟨wSs _ _, p_ss, ?_⟩)
  · obtain ⟨v_closer, x_closer, B, r, rfl, _⟩ := h
    rfl
  · obtain ⟨v_closer, x_closer, B0, r, rfl, r_closer, eB, hm, q⟩ := h
    have I0 : In B0 [] H0 := ⟨eB, fun _ hp => nomatch hp⟩
    have G0 : Go B0 H0 B0 H0 := Go.refl eB
    obtain ⟨z1, hz1, hm⟩ := bind_some hm
    refine ss_do hz1 (ev_call1 c_check_closer (hr.mono (by decide)) (ev_var 0 r_closer)) I0 (fun v1 B1 H1 g1 _ => ?_)
    have r_closer := (tCl cw C).mono g1.eb r_closer
    obtain ⟨z2, hz2, hm⟩ := bind_some hm
    refine ss_do hz2 (ev_call1 c_check_convex (hr.mono (by decide)) (ev_var 0 r_closer)) (I0.go g1) (fun v2 B2 H2 g2 _ => ?_)
    have r_closer := (tCl cw C).mono g2.eb r_closer
    obtain ⟨r3, hz3, hm⟩ := bind_some hm
    refine ss_unp 1 2 hz3 (ev_call1 c_joined_corners (hr.mono (by decide)) (ev_var 0 r_closer)) ((I0.go g1).go g2) (fun v w B3 H3 g3 r_tops r_m => ?_) rfl sc_fewest_rows.nd
    exact ss_ret hm (ev_sub (ev_lenL bt (es_of (ev_var 1 r_tops))) (ev_lenD bt (ed_of (ev_var 2 r_m)))) (((I0.go g1).go g2).go g3) fun v9 B9 H9 g9 r9 => q v9 B9 H9 (((g1.trans g2).trans g3).trans g9) r9
end
end Cw
namespace Cw
open PySem PySem.Spec PyProof.Rows L2 Ly
section
variable {P : Program} {w : World} {K : PySem.W.Frag} {mg : Str → Option Value} {base : Heap} {cw : Crew} {C : Addr}
theorem sc_pentagon_masks : FnScope ["closer", "closed", "middle", "known", "mask", "some", "low", "above", "each"] ["closer"] (defScope (topS 55)) := ⟨rfl, rfl, rfl, by decide +kernel, rfl, by decide +kernel, by decide +kernel⟩
def m_pentagon_masks (x_closer : Clo) : Option (Option (Unit)) :=
  ((((some x_closer)).bind m_closed_masks).bind fun x1_closed => ((some x1_closed).bind fun xs2 => forK (fun x_middle (st2 : Unit) k2 => ((some x1_closed).bind fun xs6 => forK (fun x_mask (st6 : (List ((Nat × Nat) × List (Nat)))) k6 => ((op2 (fun x y => some (x, y)) (op2 fAnd (some x_mask) (some x_middle)) (op3 m_span_of (some x_closer) (some x_mask) (some x_middle))).bind fun k9 => (some x_mask).bind fun z9 => (fAddP st6 k9 z9).bind fun x9_known => (k6 (x9_known)))) (fun (st6 : (List ((Nat × Nat) × List (Nat)))) => (((some st6).bind fun ms => some (ms.map Prod.snd)).bind fun xs11 => forK (fun x_some (st11 : Unit) k11 => ((some x_some).bind fun xs14 => forK (fun x_low (st14 : Unit) k14 => ((((some x_some)).bind fun xs => compM (fun x_each => (andO (op2 (fun x y => some (!Nat.beq x y)) (some x_each) (some x_low)) (op2 m_is_inside (some x_low) (some x_each)))) (fun x_each => (some x_each)) xs).bind fun x17_above => ((op2 (fun x y => some (!eqL Nat.beq x y)) (some x17_above) (some [])).bind fun b19 => bif b19 then none else (k14 ())))) (fun (st14 : Unit) => (k11 ())) xs14 ())) (fun (st11 : Unit) => (k2 ())) xs11 ())) xs6 ([]))) (fun (st2 : Unit) => (some none)) xs2 ()))
abbrev K_pentagon_masks (P : Program) (w : World) (K : PySem.W.Frag) (mg : Str → Option Value) (base : Heap) (cw : Crew) (C : Addr) : Prop := Cal P w K mg base "pentagon_masks" 2 ["closer"] (Sp1 (tCl cw C) (tO tU) m_pentagon_masks)
theorem cal_pentagon_masks (d : Df K mg "pentagon_masks" (topS 55) ["closer"]) (bt : Bt mg) (c_closed_masks : K_closed_masks P w K mg base cw C) (c_span_of : K_span_of P w K mg base cw C) (c_is_inside : K_is_inside P w K mg base cw C) : K_pentagon_masks P w K mg base cw C := by
  obtain ⟨f, fd, F, mgf, bi⟩ := d.ex
  refine ⟨⟨f, fd, ?_, mgf, F.kp, bi⟩⟩
  refine F.ok sc_pentagon_masks (fun vs H Q E h => ?_) (fun cdv A outer s H0 vs Q E hr h => ⟨wSs _ _, p_ss, ?_⟩)
  · obtain ⟨v_closer, x_closer, B, r, rfl, _⟩ := h
    rfl
  · obtain ⟨v_closer, x_closer, B0, r, rfl, r_closer, eB, hm, q⟩ := h
    have I0 : In B0 [] H0 := ⟨eB, fun _ hp => nomatch hp⟩
    have G0 : Go B0 H0 B0 H0 := Go.refl eB
    obtain ⟨x1_closed, h1, hm⟩ := bind_some hm
    refine ss_set 1 h1 (ev_call1 c_closed_masks (hr.mono (by decide)) (ev_var 0 r_closer)) I0 (fun v1_closed B1 H1 g1 r1_closed => ?_) sc_pentagon_masks.nd
    have r_closer := (tCl cw C).mono g1.eb r_closer
    have I1 := I0.go g1
    have G1 := G0.trans g1
    obtain ⟨xs2, hx2, hm⟩ := bind_some hm
    refine ss_for 2 hx2 (iv_L (es_of (ev_var 1 r1_closed))) I1.nil (fun Bq rem σq Hq => ∃ (Bp : Hp) (y_known : Option V) (y_mask : Option V) (y_some : Option V) (y_low : Option V) (y_above : Option V) (y_middle : Option V) (st2 : Unit), σq = [some v_closer, some v1_closed, y_middle, y_known, y_mask, y_some, y_low, y_above, none] ∧ Go B0 H0 Bp Hq ∧ Ex Bq Bp ∧ In Bp [] Hq ∧ forK (fun x_middle (st2 : Unit) k2 => ((some x1_closed).bind fun xs6 => forK (fun x_mask (st6 : (List ((Nat × Nat) × List (Nat)))) k6 => ((op2 (fun x y => some (x, y)) (op2 fAnd (some x_mask) (some x_middle)) (op3 m_span_of (some x_closer) (some x_mask) (some x_middle))).bind fun k9 => (some x_mask).bind fun z9 => (fAddP st6 k9 z9).bind fun x9_known => (k6 (x9_known)))) (fun (st6 : (List ((Nat × Nat) × List (Nat)))) => (((some st6).bind fun ms => some (ms.map Prod.snd)).bind fun xs11 => forK (fun x_some (st11 : Unit) k11 => ((some x_some).bind fun xs14 => forK (fun x_low (st14 : Unit) k14 => ((((some x_some)).bind fun xs => compM (fun x_each => (andO (op2 (fun x y => some (!Nat.beq x y)) (some x_each) (some x_low)) (op2 m_is_inside (some x_low) (some x_each)))) (fun x_each => (some x_each)) xs).bind fun x17_above => ((op2 (fun x y => some (!eqL Nat.beq x y)) (some x17_above) (some [])).bind fun b19 => bif b19 then none else (k14 ())))) (fun (st14 : Unit) => (k11 ())) xs14 ())) (fun (st11 : Unit) => (k2 ())) xs11 ())) xs6 ([]))) (fun (st2 : Unit) => (some none)) rem st2 = some r) ?_ ?_ ?_ ?_ PassesOwn.never rfl (pg_name (i := 2) sc_pentagon_masks.nd rfl (by first | exact Or.inl rfl | exact Or.inr rfl))
    · intro Ba Ha ga
      exact ⟨Ba, none, none, none, none, none, none, (), rfl, G1.trans ga, Ex.refl _, I1.go ga, hm⟩
    · intro B1 rem σ1 H1 ⟨Bp, y_known, y_mask, y_some, y_low, y_above, y_middle, st2, _, _, e1, I1, _⟩
      exact ⟨e1.trans I1.ex, fun _ hp => nomatch hp⟩
    · intro B1 x_middle rem v_middle σ1 H1 e1 r_middle ⟨B3, y_known, y_mask, y_some, y_low, y_above, y_middle, st2, hσ, G3, eL2, I3, hm⟩
      subst hσ
      have r_middle := tN.mono eL2 r_middle
      obtain ⟨k2, hk2, hm⟩ := forK_step hm
      have r_closer := (tCl cw C).mono (e1.trans eL2) r_closer
      have r1_closed := (tL tN).mono (e1.trans eL2) r1_closed
      refine ss_newG 3 I3 (fun l_known hl_known => ?_) sc_pentagon_masks.nd
      have h0_known := G3.eh.free hl_known
      have G5 := G3.new (u := .dT []) hl_known
      have I5 : In _ (ownG l_known []) _ := In.one (o := .dT []) I3.ex hl_known
      have rp_known : RG tN B3 H0 [] [] := RG.nil
      obtain ⟨xs6, hx6, hm⟩ := bind_some hm
      refine ss_for 4 hx6 (iv_L (es_of (ev_var 1 r1_closed))) I5.nil (fun Bq rem σq Hq => ∃ (Bp : Hp) (vs_known : List Grp) (y_mask : Option V) (st6 : (List ((Nat × Nat) × List (Nat)))), σq = [some v_closer, some v1_closed, some v_middle, some (.ref l_known), y_mask, y_some, y_low, y_above, none] ∧ Go B0 H0 Bp Hq ∧ Ex Bq Bp ∧ In Bp (ownG l_known vs_known) Hq ∧ RG tN Bp H0 vs_known st6 ∧ forK (fun x_mask (st6 : (List ((Nat × Nat) × List (Nat)))) k6 => ((op2 (fun x y => some (x, y)) (op2 fAnd (some x_mask) (some x_middle)) (op3 m_span_of (some x_closer) (some x_mask) (some x_middle))).bind fun k9 => (some x_mask).bind fun z9 => (fAddP st6 k9 z9).bind fun x9_known => (k6 (x9_known)))) (fun (st6 : (List ((Nat × Nat) × List (Nat)))) => (((some st6).bind fun ms => some (ms.map Prod.snd)).bind fun xs11 => forK (fun x_some (st11 : Unit) k11 => ((some x_some).bind fun xs14 => forK (fun x_low (st14 : Unit) k14 => ((((some x_some)).bind fun xs => compM (fun x_each => (andO (op2 (fun x y => some (!Nat.beq x y)) (some x_each) (some x_low)) (op2 m_is_inside (some x_low) (some x_each)))) (fun x_each => (some x_each)) xs).bind fun x17_above => ((op2 (fun x y => some (!eqL Nat.beq x y)) (some x17_above) (some [])).bind fun b19 => bif b19 then none else (k14 ())))) (fun (st14 : Unit) => (k11 ())) xs14 ())) (fun (st11 : Unit) => (k2 ())) xs11 ())) rem st6 = some r) ?_ ?_ ?_ ?_ PassesOwn.never rfl (pg_name (i := 4) sc_pentagon_masks.nd rfl (by first | exact Or.inl rfl | exact Or.inr rfl))
      · intro Ba Ha ga
        exact ⟨Ba, [], y_mask, ([]), rfl, G5.trans ga, Ex.refl _, I5.go ga, (rp_known.mono ga.eb), hm⟩
      · intro B1 rem σ1 H1 ⟨Bp, vs_known, y_mask, st6, _, _, e1, I1, _⟩
        exact ⟨e1.trans I1.ex, fun _ hp => nomatch hp⟩
      · intro B1 x_mask rem v_mask σ1 H1 e1 r_mask ⟨B7, vs_known, y_mask, st6, hσ, G7, eL6, I7, rp_known, hm⟩
        subst hσ
        have r_mask := tN.mono eL6 r_mask
        obtain ⟨k6, hk6, hm⟩ := forK_step hm
        have r_closer := (tCl cw C).mono (e1.trans eL6) r_closer
        have r1_closed := (tL tN).mono (e1.trans eL6) r1_closed
        have r_middle := tN.mono (e1.trans eL6) r_middle
        have eL2 := eL2.trans (e1.trans eL6)
        obtain ⟨k9, hk9, hm⟩ := bind_some hm
        obtain ⟨z9, hz9, hm⟩ := bind_some hm
        obtain ⟨x9_known, hy9, hm⟩ := bind_some hm
        refine ss_addG 3 (u64 hr) hz9 hk9 hy9 (ev_pair (ev_and (ev_var 4 r_mask) (ev_var 2 r_middle)) (ev_call3 c_span_of (hr.mono (by decide)) (ev_var 0 r_closer) (ev_var 4 r_mask) (ev_var 2 r_middle))) (ev_var 4 r_mask) I7 G7 rp_known (fun B9 H9 gs9 G9 eb9 I9 rp_known => ?_) h0_known
        have r_closer := (tCl cw C).mono eb9 r_closer
        have r1_closed := (tL tN).mono eb9 r1_closed
        have r_middle := tN.mono eb9 r_middle
        have r_mask := tN.mono eb9 r_mask
        have eL2 := eL2.trans eb9
        have eL6 := eL6.trans eb9
        rw [hk6] at hm
        exact ss_nil ⟨B9, gs9, some v_mask, (x9_known), rfl, G9, eL6, I9, rp_known, hm⟩
      · intro B1 σ1 H1 e1 ⟨B8, vs_known, y_mask, st6, hσ, G8, ep, I8, rp_known, hm⟩
        subst hσ
        have hm := forK_end hm
        have r_closer := (tCl cw C).mono (e1.trans ep) r_closer
        have r1_closed := (tL tN).mono (e1.trans ep) r1_closed
        have r_middle := tN.mono (e1.trans ep) r_middle
        have eL2 := eL2.trans (e1.trans ep)
        refine frzG G8 eB h0_known I8 rp_known (fun B10 H10 G10 I10 e10 r_known => ?_)
        have r_closer := (tCl cw C).mono e10 r_closer
        have r1_closed := (tL tN).mono e10 r1_closed
        have r_middle := tN.mono e10 r_middle
        have eL2 := eL2.trans e10
        obtain ⟨xs11, hx11, hm⟩ := bind_some hm
        refine ss_for 5 hx11 (iv_valuesG (ev_var 3 r_known)) I10.nil (fun Bq rem σq Hq => ∃ (Bp : Hp) (y_low : Option V) (y_above : Option V) (y_some : Option V) (st11 : Unit), σq = [some v_closer, some v1_closed, some v_middle, some (.ref l_known), y_mask, y_some, y_low, y_above, none] ∧ Go B0 H0 Bp Hq ∧ Ex Bq Bp ∧ In Bp [] Hq ∧ forK (fun x_some (st11 : Unit) k11 => ((some x_some).bind fun xs14 => forK (fun x_low (st14 : Unit) k14 => ((((some x_some)).bind fun xs => compM (fun x_each => (andO (op2 (fun x y => some (!Nat.beq x y)) (some x_each) (some x_low)) (op2 m_is_inside (some x_low) (some x_each)))) (fun x_each => (some x_each)) xs).bind fun x17_above => ((op2 (fun x y => some (!eqL Nat.beq x y)) (some x17_above) (some [])).bind fun b19 => bif b19 then none else (k14 ())))) (fun (st14 : Unit) => (k11 ())) xs14 ())) (fun (st11 : Unit) => (k2 ())) rem st11 = some r) ?_ ?_ ?_ ?_ PassesOwn.never rfl (pg_name (i := 5) sc_pentagon_masks.nd rfl (by first | exact Or.inl rfl | exact Or.inr rfl))
        · intro Ba Ha ga
          exact ⟨Ba, y_low, y_above, y_some, (), rfl, G10.trans ga, Ex.refl _, I10.go ga, hm⟩
        · intro B1 rem σ1 H1 ⟨Bp, y_low, y_above, y_some, st11, _, _, e1, I1, _⟩
          exact ⟨e1.trans I1.ex, fun _ hp => nomatch hp⟩
        · intro B1 x_some rem v_some σ1 H1 e1 r_some ⟨B12, y_low, y_above, y_some, st11, hσ, G12, eL11, I12, hm⟩
          subst hσ
          have r_some := (tL tN).mono eL11 r_some
          obtain ⟨k11, hk11, hm⟩ := forK_step hm
          have r_closer := (tCl cw C).mono (e1.trans eL11) r_closer
          have r1_closed := (tL tN).mono (e1.trans eL11) r1_closed
          have r_middle := tN.mono (e1.trans eL11) r_middle
          have r_known := (tG tN).mono (e1.trans eL11) r_known
          have eL2 := eL2.trans (e1.trans eL11)
          obtain ⟨xs14, hx14, hm⟩ := bind_some hm
          refine ss_for 6 hx14 (iv_L (es_of (ev_var 5 r_some))) I12.nil (fun Bq rem σq Hq => ∃ (Bp : Hp) (y_above : Option V) (y_low : Option V) (st14 : Unit), σq = [some v_closer, some v1_closed, some v_middle, some (.ref l_known), y_mask, some v_some, y_low, y_above, none] ∧ Go B0 H0 Bp Hq ∧ Ex Bq Bp ∧ In Bp [] Hq ∧ forK (fun x_low (st14 : Unit) k14 => ((((some x_some)).bind fun xs => compM (fun x_each => (andO (op2 (fun x y => some (!Nat.beq x y)) (some x_each) (some x_low)) (op2 m_is_inside (some x_low) (some x_each)))) (fun x_each => (some x_each)) xs).bind fun x17_above => ((op2 (fun x y => some (!eqL Nat.beq x y)) (some x17_above) (some [])).bind fun b19 => bif b19 then none else (k14 ())))) (fun (st14 : Unit) => (k11 ())) rem st14 = some r) ?_ ?_ ?_ ?_ PassesOwn.never rfl (pg_name (i := 6) sc_pentagon_masks.nd rfl (by first | exact Or.inl rfl | exact Or.inr rfl))
          · intro Ba Ha ga
            exact ⟨Ba, y_above, y_low, (), rfl, G12.trans ga, Ex.refl _, I12.go ga, hm⟩
          · intro B1 rem σ1 H1 ⟨Bp, y_above, y_low, st14, _, _, e1, I1, _⟩
            exact ⟨e1.trans I1.ex, fun _ hp => nomatch hp⟩
          · intro B1 x_low rem v_low σ1 H1 e1 r_low ⟨B15, y_above, y_low, st14, hσ, G15, eL14, I15, hm⟩
            subst hσ
            have r_low := tN.mono eL14 r_low
            obtain ⟨k14, hk14, hm⟩ := forK_step hm
            have r_closer := (tCl cw C).mono (e1.trans eL14) r_closer
            have r1_closed := (tL tN).mono (e1.trans eL14) r1_closed
            have r_middle := tN.mono (e1.trans eL14) r_middle
            have r_known := (tG tN).mono (e1.trans eL14) r_known
            have r_some := (tL tN).mono (e1.trans eL14) r_some
            have eL2 := eL2.trans (e1.trans eL14)
            have eL11 := eL11.trans (e1.trans eL14)
            obtain ⟨x17_above, h17, hm⟩ := bind_some hm
            refine ss_setLc 7 (x := "each") _ _ h17 rfl sc_pentagon_masks.nd (blkOk_by (by kernel_rfl)) (iv_L (es_of (ev_var 5 r_some))) (fun _ _ _ _ _ => pg_name (i := 8) sc_pentagon_masks.nd rfl (by first | exact Or.inl rfl | exact Or.inr rfl)) (fun x_each v_each B18 e18 r_each => by have r_low := tN.mono e18 r_low; exact fun _ _ _ _ _ => (tv_w (wv_and ((ev_neN (ev_var 8 r_each) (ev_var 6 r_low))).2 (wv_and1 (tv_of (ev_call2 c_is_inside (hr.mono (by decide)) (ev_var 6 r_low) (ev_var 8 r_each))))))) (fun x_each v_each B18 e18 r_each _ => by have r_low := tN.mono e18 r_low; exact fun _ _ _ _ _ => (ev_var 8 r_each)) I15 (fun v17_above B17 H17 g17 r17_above => ?_)
            have r_closer := (tCl cw C).mono g17.eb r_closer
            have r1_closed := (tL tN).mono g17.eb r1_closed
            have r_middle := tN.mono g17.eb r_middle
            have r_known := (tG tN).mono g17.eb r_known
            have r_some := (tL tN).mono g17.eb r_some
            have r_low := tN.mono g17.eb r_low
            have eL2 := eL2.trans g17.eb
            have eL11 := eL11.trans g17.eb
            have eL14 := eL14.trans g17.eb
            have I17 := I15.go g17
            have G17 := G15.trans g17
            obtain ⟨b19, hb19, hm⟩ := bind_some hm
            refine ss_if hb19 ((cv_neL datN (u64 hr) (es_of (ev_var 7 r17_above)) (es_of (T := tN) ev_list0))).2 I17 (fun hz B19 H19 g19 => ?_) (fun hz B19 H19 g19 => ?_)
            · replace hm := ifT hz hm
              have r_closer := (tCl cw C).mono g19.eb r_closer
              have r1_closed := (tL tN).mono g19.eb r1_closed
              have r_middle := tN.mono g19.eb r_middle
              have r_known := (tG tN).mono g19.eb r_known
              have r_some := (tL tN).mono g19.eb r_some
              have r_low := tN.mono g19.eb r_low
              have r17_above := (tL tN).mono g19.eb r17_above
              have eL2 := eL2.trans g19.eb
              have eL11 := eL11.trans g19.eb
              have eL14 := eL14.trans g19.eb
              have I19 := I17.go g19
              have G19 := G17.trans g19
              exact absurd hm (by intro z; cases z)
            · replace hm := ifF hz hm
              have r_closer := (tCl cw C).mono g19.eb r_closer
              have r1_closed := (tL tN).mono g19.eb r1_closed
              have r_middle := tN.mono g19.eb r_middle
              have r_known := (tG tN).mono g19.eb r_known
              have r_some := (tL tN).mono g19.eb r_some
              have r_low := tN.mono g19.eb r_low
              have r17_above := (tL tN).mono g19.eb r17_above
              have eL2 := eL2.trans g19.eb
              have eL11 := eL11.trans g19.eb
              have eL14 := eL14.trans g19.eb
              have I19 := I17.go g19
              have G19 := G17.trans g19
              refine ss_nil ?_
              rw [hk14] at hm
              exact ss_nil ⟨B19, some v17_above, some v_low, (), rfl, G19, eL14, I19, hm⟩
          · intro B1 σ1 H1 e1 ⟨B16, y_above, y_low, st14, hσ, G16, ep, I16, hm⟩
            subst hσ
            have hm := forK_end hm
            have r_closer := (tCl cw C).mono (e1.trans ep) r_closer
            have r1_closed := (tL tN).mono (e1.trans ep) r1_closed
            have r_middle := tN.mono (e1.trans ep) r_middle
            have r_known := (tG tN).mono (e1.trans ep) r_known
            have r_some := (tL tN).mono (e1.trans ep) r_some
            have eL2 := eL2.trans (e1.trans ep)
            have eL11 := eL11.trans (e1.trans ep)
            rw [hk11] at hm
            exact ss_nil ⟨B16, y_low, y_above, some v_some, (), rfl, G16, eL11, I16, hm⟩
        · intro B1 σ1 H1 e1 ⟨B13, y_low, y_above, y_some, st11, hσ, G13, ep, I13, hm⟩
          subst hσ
          have hm := forK_end hm
          have r_closer := (tCl cw C).mono (e1.trans ep) r_closer
          have r1_closed := (tL tN).mono (e1.trans ep) r1_closed
          have r_middle := tN.mono (e1.trans ep) r_middle
          have r_known := (tG tN).mono (e1.trans ep) r_known
          have eL2 := eL2.trans (e1.trans ep)
          rw [hk2] at hm
          exact ss_nil ⟨B13, some (.ref l_known), y_mask, y_some, y_low, y_above, some v_middle, (), rfl, G13, eL2, I13, hm⟩
    · intro B1 σ1 H1 e1 ⟨B4, y_known, y_mask, y_some, y_low, y_above, y_middle, st2, hσ, G4, ep, I4, hm⟩
      subst hσ
      have hm := forK_end hm
      have r_closer := (tCl cw C).mono (e1.trans ep) r_closer
      have r1_closed := (tL tN).mono (e1.trans ep) r1_closed
      exact ss_ret hm ev_noneO I4 fun v9 B9 H9 g9 r9 => q v9 B9 H9 (G4.trans g9) r9

theorem sc_diamond_lots : FnScope ["closer", "things", "some", "i", "known", "j", "mark", "lot", "mask"] ["closer"] (defScope (topS 56)) := ⟨rfl, rfl, rfl, by decide +kernel, rfl, by decide +kernel, by decide +kernel⟩
def m_diamond_lots (x_closer : Clo) : Option (Option (Unit)) :=
  ((((some x_closer)).bind fun c => some c.things).bind fun x1_things => ((((((some x_closer)).bind fun c => some c.closed)).bind fun xs => compM (fun x_lot => (some true)) (fun x_lot => (op2 (fun x y => some (x, y)) (some x_lot) (op2 m_mask_of (some x1_things) (some x_lot)))) xs).bind fun x2_some => ((((((some x2_some)).bind fun l => some l.length)).bind rng1).bind fun xs4 => forK (fun x_i (st4 : Unit) k4 => ((op2 rng2 (op2 fAdd (some x_i) (some 1)) (((some x2_some)).bind fun l => some l.length)).bind fun xs8 => forK (fun x_j (st8 : (List ((Nat × Nat) × List ((List Nat) × (Nat))))) k8 => ((op2 (fun x y => some (x, y)) (op2 fAnd (((op2 (fun xs i => xs[i]?) (some x2_some) (some x_i))).bind fun x => some x.2) (((op2 (fun xs i => xs[i]?) (some x2_some) (some x_j))).bind fun x => some x.2)) (op3 m_span_of (some x_closer) (((op2 (fun xs i => xs[i]?) (some x2_some) (some x_i))).bind fun x => some x.2) (((op2 (fun xs i => xs[i]?) (some x2_some) (some x_j))).bind fun x => some x.2))).bind fun x11_mark => (((some x11_mark).bind fun k => some ((gP st8 k).getD [])).bind fun xs12 => forK (fun p_lot (st12 : Unit) k12 => ((op2 (fun x y => some (eqK x y)) (op2 (fun x y => some (x, y)) (op2 fAnd (some p_lot.2) (((op2 (fun xs i => xs[i]?) (some x2_some) (some x_j))).bind fun x => some x.2)) (op3 m_span_of (some x_closer) (some p_lot.2) (((op2 (fun xs i => xs[i]?) (some x2_some) (some x_j))).bind fun x => some x.2))) (some x11_mark)).bind fun b15 => bif b15 then none else (k12 ()))) (fun (st12 : Unit) => ((some x11_mark).bind fun k16 => (op2 (fun xs i => xs[i]?) (some x2_some) (some x_j)).bind fun z16 => (fAddP st8 k16 z16).bind fun x16_known => (k8 (x16_known)))) xs12 ()))) (fun (st8 : (List ((Nat × Nat) × List ((List Nat) × (Nat))))) => (k4 ())) xs8 ([]))) (fun (st4 : Unit) => (some none)) xs4 ())))
abbrev K_diamond_lots (P : Program) (w : World) (K : PySem.W.Frag) (mg : Str → Option Value) (base : Heap) (cw : Crew) (C : Addr) : Prop := Cal P w K mg base "diamond_lots" 3 ["closer"] (Sp1 (tCl cw C) (tO tU) m_diamond_lots)
theorem cal_diamond_lots (d : Df K mg "diamond_lots" (topS 56) ["closer"]) (bt : Bt mg) (cf : ClF P w K mg base C) (c_mask_of : K_mask_of P w K mg base cw C) (c_span_of : K_span_of P w K mg base cw C) : K_diamond_lots P w K mg base cw C := by
  obtain ⟨f, fd, F, mgf, bi⟩ := d.ex
  refine ⟨⟨f, fd, ?_, mgf, F.kp, bi⟩⟩
  refine F.ok sc_diamond_lots (fun vs H Q E h => ?_) (fun cdv A outer s H0 vs Q E hr h => ⟨wSs _ _, p_ss, ?_⟩)
  · obtain ⟨v_closer, x_closer, B, r, rfl, _⟩ := h
    rfl
  · obtain ⟨v_closer, x_closer, B0, r, rfl, r_closer, eB, hm, q⟩ := h
    have I0 : In B0 [] H0 := ⟨eB, fun _ hp => nomatch hp⟩
    have G0 : Go B0 H0 B0 H0 := Go.refl eB
    obtain ⟨x1_things, h1, hm⟩ := bind_some hm
    refine ss_set 1 h1 (ev_things cf (hr.mono (by decide)) (ev_var 0 r_closer)) I0 (fun v1_things B1 H1 g1 r1_things => ?_) sc_diamond_lots.nd
    have r_closer := (tCl cw C).mono g1.eb r_closer
    have I1 := I0.go g1
    have G1 := G0.trans g1
    obtain ⟨x2_some, h2, hm⟩ := bind_some hm
    refine ss_setLc 2 (x := "lot") _ _ h2 rfl sc_diamond_lots.nd (blkOk_by (by kernel_rfl)) (iv_T (ev_closed cf (hr.mono (by decide)) (ev_var 0 r_closer))) (fun _ _ _ _ _ => pg_name (i := 7) sc_diamond_lots.nd rfl (by first | exact Or.inl rfl | exact Or.inr rfl)) (fun x_lot v_lot B3 e3 r_lot => rfl) (fun x_lot v_lot B3 e3 r_lot _ => by have r1_things := (tS cw).mono e3 r1_things; exact fun _ _ _ _ _ => (ev_pair (ev_var 7 r_lot) (ev_call2 c_mask_of (hr.mono (by decide)) (ev_var 1 r1_things) (ev_var 7 r_lot)))) I1 (fun v2_some B2 H2 g2 r2_some => ?_)
    have r_closer := (tCl cw C).mono g2.eb r_closer
    have r1_things := (tS cw).mono g2.eb r1_things
    have I2 := I1.go g2
    have G2 := G1.trans g2
    obtain ⟨xs4, hx4, hm⟩ := bind_some hm
    refine ss_for 3 hx4 (iv_rng1 bt (ev_lenL bt (es_of (ev_var 2 r2_some)))) I2.nil (fun Bq rem σq Hq => ∃ (Bp : Hp) (y_known : Option V) (y_j : Option V) (y_mark : Option V) (y_lot : Option V) (y_mask : Option V) (y_i : Option V) (st4 : Unit), σq = [some v_closer, some v1_things, some v2_some, y_i, y_known, y_j, y_mark, y_lot, y_mask] ∧ Go B0 H0 Bp Hq ∧ Ex Bq Bp ∧ In Bp [] Hq ∧ forK (fun x_i (st4 : Unit) k4 => ((op2 rng2 (op2 fAdd (some x_i) (some 1)) (((some x2_some)).bind fun l => some l.length)).bind fun xs8 => forK (fun x_j (st8 : (List ((Nat × Nat) × List ((List Nat) × (Nat))))) k8 => ((op2 (fun x y => some (x, y)) (op2 fAnd (((op2 (fun xs i => xs[i]?) (some x2_some) (some x_i))).bind fun x => some x.2) (((op2 (fun xs i => xs[i]?) (some x2_some) (some x_j))).bind fun x => some x.2)) (op3 m_span_of (some x_closer) (((op2 (fun xs i => xs[i]?) (some x2_some) (some x_i))).bind fun x => some x.2) (((op2 (fun xs i => xs[i]?) (some x2_some) (some x_j))).bind fun x => some x.2))).bind fun x11_mark => (((some x11_mark).bind fun k => some ((gP st8 k).getD [])).bind fun xs12 => forK (fun p_lot (st12 : Unit) k12 => ((op2 (fun x y => some (eqK x y)) (op2 (fun x y => some (x, y)) (op2 fAnd (some p_lot.2) (((op2 (fun xs i => xs[i]?) (some x2_some) (some x_j))).bind fun x => some x.2)) (op3 m_span_of (some x_closer) (some p_lot.2) (((op2 (fun xs i => xs[i]?) (some x2_some) (some x_j))).bind fun x => some x.2))) (some x11_mark)).bind fun b15 => bif b15 then none else (k12 ()))) (fun (st12 : Unit) => ((some x11_mark).bind fun k16 => (op2 (fun xs i => xs[i]?) (some x2_some) (some x_j)).bind fun z16 => (fAddP st8 k16 z16).bind fun x16_known => (k8 (x16_known)))) xs12 ()))) (fun (st8 : (List ((Nat × Nat) × List ((List Nat) × (Nat))))) => (k4 ())) xs8 ([]))) (fun (st4 : Unit) => (some none)) rem st4 = some r) ?_ ?_ ?_ ?_ PassesOwn.never rfl (pg_name (i := 3) sc_diamond_lots.nd rfl (by first | exact Or.inl rfl | exact Or.inr rfl))
    · intro Ba Ha ga
      exact ⟨Ba, none, none, none, none, none, none, (), rfl, G2.trans ga, Ex.refl _, I2.go ga, hm⟩
    · intro B1 rem σ1 H1 ⟨Bp, y_known, y_j, y_mark, y_lot, y_mask, y_i, st4, _, _, e1, I1, _⟩
      exact ⟨e1.trans I1.ex, fun _ hp => nomatch hp⟩
    · intro B1 x_i rem v_i σ1 H1 e1 r_i ⟨B5, y_known, y_j, y_mark, y_lot, y_mask, y_i, st4, hσ, G5, eL4, I5, hm⟩
      subst hσ
      have r_i := tN.mono eL4 r_i
      obtain ⟨k4, hk4, hm⟩ := forK_step hm
      have r_closer := (tCl cw C).mono (e1.trans eL4) r_closer
      have r1_things := (tS cw).mono (e1.trans eL4) r1_things
      have r2_some := (tL (tP (tS cw) tN)).mono (e1.trans eL4) r2_some
      refine ss_newG 4 I5 (fun l_known hl_known => ?_) sc_diamond_lots.nd
      have h0_known := G5.eh.free hl_known
      have G7 := G5.new (u := .dT []) hl_known
      have I7 : In _ (ownG l_known []) _ := In.one (o := .dT []) I5.ex hl_known
      have rp_known : RG (tP (tS cw) tN) B5 H0 [] [] := RG.nil
      obtain ⟨xs8, hx8, hm⟩ := bind_some hm
      refine ss_for 5 hx8 (iv_rng2 bt (ev_add (ev_var 3 r_i) ev_int) (ev_lenL bt (es_of (ev_var 2 r2_some)))) I7.nil (fun Bq rem σq Hq => ∃ (Bp : Hp) (vs_known : List Grp) (y_mark : Option V) (y_lot : Option V) (y_mask : Option V) (y_j : Option V) (st8 : (List ((Nat × Nat) × List ((List Nat) × (Nat))))), σq = [some v_closer, some v1_things, some v2_some, some v_i, some (.ref l_known), y_j, y_mark, y_lot, y_mask] ∧ Go B0 H0 Bp Hq ∧ Ex Bq Bp ∧ In Bp (ownG l_known vs_known) Hq ∧ RG (tP (tS cw) tN) Bp H0 vs_known st8 ∧ forK (fun x_j (st8 : (List ((Nat × Nat) × List ((List Nat) × (Nat))))) k8 => ((op2 (fun x y => some (x, y)) (op2 fAnd (((op2 (fun xs i => xs[i]?) (some x2_some) (some x_i))).bind fun x => some x.2) (((op2 (fun xs i => xs[i]?) (some x2_some) (some x_j))).bind fun x => some x.2)) (op3 m_span_of (some x_closer) (((op2 (fun xs i => xs[i]?) (some x2_some) (some x_i))).bind fun x => some x.2) (((op2 (fun xs i => xs[i]?) (some x2_some) (some x_j))).bind fun x => some x.2))).bind fun x11_mark => (((some x11_mark).bind fun k => some ((gP st8 k).getD [])).bind fun xs12 => forK (fun p_lot (st12 : Unit) k12 => ((op2 (fun x y => some (eqK x y)) (op2 (fun x y => some (x, y)) (op2 fAnd (some p_lot.2) (((op2 (fun xs i => xs[i]?) (some x2_some) (some x_j))).bind fun x => some x.2)) (op3 m_span_of (some x_closer) (some p_lot.2) (((op2 (fun xs i => xs[i]?) (some x2_some) (some x_j))).bind fun x => some x.2))) (some x11_mark)).bind fun b15 => bif b15 then none else (k12 ()))) (fun (st12 : Unit) => ((some x11_mark).bind fun k16 => (op2 (fun xs i => xs[i]?) (some x2_some) (some x_j)).bind fun z16 => (fAddP st8 k16 z16).bind fun x16_known => (k8 (x16_known)))) xs12 ()))) (fun (st8 : (List ((Nat × Nat) × List ((List Nat) × (Nat))))) => (k4 ())) rem st8 = some r) ?_ ?_ ?_ ?_ PassesOwn.never rfl (pg_name (i := 5) sc_diamond_lots.nd rfl (by first | exact Or.inl rfl | exact Or.inr rfl))
      · intro Ba Ha ga
        exact ⟨Ba, [], y_mark, y_lot, y_mask, y_j, ([]), rfl, G7.trans ga, Ex.refl _, I7.go ga, (rp_known.mono ga.eb), hm⟩
      · intro B1 rem σ1 H1 ⟨Bp, vs_known, y_mark, y_lot, y_mask, y_j, st8, _, _, e1, I1, _⟩
        exact ⟨e1.trans I1.ex, fun _ hp => nomatch hp⟩
      · intro B1 x_j rem v_j σ1 H1 e1 r_j ⟨B9, vs_known, y_mark, y_lot, y_mask, y_j, st8, hσ, G9, eL8, I9, rp_known, hm⟩
        subst hσ
        have r_j := tN.mono eL8 r_j
        obtain ⟨k8, hk8, hm⟩ := forK_step hm
        have r_closer := (tCl cw C).mono (e1.trans eL8) r_closer
        have r1_things := (tS cw).mono (e1.trans eL8) r1_things
        have r2_some := (tL (tP (tS cw) tN)).mono (e1.trans eL8) r2_some
        have r_i := tN.mono (e1.trans eL8) r_i
        have eL4 := eL4.trans (e1.trans eL8)
        obtain ⟨x11_mark, h11, hm⟩ := bind_some hm
        refine ss_set 6 h11 (ev_pair (ev_and (ev_snd (ev_ixL (es_of (ev_var 2 r2_some)) (ev_var 3 r_i))) (ev_snd (ev_ixL (es_of (ev_var 2 r2_some)) (ev_var 5 r_j)))) (ev_call3 c_span_of (hr.mono (by decide)) (ev_var 0 r_closer) (ev_snd (ev_ixL (es_of (ev_var 2 r2_some)) (ev_var 3 r_i))) (ev_snd (ev_ixL (es_of (ev_var 2 r2_some)) (ev_var 5 r_j))))) I9 (fun v11_mark B11 H11 g11 r11_mark => ?_) sc_diamond_lots.nd
        have r_closer := (tCl cw C).mono g11.eb r_closer
        have r1_things := (tS cw).mono g11.eb r1_things
        have r2_some := (tL (tP (tS cw) tN)).mono g11.eb r2_some
        have r_i := tN.mono g11.eb r_i
        have rp_known := rp_known.mono g11.eb
        have r_j := tN.mono g11.eb r_j
        have eL4 := eL4.trans g11.eb
        have eL8 := eL8.trans g11.eb
        have I11 := I9.go g11
        have G11 := G9.trans g11
        obtain ⟨xs12, hx12, hm⟩ := bind_some hm
        refine ss_forP 7 8 hx12 (iv_L (es_getG 4 (u64 hr) (ev_var 6 r11_mark) rp_known)) I11 (fun Bq rem σq Hq => ∃ (Bp : Hp) (y_lot : Option V) (y_mask : Option V) (st12 : Unit), σq = [some v_closer, some v1_things, some v2_some, some v_i, some (.ref l_known), some v_j, some v11_mark, y_lot, y_mask] ∧ Go B0 H0 Bp Hq ∧ Ex Bq Bp ∧ In Bp (ownG l_known vs_known) Hq ∧ RG (tP (tS cw) tN) Bp H0 vs_known st8 ∧ forK (fun p_lot (st12 : Unit) k12 => ((op2 (fun x y => some (eqK x y)) (op2 (fun x y => some (x, y)) (op2 fAnd (some p_lot.2) (((op2 (fun xs i => xs[i]?) (some x2_some) (some x_j))).bind fun x => some x.2)) (op3 m_span_of (some x_closer) (some p_lot.2) (((op2 (fun xs i => xs[i]?) (some x2_some) (some x_j))).bind fun x => some x.2))) (some x11_mark)).bind fun b15 => bif b15 then none else (k12 ()))) (fun (st12 : Unit) => ((some x11_mark).bind fun k16 => (op2 (fun xs i => xs[i]?) (some x2_some) (some x_j)).bind fun z16 => (fAddP st8 k16 z16).bind fun x16_known => (k8 (x16_known)))) rem st12 = some r) ?_ ?_ ?_ ?_ PassesOwn.never rfl (pg_tup rfl (pgs_cons (pg_name (i := 7) sc_diamond_lots.nd rfl (by first | exact Or.inl rfl | exact Or.inr rfl)) (pgs_cons (pg_name (i := 8) sc_diamond_lots.nd rfl (by first | exact Or.inl rfl | exact Or.inr rfl)) pgs_nil)) rfl rfl)
        · intro Ba Ha ga
          exact ⟨Ba, y_lot, y_mask, (), rfl, G11.trans ga, Ex.refl _, I11.go ga, (rp_known.mono ga.eb), hm⟩
        · intro B1 rem σ1 H1 ⟨Bp, y_lot, y_mask, st12, _, _, e1, I1, _⟩
          exact ⟨e1.trans I1.ex, fun p hp => (I1.ow p hp).1⟩
        · intro B1 p_lot rem v_lot v_mask σ1 H1 e1 r_lot r_mask ⟨B13, y_lot, y_mask, st12, hσ, G13, eL12, I13, rp_known, hm⟩
          subst hσ
          have r_lot := (tS cw).mono eL12 r_lot
          have r_mask := tN.mono eL12 r_mask
          obtain ⟨k12, hk12, hm⟩ := forK_step hm
          have r_closer := (tCl cw C).mono (e1.trans eL12) r_closer
          have r1_things := (tS cw).mono (e1.trans eL12) r1_things
          have r2_some := (tL (tP (tS cw) tN)).mono (e1.trans eL12) r2_some
          have r_i := tN.mono (e1.trans eL12) r_i
          have r_j := tN.mono (e1.trans eL12) r_j
          have r11_mark := (tP tN tN).mono (e1.trans eL12) r11_mark
          have eL4 := eL4.trans (e1.trans eL12)
          have eL8 := eL8.trans (e1.trans eL12)
          obtain ⟨b15, hb15, hm⟩ := bind_some hm
          refine ss_if hb15 ((cv_eqP (u64 hr) (ev_pair (ev_and (ev_var 8 r_mask) (ev_snd (ev_ixL (es_of (ev_var 2 r2_some)) (ev_var 5 r_j)))) (ev_call3 c_span_of (hr.mono (by decide)) (ev_var 0 r_closer) (ev_var 8 r_mask) (ev_snd (ev_ixL (es_of (ev_var 2 r2_some)) (ev_var 5 r_j))))) (ev_var 6 r11_mark))).2 I13 (fun hz B15 H15 g15 => ?_) (fun hz B15 H15 g15 => ?_)
          · replace hm := ifT hz hm
            have r_closer := (tCl cw C).mono g15.eb r_closer
            have r1_things := (tS cw).mono g15.eb r1_things
            have r2_some := (tL (tP (tS cw) tN)).mono g15.eb r2_some
            have r_i := tN.mono g15.eb r_i
            have rp_known := rp_known.mono g15.eb
            have r_j := tN.mono g15.eb r_j
            have r11_mark := (tP tN tN).mono g15.eb r11_mark
            have r_lot := (tS cw).mono g15.eb r_lot
            have r_mask := tN.mono g15.eb r_mask
            have eL4 := eL4.trans g15.eb
            have eL8 := eL8.trans g15.eb
            have eL12 := eL12.trans g15.eb
            have I15 := I13.go g15
            have G15 := G13.trans g15
            exact absurd hm (by intro z; cases z)
          · replace hm := ifF hz hm
            have r_closer := (tCl cw C).mono g15.eb r_closer
            have r1_things := (tS cw).mono g15.eb r1_things
            have r2_some := (tL (tP (tS cw) tN)).mono g15.eb r2_some
            have r_i := tN.mono g15.eb r_i
            have rp_known := rp_known.mono g15.eb
            have r_j := tN.mono g15.eb r_j
            have r11_mark := (tP tN tN).mono g15.eb r11_mark
            have r_lot := (tS cw).mono g15.eb r_lot
            have r_mask := tN.mono g15.eb r_mask
            have eL4 := eL4.trans g15.eb
            have eL8 := eL8.trans g15.eb
            have eL12 := eL12.trans g15.eb
            have I15 := I13.go g15
            have G15 := G13.trans g15
            refine ss_nil ?_
            rw [hk12] at hm
            exact ss_nil ⟨B15, some v_lot, some v_mask, (), rfl, G15, eL12, I15, rp_known, hm⟩
        · intro B1 σ1 H1 e1 ⟨B14, y_lot, y_mask, st12, hσ, G14, ep, I14, rp_known, hm⟩
          subst hσ
          have hm := forK_end hm
          have r_closer := (tCl cw C).mono (e1.trans ep) r_closer
          have r1_things := (tS cw).mono (e1.trans ep) r1_things
          have r2_some := (tL (tP (tS cw) tN)).mono (e1.trans ep) r2_some
          have r_i := tN.mono (e1.trans ep) r_i
          have r_j := tN.mono (e1.trans ep) r_j
          have r11_mark := (tP tN tN).mono (e1.trans ep) r11_mark
          have eL4 := eL4.trans (e1.trans ep)
          have eL8 := eL8.trans (e1.trans ep)
          obtain ⟨k16, hk16, hm⟩ := bind_some hm
          obtain ⟨z16, hz16, hm⟩ := bind_some hm
          obtain ⟨x16_known, hy16, hm⟩ := bind_some hm
          refine ss_addG 4 (u64 hr) hz16 hk16 hy16 (ev_var 6 r11_mark) (ev_ixL (es_of (ev_var 2 r2_some)) (ev_var 5 r_j)) I14 G14 rp_known (fun B16 H16 gs16 G16 eb16 I16 rp_known => ?_) h0_known
          have r_closer := (tCl cw C).mono eb16 r_closer
          have r1_things := (tS cw).mono eb16 r1_things
          have r2_some := (tL (tP (tS cw) tN)).mono eb16 r2_some
          have r_i := tN.mono eb16 r_i
          have r_j := tN.mono eb16 r_j
          have r11_mark := (tP tN tN).mono eb16 r11_mark
          have eL4 := eL4.trans eb16
          have eL8 := eL8.trans eb16
          rw [hk8] at hm
          exact ss_nil ⟨B16, gs16, some v11_mark, y_lot, y_mask, some v_j, (x16_known), rfl, G16, eL8, I16, rp_known, hm⟩
      · intro B1 σ1 H1 e1 ⟨B10, vs_known, y_mark, y_lot, y_mask, y_j, st8, hσ, G10, ep, I10, rp_known, hm⟩
        subst hσ
        have hm := forK_end hm
        have r_closer := (tCl cw C).mono (e1.trans ep) r_closer
        have r1_things := (tS cw).mono (e1.trans ep) r1_things
        have r2_some := (tL (tP (tS cw) tN)).mono (e1.trans ep) r2_some
        have r_i := tN.mono (e1.trans ep) r_i
        have eL4 := eL4.trans (e1.trans ep)
        rw [hk4] at hm
        exact ss_nil ⟨B10, some (.ref l_known), y_j, y_mark, y_lot, y_mask, some v_i, (), rfl, G10, eL4, I10.nil, hm⟩
    · intro B1 σ1 H1 e1 ⟨B6, y_known, y_j, y_mark, y_lot, y_mask, y_i, st4, hσ, G6, ep, I6, hm⟩
      subst hσ
      have hm := forK_end hm
      have r_closer := (tCl cw C).mono (e1.trans ep) r_closer
      have r1_things := (tS cw).mono (e1.trans ep) r1_things
      have r2_some := (tL (tP (tS cw) tN)).mono (e1.trans ep) r2_some
      exact ss_ret hm ev_noneO I6 fun v9 B9 H9 g9 r9 => q v9 B9 H9 (G6.trans g9) r9

theorem sc_is_distributive : FnScope ["closer"] ["closer"] (defScope (topS 57)) := ⟨rfl, rfl, rfl, by decide +kernel, rfl, by decide +kernel, by decide +kernel⟩
def m_is_distributive (x_closer : Clo) : Option (Bool) :=
  ((((some x_closer)).bind m_check_closer).bind fun z1 => (andO (((((some x_closer)).bind m_pentagon_masks)).bind fun x => some x.isNone) (((((some x_closer)).bind m_diamond_lots)).bind fun x => some x.isNone)))
abbrev K_is_distributive (P : Program) (w : World) (K : PySem.W.Frag) (mg : Str → Option Value) (base : Heap) (cw : Crew) (C : Addr) : Prop := Cal P w K mg base "is_distributive" 4 ["closer"] (Sp1 (tCl cw C) tB m_is_distributive)
theorem cal_is_distributive (d : Df K mg "is_distributive" (topS 57) ["closer"]) (bt : Bt mg) (c_check_closer : K_check_closer P w K mg base cw C) (c_pentagon_masks : K_pentagon_masks P w K mg base cw C) (c_diamond_lots : K_diamond_lots P w K mg base cw C) : K_is_distributive P w K mg base cw C := by
  obtain ⟨f, fd, F, mgf, bi⟩ := d.ex
  refine ⟨⟨f, fd, ?_, mgf, F.kp, bi⟩⟩
  refine F.ok sc_is_distributive (fun vs H Q E h => ?_) (fun cdv A outer s H0 vs Q E hr h => ⟨wSs _ _, p_ss, ?_⟩)
  · obtain ⟨v_closer, x_closer, B, r, rfl, _⟩ := h
    rfl
  · obtain ⟨v_closer, x_closer, B0, r, rfl, r_closer, eB, hm, q⟩ := h
    have I0 : In B0 [] H0 := ⟨eB, fun _ hp => nomatch hp⟩
    have G0 : Go B0 H0 B0 H0 := Go.refl eB
    obtain ⟨z1, hz1, hm⟩ := bind_some hm
    refine ss_do hz1 (ev_call1 c_check_closer (hr.mono (by decide)) (ev_var 0 r_closer)) I0 (fun v1 B1 H1 g1 _ => ?_)
    have r_closer := (tCl cw C).mono g1.eb r_closer
    have I1 := I0.go g1
    have G1 := G0.trans g1
    exact ss_ret hm (ev_andV ((ev_isN (ev_call1 c_pentagon_masks (hr.mono (by decide)) (ev_var 0 r_closer)))).1 (ev_one ((ev_isN (ev_call1 c_diamond_lots (hr.mono (by decide)) (ev_var 0 r_closer)))).1)) I1 fun v9 B9 H9 g9 r9 => q v9 B9 H9 (G1.trans g9) r9

end
end Cw
namespace Cw
open PySem PySem.Spec PyProof.Rows L2 Ly
section
variable {P : Program} {w : World} {K : PySem.W.Frag} {mg : Str → Option Value} {base : Heap} {cw : Crew} {C : Addr}
theorem sc__law_about : FnScope ["_law_halls", "_law_pack", "_law_hall"] ["_law_halls", "_law_pack"] (defScope (topS 89)) := ⟨rfl, rfl, rfl, by decide +kernel, rfl, by decide +kernel, by decide +kernel⟩
def m__law_about (x__law_halls : List (List Nat)) (x__law_pack : List Nat) : Option (List Nat) :=
  (((((((some x__law_halls)).bind fun xs => compM (fun x__law_hall => (op2 m__law_is_in (some x__law_pack) (some x__law_hall))) (fun x__law_hall => (op2 (fun x y => some (x, y)) (((some x__law_hall)).bind fun l => some l.length) (some x__law_hall))) xs)).bind minP)).bind fun x => some x.2)
abbrev K__law_about (P : Program) (w : World) (K : PySem.W.Frag) (mg : Str → Option Value) (base : Heap) (cw : Crew) (C : Addr) : Prop := Cal P w K mg base "_law_about" 2 ["_law_halls", "_law_pack"] (Sp2 (tT (tS cw)) (tS cw) (tS cw) m__law_about)
theorem cal__law_about (d : Df K mg "_law_about" (topS 89) ["_law_halls", "_law_pack"]) (bt : Bt mg) (c__law_is_in : K__law_is_in P w K mg base cw C) : K__law_about P w K mg base cw C := by
  obtain ⟨f, fd, F, mgf, bi⟩ := d.ex
  refine ⟨⟨f, fd, ?_, mgf, F.kp, bi⟩⟩
  refine F.ok sc__law_about (fun vs H Q E h => ?_) (fun cdv A outer s H0 vs Q E hr h => ⟨wSs _ _, p_ss, ?_⟩)
  · obtain ⟨v__law_halls, v__law_pack, x__law_halls, x__law_pack, B, r, rfl, _⟩ := h
    rfl
  · obtain ⟨v__law_halls, v__law_pack, x__law_halls, x__law_pack, B0, r, rfl, r__law_halls, r__law_pack, eB, hm, q⟩ := h
    have I0 : In B0 [] H0 := ⟨eB, fun _ hp => nomatch hp⟩
    have G0 : Go B0 H0 B0 H0 := Go.refl eB
    exact ss_ret hm (ev_snd (ev_minP bt bt.min rfl (u64 hr) (es_of (ev_lc (x := "_law_hall") rfl sc__law_about.nd (blkOk_by (by kernel_rfl)) (iv_T (ev_var 0 r__law_halls)) (fun _ _ _ _ _ => pg_name (i := 2) sc__law_about.nd rfl (by first | exact Or.inl rfl | exact Or.inr rfl)) _ _ (fun x__law_hall v__law_hall B2 e2 r__law_hall => by have r__law_pack := (tS cw).mono e2 r__law_pack; exact fun _ _ _ _ _ => (tv_of (ev_call2 c__law_is_in (hr.mono (by decide)) (ev_var 1 r__law_pack) (ev_var 2 r__law_hall)))) (fun x__law_hall v__law_hall B2 e2 r__law_hall _ => by have r__law_pack := (tS cw).mono e2 r__law_pack; exact fun _ _ _ _ _ => (ev_pair (ev_lenS bt (ev_var 2 r__law_hall)) (ev_var 2 r__law_hall))))))) I0 fun v9 B9 H9 g9 r9 => q v9 B9 H9 (G0.trans g9) r9

end
end Cw
namespace Cw
open PySem PySem.Spec PyProof.Rows L2 Ly
section
variable {P : Program} {w : World} {K : PySem.W.Frag} {mg : Str → Option Value} {base : Heap} {cw : Crew} {C : Addr}
theorem sc__law_leads_right : FnScope ["_law_crew_here", "_law_ties", "_law_made_now", "_law_halls", "_law_mutual", "_law_tops_now", "_law_first_ones", "_law_due", "_law_tie", "_law_each", "_law_x", "_law_y"] ["_law_crew_here", "_law_ties"] (defScope (topS 92)) := ⟨rfl, rfl, rfl, by decide +kernel, rfl, by decide +kernel, by decide +kernel⟩
def m__law_leads_right (x__law_crew_here : List Nat) (x__law_ties : List (List Nat)) : Option (Bool) :=
  ((op2 m_by_leads (some x__law_crew_here) (some x__law_ties)).bind fun x1__law_made_now => (op2 m__law_led_halls (some x__law_crew_here) (some x__law_ties)).bind fun x1__law_halls => ((((some x__law_ties)).bind fun xs => compM (fun x__law_tie => (op2 (fun x y => some (y.any fun z => (fun x y => x == y) z x)) (((some x__law_tie)).bind fRev2) (some x__law_ties))) (fun x__law_tie => (some x__law_tie)) xs).bind fun x2__law_mutual => ((orO (op2 (fun x y => some (!eqL (fun x y => x == y) x y)) (((some x1__law_made_now)).bind fun c => some c.closed) (some x1__law_halls)) (orO (((((some x1__law_made_now)).bind m_is_topology)).bind fun x => some (!x)) (op2 (fun x y => some (!eqL (fun x y => x == y) x y)) (((some x1__law_made_now)).bind m_leads) (some x__law_ties)))).bind fun b4 => bif b4 then (some false) else ((op2 (fun x y => some (!(x.1 == y.1 && x.2 == y.2))) (op2 (fun x y => some (x, y)) (((some x1__law_made_now)).bind m_is_convex) (((some x1__law_made_now)).bind m_is_distributive)) (op2 (fun x y => some (x, y)) (op2 (fun x y => some (eqL (fun x y => x == y) x y)) (some x2__law_mutual) (some [])) (some true))).bind fun b5 => bif b5 then (some false) else ((((((some x__law_crew_here)).bind fun xs => compM (fun x__law_each => (some true)) (fun x__law_each => (op2 m__law_about (some x1__law_halls) (((some x__law_each)).bind fun i => some [i]))) xs)).bind fSortSetS).bind fun x6__law_tops_now => ((orO (op2 (fun x y => some (!eqL (fun x y => x == y) x y)) (((some x1__law_made_now)).bind m_roots) (some x6__law_tops_now)) (op2 (fun x y => some (!Nat.beq x y)) (((some x1__law_made_now)).bind m_count_down) (((some x1__law_halls)).bind fun l => some l.length))).bind fun b8 => bif b8 then (some false) else ((op2 (fun x y => some (!(x == y))) (op2 (fun x y => some (Nat.beq x y)) (((some x6__law_tops_now)).bind fun l => some l.length) (((some x__law_crew_here)).bind fun l => some l.length)) (op2 (fun x y => some (eqL (fun x y => x == y) x y)) (some x2__law_mutual) (some []))).bind fun b9 => bif b9 then (some false) else ((((((some x__law_crew_here)).bind fun xs => compM (fun x__law_x => (op2 (fun x y => some (eqL Nat.beq x y)) (((some x__law_crew_here)).bind fun xs => compM (fun x__law_y => (op2 (fun x y => some (y.any fun z => (fun x y => x == y) z x)) (op2 fCatS (((some x__law_y)).bind fun i => some [i]) (((some x__law_x)).bind fun i => some [i])) (some x__law_ties))) (fun x__law_y => (some x__law_y)) xs) (some []))) (fun x__law_x => (some x__law_x)) xs)).bind fJoin).bind fun x10__law_first_ones => ((orO (op2 (fun x y => some (!(x == y))) (op2 m_ends (some x1__law_made_now) (some x__law_crew_here)) (some x10__law_first_ones)) (op2 (fun x y => some (!(x == y))) (((some x1__law_made_now)).bind m_has_exchange) (op2 (fun x y => some (Nat.beq x y)) (((some x2__law_mutual)).bind fun l => some l.length) (((some x__law_ties)).bind fun l => some l.length)))).bind fun b13 => bif b13 then (some false) else ((op2 (fun x y => some (!eqL (fun x y => x == y) x y)) (some x2__law_mutual) (some [])).bind fun b14 => bif b14 then (some true) else ((op2 m__law_orders (some x__law_crew_here) (some x__law_ties)).bind fun x15__law_due => ((orO (op2 (fun x y => some (!eqL (fun x y => x == y) x y)) (((some x1__law_made_now)).bind m_peels) (some x15__law_due)) (op2 (fun x y => some (!Nat.beq x y)) (((some x1__law_made_now)).bind m_count_peels) (((some x15__law_due)).bind fun l => some l.length))).bind fun b16 => bif b16 then (some false) else (op2 (fun x y => some (Nat.beq x y)) (((some x1__law_made_now)).bind m_fewest_rows) (op2 m__law_most_free (some x__law_crew_here) (some x__law_ties)))))))))))))))
abbrev K__law_leads_right (P : Program) (w : World) (K : PySem.W.Frag) (mg : Str → Option Value) (base : Heap) (cw : Crew) (C : Addr) : Prop := CalG P w K mg base "_law_leads_right" 14 ["_law_crew_here", "_law_ties"] (Sp2 (tS cw) (tT (tS cw)) tB m__law_leads_right)
theorem cal__law_leads_right (d : Df K mg "_law_leads_right" (topS 92) ["_law_crew_here", "_law_ties"]) (bt : Bt mg) (cf : ClF P w K mg base C) (c_by_leads : K_by_leads P w K mg base cw C) (c__law_led_halls : K__law_led_halls P w K mg base cw C) (c_is_topology : K_is_topology P w K mg base cw C) (c_leads : K_leads P w K mg base cw C) (c_is_convex : K_is_convex P w K mg base cw C) (c_is_distributive : K_is_distributive P w K mg base cw C) (c__law_about : K__law_about P w K mg base cw C) (c_roots : K_roots P w K mg base cw C) (c_count_down : K_count_down P w K mg base cw C) (c_ends : K_ends P w K mg base cw C) (c_has_exchange : K_has_exchange P w K mg base cw C) (c__law_orders : K__law_orders P w K mg base cw C) (c_peels : K_peels P w K mg base cw C) (c_count_peels : K_count_peels P w K mg base cw C) (c_fewest_rows : K_fewest_rows P w K mg base cw C) (c__law_most_free : K__law_most_free P w K mg base cw C) : K__law_leads_right P w K mg base cw C := by
  obtain ⟨f, fd, F, mgf, bi⟩ := d.ex
  refine ⟨⟨f, fd, ?_, mgf, F.kp, bi⟩⟩
  refine okG F sc__law_leads_right (fun vs H Q E h => ?_) (fun cdv A outer s H0 vs Q E hgd hr h => ⟨wSs _ _, p_ss, ?_⟩)
  · obtain ⟨v__law_crew_here, v__law_ties, x__law_crew_here, x__law_ties, B, r, rfl, _⟩ := h
    rfl
  · obtain ⟨v__law_crew_here, v__law_ties, x__law_crew_here, x__law_ties, B0, r, rfl, r__law_crew_here, r__law_ties, eB, hm, q⟩ := h
    have I0 : In B0 [] H0 := ⟨eB, fun _ hp => nomatch hp⟩
    have G0 : Go B0 H0 B0 H0 := Go.refl eB
    obtain ⟨x1__law_made_now, h1, hm⟩ := bind_some hm
    obtain ⟨x1__law_halls, k1, hm⟩ := bind_some hm
    refine ss_parT 2 3 h1 k1 (ev_call2 c_by_leads (hr.mono (by decide)) (ev_var 0 r__law_crew_here) (ev_var 1 r__law_ties)) (ev_call2 c__law_led_halls (hr.mono (by decide)) (ev_var 0 r__law_crew_here) (ev_var 1 r__law_ties)) I0 (fun v1__law_made_now v1__law_halls B1 H1 g1 r1__law_made_now r1__law_halls => ?_) rfl sc__law_leads_right.nd
    have r__law_crew_here := (tS cw).mono g1.eb r__law_crew_here
    have r__law_ties := (tT (tS cw)).mono g1.eb r__law_ties
    have I1 := I0.go g1
    have G1 := G0.trans g1
    obtain ⟨x2__law_mutual, h2, hm⟩ := bind_some hm
    refine ss_setLc 4 (x := "_law_tie") _ _ h2 rfl sc__law_leads_right.nd (blkOk_by (by kernel_rfl)) (iv_T (ev_var 1 r__law_ties)) (fun _ _ _ _ _ => pg_name (i := 8) sc__law_leads_right.nd rfl (by first | exact Or.inl rfl | exact Or.inr rfl)) (fun x__law_tie v__law_tie B3 e3 r__law_tie => by have r__law_ties := (tT (tS cw)).mono e3 r__law_ties; exact fun _ _ _ _ _ => ((ev_inT flatS (ev_revS (ev_var 8 r__law_tie)) (ev_var 1 r__law_ties))).2) (fun x__law_tie v__law_tie B3 e3 r__law_tie _ => by have r__law_ties := (tT (tS cw)).mono e3 r__law_ties; exact fun _ _ _ _ _ => (ev_var 8 r__law_tie)) I1 (fun v2__law_mutual B2 H2 g2 r2__law_mutual => ?_)
    have r__law_crew_here := (tS cw).mono g2.eb r__law_crew_here
    have r__law_ties := (tT (tS cw)).mono g2.eb r__law_ties
    have r1__law_made_now := (tCl cw C).mono g2.eb r1__law_made_now
    have r1__law_halls := (tT (tS cw)).mono g2.eb r1__law_halls
    have I2 := I1.go g2
    have G2 := G1.trans g2
    obtain ⟨b4, hb4, hm⟩ := bind_some hm
    refine ss_if hb4 (tv_w (wv_or ((cv_neT datS (u64 hr) (ev_closed cf (hr.mono (by decide)) (ev_var 2 r1__law_made_now)) (ev_var 3 r1__law_halls))).2 (wv_or ((ev_notTrue (ev_call1 c_is_topology (hr.mono (by decide)) (ev_var 2 r1__law_made_now)))).2 (wv_or1 ((cv_neT datS (u64 hr) (ev_call1 c_leads (hr.mono (by decide)) (ev_var 2 r1__law_made_now)) (ev_var 1 r__law_ties))).2)))) I2 (fun hz B4 H4 g4 => ?_) (fun hz B4 H4 g4 => ?_)
    · replace hm := ifT hz hm
      have r__law_crew_here := (tS cw).mono g4.eb r__law_crew_here
      have r__law_ties := (tT (tS cw)).mono g4.eb r__law_ties
      have r1__law_made_now := (tCl cw C).mono g4.eb r1__law_made_now
      have r1__law_halls := (tT (tS cw)).mono g4.eb r1__law_halls
      have r2__law_mutual := (tL (tS cw)).mono g4.eb r2__law_mutual
      have I4 := I2.go g4
      have G4 := G2.trans g4
      exact ss_ret hm ev_bool I4 fun v9 B9 H9 g9 r9 => q v9 B9 H9 (G4.trans g9) r9
    · replace hm := ifF hz hm
      have r__law_crew_here := (tS cw).mono g4.eb r__law_crew_here
      have r__law_ties := (tT (tS cw)).mono g4.eb r__law_ties
      have r1__law_made_now := (tCl cw C).mono g4.eb r1__law_made_now
      have r1__law_halls := (tT (tS cw)).mono g4.eb r1__law_halls
      have r2__law_mutual := (tL (tS cw)).mono g4.eb r2__law_mutual
      have I4 := I2.go g4
      have G4 := G2.trans g4
      refine ss_nil ?_
      obtain ⟨b5, hb5, hm⟩ := bind_some hm
      refine ss_if hb5 ((ev_neR2 (ev_repr2 bt.repr hgd (u64 hr) (ev_call1 c_is_convex (hr.mono (by decide)) (ev_var 2 r1__law_made_now)) (ev_call1 c_is_distributive (hr.mono (by decide)) (ev_var 2 r1__law_made_now))) (ev_repr2 bt.repr hgd (u64 hr) ((cv_eqL datS (u64 hr) (es_of (ev_var 4 r2__law_mutual)) (es_of (T := (tS cw)) ev_list0))).1 ev_bool))).2 I4 (fun hz B5 H5 g5 => ?_) (fun hz B5 H5 g5 => ?_)
      · replace hm := ifT hz hm
        have r__law_crew_here := (tS cw).mono g5.eb r__law_crew_here
        have r__law_ties := (tT (tS cw)).mono g5.eb r__law_ties
        have r1__law_made_now := (tCl cw C).mono g5.eb r1__law_made_now
        have r1__law_halls := (tT (tS cw)).mono g5.eb r1__law_halls
        have r2__law_mutual := (tL (tS cw)).mono g5.eb r2__law_mutual
        have I5 := I4.go g5
        have G5 := G4.trans g5
        exact ss_ret hm ev_bool I5 fun v9 B9 H9 g9 r9 => q v9 B9 H9 (G5.trans g9) r9
      · replace hm := ifF hz hm
        have r__law_crew_here := (tS cw).mono g5.eb r__law_crew_here
        have r__law_ties := (tT (tS cw)).mono g5.eb r__law_ties
        have r1__law_made_now := (tCl cw C).mono g5.eb r1__law_made_now
        have r1__law_halls := (tT (tS cw)).mono g5.eb r1__law_halls
        have r2__law_mutual := (tL (tS cw)).mono g5.eb r2__law_mutual
        have I5 := I4.go g5
        have G5 := G4.trans g5
        refine ss_nil ?_
        obtain ⟨x6__law_tops_now, h6, hm⟩ := bind_some hm
        refine ss_set 5 h6 (ev_sortSetS bt rfl (es_of (ev_lc (x := "_law_each") rfl sc__law_leads_right.nd (blkOk_by (by kernel_rfl)) (iv_S (ev_var 0 r__law_crew_here)) (fun _ _ _ _ _ => pg_name (i := 9) sc__law_leads_right.nd rfl (by first | exact Or.inl rfl | exact Or.inr rfl)) _ _ (fun x__law_each v__law_each B7 e7 r__law_each => rfl) (fun x__law_each v__law_each B7 e7 r__law_each _ => by have r1__law_halls := (tT (tS cw)).mono e7 r1__law_halls; exact fun _ _ _ _ _ => (ev_call2 c__law_about (hr.mono (by decide)) (ev_var 3 r1__law_halls) (ev_toS (ev_var 9 r__law_each))))))) I5 (fun v6__law_tops_now B6 H6 g6 r6__law_tops_now => ?_) sc__law_leads_right.nd
        have r__law_crew_here := (tS cw).mono g6.eb r__law_crew_here
        have r__law_ties := (tT (tS cw)).mono g6.eb r__law_ties
        have r1__law_made_now := (tCl cw C).mono g6.eb r1__law_made_now
        have r1__law_halls := (tT (tS cw)).mono g6.eb r1__law_halls
        have r2__law_mutual := (tL (tS cw)).mono g6.eb r2__law_mutual
        have I6 := I5.go g6
        have G6 := G5.trans g6
        obtain ⟨b8, hb8, hm⟩ := bind_some hm
        refine ss_if hb8 (tv_w (wv_or ((cv_neL datS (u64 hr) (es_of (ev_listT bt (ev_call1 c_roots (hr.mono (by decide)) (ev_var 2 r1__law_made_now)))) (es_of (ev_var 5 r6__law_tops_now)))).2 (wv_or1 ((ev_neN (ev_call1 c_count_down (hr.mono (by decide)) (ev_var 2 r1__law_made_now)) (ev_lenT bt (ev_var 3 r1__law_halls)))).2))) I6 (fun hz B8 H8 g8 => ?_) (fun hz B8 H8 g8 => ?_)
        · replace hm := ifT hz hm
          have r__law_crew_here := (tS cw).mono g8.eb r__law_crew_here
          have r__law_ties := (tT (tS cw)).mono g8.eb r__law_ties
          have r1__law_made_now := (tCl cw C).mono g8.eb r1__law_made_now
          have r1__law_halls := (tT (tS cw)).mono g8.eb r1__law_halls
          have r2__law_mutual := (tL (tS cw)).mono g8.eb r2__law_mutual
          have r6__law_tops_now := (tL (tS cw)).mono g8.eb r6__law_tops_now
          have I8 := I6.go g8
          have G8 := G6.trans g8
          exact ss_ret hm ev_bool I8 fun v9 B9 H9 g9 r9 => q v9 B9 H9 (G8.trans g9) r9
        · replace hm := ifF hz hm
          have r__law_crew_here := (tS cw).mono g8.eb r__law_crew_here
          have r__law_ties := (tT (tS cw)).mono g8.eb r__law_ties
          have r1__law_made_now := (tCl cw C).mono g8.eb r1__law_made_now
          have r1__law_halls := (tT (tS cw)).mono g8.eb r1__law_halls
          have r2__law_mutual := (tL (tS cw)).mono g8.eb r2__law_mutual
          have r6__law_tops_now := (tL (tS cw)).mono g8.eb r6__law_tops_now
          have I8 := I6.go g8
          have G8 := G6.trans g8
          refine ss_nil ?_
          obtain ⟨b9, hb9, hm⟩ := bind_some hm
          refine ss_if hb9 ((ev_neB ((ev_eqN (ev_lenL bt (es_of (ev_var 5 r6__law_tops_now))) (ev_lenS bt (ev_var 0 r__law_crew_here)))).1 ((cv_eqL datS (u64 hr) (es_of (ev_var 4 r2__law_mutual)) (es_of (T := (tS cw)) ev_list0))).1)).2 I8 (fun hz B9 H9 g9 => ?_) (fun hz B9 H9 g9 => ?_)
          · replace hm := ifT hz hm
            have r__law_crew_here := (tS cw).mono g9.eb r__law_crew_here
            have r__law_ties := (tT (tS cw)).mono g9.eb r__law_ties
            have r1__law_made_now := (tCl cw C).mono g9.eb r1__law_made_now
            have r1__law_halls := (tT (tS cw)).mono g9.eb r1__law_halls
            have r2__law_mutual := (tL (tS cw)).mono g9.eb r2__law_mutual
            have r6__law_tops_now := (tL (tS cw)).mono g9.eb r6__law_tops_now
            have I9 := I8.go g9
            have G9 := G8.trans g9
            exact ss_ret hm ev_bool I9 fun v9 B9 H9 g9 r9 => q v9 B9 H9 (G9.trans g9) r9
          · replace hm := ifF hz hm
            have r__law_crew_here := (tS cw).mono g9.eb r__law_crew_here
            have r__law_ties := (tT (tS cw)).mono g9.eb r__law_ties
            have r1__law_made_now := (tCl cw C).mono g9.eb r1__law_made_now
            have r1__law_halls := (tT (tS cw)).mono g9.eb r1__law_halls
            have r2__law_mutual := (tL (tS cw)).mono g9.eb r2__law_mutual
            have r6__law_tops_now := (tL (tS cw)).mono g9.eb r6__law_tops_now
            have I9 := I8.go g9
            have G9 := G8.trans g9
            refine ss_nil ?_
            obtain ⟨x10__law_first_ones, h10, hm⟩ := bind_some hm
            refine ss_set 6 h10 (ev_join (es_of (ev_lc (x := "_law_x") rfl sc__law_leads_right.nd (blkOk_by (by kernel_rfl)) (iv_S (ev_var 0 r__law_crew_here)) (fun _ _ _ _ _ => pg_name (i := 10) sc__law_leads_right.nd rfl (by first | exact Or.inl rfl | exact Or.inr rfl)) _ _ (fun x__law_x v__law_x B11 e11 r__law_x => by have r__law_crew_here := (tS cw).mono e11 r__law_crew_here; have r__law_ties := (tT (tS cw)).mono e11 r__law_ties; exact fun _ _ _ _ _ => ((cv_eqL datC (u64 hr) (es_of (ev_lc (x := "_law_y") rfl sc__law_leads_right.nd (blkOk_by (by kernel_rfl)) (iv_S (ev_var 0 r__law_crew_here)) (fun _ _ _ _ _ => pg_name (i := 11) sc__law_leads_right.nd rfl (by first | exact Or.inl rfl | exact Or.inr rfl)) _ _ (fun x__law_y v__law_y B12 e12 r__law_y => by have r__law_ties := (tT (tS cw)).mono e12 r__law_ties; have r__law_x := (tC cw).mono e12 r__law_x; exact fun _ _ _ _ _ => ((ev_inT flatS (ev_catS (ev_toS (ev_var 11 r__law_y)) (ev_toS (ev_var 10 r__law_x))) (ev_var 1 r__law_ties))).2) (fun x__law_y v__law_y B12 e12 r__law_y _ => by have r__law_ties := (tT (tS cw)).mono e12 r__law_ties; have r__law_x := (tC cw).mono e12 r__law_x; exact fun _ _ _ _ _ => (ev_var 11 r__law_y)))) (es_of (T := (tC cw)) ev_list0))).2) (fun x__law_x v__law_x B11 e11 r__law_x _ => by have r__law_crew_here := (tS cw).mono e11 r__law_crew_here; have r__law_ties := (tT (tS cw)).mono e11 r__law_ties; exact fun _ _ _ _ _ => (ev_var 10 r__law_x))))) I9 (fun v10__law_first_ones B10 H10 g10 r10__law_first_ones => ?_) sc__law_leads_right.nd
            have r__law_crew_here := (tS cw).mono g10.eb r__law_crew_here
            have r__law_ties := (tT (tS cw)).mono g10.eb r__law_ties
            have r1__law_made_now := (tCl cw C).mono g10.eb r1__law_made_now
            have r1__law_halls := (tT (tS cw)).mono g10.eb r1__law_halls
            have r2__law_mutual := (tL (tS cw)).mono g10.eb r2__law_mutual
            have r6__law_tops_now := (tL (tS cw)).mono g10.eb r6__law_tops_now
            have I10 := I9.go g10
            have G10 := G9.trans g10
            obtain ⟨b13, hb13, hm⟩ := bind_some hm
            refine ss_if hb13 (tv_w (wv_or ((ev_neS (ev_call2 c_ends (hr.mono (by decide)) (ev_var 2 r1__law_made_now) (ev_var 0 r__law_crew_here)) (ev_var 6 r10__law_first_ones))).2 (wv_or1 ((ev_neR (ev_reprB bt.repr (ev_call1 c_has_exchange (hr.mono (by decide)) (ev_var 2 r1__law_made_now))) (ev_reprB bt.repr ((ev_eqN (ev_lenL bt (es_of (ev_var 4 r2__law_mutual))) (ev_lenT bt (ev_var 1 r__law_ties)))).1))).2))) I10 (fun hz B13 H13 g13 => ?_) (fun hz B13 H13 g13 => ?_)
            · replace hm := ifT hz hm
              have r__law_crew_here := (tS cw).mono g13.eb r__law_crew_here
              have r__law_ties := (tT (tS cw)).mono g13.eb r__law_ties
              have r1__law_made_now := (tCl cw C).mono g13.eb r1__law_made_now
              have r1__law_halls := (tT (tS cw)).mono g13.eb r1__law_halls
              have r2__law_mutual := (tL (tS cw)).mono g13.eb r2__law_mutual
              have r6__law_tops_now := (tL (tS cw)).mono g13.eb r6__law_tops_now
              have r10__law_first_ones := (tS cw).mono g13.eb r10__law_first_ones
              have I13 := I10.go g13
              have G13 := G10.trans g13
              exact ss_ret hm ev_bool I13 fun v9 B9 H9 g9 r9 => q v9 B9 H9 (G13.trans g9) r9
            · replace hm := ifF hz hm
              have r__law_crew_here := (tS cw).mono g13.eb r__law_crew_here
              have r__law_ties := (tT (tS cw)).mono g13.eb r__law_ties
              have r1__law_made_now := (tCl cw C).mono g13.eb r1__law_made_now
              have r1__law_halls := (tT (tS cw)).mono g13.eb r1__law_halls
              have r2__law_mutual := (tL (tS cw)).mono g13.eb r2__law_mutual
              have r6__law_tops_now := (tL (tS cw)).mono g13.eb r6__law_tops_now
              have r10__law_first_ones := (tS cw).mono g13.eb r10__law_first_ones
              have I13 := I10.go g13
              have G13 := G10.trans g13
              refine ss_nil ?_
              obtain ⟨b14, hb14, hm⟩ := bind_some hm
              refine ss_if hb14 ((cv_neL datS (u64 hr) (es_of (ev_var 4 r2__law_mutual)) (es_of (T := (tS cw)) ev_list0))).2 I13 (fun hz B14 H14 g14 => ?_) (fun hz B14 H14 g14 => ?_)
              · replace hm := ifT hz hm
                have r__law_crew_here := (tS cw).mono g14.eb r__law_crew_here
                have r__law_ties := (tT (tS cw)).mono g14.eb r__law_ties
                have r1__law_made_now := (tCl cw C).mono g14.eb r1__law_made_now
                have r1__law_halls := (tT (tS cw)).mono g14.eb r1__law_halls
                have r2__law_mutual := (tL (tS cw)).mono g14.eb r2__law_mutual
                have r6__law_tops_now := (tL (tS cw)).mono g14.eb r6__law_tops_now
                have r10__law_first_ones := (tS cw).mono g14.eb r10__law_first_ones
                have I14 := I13.go g14
                have G14 := G13.trans g14
                exact ss_ret hm ev_bool I14 fun v9 B9 H9 g9 r9 => q v9 B9 H9 (G14.trans g9) r9
              · replace hm := ifF hz hm
                have r__law_crew_here := (tS cw).mono g14.eb r__law_crew_here
                have r__law_ties := (tT (tS cw)).mono g14.eb r__law_ties
                have r1__law_made_now := (tCl cw C).mono g14.eb r1__law_made_now
                have r1__law_halls := (tT (tS cw)).mono g14.eb r1__law_halls
                have r2__law_mutual := (tL (tS cw)).mono g14.eb r2__law_mutual
                have r6__law_tops_now := (tL (tS cw)).mono g14.eb r6__law_tops_now
                have r10__law_first_ones := (tS cw).mono g14.eb r10__law_first_ones
                have I14 := I13.go g14
                have G14 := G13.trans g14
                refine ss_nil ?_
                obtain ⟨x15__law_due, h15, hm⟩ := bind_some hm
                refine ss_set 7 h15 (ev_call2 c__law_orders (hr.mono (by decide)) (ev_var 0 r__law_crew_here) (ev_var 1 r__law_ties)) I14 (fun v15__law_due B15 H15 g15 r15__law_due => ?_) sc__law_leads_right.nd
                have r__law_crew_here := (tS cw).mono g15.eb r__law_crew_here
                have r__law_ties := (tT (tS cw)).mono g15.eb r__law_ties
                have r1__law_made_now := (tCl cw C).mono g15.eb r1__law_made_now
                have r1__law_halls := (tT (tS cw)).mono g15.eb r1__law_halls
                have r2__law_mutual := (tL (tS cw)).mono g15.eb r2__law_mutual
                have r6__law_tops_now := (tL (tS cw)).mono g15.eb r6__law_tops_now
                have r10__law_first_ones := (tS cw).mono g15.eb r10__law_first_ones
                have I15 := I14.go g15
                have G15 := G14.trans g15
                obtain ⟨b16, hb16, hm⟩ := bind_some hm
                refine ss_if hb16 (tv_w (wv_or ((cv_neT datS (u64 hr) (ev_call1 c_peels (hr.mono (by decide)) (ev_var 2 r1__law_made_now)) (ev_var 7 r15__law_due))).2 (wv_or1 ((ev_neN (ev_call1 c_count_peels (hr.mono (by decide)) (ev_var 2 r1__law_made_now)) (ev_lenT bt (ev_var 7 r15__law_due)))).2))) I15 (fun hz B16 H16 g16 => ?_) (fun hz B16 H16 g16 => ?_)
                · replace hm := ifT hz hm
                  have r__law_crew_here := (tS cw).mono g16.eb r__law_crew_here
                  have r__law_ties := (tT (tS cw)).mono g16.eb r__law_ties
                  have r1__law_made_now := (tCl cw C).mono g16.eb r1__law_made_now
                  have r1__law_halls := (tT (tS cw)).mono g16.eb r1__law_halls
                  have r2__law_mutual := (tL (tS cw)).mono g16.eb r2__law_mutual
                  have r6__law_tops_now := (tL (tS cw)).mono g16.eb r6__law_tops_now
                  have r10__law_first_ones := (tS cw).mono g16.eb r10__law_first_ones
                  have r15__law_due := (tT (tS cw)).mono g16.eb r15__law_due
                  have I16 := I15.go g16
                  have G16 := G15.trans g16
                  exact ss_ret hm ev_bool I16 fun v9 B9 H9 g9 r9 => q v9 B9 H9 (G16.trans g9) r9
                · replace hm := ifF hz hm
                  have r__law_crew_here := (tS cw).mono g16.eb r__law_crew_here
                  have r__law_ties := (tT (tS cw)).mono g16.eb r__law_ties
                  have r1__law_made_now := (tCl cw C).mono g16.eb r1__law_made_now
                  have r1__law_halls := (tT (tS cw)).mono g16.eb r1__law_halls
                  have r2__law_mutual := (tL (tS cw)).mono g16.eb r2__law_mutual
                  have r6__law_tops_now := (tL (tS cw)).mono g16.eb r6__law_tops_now
                  have r10__law_first_ones := (tS cw).mono g16.eb r10__law_first_ones
                  have r15__law_due := (tT (tS cw)).mono g16.eb r15__law_due
                  have I16 := I15.go g16
                  have G16 := G15.trans g16
                  refine ss_nil ?_
                  exact ss_ret hm ((ev_eqN (ev_call1 c_fewest_rows (hr.mono (by decide)) (ev_var 2 r1__law_made_now)) (ev_call2 c__law_most_free (hr.mono (by decide)) (ev_var 0 r__law_crew_here) (ev_var 1 r__law_ties)))).1 I16 fun v9 B9 H9 g9 r9 => q v9 B9 H9 (G16.trans g9) r9

end
end Cw
namespace Cw
open Ly
theorem fold_inv {α β : Type} {P : β → Prop} {f : β → α → β} : ∀ (l : List α) (b : β), P b → (∀ b a, a ∈ l → P b → P (f b a)) → P (l.foldl f b)
  | [], _, h, _ => h
  | a :: l, b, h, hf => fold_inv l (f b a) (hf b a List.mem_cons_self h) fun b' a' ha => hf b' a' (List.mem_cons_of_mem _ ha)
/-! the first closing -/
theorem clo_off {n m : Nat} (h : Off n m) : Off n (clo false (List.range' 0 n) m) :=
  fold_inv (P := Off n) _ _ h fun m z hz h => fold_inv (P := Off n) _ _ h fun m x hx h => fold_inv (P := Off n) _ _ h fun m y hy h => by
    rw [stp_b]
    cases hb : (false || !Nat.beq x y) && (tb m x z && tb m z y) with
    | false => exact h
    | true =>
      rw [Bool.and_eq_true, Bool.false_or] at hb
      have hx := List.mem_range'_1.mp hx
      have hy := List.mem_range'_1.mp hy
      exact h.put (by omega) (by omega) fun e => by
        subst e
        simp at hb
theorem ctr1 : allM (fun m => trans 1 (clo false (List.range' 0 1) m)) (offs 1) 0 = true := by decide +kernel
theorem ctr2 : allM (fun m => trans 2 (clo false (List.range' 0 2) m)) (offs 2) 0 = true := by decide +kernel
theorem ctr3 : allM (fun m => trans 3 (clo false (List.range' 0 3) m)) (offs 3) 0 = true := by decide +kernel
theorem ctr4_0 : allM (fun m => trans 4 (clo false (List.range' 0 4) m)) ((offs 4).drop 3) 0 = true := by decide +kernel
theorem ctr4_1 : allM (fun m => trans 4 (clo false (List.range' 0 4) m)) ((offs 4).drop 3) 8 = true := by decide +kernel
theorem ctr4_2 : allM (fun m => trans 4 (clo false (List.range' 0 4) m)) ((offs 4).drop 3) 4 = true := by decide +kernel
theorem ctr4_3 : allM (fun m => trans 4 (clo false (List.range' 0 4) m)) ((offs 4).drop 3) 12 = true := by decide +kernel
theorem ctr4_4 : allM (fun m => trans 4 (clo false (List.range' 0 4) m)) ((offs 4).drop 3) 2 = true := by decide +kernel
theorem ctr4_5 : allM (fun m => trans 4 (clo false (List.range' 0 4) m)) ((offs 4).drop 3) 10 = true := by decide +kernel
theorem ctr4_6 : allM (fun m => trans 4 (clo false (List.range' 0 4) m)) ((offs 4).drop 3) 6 = true := by decide +kernel
theorem ctr4_7 : allM (fun m => trans 4 (clo false (List.range' 0 4) m)) ((offs 4).drop 3) 14 = true := by decide +kernel
theorem ctr4 : allM (fun m => trans 4 (clo false (List.range' 0 4) m)) (offs 4) 0 = true := by
  show allM _ (1 :: 2 :: 3 :: (offs 4).drop 3) 0 = true
  unfold allM
  rw [Bool.and_eq_true]
  refine ⟨?_, ?_⟩ <;> unfold allM <;> rw [Bool.and_eq_true] <;> refine ⟨?_, ?_⟩ <;> unfold allM <;> rw [Bool.and_eq_true]
  · exact ⟨ctr4_0, ctr4_1⟩
  · exact ⟨ctr4_2, ctr4_3⟩
  · exact ⟨ctr4_4, ctr4_5⟩
  · exact ⟨ctr4_6, ctr4_7⟩
theorem clo_trans {n m : Nat} (h1 : 1 ≤ n) (h4 : n ≤ 4) (h : Off n m) : trans n (clo false (List.range' 0 n) m) = true := by
  have key : allM (fun m => trans n (clo false (List.range' 0 n) m)) (offs n) 0 = true := by
    rcases (show n = 1 ∨ n = 2 ∨ n = 3 ∨ n = 4 by omega) with e | e | e | e <;> subst e
    · exact ctr1
    · exact ctr2
    · exact ctr3
    · exact ctr4
  have h := allM_spec key m h
  rw [Nat.zero_or] at h
  exact h
/-! the second closing: along a line -/
def con (t : List Nat) : List Nat := (List.range' 0 (t.length - 1)).map fun k => 4 * t.getD k 0 + t.getD (k + 1) 0
def offm (n : Nat) : Nat := (offs n).foldl (fun m b => m ||| 1 <<< b) 0
theorem offm_bit {n k : Nat} (h : (offm n).testBit k = true) : k ∈ offs n :=
  fold_inv (P := fun m => ∀ k, m.testBit k = true → k ∈ offs n) (offs n) 0 (fun k h => by
    rw [Nat.zero_testBit] at h
    cases h) (fun m b hb ih k hk => by
    rw [Nat.testBit_or, bit_one, Bool.or_eq_true, decide_eq_true_eq] at hk
    exact hk.elim (ih k) fun e => e ▸ hb) k h
def lsts (n : Nat) : Nat → List (List Nat)
  | 0 => [[]]
  | k + 1 => (List.range' 0 n).flatMap fun i => (lsts n k).map fun t => i :: t
theorem mem_lsts {n : Nat} : ∀ {t : List Nat}, (∀ i ∈ t, i < n) → t ∈ lsts n t.length
  | [], _ => List.mem_singleton.mpr rfl
  | a :: t, h => List.mem_flatMap.mpr ⟨a, List.mem_range'_1.mpr ⟨Nat.zero_le _, by have := h a List.mem_cons_self; omega⟩, List.mem_map.mpr ⟨t, mem_lsts fun i hi => h i (List.mem_cons_of_mem _ hi), rfl⟩⟩
def ndB : List Nat → Bool
  | [] => true
  | a :: t => !t.any (fun b => Nat.beq a b) && ndB t
theorem ndB_of : ∀ {t : List Nat}, t.Nodup → ndB t = true
  | [], _ => rfl
  | a :: t, h => by
    obtain ⟨h1, h2⟩ := List.nodup_cons.mp h
    unfold ndB
    rw [ndB_of h2, Bool.and_true, Bool.not_eq_true', List.any_eq_false]
    intro b hb e
    rw [Nat.beq_eq.mp e] at h1
    exact h1 hb
def lin (n : Nat) : Bool := (lsts n n).all fun t => bif ndB t then allM (fun m => trans n (clo true t m) && Nat.beq (clo true t m ||| offm n) (offm n)) (con t) 0 else true
theorem lin1 : lin 1 = true := by decide +kernel
theorem lin2 : lin 2 = true := by decide +kernel
theorem lin3 : lin 3 = true := by decide +kernel
theorem lin4 : lin 4 = true := by decide +kernel
theorem line_both {n m : Nat} {t : List Nat} (h1 : 1 ≤ n) (h4 : n ≤ 4) (hp : t.Perm (List.range' 0 n)) (h : ∀ b, m.testBit b = true → b ∈ con t) : trans n (clo true t m) = true ∧ Off n (clo true t m) := by
  have key : lin n = true := by
    rcases (show n = 1 ∨ n = 2 ∨ n = 3 ∨ n = 4 by omega) with e | e | e | e <;> subst e
    · exact lin1
    · exact lin2
    · exact lin3
    · exact lin4
  have hl : t.length = n := by rw [hp.length_eq, List.length_range']
  have hm : t ∈ lsts n n := by
    have := mem_lsts (n := n) (t := t) fun i hi => by
      have := List.mem_range'_1.mp (hp.mem_iff.mp hi)
      omega
    rwa [hl] at this
  have k2 := List.all_eq_true.mp key t hm
  rw [ndB_of (hp.nodup_iff.mpr List.nodup_range')] at k2
  have k3 := allM_spec (show allM _ (con t) 0 = true from k2) m h
  rw [Nat.zero_or, Bool.and_eq_true, Nat.beq_eq] at k3
  refine ⟨k3.1, fun k hk => offm_bit ?_⟩
  rw [← k3.2, Nat.testBit_or, hk, Bool.true_or]
end Cw
/-! the mathematics: finitely many leads that go on -/
namespace Cw
open Ly
def good (n m : Nat) : Bool := match m__law_leads_right (List.range' 0 n) (tiesOf n m) with | some true => true | _ => false
def chk (n m : Nat) : Bool := bif trans n m then good n m else true
theorem all1 : allM (chk 1) (offs 1) 0 = true := by decide +kernel
theorem all2 : allM (chk 2) (offs 2) 0 = true := by decide +kernel
theorem all3 : allM (chk 3) (offs 3) 0 = true := by decide +kernel
theorem all4_0 : allM (chk 4) ((offs 4).drop 5) 0 = true := by decide +kernel
theorem all4_1 : allM (chk 4) ((offs 4).drop 5) 64 = true := by decide +kernel
theorem all4_2 : allM (chk 4) ((offs 4).drop 5) 16 = true := by decide +kernel
theorem all4_3 : allM (chk 4) ((offs 4).drop 5) 80 = true := by decide +kernel
theorem all4_4 : allM (chk 4) ((offs 4).drop 5) 8 = true := by decide +kernel
theorem all4_5 : allM (chk 4) ((offs 4).drop 5) 72 = true := by decide +kernel
theorem all4_6 : allM (chk 4) ((offs 4).drop 5) 24 = true := by decide +kernel
theorem all4_7 : allM (chk 4) ((offs 4).drop 5) 88 = true := by decide +kernel
theorem all4_8 : allM (chk 4) ((offs 4).drop 5) 4 = true := by decide +kernel
theorem all4_9 : allM (chk 4) ((offs 4).drop 5) 68 = true := by decide +kernel
theorem all4_10 : allM (chk 4) ((offs 4).drop 5) 20 = true := by decide +kernel
theorem all4_11 : allM (chk 4) ((offs 4).drop 5) 84 = true := by decide +kernel
theorem all4_12 : allM (chk 4) ((offs 4).drop 5) 12 = true := by decide +kernel
theorem all4_13 : allM (chk 4) ((offs 4).drop 5) 76 = true := by decide +kernel
theorem all4_14 : allM (chk 4) ((offs 4).drop 5) 28 = true := by decide +kernel
theorem all4_15 : allM (chk 4) ((offs 4).drop 5) 92 = true := by decide +kernel
theorem all4_16 : allM (chk 4) ((offs 4).drop 5) 2 = true := by decide +kernel
theorem all4_17 : allM (chk 4) ((offs 4).drop 5) 66 = true := by decide +kernel
theorem all4_18 : allM (chk 4) ((offs 4).drop 5) 18 = true := by decide +kernel
theorem all4_19 : allM (chk 4) ((offs 4).drop 5) 82 = true := by decide +kernel
theorem all4_20 : allM (chk 4) ((offs 4).drop 5) 10 = true := by decide +kernel
theorem all4_21 : allM (chk 4) ((offs 4).drop 5) 74 = true := by decide +kernel
theorem all4_22 : allM (chk 4) ((offs 4).drop 5) 26 = true := by decide +kernel
theorem all4_23 : allM (chk 4) ((offs 4).drop 5) 90 = true := by decide +kernel
theorem all4_24 : allM (chk 4) ((offs 4).drop 5) 6 = true := by decide +kernel
theorem all4_25 : allM (chk 4) ((offs 4).drop 5) 70 = true := by decide +kernel
theorem all4_26 : allM (chk 4) ((offs 4).drop 5) 22 = true := by decide +kernel
theorem all4_27 : allM (chk 4) ((offs 4).drop 5) 86 = true := by decide +kernel
theorem all4_28 : allM (chk 4) ((offs 4).drop 5) 14 = true := by decide +kernel
theorem all4_29 : allM (chk 4) ((offs 4).drop 5) 78 = true := by decide +kernel
theorem all4_30 : allM (chk 4) ((offs 4).drop 5) 30 = true := by decide +kernel
theorem all4_31 : allM (chk 4) ((offs 4).drop 5) 94 = true := by decide +kernel
theorem allM_cons {p : Nat → Bool} {b m : Nat} {bs : List Nat} (h : allM p bs m = true) (k : allM p bs (m ||| (1 <<< b)) = true) : allM p (b :: bs) m = true := by
  unfold allM
  rw [h, k]
  rfl
theorem all4 : allM (chk 4) (offs 4) 0 = true := show allM (chk 4) (1 :: 2 :: 3 :: 4 :: 6 :: (offs 4).drop 5) 0 = true from (allM_cons (allM_cons (allM_cons (allM_cons (allM_cons all4_0 all4_1) (allM_cons all4_2 all4_3)) (allM_cons (allM_cons all4_4 all4_5) (allM_cons all4_6 all4_7))) (allM_cons (allM_cons (allM_cons all4_8 all4_9) (allM_cons all4_10 all4_11)) (allM_cons (allM_cons all4_12 all4_13) (allM_cons all4_14 all4_15)))) (allM_cons (allM_cons (allM_cons (allM_cons all4_16 all4_17) (allM_cons all4_18 all4_19)) (allM_cons (allM_cons all4_20 all4_21) (allM_cons all4_22 all4_23))) (allM_cons (allM_cons (allM_cons all4_24 all4_25) (allM_cons all4_26 all4_27)) (allM_cons (allM_cons all4_28 all4_29) (allM_cons all4_30 all4_31)))))
theorem good_of {n m : Nat} (h1 : 1 ≤ n) (h4 : n ≤ 4) (ho : Off n m) (ht : trans n m = true) : m__law_leads_right (List.range' 0 n) (tiesOf n m) = some true := by
  have key : allM (chk n) (offs n) 0 = true := by
    rcases (show n = 1 ∨ n = 2 ∨ n = 3 ∨ n = 4 by omega) with e | e | e | e <;> subst e
    · exact all1
    · exact all2
    · exact all3
    · exact all4
  have h := allM_spec key m ho
  rw [Nat.zero_or] at h
  unfold chk at h
  rw [ht] at h
  have h : good n m = true := h
  unfold good at h
  split at h
  · rename_i e
    exact e
  · cases h
end Cw
namespace Cw
open PySem PySem.Spec PyProof.Rows L2 Ly
section
variable {P : Program} {w : World} {K : PySem.W.Frag} {mg : Str → Option Value} {base : Heap} {cw : Crew} {C : Addr}
theorem sc_tap : FnScope ["_law_brew_here", "_law_top", "_law_old", "_law_figure"] ["_law_brew_here", "_law_top"] (defScope (topS 81)) := ⟨rfl, rfl, rfl, by decide +kernel, rfl, by decide +kernel, by decide +kernel⟩
abbrev K_tap (P : Program) (w : World) (K : PySem.W.Frag) (mg : Str → Option Value) (base : Heap) : Prop := Cal P w K mg base "_law_tap" 1 ["_law_brew_here", "_law_top"] SpTap
theorem cal_tap (d : Df K mg "_law_tap" (topS 81) ["_law_brew_here", "_law_top"]) (bt : Bt mg) : K_tap P w K mg base := by
  obtain ⟨f, fd, F, mgf, bi⟩ := d.ex
  refine ⟨⟨f, fd, ?_, mgf, F.kp, bi⟩⟩
  refine F.ok sc_tap (fun vs H Q E h => ?_) (fun cdv A outer s H0 vs Q E hr h => ⟨wSs _ _, p_ss, ?_⟩)
  · obtain ⟨x, top, B, rfl, _⟩ := h
    rfl
  · obtain ⟨x, top, B0, rfl, h1, h2, br, q⟩ := h
    obtain ⟨a, b, c, hb, I0⟩ := br.inn
    have G0 : Gz x B0 H0 B0 H0 := Gz.refl br.ex
    have rt : tN.rep B0 (V.int (top : Int)) top := rfl
    refine ss_put 0 rfl rfl (ev_add (ev_ixL (es_var 0 List.mem_cons_self (brw_rep a b c) (brw_len a b c)) ev_int) ev_int) ev_int I0 List.mem_cons_self (by show 2 < 3; decide) (fun v1 B1 H1 g1 r1 => ?_)
    cases r1
    have I1 : In B1 [(x, brw a b (c + 1))] (upd H1 x (brw a b (c + 1))) := (I0.go g1).put
    have G1 : Gz x B0 H0 B1 (upd H1 x (brw a b (c + 1))) := (G0.trans (Gz.of g1) ((I0.go g1).ow _ List.mem_cons_self).2).put ((I0.go g1).ow _ List.mem_cons_self).2
    have rt := tN.mono g1.eb rt
    refine ss_set 2 rfl (ev_intc bt (ev_ixL (es_var 0 List.mem_cons_self (brw_rep a b (c + 1)) (brw_len a b (c + 1))) ev_int)) I1 (fun v2 B2 H2 g2 r2 => ?_) sc_tap.nd
    have I2 := I1.go g2
    have G2 := G1.trans (Gz.of g2) (I2.ow _ List.mem_cons_self).2
    have rt := tN.mono g2.eb rt
    refine ss_put (j := 1) (z := (b * (b % 29009 + 11003) + 10151 * (c + 1) + 61) % 2147482583) 0 rfl rfl (ev_mod (ev_intc bt (ev_add (ev_add (ev_mul (ev_var 2 r2) (ev_add (ev_mod (ev_intc bt (ev_var 2 r2)) ev_int (fun y h => by cases h; decide)) ev_int) (fun x y h _ => .inl (by cases h; omega))) (ev_mul ev_int (ev_ixL (es_var 0 List.mem_cons_self (brw_rep a b (c + 1)) (brw_len a b (c + 1))) ev_int) (fun x y h _ => .inl (by cases h; decide)))) ev_int)) ev_int (fun y h => by cases h; decide)) ev_int I2 List.mem_cons_self (by show 1 < 3; decide) (fun v3 B3 H3 g3 r3 => ?_)
    cases r3
    have hb3 : (b * (b % 29009 + 11003) + 10151 * (c + 1) + 61) % 2147482583 < 2147482583 := Nat.mod_lt _ (by decide)
    generalize (b * (b % 29009 + 11003) + 10151 * (c + 1) + 61) % 2147482583 = b3 at hb3 ⊢
    have I3 : In B3 [(x, brw a b3 (c + 1))] (upd H3 x (brw a b3 (c + 1))) := (I2.go g3).put
    have G3 : Gz x B0 H0 B3 (upd H3 x (brw a b3 (c + 1))) := (G2.trans (Gz.of g3) ((I2.go g3).ow _ List.mem_cons_self).2).put ((I2.go g3).ow _ List.mem_cons_self).2
    have rt := tN.mono g3.eb rt
    refine ss_if (z := Nat.blt 0 a) rfl (ev_gtN (ev_ixL (es_var 0 List.mem_cons_self (brw_rep a b3 (c + 1)) (brw_len a b3 (c + 1))) ev_int) ev_int).2 I3 (fun hz B4 H4 g4 => ?_) (fun hz B4 H4 g4 => ?_)
    · have I4 := I3.go g4
      have G4 := G3.trans (Gz.of g4) (I4.ow _ List.mem_cons_self).2
      have rt := tN.mono g4.eb rt
      refine ss_cons (of_s (ps_asg (pe_callB call_divmod rfl bt.divmod (by decide +kernel) (pa_cons p_e (pa_cons p_e pa_nil rfl) rfl)) (pg_tup rfl (pgs_cons (pg_sub (pe_var (i := 0) rfl (by first | exact Or.inl rfl | exact Or.inr (Or.inl rfl) | exact Or.inr (Or.inr rfl))) p_e set_list (by intro _; rfl)) (pgs_cons (pg_name (i := 3) sc_tap.nd rfl (by first | exact Or.inl rfl | exact Or.inr rfl)) pgs_nil)) rfl rfl)) ?_)
      refine (ev_ixL (es_var 0 List.mem_cons_self (brw_rep a b3 (c + 1)) (brw_len a b3 (c + 1))) ev_int) a rfl B4 H4 (Ex.refl _) I4 _ fun v5 B5 H5 g5 r5 => ?_
      have I5 := I4.go g5
      have G5 := G4.trans (Gz.of g5) (I5.ow _ List.mem_cons_self).2
      refine (ev_var 1 (tN.mono g5.eb rt)) top rfl B5 H5 (Ex.refl _) I5 _ fun v6 B6 H6 g6 r6 => ?_
      have I6 := I5.go g6
      have G6 := G5.trans (Gz.of g6) (I6.ow _ List.mem_cons_self).2
      cases r5
      cases r6
      refine ⟨_, _, rfl, ⟨by omega, by omega⟩, fun p np => ?_⟩
      have I7 := I6.go (Go.tmp (o := .tup [.int ((a : Int) / (top : Int)), .int ((a : Int) % (top : Int))]) I6.ex np)
      have G7 := G6.trans (Gz.of (Go.tmp (o := .tup [.int ((a : Int) / (top : Int)), .int ((a : Int) % (top : Int))]) I6.ex np)) (I7.ow _ List.mem_cons_self).2
      refine ⟨p, _, rfl, SqT.of upd_same, rfl, _, _, rfl, ?_⟩
      refine ⟨_, rfl, ?_⟩
      refine (ev_int (n := 0)) 0 rfl B6 _ (Ex.refl _) I7 _ fun v8 B8 H8 g8 r8 => ?_
      cases r8
      have I8 := I7.go g8
      have G8 := G7.trans (Gz.of g8) (I8.ow _ List.mem_cons_self).2
      refine ⟨x, _, 0, 0, rfl, rfl, (I8.ow _ List.mem_cons_self).1, rfl, _, _, rfl, rfl, ?_⟩
      have I9 : In B8 [(x, brw (a / top) b3 (c + 1))] (upd H8 x (brw (a / top) b3 (c + 1))) := I8.put
      have G9 : Gz x B0 H0 B8 (upd H8 x (brw (a / top) b3 (c + 1))) := G8.put (I8.ow _ List.mem_cons_self).2
      refine ss_ret (T := tN) (z := a % top) rfl (ev_var 3 (show tN.rep B8 (V.int ((a : Int) % (top : Int))) (a % top) from congrArg V.int (Int.natCast_emod a top).symm)) I9 fun v10 B10 H10 g10 r10 => ?_
      cases r10
      have I10 := I9.go g10
      exact q _ _ _ (Nat.mod_lt _ h1) (G9.trans (Gz.of g10) (I10.ow _ List.mem_cons_self).2) (Br.of hb3 I10)
    · have I4 := I3.go g4
      have G4 := G3.trans (Gz.of g4) (I4.ow _ List.mem_cons_self).2
      have rt := tN.mono g4.eb rt
      refine ss_nil ?_
      refine ss_ret (z := b3 / 115 % top) rfl (ev_mod (ev_intc bt (ev_fdiv (ev_ixL (es_var 0 List.mem_cons_self (brw_rep a b3 (c + 1)) (brw_len a b3 (c + 1))) ev_int) ev_int (fun y h => by cases h; decide))) (ev_var 1 rt) (fun y h => by cases h; exact h1)) I4 fun v10 B10 H10 g10 r10 => ?_
      cases r10
      have I10 := I4.go g10
      exact q _ _ _ (Nat.mod_lt _ h1) (G4.trans (Gz.of g10) (I10.ow _ List.mem_cons_self).2) (Br.of hb3 I10)
end
end Cw
namespace Cw
open PySem PySem.Spec PyProof.Rows L2 Ly
section
variable {P : Program} {w : World} {K : PySem.W.Frag} {mg : Str → Option Value} {base : Heap} {cw : Crew} {C : Addr}
theorem sc_of : FnScope ["_law_brew_here", "_law_menu"] ["_law_brew_here", "_law_menu"] (defScope (topS 82)) := ⟨rfl, rfl, rfl, by decide +kernel, rfl, by decide +kernel, by decide +kernel⟩
abbrev K_of (P : Program) (w : World) (K : PySem.W.Frag) (mg : Str → Option Value) (base : Heap) (cw : Crew) : Prop := Cal P w K mg base "_law_of" 2 ["_law_brew_here", "_law_menu"] (SpOf cw)
theorem cal_of (d : Df K mg "_law_of" (topS 82) ["_law_brew_here", "_law_menu"]) (bt : Bt mg) (c_tap : K_tap P w K mg base) : K_of P w K mg base cw := by
  obtain ⟨f, fd, F, mgf, bi⟩ := d.ex
  refine ⟨⟨f, fd, ?_, mgf, F.kp, bi⟩⟩
  refine F.ok sc_of (fun vs H Q E h => ?_) (fun cdv A outer s H0 vs Q E hr h => ⟨wSs _ _, p_ss, ?_⟩)
  · obtain ⟨x, s, B, rfl, _⟩ := h
    rfl
  · obtain ⟨x, t, B0, rfl, hv, h1, h2, br, q⟩ := h
    have rt : (tS cw).rep B0 (V.str (str cw t)) t := ⟨rfl, hv, h2⟩
    refine ss_cons (of_s (ps_ret (pe_ix ix_str (pe_var (i := 1) rfl (by first | exact Or.inl rfl | exact Or.inr (Or.inl rfl) | exact Or.inr (Or.inr rfl))) p_e (fun _ _ => rfl))) ?_)
    refine ⟨_, rfl, ?_⟩
    refine tap_of c_tap (hr.mono (by decide)) 0 h1 h2 (O := []) ⟨br.ex, fun _ hp => nomatch hp⟩ br (ev_lenS bt (ev_var 1 rt)) fun n B' H' hn g b' => ?_
    have hc : t[n]? = some t[n] := List.getElem?_eq_getElem hn
    refine ⟨_, _, cw.l.getD t[n] 0, rfl, rfl, by rw [str_len]; exact sz_of (by omega), atN_of ?_, q _ B' H' (List.getElem_mem hn) g b'⟩
    rw [str_list, List.getElem?_map, hc]
    rfl
theorem sc_crew : FnScope ["_law_brew_here", "_law_most", "_law_left", "_law_found", "_law_k"] ["_law_brew_here", "_law_most"] (defScope (topS 85)) := ⟨rfl, rfl, rfl, by decide +kernel, rfl, by decide +kernel, by decide +kernel⟩
abbrev K_crew (P : Program) (w : World) (K : PySem.W.Frag) (mg : Str → Option Value) (base : Heap) : Prop := Cal P w K mg base "_law_crew" 2 ["_law_brew_here", "_law_most"] SpCrew
theorem cal_crew (d : Df K mg "_law_crew" (topS 85) ["_law_brew_here", "_law_most"]) (bt : Bt mg) (c_tap : K_tap P w K mg base) : K_crew P w K mg base := by
  obtain ⟨f, fd, F, mgf, bi⟩ := d.ex
  refine ⟨⟨f, fd, ?_, mgf, F.kp, bi⟩⟩
  refine F.ok sc_crew (fun vs H Q E h => ?_) (fun cdv A outer s H0 vs Q E hr h => ⟨wSs _ _, p_ss, ?_⟩)
  · obtain ⟨x, B, rfl, _⟩ := h
    rfl
  · obtain ⟨x, B0, rfl, br, q⟩ := h
    have r4 : ∀ B, tN.rep B (V.int (4 : Nat)) 4 := fun _ => rfl
    refine ss_cons (of_s (ps_par rfl sc_crew.nd (i := 2) (j := 3) rfl rfl (by decide) rfl rfl (pa_cons (pe_callTy (call_listS rfl) rfl bt.list (by decide +kernel) (pa_cons pe_str pa_nil rfl)) (pa_cons (pe_lst pa_nil) pa_nil rfl) rfl) rfl rfl) ?_)
    refine ⟨_, rfl, cw10_size, fun p np => ?_⟩
    rw [cw10_signs]
    refine ⟨Nat.zero_le _, fun l nl => ⟨_, _, rfl, ?_⟩⟩
    have hpx : p ≠ x := fun e => by
      subst e
      obtain ⟨o, ho⟩ := br.some
      rw [np] at ho
      cases ho
    have npB : B0 p = none := br.ex.free np
    have br1 := br.mut (u := .lst (chs cw10 (List.range' 0 10))) npB hpx
    have nl0 : H0 l = none := by
      by_cases e : l = p
      · subst e
        rw [upd_same] at nl
        cases nl
      · rw [upd_ne e] at nl
        exact nl
    have hlp : l ≠ p := fun e => by
      subst e
      rw [upd_same] at nl
      cases nl
    have hlx : l ≠ x := fun e => by
      subst e
      obtain ⟨o, ho⟩ := br.some
      rw [nl0] at ho
      cases ho
    have nlB : B0 l = none := br.ex.free nl0
    have br2 := br1.mut (u := .lst []) nlB hlx
    have G2 : Gz x B0 H0 B0 (upd (upd H0 p (.lst (chs cw10 (List.range' 0 10)))) l (.lst [])) := ((Gz.refl br.ex).mut np npB).mut nl0 nlB
    have hp2 : (upd (upd H0 p (.lst (chs cw10 (List.range' 0 10)))) l (.lst [])) p = some (.lst (chs cw10 (List.range' 0 10))) := by rw [upd_ne hlp.symm, upd_same]
    have hl2 : (upd (upd H0 p (.lst (chs cw10 (List.range' 0 10)))) l (.lst [])) l = some (.lst (chs cw10 [])) := upd_same
    generalize (upd (upd H0 p (.lst (chs cw10 (List.range' 0 10)))) l (.lst [])) = H2 at br2 G2 hp2 hl2 ⊢
    -- the loop
    refine ss_cons (of_s (ps_for PassesOwn.never rfl (pi_range1 rfl bt.range (pa1 rfl) rfl) (pg_name (i := 4) sc_crew.nd rfl (by first | exact Or.inl rfl | exact Or.inr rfl)) p_ss (by intro _; rfl)) ?_)
    refine of_e (pe_op op_add pe_int p_e) ?_
    refine tap_of c_tap (hr.mono (by decide)) 0 (by decide) (by decide) (O := []) ⟨br2.ex, fun _ hp => nomatch hp⟩ br2 (ev_var 1 (r4 _)) fun n B3 H3 hn g3 br3 => ?_
    refine ⟨_, _, rfl, rfl, ?_⟩
    refine ⟨_, rfl, by omega, by omega, ?_⟩
    have en : ((1 : Int) + (n : Int)).toNat = n + 1 := by omega
    rw [en]
    have G3 := G2.trans g3 br3.nb
    have npB3 : B3 p = none := g3.keep npB hp2
    have nlB3 : B3 l = none := g3.keep nlB hl2
    refine for_it (walk_range (lo := 0)) (fun i σ H => ∃ (B : Hp) (y : Option V) (rem fnd : List Nat), σ = [some (.ref x), some (.int (4 : Nat)), some (.ref p), some (.ref l), y] ∧ Gz x B0 H0 B H ∧ Br x B H ∧ B p = none ∧ B l = none ∧ H p = some (.lst (chs cw10 rem)) ∧ H l = some (.lst (chs cw10 fnd)) ∧ (rem ++ fnd).Perm (List.range' 0 10) ∧ fnd.length = i)
      ⟨B3, none, List.range' 0 10, [], rfl, G3, br3, npB3, nlB3, g3.kh _ _ hpx hp2, g3.kh _ _ hlx hl2, by rw [List.append_nil], rfl⟩ (fun _ _ _ _ _ => trivial) ?_ ?_
    · rintro i v σ H4 H5 hi ⟨B4, y, rem, fnd, rfl, G4, br4, npB4, nlB4, hp4, hl4, pm, hf⟩ ⟨e5, _⟩
      subst e5
      have hlen := pm.length_eq
      rw [List.length_append, List.length_range'] at hlen
      have hrem : rem.length ≤ 100 := by omega
      have hval : ∀ i ∈ rem, i < cw10.l.length := fun i hi => by
        have := pm.mem_iff.mp (List.mem_append_left fnd hi)
        have := List.mem_range'_1.mp this
        show i < 10
        omega
      refine ss_cons (of_s (ps_expr (pe_bm PySem.F.plainAttrs_list PySem.F.slot_list_append PySem.F.type_list_append mt_append (pe_var (i := 3) rfl (by first | exact Or.inl rfl | exact Or.inr (Or.inl rfl) | exact Or.inr (Or.inr rfl))) (pa1 rfl)) rfl) ?_)
      refine ⟨_, rfl, .inl ⟨rfl, _, .inl (.inl hl4)⟩, ?_⟩
      refine pop_of 2 hp4 hrem hpx (fun Q hq => tap_of c_tap (hr.mono (by decide)) 0 (by omega) (by omega) (O := [(p, HO.lst (chs cw10 rem))]) ⟨br4.ex, fun q hq => by cases List.mem_singleton.mp hq; exact ⟨hp4, npB4⟩⟩ br4 (ev_lenL bt (es_var 2 List.mem_cons_self (reps_chars hval) (by show (chs cw10 rem).length ≤ 40000; rw [chs_len]; omega))) hq) fun n c B' H' hc g b' hp' => ?_
      have hl' := g.kh _ _ hlx hl4
      have npB' := g.keep npB4 hp4
      have nlB' := g.keep nlB4 hl4
      have hl'' : (upd H' p (.lst (chs cw10 (rem.eraseIdx n)))) l = some (.lst (chs cw10 fnd)) := by rw [upd_ne hlp]; exact hl'
      have el : chs cw10 fnd ++ [V.str (str cw10 [c])] = chs cw10 (fnd ++ [c]) := by
        unfold chs
        rw [List.map_append]
        rfl
      refine ⟨l, _, _, rfl, rfl, hl'', by rw [chs_len]; exact Nat.lt_of_le_of_lt (show fnd.length ≤ 10 by omega) (by decide), ?_⟩
      rw [el]
      refine ss_nil ⟨B', _, rem.eraseIdx n, fnd ++ [c], rfl, ((G4.trans g b'.nb).mut np npB').mut nl0 nlB', (b'.mut npB' hpx).mut nlB' hlx, npB', nlB', by rw [upd_ne hlp.symm, upd_same], upd_same, ?_, by rw [List.length_append, hf]; rfl⟩
      refine .trans ?_ pm
      have e1 := erase_perm hc
      have e2 : (rem.eraseIdx n ++ (fnd ++ [c])).Perm (c :: rem.eraseIdx n ++ fnd) := by
        rw [← List.append_assoc]
        exact List.perm_append_singleton c _
      exact e2.trans (e1.append_right fnd)
    · rintro σ H4 ⟨B4, y, rem, fnd, rfl, G4, br4, npB4, nlB4, hp4, hl4, pm, hf⟩
      have hlen := pm.length_eq
      rw [List.length_append, List.length_range'] at hlen
      have hval : ∀ i ∈ fnd, i < cw10.l.length := fun i hi => by
        have := pm.mem_iff.mp (List.mem_append_right rem hi)
        have := List.mem_range'_1.mp this
        show i < 10
        omega
      have hnd : fnd.Nodup := (List.nodup_append.mp (pm.nodup_iff.mpr List.nodup_range')).2.1
      have e1 : fSortL fnd = some (sortB Nat.blt fnd) := if_pos (by rw [Nat.blt_eq]; omega)
      have hp := sortB_perm (lt := Nat.blt) fnd
      have hls : (sortB Nat.blt fnd).length = n + 1 := by rw [hp.length_eq, hf]
      have e2 : fJoin (sortB Nat.blt fnd) = some (sortB Nat.blt fnd) := if_pos (by rw [Nat.ble_eq]; omega)
      refine ss_ret (T := tS cw10) (z := sortB Nat.blt fnd) (show ((some fnd).bind fSortL).bind fJoin = _ by rw [show (some fnd).bind fSortL = some (sortB Nat.blt fnd) from e1]; exact e2) (ev_join (es_of (ev_sortC bt (es_var 3 List.mem_cons_self (reps_chars hval) (by show (chs cw10 fnd).length ≤ 40000; rw [chs_len]; omega))))) (O := [(l, HO.lst (chs cw10 fnd))]) ⟨br4.ex, fun q hq => by cases List.mem_singleton.mp hq; exact ⟨hl4, nlB4⟩⟩ fun v B5 H5 g5 r5 => ?_
      obtain ⟨rfl, _, _⟩ := r5
      have hlt := sortN_lt hnd
      have hvl : ∀ i ∈ sortB Nat.blt fnd, i < cw10.l.length := fun i hi => hval i (hp.mem_iff.mp hi)
      rw [subc_str (h := hlt) (hl := hvl)]
      rw [hls]
      exact q _ (n + 1) _ _ (by omega) (by omega) (by rw [subc_len, hls]) (G4.trans (Gz.of g5) (br4.go g5).nb) (br4.go g5)
theorem sc_line : FnScope ["_law_brew_here", "_law_crew_here", "_law_left", "_law_found", "_law_k"] ["_law_brew_here", "_law_crew_here"] (defScope (topS 88)) := ⟨rfl, rfl, rfl, by decide +kernel, rfl, by decide +kernel, by decide +kernel⟩
abbrev K_line (P : Program) (w : World) (K : PySem.W.Frag) (mg : Str → Option Value) (base : Heap) (cw : Crew) : Prop := Cal P w K mg base "_law_line" 2 ["_law_brew_here", "_law_crew_here"] (SpLine cw)
theorem cal_line (d : Df K mg "_law_line" (topS 88) ["_law_brew_here", "_law_crew_here"]) (bt : Bt mg) (c_tap : K_tap P w K mg base) : K_line P w K mg base cw := by
  obtain ⟨f, fd, F, mgf, bi⟩ := d.ex
  refine ⟨⟨f, fd, ?_, mgf, F.kp, bi⟩⟩
  refine F.ok sc_line (fun vs H Q E h => ?_) (fun cdv A outer s H0 vs Q E hr h => ⟨wSs _ _, p_ss, ?_⟩)
  · obtain ⟨x, t, B, rfl, _⟩ := h
    rfl
  · obtain ⟨x, t, B0, rfl, hv, ht, br, q⟩ := h
    have rt : ∀ B, (tS cw).rep B (V.str (str cw t)) t := fun _ => ⟨rfl, hv, by omega⟩
    refine ss_cons (of_s (ps_par rfl sc_line.nd (i := 2) (j := 3) rfl rfl (by decide) rfl rfl (pa_cons (pe_callTy (call_listS rfl) rfl bt.list (by decide +kernel) (pa_cons (pe_var (i := 1) rfl (by first | exact Or.inl rfl | exact Or.inr (Or.inl rfl) | exact Or.inr (Or.inr rfl))) pa_nil rfl)) (pa_cons pe_str pa_nil rfl) rfl) rfl rfl) ?_)
    have hsz : (str cw t).cps.size ≤ sizeLine := by
      have e : (str cw t).cps.size = t.length := str_len
      rw [e]
      exact sz_of (by omega)
    refine ⟨_, rfl, _, rfl, hsz, fun p np => ?_⟩
    have esg : ((str cw t).cps.toList.map fun c => V.str ⟨#[c]⟩) = chs cw t := by
      rw [str_list, List.map_map]
      rfl
    rw [esg]
    refine ⟨_, _, rfl, ?_⟩
    have hpx : p ≠ x := fun e => by
      subst e
      obtain ⟨o, ho⟩ := br.some
      rw [np] at ho
      cases ho
    have npB : B0 p = none := br.ex.free np
    have br2 := br.mut (u := .lst (chs cw t)) npB hpx
    have G2 : Gz x B0 H0 B0 (upd H0 p (.lst (chs cw t))) := (Gz.refl br.ex).mut np npB
    have hp2 : (upd H0 p (.lst (chs cw t))) p = some (.lst (chs cw t)) := upd_same
    generalize (upd H0 p (.lst (chs cw t))) = H2 at br2 G2 hp2 ⊢
    refine ss_cons (of_s (ps_for PassesOwn.never rfl (pi_range1 rfl bt.range (pa1 rfl) rfl) (pg_name (i := 4) sc_line.nd rfl (by first | exact Or.inl rfl | exact Or.inr rfl)) p_ss (by intro _; rfl)) ?_)
    refine (ev_lenS bt (ev_var 1 (rt _)) (O := [])) t.length rfl B0 H2 (Ex.refl _) ⟨br2.ex, fun _ hp => nomatch hp⟩ _ fun v B3 H3 g3 r3 => ?_
    cases r3
    refine ⟨_, rfl, by omega, by omega, ?_⟩
    rw [Int.toNat_natCast]
    have br3 := br2.go g3
    have G3 := G2.trans (Gz.of g3) br3.nb
    have npB3 : B3 p = none := (Gz.of (x := x) g3).keep npB hp2
    refine for_it (walk_range (lo := 0)) (fun i σ H => ∃ (B : Hp) (y : Option V) (rem fnd : List Nat), σ = [some (.ref x), some (.str (str cw t)), some (.ref p), some (.str (str cw fnd)), y] ∧ Gz x B0 H0 B H ∧ Br x B H ∧ B p = none ∧ H p = some (.lst (chs cw rem)) ∧ (rem ++ fnd).Perm t ∧ fnd.length = i)
      ⟨B3, none, t, [], by rw [← str_nil]; rfl, G3, br3, npB3, g3.eh _ _ hp2, by rw [List.append_nil], rfl⟩ (fun _ _ _ _ _ => trivial) ?_ ?_
    · rintro i v σ H4 H5 hi ⟨B4, y, rem, fnd, rfl, G4, br4, npB4, hp4, pm, hf⟩ ⟨e5, _⟩
      subst e5
      have hlen := pm.length_eq
      rw [List.length_append] at hlen
      have hval : ∀ i ∈ rem, i < cw.l.length := fun i hi => hv i (pm.mem_iff.mp (List.mem_append_left fnd hi))
      refine ss_cons (of_s (ps_set (i := 3) sc_line.nd rfl (by first | exact Or.inl rfl | exact Or.inr rfl) (pe_op op_add_str (pe_var (i := 3) rfl (by first | exact Or.inl rfl | exact Or.inr (Or.inl rfl) | exact Or.inr (Or.inr rfl))) p_e) rfl) ?_)
      refine ⟨_, rfl, ?_⟩
      refine pop_of 2 hp4 (by omega) hpx (fun Q hq => tap_of c_tap (hr.mono (by decide)) 0 (by omega) (by omega) (O := [(p, HO.lst (chs cw rem))]) ⟨br4.ex, fun q hq => by cases List.mem_singleton.mp hq; exact ⟨hp4, npB4⟩⟩ br4 (ev_lenL bt (es_var 2 List.mem_cons_self (reps_chars hval) (by show (chs cw rem).length ≤ 40000; rw [chs_len]; omega))) hq) fun n c B' H' hc g b' hp' => ?_
      have npB' := g.keep npB4 hp4
      refine ⟨_, _, rfl, rfl, by rw [str_len, str_len]; exact sz_of (show fnd.length + 1 ≤ 40000 by omega), ?_⟩
      rw [str_app]
      refine ss_nil ⟨B', _, rem.eraseIdx n, fnd ++ [c], rfl, (G4.trans g b'.nb).mut np npB', b'.mut npB' hpx, npB', upd_same, ?_, by rw [List.length_append, hf]; rfl⟩
      refine .trans ?_ pm
      have e1 := erase_perm hc
      have e2 : (rem.eraseIdx n ++ (fnd ++ [c])).Perm (c :: rem.eraseIdx n ++ fnd) := by
        rw [← List.append_assoc]
        exact List.perm_append_singleton c _
      exact e2.trans (e1.append_right fnd)
    · rintro σ H4 ⟨B4, y, rem, fnd, rfl, G4, br4, npB4, hp4, pm, hf⟩
      have hlen := pm.length_eq
      rw [List.length_append] at hlen
      have hr0 : rem = [] := List.eq_nil_of_length_eq_zero (by omega)
      subst hr0
      refine ss_ret (T := tS cw) (z := fnd) rfl (ev_var 3 (⟨rfl, fun i hi => hv i (pm.mem_iff.mp hi), by omega⟩ : (tS cw).rep B4 (V.str (str cw fnd)) fnd)) (O := []) ⟨br4.ex, fun _ hp => nomatch hp⟩ fun v B5 H5 g5 r5 => ?_
      obtain ⟨rfl, _, _⟩ := r5
      exact q fnd _ _ pm (G4.trans (Gz.of g5) (br4.go g5).nb) (br4.go g5)
end
end Cw
namespace Cw
open PySem PySem.Spec PyProof.Rows L2 Ly
section
variable {P : Program} {w : World} {K : PySem.W.Frag} {mg : Str → Option Value} {base : Heap} {cw : Crew} {C : Addr}
theorem sc_drawn : FnScope ["_law_brew_here", "_law_crew_here", "_law_many", "_law_ties", "_law_turn", "_law_x", "_law_y", "_law_z"] ["_law_brew_here", "_law_crew_here", "_law_many"] (defScope (topS 86)) := ⟨rfl, rfl, rfl, by decide +kernel, rfl, by decide +kernel, by decide +kernel⟩
abbrev K_drawn (P : Program) (w : World) (K : PySem.W.Frag) (mg : Str → Option Value) (base : Heap) (cw : Crew) : Prop := Cal P w K mg base "_law_drawn_leads" 3 ["_law_brew_here", "_law_crew_here", "_law_many"] (SpDrawn cw)
theorem cal_drawn (dd : Df K mg "_law_drawn_leads" (topS 86) ["_law_brew_here", "_law_crew_here", "_law_many"]) (bt : Bt mg) (c_of : K_of P w K mg base cw) : K_drawn P w K mg base cw := by
  obtain ⟨f, fd, F, mgf, bi⟩ := dd.ex
  refine ⟨⟨f, fd, ?_, mgf, F.kp, bi⟩⟩
  refine F.ok sc_drawn (fun vs H Q E h => ?_) (fun cdv A outer s H0 vs Q E hr h => ⟨wSs _ _, p_ss, ?_⟩)
  · obtain ⟨x, n, many, B, rfl, _⟩ := h
    rfl
  · obtain ⟨x, n, many, B0, rfl, hc, hn1, hn4, hm0, br, q⟩ := h
    have hv : ∀ i ∈ List.range' 0 n, i < cw.l.length := fun i hi => by have := List.mem_range'_1.mp hi; omega
    have rS : ∀ B, (tS cw).rep B (V.str (str cw (List.range' 0 n))) (List.range' 0 n) := fun _ => ⟨rfl, hv, by rw [List.length_range']; omega⟩
    have rM : ∀ B, tN.rep B (V.int (many : Int)) many := fun _ => rfl
    have hu := u64 hr
    have hlen : (List.range' 0 n).length = n := List.length_range'
    refine ss_newD 3 (O := []) ⟨br.ex, fun _ hp => nomatch hp⟩ (fun d hd0 => ?_) sc_drawn.nd
    have hdx : d ≠ x := fun e => by
      subst e
      obtain ⟨o, ho⟩ := br.some
      rw [hd0] at ho
      cases ho
    have nd := br.ex.free hd0
    have br1 := br.mut (u := .dK (kvsT cw [])) nd hdx
    have G1 : Gz x B0 H0 B0 (upd H0 d (.dK (kvsT cw []))) := (Gz.refl br.ex).mut hd0 nd
    have hd1 : (upd H0 d (.dK (kvsT cw []))) d = some (.dK (kvsT cw [])) := upd_same
    have T1 := Tie.nil hn4
    show wSs _ _ _ _ (upd H0 d (.dK (kvsT cw [])))
    generalize (upd H0 d (.dK (kvsT cw []))) = H1 at br1 G1 hd1 ⊢
    refine ss_for 4 (show (some many).bind rng1 = some (List.range' 0 many) from if_pos (by rw [Nat.ble_eq]; omega)) (iv_rng1 bt (ev_var 2 (rM _)) (O := []) (B := B0)) (O := []) ⟨br1.ex, fun _ hp => nomatch hp⟩ (fun Bq rem σq Hq => ∃ (Bp : Hp) (y_t y_x y_y : Option V) (ts : List (List Nat)) (m : Nat), σq = [some (.ref x), some (.str (str cw (List.range' 0 n))), some (.int (many : Int)), some (.ref d), y_t, y_x, y_y, none] ∧ Gz x B0 H0 Bp Hq ∧ Br x Bp Hq ∧ Bp d = none ∧ Hq d = some (.dK (kvsT cw ts)) ∧ Tie n ts m ∧ Ex Bq Bp ∧ Off n m ∧ (many = 0 → m = 0) ∧ rem.length ≤ many) ?_ ?_ ?_ ?_ PassesOwn.never rfl (pg_name (i := 4) sc_drawn.nd rfl (by first | exact Or.inl rfl | exact Or.inr rfl))
    · intro Ba Ha ga
      exact ⟨Ba, _, _, _, [], 0, rfl, G1.trans (Gz.of ga) (br1.go ga).nb, br1.go ga, (Gz.of (x := x) ga).keep nd hd1, ga.eh _ _ hd1, T1, Ex.refl _, Off.zero, fun _ => rfl, by rw [List.length_range']; exact Nat.le_refl _⟩
    · rintro B1 rem σ1 H1 ⟨Bp, y_t, y_x, y_y, ts, m, _, _, br1, _, _, _, e1, _⟩
      exact ⟨e1.trans br1.ex, fun _ hp => nomatch hp⟩
    · intro B1 k rem vk σ1 H2 e1 _ ⟨B2, y_t, y_x, y_y, ts, m, hσ, G2, br2, nd2, hd2, T2, eL2, hO2, _, hl2⟩
      subst hσ
      have hl2 : rem.length + 1 ≤ many := hl2
      refine ss_cons (of_s (ps_par rfl sc_drawn.nd (i := 5) (j := 6) rfl rfl (by decide) rfl rfl (pa_cons p_e (pa_cons p_e pa_nil rfl) rfl) rfl rfl) ?_)
      refine of_of c_of (hr.mono (by decide)) 0 1 hv (by omega) (by omega) br2 fun cx B3 H3 hcx g3 br3 => ?_
      refine of_of c_of (hr.mono (by decide)) 0 1 hv (by omega) (by omega) br3 fun cy B4 H4 hcy g4 br4 => ?_
      refine ⟨_, _, rfl, ?_⟩
      have nd3 := g3.keep nd2 hd2
      have hd3 := g3.kh _ _ hdx hd2
      have nd4 := g4.keep nd3 hd3
      have hd4 := g4.kh _ _ hdx hd3
      have G4 := (G2.trans g3 br3.nb).trans g4 br4.nb
      have hv4 := T2.val hc
      have hxn : cx < n := by have := hv cx hcx; omega
      have hyn : cy < n := by have := hv cy hcy; omega
      have r_x : ∀ B, (tC cw).rep B (V.str (str cw [cx])) cx := fun _ => ⟨rfl, hv cx hcx⟩
      have r_y : ∀ B, (tC cw).rep B (V.str (str cw [cy])) cy := fun _ => ⟨rfl, hv cy hcy⟩
      have I4 : In B4 [(d, HO.dK (kvsT cw ts))] H4 := ⟨br4.ex, fun q hq => by cases List.mem_singleton.mp hq; exact ⟨hd4, nd4⟩⟩
      refine ss_if (z := !Nat.beq cx cy) rfl (ev_neC (ev_var 5 (r_x _)) (ev_var 6 (r_y _))).2 I4 (fun hz B5 H5 g5 => ?_) (fun hz B5 H5 g5 => ?_)
      · have br5 := br4.go g5
        have nd5 := (Gz.of (x := x) g5).keep nd4 hd4
        have hd5 := g5.eh _ _ hd4
        refine ss_putT 3 hu (t := [cx, cy]) rfl (ev_catS (ev_toS (ev_var 5 (r_x _))) (ev_toS (ev_var 6 (r_y _)))) (I4.go g5) List.mem_cons_self hv4 (Nat.le_trans T2.len (by decide)) (fun B6 H6 g6 => ?_)
        have br6 := br5.go g6
        have nd6 := (Gz.of (x := x) g6).keep nd5 hd5
        have hne : cx ≠ cy := fun e => by
          subst e
          simp at hz
        refine ss_nil (ss_nil ⟨B6, _, _, _, _, _, rfl, ((G4.trans (Gz.of g5) br5.nb).trans (Gz.of g6) br6.nb).mut hd0 nd6, br6.mut nd6 hdx, nd6, upd_same, T2.put hxn hyn, eL2.trans ((g3.eb.trans g4.eb).trans (g5.eb.trans g6.eb)), hO2.put hxn hyn hne, fun e => by omega, by omega⟩)
      · have br5 := br4.go g5
        refine ss_nil (ss_nil ⟨B5, _, _, _, _, _, rfl, G4.trans (Gz.of g5) br5.nb, br5, (Gz.of (x := x) g5).keep nd4 hd4, g5.eh _ _ hd4, T2, eL2.trans ((g3.eb.trans g4.eb).trans g5.eb), hO2, fun e => by omega, by omega⟩)
    · intro B1 σ1 H1 e1 ⟨Bc, y_t, y_x, y_y, ts, mA, hσ, G, br, nd, hd, T, eL, hOA, h0A, _⟩
      subst hσ
      refine ss_for 7 rfl (iv_S (ev_var 1 (rS _)) (O := []) (B := Bc)) (O := []) ⟨br.ex, fun _ hp => nomatch hp⟩ (fun Bq rem σq Hq => ∃ (Bp : Hp) (yz yx yy : Option V) (ts : List (List Nat)) (m : Nat), σq = [some (.ref x), some (.str (str cw (List.range' 0 n))), some (.int (many : Int)), some (.ref d), y_t, yx, yy, yz] ∧ Gz x B0 H0 Bp Hq ∧ Br x Bp Hq ∧ Bp d = none ∧ Hq d = some (.dK (kvsT cw ts)) ∧ Tie n ts m ∧ Ex Bq Bp ∧ rem.foldl (cl2 false (List.range' 0 n)) m = clo false (List.range' 0 n) mA ∧ ∀ i ∈ rem, i ∈ (List.range' 0 n)) ?_ ?_ ?_ ?_ PassesOwn.never rfl (pg_name (i := 7) sc_drawn.nd rfl (by first | exact Or.inl rfl | exact Or.inr rfl))
      · intro Ba Ha ga
        exact ⟨Ba, _, _, _, ts, mA, rfl, G.trans (Gz.of ga) (br.go ga).nb, br.go ga, (Gz.of (x := x) ga).keep nd hd, ga.eh _ _ hd, T, Ex.refl _, rfl, fun i hi => hi⟩
      · rintro B1 rem σ1 H1 ⟨Bp, yz, yx, yy, ts, m, _, _, br1, _, _, _, e1, _⟩
        exact ⟨e1.trans br1.ex, fun _ hp => nomatch hp⟩
      · intro B1 z remz vz σ1 H1 e1 r_z ⟨B2, yz, yx, yy, ts1, m1, hσ, G1, br1, nd1, hd1, T1, eL1, hM1, hin1⟩
        subst hσ
        have r_z := (tC cw).mono eL1 r_z
        have hez : z < n := by have := hv z (hin1 z List.mem_cons_self); omega
        refine ss_for 5 rfl (iv_S (ev_var 1 (rS _)) (O := []) (B := B2)) (O := []) ⟨br1.ex, fun _ hp => nomatch hp⟩ (fun Bq rem σq Hq => ∃ (Bp : Hp) (yx yy : Option V) (ts : List (List Nat)) (m : Nat), σq = [some (.ref x), some (.str (str cw (List.range' 0 n))), some (.int (many : Int)), some (.ref d), y_t, yx, yy, some vz] ∧ Gz x B0 H0 Bp Hq ∧ Br x Bp Hq ∧ Bp d = none ∧ Hq d = some (.dK (kvsT cw ts)) ∧ Tie n ts m ∧ Ex Bq Bp ∧ rem.foldl (cl3 false (List.range' 0 n) z) m = cl2 false (List.range' 0 n) m1 z ∧ ∀ i ∈ rem, i ∈ (List.range' 0 n)) ?_ ?_ ?_ ?_ PassesOwn.never rfl (pg_name (i := 5) sc_drawn.nd rfl (by first | exact Or.inl rfl | exact Or.inr rfl))
        · intro Ba Ha ga
          exact ⟨Ba, _, _, ts1, m1, rfl, G1.trans (Gz.of ga) (br1.go ga).nb, br1.go ga, (Gz.of (x := x) ga).keep nd1 hd1, ga.eh _ _ hd1, T1, Ex.refl _, rfl, fun i hi => hi⟩
        · rintro B3 rem σ2 H2 ⟨Bp, yx, yy, ts, m, _, _, br2, _, _, _, e2, _⟩
          exact ⟨e2.trans br2.ex, fun _ hp => nomatch hp⟩
        · intro B3 ex remx vx σ2 H2 e2 r_x ⟨B4, yx, yy, ts2, m2, hσ, G2, br2, nd2, hd2, T2, eL2, hM2, hin2⟩
          subst hσ
          have r_x := (tC cw).mono eL2 r_x
          have r_z := (tC cw).mono (e2.trans eL2) r_z
          have hex : ex < n := by have := hv ex (hin2 ex List.mem_cons_self); omega
          refine ss_for 6 rfl (iv_S (ev_var 1 (rS _)) (O := []) (B := B4)) (O := []) ⟨br2.ex, fun _ hp => nomatch hp⟩ (fun Bq rem σq Hq => ∃ (Bp : Hp) (yy : Option V) (ts : List (List Nat)) (m : Nat), σq = [some (.ref x), some (.str (str cw (List.range' 0 n))), some (.int (many : Int)), some (.ref d), y_t, some vx, yy, some vz] ∧ Gz x B0 H0 Bp Hq ∧ Br x Bp Hq ∧ Bp d = none ∧ Hq d = some (.dK (kvsT cw ts)) ∧ Tie n ts m ∧ Ex Bq Bp ∧ rem.foldl (stp false z ex) m = cl3 false (List.range' 0 n) z m2 ex ∧ ∀ i ∈ rem, i ∈ (List.range' 0 n)) ?_ ?_ ?_ ?_ PassesOwn.never rfl (pg_name (i := 6) sc_drawn.nd rfl (by first | exact Or.inl rfl | exact Or.inr rfl))
          · intro Ba Ha ga
            exact ⟨Ba, _, ts2, m2, rfl, G2.trans (Gz.of ga) (br2.go ga).nb, br2.go ga, (Gz.of (x := x) ga).keep nd2 hd2, ga.eh _ _ hd2, T2, Ex.refl _, rfl, fun i hi => hi⟩
          · rintro B5 rem σ3 H3 ⟨Bp, yy, ts, m, _, _, br3, _, _, _, e3, _⟩
            exact ⟨e3.trans br3.ex, fun _ hp => nomatch hp⟩
          · intro B5 y remy vy σ3 H3 e3 r_y ⟨B6, yy, ts3, m3, hσ, G3, br3, nd3, hd3, T3, eL3, hM3, hin3⟩
            subst hσ
            have r_y := (tC cw).mono eL3 r_y
            have r_x := (tC cw).mono (e3.trans eL3) r_x
            have r_z := (tC cw).mono (e3.trans eL3) r_z
            have hey : y < n := by have := hv y (hin3 y List.mem_cons_self); omega
            have hv3 := T3.val hc
            have hb : stp false z ex m3 y = bif (!Nat.beq ex y && (ts3.contains [ex, z] && ts3.contains [z, y])) then sb m3 ex y else m3 := by
              rw [stp_b, ← T3.has hex hez, ← T3.has hez hey]
              rfl
            have I3 : In B6 [(d, HO.dK (kvsT cw ts3))] H3 := ⟨br3.ex, fun q hq => by cases List.mem_singleton.mp hq; exact ⟨hd3, nd3⟩⟩
            refine ss_if (z := !Nat.beq ex y && (ts3.contains [ex, z] && ts3.contains [z, y])) (andB3 _ _ _) (tv_w (wv_and (ev_neC (ev_var 5 r_x) (ev_var 6 r_y)).2 (wv_and (cv_inD 3 hu (ev_catS (ev_toS (ev_var 5 r_x)) (ev_toS (ev_var 7 r_z))) List.mem_cons_self hv3).2 (wv_and1 (cv_inD 3 hu (ev_catS (ev_toS (ev_var 7 r_z)) (ev_toS (ev_var 6 r_y))) List.mem_cons_self hv3).2)))) I3 (fun hz B7 H7 g7 => ?_) (fun hz B7 H7 g7 => ?_)
            · rw [hz] at hb
              have br7 := br3.go g7
              have G7 := G3.trans (Gz.of g7) br7.nb
              have nd7 := (Gz.of (x := x) g7).keep nd3 hd3
              have hd7 := g7.eh _ _ hd3
              have I7 := I3.go g7
              have r_x := (tC cw).mono g7.eb r_x
              have r_y := (tC cw).mono g7.eb r_y
              refine ss_putT 3 hu (t := [ex, y]) rfl (ev_catS (ev_toS (ev_var 5 r_x)) (ev_toS (ev_var 6 r_y))) I7 List.mem_cons_self hv3 (Nat.le_trans T3.len (by decide)) (fun B8 H8 g8 => ?_)
              have br8 := br7.go g8
              have nd8 := (Gz.of (x := x) g8).keep nd7 hd7
              refine ss_nil (ss_nil ⟨B8, _, _, _, rfl, (G7.trans (Gz.of g8) br8.nb).mut hd0 nd8, br8.mut nd8 hdx, nd8, upd_same, T3.put hex hey, eL3.trans (g7.eb.trans g8.eb), ?_, fun i hi => hin3 i (List.mem_cons_of_mem _ hi)⟩)
              have hM3 : remy.foldl (stp false z ex) (stp false z ex m3 y) = _ := hM3
              rw [hb] at hM3
              exact hM3
            · rw [hz] at hb
              have br7 := br3.go g7
              refine ss_nil (ss_nil ⟨B7, _, ts3, m3, rfl, G3.trans (Gz.of g7) br7.nb, br7, (Gz.of (x := x) g7).keep nd3 hd3, g7.eh _ _ hd3, T3, eL3.trans g7.eb, ?_, fun i hi => hin3 i (List.mem_cons_of_mem _ hi)⟩)
              have hM3 : remy.foldl (stp false z ex) (stp false z ex m3 y) = _ := hM3
              rw [hb] at hM3
              exact hM3
          · intro B5 σ3 H3 e3 ⟨B6, yy, ts3, m3, hσ, G3, br3, nd3, hd3, T3, eL3, hM3, _⟩
            subst hσ
            have hM3 : m3 = _ := hM3
            exact ss_nil ⟨B6, _, _, ts3, m3, rfl, G3, br3, nd3, hd3, T3, eL2.trans (e3.trans eL3), by rw [hM3]; exact hM2, fun i hi => hin2 i (List.mem_cons_of_mem _ hi)⟩
        · intro B3 σ2 H2 e2 ⟨B4, yx, yy, ts2, m2, hσ, G2, br2, nd2, hd2, T2, eL2, hM2, _⟩
          subst hσ
          have hM2 : m2 = _ := hM2
          exact ss_nil ⟨B4, _, _, _, ts2, m2, rfl, G2, br2, nd2, hd2, T2, eL1.trans (e2.trans eL2), by rw [hM2]; exact hM1, fun i hi => hin1 i (List.mem_cons_of_mem _ hi)⟩
      · intro B1 σ1 H1 e1 ⟨Bc, yz, yx, yy, ts, m, hσ, G, br, nd, hd, T, eL, hM, _⟩
        subst hσ
        have hM : m = _ := hM
        refine ss_cons (of_s (ps_ret (pe_var (i := 3) rfl (by first | exact Or.inl rfl | exact Or.inr (Or.inl rfl) | exact Or.inr (Or.inr rfl)))) ?_)
        exact ⟨_, rfl, q d ts m mA Bc H1 hd0 nd hd T hOA hM h0A G br⟩
end
end Cw
namespace Cw
open PySem PySem.Spec PyProof.Rows L2 Ly
section
variable {P : Program} {w : World} {K : PySem.W.Frag} {mg : Str → Option Value} {base : Heap} {cw : Crew} {C : Addr}
theorem sc_right : FnScope ["_law_brew_here", "_law_turn", "_law_crew_here", "_law_ties", "_law_line_here", "_law_fresh", "_law_more", "_law_tie", "_law_z", "_law_x", "_law_y", "_law_k"] ["_law_brew_here"] (defScope (topS 93)) := ⟨rfl, rfl, rfl, by decide +kernel, rfl, by decide +kernel, by decide +kernel⟩
abbrev K_right (P : Program) (w : World) (K : PySem.W.Frag) (mg : Str → Option Value) (base : Heap) : Prop := CalG P w K mg base "_law_right" 15 ["_law_brew_here"] SpRight
theorem cal_right (dd : Df K mg "_law_right" (topS 93) ["_law_brew_here"]) (bt : Bt mg) (c_tap : K_tap P w K mg base) (c_crew : K_crew P w K mg base) (c_line : ∀ cw, K_line P w K mg base cw) (c_drawn : ∀ cw, K_drawn P w K mg base cw) (c_leads : ∀ cw, K__law_leads_right P w K mg base cw C) : K_right P w K mg base := by
  obtain ⟨f, fd, F, mgf, bi⟩ := dd.ex
  refine ⟨⟨f, fd, ?_, mgf, F.kp, bi⟩⟩
  refine okG F sc_right (fun vs H Q E h => ?_) (fun cdv A outer s H0 vs Q E hgd hr h => ⟨wSs _ _, p_ss, ?_⟩)
  · obtain ⟨x, B, rfl, _⟩ := h
    rfl
  · obtain ⟨x, B0, rfl, br, q⟩ := h
    have hu := u64 hr
    refine ss_for 1 (show (some 2).bind rng1 = some [0, 1] from rfl) (iv_rng1 bt ev_int (O := []) (B := B0)) (O := []) ⟨br.ex, fun _ hp => nomatch hp⟩ (fun Bq rem σq Hq => ∃ (Bp : Hp) (y1 y2 y3 y4 y5 y6 y7 y8 y9 y10 y11 : Option V), σq = [some (.ref x), y1, y2, y3, y4, y5, y6, y7, y8, y9, y10, y11] ∧ Gz x B0 H0 Bp Hq ∧ Br x Bp Hq ∧ Ex Bq Bp) ?_ ?_ ?_ ?_ PassesOwn.never rfl (pg_name (i := 1) sc_right.nd rfl (by first | exact Or.inl rfl | exact Or.inr rfl))
    · intro Ba Ha ga
      exact ⟨Ba, _, _, _, _, _, _, _, _, _, _, _, rfl, (Gz.of ga), br.go ga, Ex.refl _⟩
    · rintro B1 rem σ1 H1 ⟨Bp, y1, y2, y3, y4, y5, y6, y7, y8, y9, y10, y11, _, _, br1, e1⟩
      exact ⟨e1.trans br1.ex, fun _ hp => nomatch hp⟩
    · intro B1 tu rem vt σ1 H1 e1 _ ⟨B2, y1, y2, y3, y4, y5, y6, y7, y8, y9, y10, y11, hσ, G2, br2, eL2⟩
      subst hσ
      refine ss_cons (of_s (ps_set (i := 2) sc_right.nd rfl (by first | exact Or.inl rfl | exact Or.inr rfl) p_e rfl) ?_)
      refine call_of c_crew (hr.mono (by decide)) rfl (by decide) rfl rfl (of_a (pa_cons (pe_var (i := 0) rfl (by first | exact Or.inl rfl | exact Or.inr (Or.inl rfl) | exact Or.inr (Or.inr rfl))) (pa_cons pe_int pa_nil rfl) rfl) ⟨_, rfl, x, B2, rfl, br2, fun cw n B3 H3 hn1 hn4 hc g3 br3 => ?_⟩)
      have G3 := G2.trans g3 br3.nb
      have hv : ∀ i ∈ List.range' 0 n, i < cw.l.length := fun i hi => by have := List.mem_range'_1.mp hi; omega
      have hlen : (List.range' 0 n).length = n := List.length_range'
      have rC : ∀ B, (tS cw).rep B (V.str (str cw (List.range' 0 n))) (List.range' 0 n) := fun _ => ⟨rfl, hv, by rw [List.length_range']; omega⟩
      refine ss_cons (of_s (ps_set (i := 3) sc_right.nd rfl (by first | exact Or.inl rfl | exact Or.inr rfl) (pe_callTy call_tuple_of rfl bt.tuple (by decide +kernel) (pa_cons (pe_callB (call_sortedD rfl) rfl bt.sorted PyProof.Rows.boot_sorted (pa_cons p_e pa_nil rfl)) pa_nil rfl)) rfl) ?_)
      refine call_of (c_drawn cw) (hr.mono (by decide)) rfl (by decide) rfl rfl (of_a (pa_cons (pe_var (i := 0) rfl (by first | exact Or.inl rfl | exact Or.inr (Or.inl rfl) | exact Or.inr (Or.inr rfl))) (pa_cons (pe_var (i := 2) rfl (by first | exact Or.inl rfl | exact Or.inr (Or.inl rfl) | exact Or.inr (Or.inr rfl))) (pa_cons p_e pa_nil rfl) rfl) rfl) ⟨_, rfl, _, rfl, ?_⟩)
      refine tap_of c_tap (hr.mono (by decide)) 0 (by decide) (by decide) (O := []) ⟨br3.ex, fun _ hp => nomatch hp⟩ br3 (ev_int (n := 5)) fun many B4 H4 hm4 g4 br4 => ?_
      refine ⟨x, n, many, B4, rfl, hc, hn1, hn4, by omega, br4, fun d ts m m0 B5 H5 hd0 nd hd T hO hM _ g5 br5 => ?_⟩
      refine ⟨d, _, ts.map (str cw), rfl, .inl hd, tie_keys, (by rw [List.length_map]; have := T.len; omega), fun ys p1 pm hss np1 => ?_⟩
      rw [sort_is (T.val hc) pm hss, T.sort]
      refine ⟨p1, _, rfl, .inl ⟨SqL.of upd_same, fun p2 np2 => ?_⟩⟩
      have g6 := (Go.tmp (o := .lst (((tiesOf n m).map (str cw)).map V.str)) br5.ex np1)
      have br6 := br5.go g6
      have g7 := Go.lay (o := .tup (((tiesOf n m).map (str cw)).map V.str)) br6.ex np2
      have br7 := br6.go g7
      have G7 := ((((G3.trans g4 br4.nb).trans g5 br5.nb).trans (Gz.of g6) br6.nb).trans (Gz.of g7) br7.nb)
      have rT : (tT (tS cw)).rep (upd B5 p2 (.tup (((tiesOf n m).map (str cw)).map V.str))) (.ref p2) (tiesOf n m) := ⟨p2, _, rfl, upd_same, reps_strs (ties_ok hn4 hc), by rw [List.length_map, List.length_map]; exact Nat.le_trans (ties_len hn4) (by decide)⟩
      have hg1 : m__law_leads_right (List.range' 0 n) (tiesOf n m) = some true := by
        rw [hM]
        exact good_of hn1 hn4 (clo_off hO) (clo_trans hn1 hn4 hO)
      generalize upd B5 p2 (.tup (((tiesOf n m).map (str cw)).map V.str)) = B7 at br7 G7 rT g7 ⊢
      generalize upd (upd H5 p1 (.lst (((tiesOf n m).map (str cw)).map V.str))) p2 (.tup (((tiesOf n m).map (str cw)).map V.str)) = H7 at br7 G7 g7 ⊢
      refine ss_if (z := false) (show notO (op2 m__law_leads_right (some (List.range' 0 n)) (some (tiesOf n m))) = some false by show notO (m__law_leads_right (List.range' 0 n) (tiesOf n m)) = some false; rw [hg1]; rfl) (tv_not (tv_of (ev_callG2 (c_leads cw) hgd (hr.mono (by decide)) (ev_var 2 (rC _)) (ev_var 3 rT)))) (O := []) ⟨br7.ex, fun _ hp => nomatch hp⟩ (fun hz => nomatch hz) (fun _ B8 H8 g8 => ?_)
      have br8 := br7.go g8
      have G8 := G7.trans (Gz.of g8) br8.nb
      refine ss_nil ?_
      refine ss_cons (of_s (ps_set (i := 4) sc_right.nd rfl (by first | exact Or.inl rfl | exact Or.inr rfl) p_e rfl) ?_)
      refine call_of (c_line cw) (hr.mono (by decide)) rfl (by decide) rfl rfl (of_a (pa_cons (pe_var (i := 0) rfl (by first | exact Or.inl rfl | exact Or.inr (Or.inl rfl) | exact Or.inr (Or.inr rfl))) (pa_cons (pe_var (i := 2) rfl (by first | exact Or.inl rfl | exact Or.inr (Or.inl rfl) | exact Or.inr (Or.inr rfl))) pa_nil rfl) rfl) ⟨_, rfl, _, rfl, x, List.range' 0 n, B8, rfl, hv, by omega, br8, fun t B9 H9 hp g9 br9 => ?_⟩)
      have G9 := G8.trans g9 br9.nb
      have htl : t.length = n := by rw [hp.length_eq, hlen]
      have hvt : ∀ i ∈ t, i < cw.l.length := fun i hi => hv i (hp.mem_iff.mp hi)
      have rL : ∀ B, (tS cw).rep B (V.str (str cw t)) t := fun _ => ⟨rfl, hvt, by omega⟩
      have hfk : ∀ k, k + 1 < t.length → (fun k => op2 fCatS ((op2 (fun xs i => xs[i]?) (some t) (some k)).bind fun i => some [i]) ((op2 (fun xs i => xs[i]?) (some t) (op2 fAdd (some k) (some 1))).bind fun i => some [i])) k = some [t.getD k 0, t.getD (k + 1) 0] := fun k hk => by
        show op2 fCatS ((t[k]?).bind fun i => some [i]) ((t[k + 1]?).bind fun i => some [i]) = _
        have h1 : k < t.length := by omega
        have e1 : t.getD k 0 = t[k] := by rw [List.getD_eq_getElem?_getD, List.getElem?_eq_getElem h1]; rfl
        have e2 : t.getD (k + 1) 0 = t[k + 1] := by rw [List.getD_eq_getElem?_getD, List.getElem?_eq_getElem hk]; rfl
        rw [List.getElem?_eq_getElem h1, List.getElem?_eq_getElem hk, e1, e2]
        rfl
      have hin : ∀ k ∈ List.range' 0 (t.length - 1), k + 1 < t.length := fun k hk => by have := List.mem_range'_1.mp hk; omega
      refine ss_cons (of_s (ps_setLc (own := [("_law_k", 11)]) rfl sc_right.nd (i := 5) rfl rfl (sw_true rfl rfl rfl (by decide +kernel)) p_i (blkOk_by (by kernel_rfl)) (fun _ _ _ _ _ => pg_name (i := 11) sc_right.nd rfl (by first | exact Or.inl rfl | exact Or.inr rfl)) (p_tb (by decide)) p_eb (by intro _; rfl)) ?_)
      refine lc_tap (x := x) (B := B9) (xs := List.range' 0 (t.length - 1)) (f := (fun k => op2 fCatS ((op2 (fun xs i => xs[i]?) (some t) (some k)).bind fun i => some [i]) ((op2 (fun xs i => xs[i]?) (some t) (op2 fAdd (some k) (some 1))).bind fun i => some [i]))) (show op2 rngM ((some t).bind fun l => some l.length) (some 1) = some (List.range' 0 (t.length - 1)) from if_pos (by rw [Bool.and_eq_true, Nat.ble_eq, Nat.ble_eq]; omega)) (iv_rngM bt (ev_lenS bt (ev_var 4 (rL _))) ev_int) br9 (fun v k B10 H10 e10 rk b10 Q hq s H0' C' cl fp => ?_) (fun v k B10 e10 rk s H0' C' cl fp => ev_catS (ev_toS (ev_ixS (ev_var 4 (rL _)) (ev_var 11 rk))) (ev_toS (ev_ixS (ev_var 4 (rL _)) (ev_add (ev_var 11 rk) ev_int)))) (fun k hk => ⟨_, hfk k (hin k hk)⟩) (fun Dd ps B10 H10 g10 br10 rF hps => ?_)
      · refine of_t (pt_cmpR op_eq p_e pe_int (nomark _)) ?_
        refine tap_of c_tap (hr.mono (by decide)) 0 (by decide) (by decide) (O := []) ⟨b10.ex, fun _ hp => nomatch hp⟩ b10 (ev_int (n := 2)) fun n2 B11 H11 hn2 g11 br11 => ?_
        exact ⟨rfl, _, rfl, hq _ _ _ g11 br11⟩
      have G10 := G9.trans g10 br10.nb
      refine ss_cons (of_s (ps_set (i := 6) sc_right.nd rfl (by first | exact Or.inl rfl | exact Or.inr rfl) p_e rfl) ?_)
      refine call_of (c_drawn cw) (hr.mono (by decide)) rfl (by decide) rfl rfl (of_a (pa_cons (pe_var (i := 0) rfl (by first | exact Or.inl rfl | exact Or.inr (Or.inl rfl) | exact Or.inr (Or.inr rfl))) (pa_cons (pe_var (i := 2) rfl (by first | exact Or.inl rfl | exact Or.inr (Or.inl rfl) | exact Or.inr (Or.inr rfl))) (pa_cons pe_int pa_nil rfl) rfl) rfl) ⟨_, rfl, _, rfl, ?_⟩)
      refine ⟨x, n, 0, B10, rfl, hc, hn1, hn4, by omega, br10, fun d2 ts2 m2 m02 B11 H11 hd20 nd2 hd2 T2 _ hM2 hz2 g11 br11 => ?_⟩
      have G11 := G10.trans g11 br11.nb
      have hm2 : m2 = 0 := by
        rw [hM2, hz2 rfl]
        rcases (show n = 1 ∨ n = 2 ∨ n = 3 ∨ n = 4 by omega) with e | e | e | e <;> subst e <;> decide +kernel
      subst hm2
      have hd0 : H0 d2 = none := G10.free hd20 br10.some
      have hdx : d2 ≠ x := fun e => by
        subst e
        obtain ⟨o, ho⟩ := br10.some
        rw [hd20] at ho
        cases ho
      have rF := (tL (tS cw)).mono g11.eb rF
      refine ss_for 7 rfl (iv_L (es_of (ev_var 5 rF)) (O := []) (B := B11)) (O := []) ⟨br11.ex, fun _ hp => nomatch hp⟩ (fun Bq rem σq Hq => ∃ (Bp : Hp) (yt : Option V) (ts : List (List Nat)) (m : Nat), σq = [some (.ref x), some vt, some (.str (str cw (List.range' 0 n))), some (.ref p2), some (.str (str cw t)), some (.ref Dd), some (.ref d2), yt, y8, y9, y10, y11] ∧ Gz x B0 H0 Bp Hq ∧ Br x Bp Hq ∧ Bp d2 = none ∧ Hq d2 = some (.dK (kvsT cw ts)) ∧ Tie n ts m ∧ Ex Bq Bp ∧ (∀ b, m.testBit b = true → b ∈ con t) ∧ ∀ p ∈ rem, p ∈ ps) ?_ ?_ ?_ ?_ PassesOwn.never rfl (pg_name (i := 7) sc_right.nd rfl (by first | exact Or.inl rfl | exact Or.inr rfl))
      · intro Ba Ha ga
        exact ⟨Ba, _, ts2, 0, rfl, G11.trans (Gz.of ga) (br11.go ga).nb, br11.go ga, (Gz.of (x := x) ga).keep nd2 hd2, ga.eh _ _ hd2, T2, Ex.refl _, (fun b hb => by rw [Nat.zero_testBit] at hb; cases hb), fun p hp => hp⟩
      · rintro B12 rem σ2 H2 ⟨Bp, yt, ts, m, _, _, br2, _, _, _, e2, _⟩
        exact ⟨e2.trans br2.ex, fun _ hp => nomatch hp⟩
      · intro B12 pr remp vp σ2 H12 e12 r_p ⟨B13, yt, ts3, m3, hσ, G13, br13, nd3, hd3, T3, eL3, hB3, hP3⟩
        subst hσ
        have r_p := (tS cw).mono eL3 r_p
        have hv3 := T3.val hc
        obtain ⟨k, hk, ek⟩ := hps pr (hP3 pr List.mem_cons_self)
        have hk1 := hin k hk
        have ek := (hfk k hk1).symm.trans ek
        cases ek
        have gk : ∀ k, k < t.length → t.getD k 0 < n := fun k hk => by
          have e : t.getD k 0 = t[k] := by rw [List.getD_eq_getElem?_getD, List.getElem?_eq_getElem hk]; rfl
          have := hvt _ (List.getElem_mem hk)
          omega
        have hi1 := gk k (by omega)
        have hi2 := gk (k + 1) hk1
        have I13 : In B13 [(d2, HO.dK (kvsT cw ts3))] H12 := ⟨br13.ex, fun q hq => by cases List.mem_singleton.mp hq; exact ⟨hd3, nd3⟩⟩
        refine ss_putT 6 hu (t := [t.getD k 0, t.getD (k + 1) 0]) rfl (ev_var 7 r_p) I13 List.mem_cons_self hv3 (Nat.le_trans T3.len (by decide)) (fun B14 H14 g14 => ?_)
        have br14 := br13.go g14
        have nd14 := (Gz.of (x := x) g14).keep nd3 hd3
        refine ss_nil ⟨B14, _, _, _, rfl, (G13.trans (Gz.of g14) br14.nb).mut hd0 nd14, br14.mut nd14 hdx, nd14, upd_same, T3.put hi1 hi2, eL3.trans g14.eb, fun b hb => ?_, fun p hp => hP3 p (List.mem_cons_of_mem _ hp)⟩
        rw [sb_def, Nat.testBit_or, bit_one, Bool.or_eq_true, decide_eq_true_eq] at hb
        rcases hb with z | z
        · exact hB3 b z
        · subst z
          exact List.mem_map.mpr ⟨k, hk, rfl⟩
      · intro B12 σ2 H12 e12 ⟨Bc, yt, ts, mA, hσ, G, br, nd, hd, T, eL, hBA, _⟩
        subst hσ
        have rS := rL
        have hv := hvt
        have EE : Ex B1 Bc := eL2.trans (g3.eb.trans (g4.eb.trans (g5.eb.trans (g6.eb.trans (g7.eb.trans (g8.eb.trans (g9.eb.trans (g10.eb.trans (g11.eb.trans (e12.trans eL))))))))))
        refine ss_for 8 rfl (iv_S (ev_var 4 (rS _)) (O := []) (B := Bc)) (O := []) ⟨br.ex, fun _ hp => nomatch hp⟩ (fun Bq rem σq Hq => ∃ (Bp : Hp) (yz yx yy : Option V) (ts : List (List Nat)) (m : Nat), σq = [some (.ref x), some vt, some (.str (str cw (List.range' 0 n))), some (.ref p2), some (.str (str cw t)), some (.ref Dd), some (.ref d2), yt, yz, yx, yy, y11] ∧ Gz x B0 H0 Bp Hq ∧ Br x Bp Hq ∧ Bp d2 = none ∧ Hq d2 = some (.dK (kvsT cw ts)) ∧ Tie n ts m ∧ Ex Bq Bp ∧ rem.foldl (cl2 true t) m = clo true t mA ∧ ∀ i ∈ rem, i ∈ t) ?_ ?_ ?_ ?_ PassesOwn.never rfl (pg_name (i := 8) sc_right.nd rfl (by first | exact Or.inl rfl | exact Or.inr rfl))
        · intro Ba Ha ga
          exact ⟨Ba, _, _, _, ts, mA, rfl, G.trans (Gz.of ga) (br.go ga).nb, br.go ga, (Gz.of (x := x) ga).keep nd hd, ga.eh _ _ hd, T, Ex.refl _, rfl, fun i hi => hi⟩
        · rintro B1 rem σ1 H1 ⟨Bp, yz, yx, yy, ts, m, _, _, br1, _, _, _, e1, _⟩
          exact ⟨e1.trans br1.ex, fun _ hp => nomatch hp⟩
        · intro B1 z remz vz σ1 H1 e1 r_z ⟨B2, yz, yx, yy, ts1, m1, hσ, G1, br1, nd1, hd1, T1, eL1, hM1, hin1⟩
          subst hσ
          have r_z := (tC cw).mono eL1 r_z
          have hez : z < n := by have := hv z (hin1 z List.mem_cons_self); omega
          refine ss_for 9 rfl (iv_S (ev_var 4 (rS _)) (O := []) (B := B2)) (O := []) ⟨br1.ex, fun _ hp => nomatch hp⟩ (fun Bq rem σq Hq => ∃ (Bp : Hp) (yx yy : Option V) (ts : List (List Nat)) (m : Nat), σq = [some (.ref x), some vt, some (.str (str cw (List.range' 0 n))), some (.ref p2), some (.str (str cw t)), some (.ref Dd), some (.ref d2), yt, some vz, yx, yy, y11] ∧ Gz x B0 H0 Bp Hq ∧ Br x Bp Hq ∧ Bp d2 = none ∧ Hq d2 = some (.dK (kvsT cw ts)) ∧ Tie n ts m ∧ Ex Bq Bp ∧ rem.foldl (cl3 true t z) m = cl2 true t m1 z ∧ ∀ i ∈ rem, i ∈ t) ?_ ?_ ?_ ?_ PassesOwn.never rfl (pg_name (i := 9) sc_right.nd rfl (by first | exact Or.inl rfl | exact Or.inr rfl))
          · intro Ba Ha ga
            exact ⟨Ba, _, _, ts1, m1, rfl, G1.trans (Gz.of ga) (br1.go ga).nb, br1.go ga, (Gz.of (x := x) ga).keep nd1 hd1, ga.eh _ _ hd1, T1, Ex.refl _, rfl, fun i hi => hi⟩
          · rintro B3 rem σ2 H2 ⟨Bp, yx, yy, ts, m, _, _, br2, _, _, _, e2, _⟩
            exact ⟨e2.trans br2.ex, fun _ hp => nomatch hp⟩
          · intro B3 ex remx vx σ2 H2 e2 r_x ⟨B4, yx, yy, ts2, m2, hσ, G2, br2, nd2, hd2, T2, eL2, hM2, hin2⟩
            subst hσ
            have r_x := (tC cw).mono eL2 r_x
            have r_z := (tC cw).mono (e2.trans eL2) r_z
            have hex : ex < n := by have := hv ex (hin2 ex List.mem_cons_self); omega
            refine ss_for 10 rfl (iv_S (ev_var 4 (rS _)) (O := []) (B := B4)) (O := []) ⟨br2.ex, fun _ hp => nomatch hp⟩ (fun Bq rem σq Hq => ∃ (Bp : Hp) (yy : Option V) (ts : List (List Nat)) (m : Nat), σq = [some (.ref x), some vt, some (.str (str cw (List.range' 0 n))), some (.ref p2), some (.str (str cw t)), some (.ref Dd), some (.ref d2), yt, some vz, some vx, yy, y11] ∧ Gz x B0 H0 Bp Hq ∧ Br x Bp Hq ∧ Bp d2 = none ∧ Hq d2 = some (.dK (kvsT cw ts)) ∧ Tie n ts m ∧ Ex Bq Bp ∧ rem.foldl (stp true z ex) m = cl3 true t z m2 ex ∧ ∀ i ∈ rem, i ∈ t) ?_ ?_ ?_ ?_ PassesOwn.never rfl (pg_name (i := 10) sc_right.nd rfl (by first | exact Or.inl rfl | exact Or.inr rfl))
            · intro Ba Ha ga
              exact ⟨Ba, _, ts2, m2, rfl, G2.trans (Gz.of ga) (br2.go ga).nb, br2.go ga, (Gz.of (x := x) ga).keep nd2 hd2, ga.eh _ _ hd2, T2, Ex.refl _, rfl, fun i hi => hi⟩
            · rintro B5 rem σ3 H3 ⟨Bp, yy, ts, m, _, _, br3, _, _, _, e3, _⟩
              exact ⟨e3.trans br3.ex, fun _ hp => nomatch hp⟩
            · intro B5 y remy vy σ3 H3 e3 r_y ⟨B6, yy, ts3, m3, hσ, G3, br3, nd3, hd3, T3, eL3, hM3, hin3⟩
              subst hσ
              have r_y := (tC cw).mono eL3 r_y
              have r_x := (tC cw).mono (e3.trans eL3) r_x
              have r_z := (tC cw).mono (e3.trans eL3) r_z
              have hey : y < n := by have := hv y (hin3 y List.mem_cons_self); omega
              have hv3 := T3.val hc
              have hb : stp true z ex m3 y = bif (ts3.contains [ex, z] && ts3.contains [z, y]) then sb m3 ex y else m3 := by
                rw [stp_b, ← T3.has hex hez, ← T3.has hez hey]
                rfl
              have I3 : In B6 [(d2, HO.dK (kvsT cw ts3))] H3 := ⟨br3.ex, fun q hq => by cases List.mem_singleton.mp hq; exact ⟨hd3, nd3⟩⟩
              refine ss_if (z := ts3.contains [ex, z] && ts3.contains [z, y]) (andB2 _ _) (tv_w (wv_and (cv_inD 6 hu (ev_catS (ev_toS (ev_var 9 r_x)) (ev_toS (ev_var 8 r_z))) List.mem_cons_self hv3).2 (wv_and1 (cv_inD 6 hu (ev_catS (ev_toS (ev_var 8 r_z)) (ev_toS (ev_var 10 r_y))) List.mem_cons_self hv3).2))) I3 (fun hz B7 H7 g7 => ?_) (fun hz B7 H7 g7 => ?_)
              · rw [hz] at hb
                have br7 := br3.go g7
                have G7 := G3.trans (Gz.of g7) br7.nb
                have nd7 := (Gz.of (x := x) g7).keep nd3 hd3
                have hd7 := g7.eh _ _ hd3
                have I7 := I3.go g7
                have r_x := (tC cw).mono g7.eb r_x
                have r_y := (tC cw).mono g7.eb r_y
                refine ss_putT 6 hu (t := [ex, y]) rfl (ev_catS (ev_toS (ev_var 9 r_x)) (ev_toS (ev_var 10 r_y))) I7 List.mem_cons_self hv3 (Nat.le_trans T3.len (by decide)) (fun B8 H8 g8 => ?_)
                have br8 := br7.go g8
                have nd8 := (Gz.of (x := x) g8).keep nd7 hd7
                refine ss_nil (ss_nil ⟨B8, _, _, _, rfl, (G7.trans (Gz.of g8) br8.nb).mut hd0 nd8, br8.mut nd8 hdx, nd8, upd_same, T3.put hex hey, eL3.trans (g7.eb.trans g8.eb), ?_, fun i hi => hin3 i (List.mem_cons_of_mem _ hi)⟩)
                have hM3 : remy.foldl (stp true z ex) (stp true z ex m3 y) = _ := hM3
                rw [hb] at hM3
                exact hM3
              · rw [hz] at hb
                have br7 := br3.go g7
                refine ss_nil (ss_nil ⟨B7, _, ts3, m3, rfl, G3.trans (Gz.of g7) br7.nb, br7, (Gz.of (x := x) g7).keep nd3 hd3, g7.eh _ _ hd3, T3, eL3.trans g7.eb, ?_, fun i hi => hin3 i (List.mem_cons_of_mem _ hi)⟩)
                have hM3 : remy.foldl (stp true z ex) (stp true z ex m3 y) = _ := hM3
                rw [hb] at hM3
                exact hM3
            · intro B5 σ3 H3 e3 ⟨B6, yy, ts3, m3, hσ, G3, br3, nd3, hd3, T3, eL3, hM3, _⟩
              subst hσ
              have hM3 : m3 = _ := hM3
              exact ss_nil ⟨B6, _, _, ts3, m3, rfl, G3, br3, nd3, hd3, T3, eL2.trans (e3.trans eL3), by rw [hM3]; exact hM2, fun i hi => hin2 i (List.mem_cons_of_mem _ hi)⟩
          · intro B3 σ2 H2 e2 ⟨B4, yx, yy, ts2, m2, hσ, G2, br2, nd2, hd2, T2, eL2, hM2, _⟩
            subst hσ
            have hM2 : m2 = _ := hM2
            exact ss_nil ⟨B4, _, _, _, ts2, m2, rfl, G2, br2, nd2, hd2, T2, eL1.trans (e2.trans eL2), by rw [hM2]; exact hM1, fun i hi => hin1 i (List.mem_cons_of_mem _ hi)⟩
        · intro B1 σ1 H1 e1 ⟨Bc, yz, yx, yy, ts, m, hσ, G, br, nd, hd, T, eL, hM, _⟩
          subst hσ
          have hM : m = _ := hM
          have hb := line_both hn1 hn4 hp hBA
          rw [← hM] at hb
          have hg2 := good_of hn1 hn4 hb.2 hb.1
          have I14 : In Bc [(d2, HO.dK (kvsT cw ts))] H1 := ⟨br.ex, fun q hq => by cases List.mem_singleton.mp hq; exact ⟨hd, nd⟩⟩
          refine ss_if (z := false) (show notO (op2 m__law_leads_right (some (List.range' 0 n)) (some (tiesOf n m))) = some false by show notO (m__law_leads_right (List.range' 0 n) (tiesOf n m)) = some false; rw [hg2]; rfl) (tv_not (tv_of (ev_callG2 (c_leads cw) hgd (hr.mono (by decide)) (ev_var 2 (rC _)) (ev_tuple bt (es_of (ev_sortD 6 bt rfl List.mem_cons_self T hc)))))) I14 (fun hz => nomatch hz) (fun _ B8 H8 g8 => ?_)
          have br15 := br.go g8
          refine ss_nil (ss_nil ⟨B8, _, _, _, _, _, _, _, _, _, _, _, rfl, G.trans (Gz.of g8) br15.nb, br15, ?_⟩)
          exact EE.trans (e1.trans (eL.trans g8.eb))
    · intro B1 σ1 H1 e1 ⟨B2, y1, y2, y3, y4, y5, y6, y7, y8, y9, y10, y11, hσ, G2, br2, eL2⟩
      subst hσ
      refine ss_ret (T := tB) (z := true) rfl ev_bool (O := []) ⟨br2.ex, fun _ hp => nomatch hp⟩ fun v B3 H3 g3 r3 => ?_
      cases r3
      exact q _ _ (G2.trans (Gz.of g3) (br2.go g3).nb) (br2.go g3)
end
end Cw
namespace Cw
open PySem PySem.Spec PyProof.Rows L2 Ly
section
variable {P : Program} {w : World} {K : PySem.W.Frag} {mg : Str → Option Value} {base : Heap} {cw : Crew} {C : Addr}
def SpBrew (K : PySem.W.Frag) : Sp := fun vs H Q _ => ∃ (a : Addr) (ns : List Int) (k : Nat), vs = [.ref a, .int (k : Int)] ∧ SqL K H a (ns.map V.int) ∧ ns.length ≤ 100 ∧ k ≤ 10 ∧
  ∀ (p : Addr) (x y z : Nat) (H' : Hp), y < 2147482583 → Ex H H' → H p = none → H' p = some (brw x y z) → Q (.ref p) H'
theorem sc_brew : FnScope ["_law_cells", "_law_k", "_law_cell", "_law_mixed", "_law_each"] ["_law_cells", "_law_k"] (defScope (topS 80)) := ⟨rfl, rfl, rfl, by decide +kernel, rfl, by decide +kernel, by decide +kernel⟩
abbrev K_brew (P : Program) (w : World) (K : PySem.W.Frag) (mg : Str → Option Value) (base : Heap) : Prop := Cal P w K mg base "_law_brew" 1 ["_law_cells", "_law_k"] (SpBrew K)
theorem cut_ints {ns : List Int} {lo hi : Option Int} : cutV (ns.map V.int) lo hi = ((ns.drop (HT.sIx ns.length 0 lo)).take (HT.sIx ns.length ns.length hi - HT.sIx ns.length 0 lo)).map V.int := by
  unfold cutV
  rw [List.length_map, List.map_take, List.map_drop]
theorem cal_brew (dd : Df K mg "_law_brew" (topS 80) ["_law_cells", "_law_k"]) (bt : Bt mg) : K_brew P w K mg base := by
  obtain ⟨f, fd, F, mgf, bi⟩ := dd.ex
  refine ⟨⟨f, fd, ?_, mgf, F.kp, bi⟩⟩
  refine F.ok sc_brew (fun vs H Q E h => ?_) (fun cdv A outer s H0 vs Q E hr h => ⟨wSs _ _, p_ss, ?_⟩)
  · obtain ⟨a, ns, k, rfl, _⟩ := h
    rfl
  · obtain ⟨a, ns, k, rfl, hS, hns, hk, q⟩ := h

    -- the cell
    refine ss_cons (of_s (ps_set (i := 2) sc_brew.nd rfl (by first | exact Or.inl rfl | exact Or.inr rfl) p_e rfl) ?_)
    refine wE_mono (Q := fun v H' => ∃ c : Int, v = .int c ∧ H' = H0) (of_e (pe_ifExp (pt_cmpR op_lt (pe_var (i := 1) rfl (by first | exact Or.inl rfl | exact Or.inr (Or.inl rfl) | exact Or.inr (Or.inr rfl))) (pe_callB call_len_seq rfl bt.len PySem.boot_len (pa_cons (pe_var (i := 0) rfl (by first | exact Or.inl rfl | exact Or.inr (Or.inl rfl) | exact Or.inr (Or.inr rfl))) pa_nil)) (nomark _))
      (pe_callTy call_int1 rfl bt.int (by decide +kernel) (pa_cons (pe_ix ix_list (pe_var (i := 0) rfl (by first | exact Or.inl rfl | exact Or.inr (Or.inl rfl) | exact Or.inr (Or.inr rfl))) (pe_var (i := 1) rfl (by first | exact Or.inl rfl | exact Or.inr (Or.inl rfl) | exact Or.inr (Or.inr rfl))) (fun _ _ => rfl)) pa_nil))
      (pe_op op_add (pe_op op_mul pe_int (pe_var (i := 1) rfl (by first | exact Or.inl rfl | exact Or.inr (Or.inl rfl) | exact Or.inr (Or.inr rfl)))) pe_int)) ?_) (fun v H' h => ?_)
    · refine ⟨_, rfl, _, rfl, a, _, rfl, .inl hS, _, _, rfl, rfl, _, rfl, ite2 (fun e => ?_) (fun e => ?_)⟩
      · have hlt : k < (ns.map V.int).length := by
          have := of_decide_eq_true e
          omega
        have g : (ns.map V.int)[k]? = some (.int (ns[k]'(by rw [List.length_map] at hlt; exact hlt))) := by
          rw [List.getElem?_map, List.getElem?_eq_getElem (by rw [List.length_map] at hlt; exact hlt)]
          rfl
        exact ⟨_, rfl, _, rfl, a, _, _, _, rfl, rfl, hS, atI_of g, .inl ⟨_, rfl, _, rfl, rfl⟩⟩
      · exact ⟨_, rfl, _, _, rfl, rfl, .inl ⟨by decide, by decide⟩, _, _, rfl, rfl, _, rfl, rfl⟩
    · obtain ⟨c, rfl, rfl⟩ := h
      -- mixed
      have I0 : In H' [] H' := ⟨Ex.refl _, fun _ hp => nomatch hp⟩
      refine ss_set 3 rfl (ev_add ev_int (ev_mul ev_int (ev_var 1 (show tN.rep H' (V.int (k : Int)) k from rfl)) (fun x y h _ => .inl (by cases h; decide)))) I0 (fun v1 B1 H1 g1 r1 => ?_) sc_brew.nd
      cases r1
      have e1 : Ex H' H1 := g1.eh
      have hS1 := Same.seq e1 hS
      -- the loop
      refine ss_cons (of_s (ps_for PassesOwn.never rfl (pi_list (pe_op op_cat (pe_slice sl_list (pe_var (i := 0) rfl (by first | exact Or.inl rfl | exact Or.inr (Or.inl rfl) | exact Or.inr (Or.inr rfl))) po_none (po_some pe_int)) (pe_lst (pa_cons (pe_var (i := 2) rfl (by first | exact Or.inl rfl | exact Or.inr (Or.inl rfl) | exact Or.inr (Or.inr rfl))) pa_nil)))) (pg_name (i := 4) sc_brew.nd rfl (by first | exact Or.inl rfl | exact Or.inr rfl)) p_ss (by intro _; rfl)) ?_)
      refine ⟨_, rfl, _, rfl, a, _, rfl, hS1, fun p1 np1 => ?_⟩
      rw [cut_ints]
      generalize hcs : ((ns.drop (HT.sIx ns.length 0 none)).take (HT.sIx ns.length ns.length (some 6) - HT.sIx ns.length 0 none)) = cs
      have hcl : cs.length ≤ 100 := by
        rw [← hcs, List.length_take, List.length_drop]
        omega
      refine ⟨_, rfl, by show 1 ≤ sizeLine; decide, fun p2 np2 => ?_⟩
      have hp21 : p1 ≠ p2 := ne_of_none upd_same np2
      refine ⟨p1, p2, _, _, rfl, rfl, by rw [upd_ne hp21]; exact upd_same, upd_same, sz_of (by rw [List.length_map]; show cs.length + 1 ≤ 40000; omega), fun p3 np3 => ?_⟩
      have el : cs.map V.int ++ [V.int c] = (cs ++ [c]).map V.int := by
        rw [List.map_append]
        rfl
      rw [el]
      have e3 : Ex H' (upd (upd (upd H1 p1 (.lst (cs.map V.int))) p2 (.lst [V.int c])) p3 (.lst ((cs ++ [c]).map V.int))) := ((e1.trans (Ex.new np1)).trans (Ex.new np2)).trans (Ex.new np3)
      have h3 : (upd (upd (upd H1 p1 (.lst (cs.map V.int))) p2 (.lst [V.int c])) p3 (.lst ((cs ++ [c]).map V.int))) p3 = some (.lst ((cs ++ [c]).map V.int)) := upd_same
      generalize (upd (upd (upd H1 p1 (.lst (cs.map V.int))) p2 (.lst [V.int c])) p3 (.lst ((cs ++ [c]).map V.int))) = H3 at e3 h3 ⊢
      refine ⟨p3, rfl, ⟨_, SqL.of h3⟩, ?_⟩
      refine for_it walk_list (fun i σ H => ∃ (m : Nat) (y : Option V), σ = [some (.ref a), some (.int (k : Int)), some (.int c), some (.int (m : Int)), y] ∧ m < 2147482583 ∧ H = H3) ⟨210011 + 871 * k, none, rfl, by omega, rfl⟩ (fun i σ H _ ⟨_, _, _, _, e⟩ => by rw [e]; exact SqL.of h3) ?_ ?_
      · rintro i v σ H4 H5 hi ⟨m, y, rfl, hm, rfl⟩ ⟨e5, hx⟩
        subst e5
        rw [List.getElem?_map] at hx
        obtain ⟨ei, _, hv⟩ := Option.map_eq_some_iff.mp hx
        subst hv
        refine ss_cons (of_s (ps_set (i := 3) sc_brew.nd rfl (by first | exact Or.inl rfl | exact Or.inr rfl) (pe_op op_mod (pe_callTy call_int1 rfl bt.int (by decide +kernel) (pa_cons (pe_op op_add (pe_op op_mul (pe_var (i := 3) rfl (by first | exact Or.inl rfl | exact Or.inr (Or.inl rfl) | exact Or.inr (Or.inr rfl))) pe_int) (pe_callTy call_int1 rfl bt.int (by decide +kernel) (pa_cons (pe_var (i := 4) rfl (by first | exact Or.inl rfl | exact Or.inr (Or.inl rfl) | exact Or.inr (Or.inr rfl))) pa_nil))) pa_nil)) pe_int) rfl) ?_)
        refine ⟨_, rfl, _, _, rfl, rfl, .inr ⟨by decide, by decide⟩, _, rfl, .inl ⟨_, rfl, _, _, rfl, rfl, .inl ⟨_, rfl, _, _, rfl, rfl, by show (0 : Int) < 2147482583; decide, ?_⟩⟩⟩
        have hp : (0 : Int) < 2147482583 := by decide
        have h0 := Int.emod_nonneg ((m : Int) * 43003 + ei) (show (2147482583 : Int) ≠ 0 by decide)
        have h1 := Int.emod_lt_of_pos ((m : Int) * 43003 + ei) hp
        obtain ⟨m', hm'⟩ := Int.eq_ofNat_of_zero_le h0
        refine ss_nil ⟨m', some (.int ei), ?_, by omega, rfl⟩
        show [some (V.ref a), some (V.int (k : Int)), some (V.int c), some (V.int (((m : Int) * 43003 + ei) % 2147482583)), some (V.int ei)] = _
        rw [hm']
      · rintro σ H4 ⟨m, y, rfl, hm, rfl⟩
        refine ss_cons (of_s (ps_ret (pe_lst (pa_cons p_e (pa_cons (pe_var (i := 3) rfl (by first | exact Or.inl rfl | exact Or.inr (Or.inl rfl) | exact Or.inr (Or.inr rfl))) (pa_cons pe_int pa_nil))))) ?_)
        refine wE_mono (Q := fun v H'' => ∃ x : Nat, v = .int (x : Int) ∧ H'' = H4) (of_e (pe_ifExp p_t (pe_callB call_abs rfl bt.abs (by decide +kernel) (pa_cons (pe_var (i := 2) rfl (by first | exact Or.inl rfl | exact Or.inr (Or.inl rfl) | exact Or.inr (Or.inr rfl))) pa_nil)) pe_int) ?_) (fun v H'' h => ?_)
        · refine wT_mono (Q := fun _ H'' => H'' = H4) (of_t (PW.pt (pw_or (pt_cmpR op_lt (pe_var (i := 2) rfl (by first | exact Or.inl rfl | exact Or.inr (Or.inl rfl) | exact Or.inr (Or.inr rfl))) pe_int (nomark _)) (pw_or1 (pt_cmpR op_ge (pe_var (i := 2) rfl (by first | exact Or.inl rfl | exact Or.inr (Or.inl rfl) | exact Or.inr (Or.inr rfl))) (pe_op op_pow pe_int pe_int) (nomark _))))) ?_) (fun b H'' e => ?_)
          · exact ⟨_, rfl, _, _, rfl, rfl, _, rfl, ite2 (fun _ => rfl) (fun _ => ⟨_, rfl, _, _, rfl, rfl, ⟨by decide, by decide, by decide⟩, _, _, rfl, rfl, _, rfl, rfl⟩)⟩
          · subst e
            refine ite2 (fun _ => ?_) (fun _ => ⟨0, rfl, rfl⟩)
            refine ⟨_, rfl, c, rfl, (if c < 0 then -c else c).toNat, ?_, rfl⟩
            refine congrArg V.int ?_
            split <;> omega
        · obtain ⟨x, rfl, rfl⟩ := h
          refine ⟨_, rfl, by show 3 ≤ sizeLine; decide, fun p np => ?_⟩
          exact q p x m 0 _ hm (e3.trans (Ex.new np)) (e3.free np) upd_same
def SpLaw (K : PySem.W.Frag) : Sp := fun vs H Q _ => ∃ (a : Addr) (ns : List Int), vs = [.ref a] ∧ SqL K H a (ns.map V.int) ∧ ns.length ≤ 100 ∧ ∀ H', Q (.bl true) H'
theorem sc_law : FnScope ["_law_cells", "_law_brews", "_law_k", "_law_brew_here"] ["_law_cells"] (defScope (topS 94)) := ⟨rfl, rfl, rfl, by decide +kernel, rfl, by decide +kernel, by decide +kernel⟩
abbrev K_law (P : Program) (w : World) (K : PySem.W.Frag) (mg : Str → Option Value) (base : Heap) : Prop := CalG P w K mg base "law" 16 ["_law_cells"] (SpLaw K)
theorem rep_true : ∀ n : Nat, (List.replicate n true).all id = true
  | 0 => rfl
  | n + 1 => by rw [List.replicate_succ, List.all_cons, rep_true n]; rfl
theorem cal_law (dd : Df K mg "law" (topS 94) ["_law_cells"]) (bt : Bt mg) (c_brew : K_brew P w K mg base) (c_right : K_right P w K mg base) : K_law P w K mg base := by
  obtain ⟨f, fd, F, mgf, bi⟩ := dd.ex
  refine ⟨⟨f, fd, ?_, mgf, F.kp, bi⟩⟩
  refine okG F sc_law (fun vs H Q E h => ?_) (fun cdv A outer s H0 vs Q E hgd hr h => ⟨wSs _ _, p_ss, ?_⟩)
  · obtain ⟨a, ns, rfl, _⟩ := h
    rfl
  · obtain ⟨a, ns, rfl, hS, hns, q⟩ := h
    -- the brews
    refine ss_cons (of_s (ps_setLc (own := [("_law_k", 2)]) rfl sc_law.nd (i := 1) rfl rfl (sw_true rfl rfl rfl (by decide +kernel)) (pi_range1 rfl bt.range (pa1 rfl) rfl) (blkOk_by (by kernel_rfl)) (fun _ _ _ _ _ => pg_name (i := 2) sc_law.nd rfl (by first | exact Or.inl rfl | exact Or.inr rfl)) (fun _ _ _ _ _ => pts_nil) p_eb (by intro _; rfl)) ?_)
    refine wE_mono (Q := fun v H' => ∃ n : Nat, n ≤ 3 ∧ v = .int (n : Int) ∧ H' = H0) (of_e (pe_callB (call_max2 rfl) rfl bt.max PyProof.Rows.boot_max (pa_cons pe_int (pa_cons (pe_callB (call_min2 rfl) rfl bt.min (by decide +kernel) (pa_cons (pe_callB call_len_seq rfl bt.len PySem.boot_len (pa_cons (pe_var (i := 0) rfl (by first | exact Or.inl rfl | exact Or.inr (Or.inl rfl) | exact Or.inr (Or.inr rfl))) pa_nil)) (pa_cons pe_int pa_nil))) pa_nil))) ?_) (fun v H' h => ?_)
    · refine ⟨_, rfl, a, _, rfl, .inl hS, _, _, rfl, ?_⟩
      refine ⟨_, _, rfl, ?_⟩
      generalize ((ns.map V.int).length : Int) = z
      refine ⟨(if (if (3 : Int) < z then 3 else z) > 2 then (if (3 : Int) < z then 3 else z) else 2).toNat, by split <;> split <;> omega, congrArg V.int (by split <;> split <;> omega), rfl⟩
    · obtain ⟨n, hn, rfl, rfl⟩ := h
      refine ⟨_, rfl, by omega, by omega, fun D hD => ?_⟩
      rw [Int.toNat_natCast]
      refine lc_it (walk_range (lo := 0)) (fun i H => ∃ ps : List Addr, Ex H' H ∧ H D = some (.lst (ps.map V.ref)) ∧ ps.length = i ∧ ps.Nodup ∧ ∀ p ∈ ps, p ≠ D ∧ H' p = none ∧ ∃ x y z : Nat, y < 2147482583 ∧ H p = some (brw x y z)) ?_ (fun _ _ _ _ => trivial) ?_ ?_
      · exact ⟨[], Ex.new hD, upd_same, rfl, .nil, fun _ hp => nomatch hp⟩
      · rintro i v H3 H4 hi ⟨ps, e3, hD3, hl, nd, hp⟩ ⟨e4, hv⟩
        subst e4
        subst hv
        refine ⟨wipe1, ?_⟩
        show wEb _ _ _ _ _ _
        intro s H5 C cl fp
        refine call_of c_brew (hr.mono (by decide)) rfl (by decide) rfl rfl (of_a (pa_cons (pe_var (i := 0) rfl (by first | exact Or.inl rfl | exact Or.inr (Or.inl rfl) | exact Or.inr (Or.inr rfl))) (pa_cons (pe_var (i := 2) rfl (by first | exact Or.inl rfl | exact Or.inr (Or.inl rfl) | exact Or.inr (Or.inr rfl))) pa_nil)) ⟨_, rfl, _, rfl, a, ns, i, by show [V.ref a, V.int (0 + (i : Int))] = _; rw [Int.zero_add], Same.seq e3 hS, hns, by omega, fun p x y z H6 hy e6 np hp6 => ?_⟩)
        have hpD : p ≠ D := fun e => by
          subst e
          rw [hD3] at np
          cases np
        refine ⟨ps.map V.ref, e6 _ _ hD3, by rw [List.length_map, hl]; exact Nat.lt_of_le_of_lt (show i ≤ 3 by omega) (by decide), ps ++ [p], ?_, ?_, by rw [List.length_append, hl]; rfl, ?_, ?_⟩
        · exact (e3.trans e6).mut hD
        · rw [upd_same, List.map_append]
          rfl
        · refine List.nodup_append.mpr ⟨nd, List.pairwise_singleton _ _, fun b hb b' hb' e => ?_⟩
          cases List.mem_singleton.mp hb'
          subst e
          obtain ⟨_, _, _, _, _, _, h⟩ := hp b hb
          rw [np] at h
          cases h
        · intro p' hp'
          rcases List.mem_append.mp hp' with h | h
          · obtain ⟨h1, h2, x', y', z', h3, h4⟩ := hp p' h
            exact ⟨h1, h2, x', y', z', h3, by rw [upd_ne h1]; exact e6 _ _ h4⟩
          · cases List.mem_singleton.mp h
            exact ⟨hpD, e3.free np, x, y, z, hy, by rw [upd_ne hpD]; exact hp6⟩
      · rintro H3 ⟨ps, e3, hD3, hl, nd, hp⟩
        -- all
        refine ss_cons (of_s (ps_ret (pe_callB (cr_all rfl) rfl bt.all (by decide +kernel) (pa_cons (pe_lc (own := [("_law_brew_here", 3)]) rfl sc_law.nd (pi_list (pe_var (i := 1) rfl (by first | exact Or.inl rfl | exact Or.inr (Or.inl rfl) | exact Or.inr (Or.inr rfl)))) (blkOk_by (by kernel_rfl)) (fun _ _ _ _ _ => pg_name (i := 3) sc_law.nd rfl (by first | exact Or.inl rfl | exact Or.inr rfl)) (fun _ _ _ _ _ => pts_nil) p_eb) pa_nil))) ?_)
        refine ⟨_, rfl, D, rfl, ⟨_, SqL.of hD3⟩, fun D2 hD2 => ?_⟩
        have hDD : D ≠ D2 := ne_of_none hD3 hD2
        refine lc_it walk_list (fun i H => Ex H' H ∧ H D = some (.lst (ps.map V.ref)) ∧ H D2 = some (.lst ((List.replicate i true).map V.bl)) ∧ ∀ p ∈ ps, p ≠ D2 ∧ ∃ x y z : Nat, y < 2147482583 ∧ H p = some (brw x y z)) ?_ (fun i H _ h => SqL.of h.2.1) ?_ ?_
        · refine ⟨e3.trans (Ex.new hD2), by rw [upd_ne hDD]; exact hD3, upd_same, fun p hpp => ?_⟩
          obtain ⟨h1, h2, x, y, z, h3, h4⟩ := hp p hpp
          have ne := ne_of_none h4 hD2
          exact ⟨ne, x, y, z, h3, by rw [upd_ne ne]; exact h4⟩
        · rintro i v H4 H5 hi ⟨e4, hD4, hA4, hp4⟩ ⟨e5, hx⟩
          subst e5
          rw [List.getElem?_map] at hx
          obtain ⟨p, hpi, hv⟩ := Option.map_eq_some_iff.mp hx
          subst hv
          have hpm := List.mem_of_getElem? hpi
          obtain ⟨hpD, hpn, _⟩ := hp p hpm
          obtain ⟨hp2, x, y, z, hy, hpx⟩ := hp4 p hpm
          refine ⟨wipe1, ?_⟩
          show wEb _ _ _ _ _ _
          intro s H6 C cl fp
          refine callG_of c_right hgd (hr.mono (by decide)) rfl (by decide) rfl rfl (of_a (pa_cons (pe_var (i := 3) rfl (by first | exact Or.inl rfl | exact Or.inr (Or.inl rfl) | exact Or.inr (Or.inr rfl))) pa_nil) ⟨_, rfl, p, H', rfl, ⟨e4, hpn, x, y, z, hy, hpx⟩, fun B7 H7 g7 br7 => ?_⟩)
          have hD7 := g7.kh _ _ hpD.symm hD4
          have hA7 := g7.kh _ _ hp2.symm hA4
          refine ⟨_, hA7, by rw [List.length_map, List.length_replicate]; have := hl; rw [List.length_map] at hi; exact Nat.lt_of_lt_of_le (show i < 40000 by omega) (by decide), ?_, by rw [upd_ne hDD]; exact hD7, ?_, fun p' hp' => ?_⟩
          · refine Ex.mut ?_ ?_
            · intro b o hb
              exact g7.kh _ _ (ne_of_none hb hpn) (e4 _ _ hb)
            · exact e3.free hD2
          · rw [upd_same, List.replicate_succ', List.map_append]
            rfl
          · obtain ⟨h1, x', y', z', h3, h4⟩ := hp4 p' hp'
            refine ⟨h1, ?_⟩
            rw [upd_ne h1]
            by_cases e : p' = p
            · subst e
              exact br7.at_
            · exact ⟨x', y', z', h3, g7.kh _ _ e h4⟩
        · rintro H4 ⟨e4, hD4, hA4, hp4⟩
          refine ⟨D2, _, rfl, SqL.of hA4, ?_⟩
          rw [rep_true]
          exact q H4
end
end Cw
/-! the end: the defs joined, the law called -/
namespace Cw
open PySem PySem.Spec PyProof.Rows L2 Ly
theorem df_of {K : PySem.W.Frag} {h : Heap} {mg : Str → Option Value} {x : Str} {i : Nat} {ps : List Str} (X : K.In h) (G : h.Ns mainGlobals mg)
    (l : ∃ oc od osl kV doc pm an cdv ct, K.lookup (He.fAd K (dF i x).at_) = some ⟨oc, od, .func (PySem.W.fnOf (dF i x).name (dF i x).qual (dF i x).params (dF i x).body (dF i x).scope .none kV doc pm an cdv ct), osl⟩ ∧ PySem.W.codeIn K cdv (dF i x).qual = true)
    (g : (He.Fa.glo x).ok K = true) (k : (He.Fa.keep x).ok K = true)
    (hb : ∀ (kV doc pm : Value) (an : Option Addr) (cdv ct : Value) (us : List Value), us.length = ps.length → bindArgs (PySem.W.fnOf x x (defArgs (topS i)) (defBody (topS i)) (defScope (topS i)) .none kV doc pm an cdv ct) ⟨us, []⟩ = pure (ps.zip us)) : Df K mg x (topS i) ps := by
  obtain ⟨oc, od, osl, kV, doc, pm, an, cdv, ct, l, cd⟩ := l
  have F : Fun K x x (topS i) (He.ga K x) (PySem.W.fnOf x x (defArgs (topS i)) (defBody (topS i)) (defScope (topS i)) .none kV doc pm an cdv ct) := fun_mk l cd (He.keep_ok k)
  exact ⟨_, _, F, He.glo_ok X G g, F.binds hb⟩
theorem init_of {K : PySem.W.Frag} (l : ∃ oc od osl kV doc pm an cdv ct, K.lookup (He.fAd K dI.at_) = some ⟨oc, od, .func (PySem.W.fnOf dI.name dI.qual dI.params dI.body dI.scope .none kV doc pm an cdv ct), osl⟩ ∧ PySem.W.codeIn K cdv dI.qual = true)
    (m : Meth K (He.ga K "Closer") "__init__" (He.ma K (He.ga K "Closer") "__init__")) :
    ∃ fd, Fun K "__init__" "Closer.__init__" (inClass (topS 35) 0) (He.ma K (He.ga K "Closer") "__init__") fd ∧ Binds K fd ["self", "things", "closed"] [] := by
  obtain ⟨oc, od, osl, kV, doc, pm, an, cdv, ct, l, cd⟩ := l
  have F : Fun K "__init__" "Closer.__init__" (inClass (topS 35) 0) (He.ma K (He.ga K "Closer") "__init__") (PySem.W.fnOf "__init__" "Closer.__init__" (defArgs (inClass (topS 35) 0)) (defBody (inClass (topS 35) 0)) (defScope (inClass (topS 35) 0)) .none kV doc pm an cdv ct) := fun_mk l cd m.kp
  exact ⟨_, F, F.binds (ps := ["self", "things", "closed"]) fun _ _ _ _ _ _ us hl => match us, hl with | [_, _, _], _ => rfl⟩
theorem insc_of {K : PySem.W.Frag} (b : inB K = true) (cl : Cls K (He.ga K "Closer")) : C8.InsC K (He.ga K "Closer") := by
  obtain ⟨b1, b⟩ := He.ba b
  obtain ⟨b2, b⟩ := He.ba b
  obtain ⟨b3, b⟩ := He.ba b
  obtain ⟨b4, b5⟩ := He.ba b
  exact ⟨cl, He.eqO_ok b1, He.eqO_ok b2, of_decide_eq_true b3, of_decide_eq_true b4, of_decide_eq_true b5⟩
theorem fnAt_ok {K : PySem.W.Frag} {a : Addr} {m q : Str} {i : Nat} (e : fnAt K a = gVal m q i) (c : cdAt K a q = true) :
    ∃ oc od osl kV doc pm an cdv ct, K.lookup a = some ⟨oc, od, .func (PySem.W.fnOf m q (defArgs (inClass (topS 35) i)) (defBody (inClass (topS 35) i)) (defScope (inClass (topS 35) i)) .none kV doc pm an cdv ct), osl⟩ ∧ PySem.W.codeIn K cdv q = true := by
  unfold fnAt at e
  unfold cdAt at c
  generalize hz : K.lookup a = z at e c
  match z, e, c with
  | some ⟨oc, od, .func ⟨n1, n2, n3, n4, n5, n6, n7, n8, n9, n10, n11, n12, n13, n14, n15⟩, osl⟩, e, c =>
    have e : (some (n1, n2, n3, n4, n5, n6, n7, n8, n15) : He.FnV) = gVal m q i := e
    unfold gVal at e
    injection e with e
    injection e with h1 e
    injection e with h2 e
    injection e with h3 e
    injection e with h4 e
    injection e with h5 e
    injection e with h6 e
    injection e with h7 e
    injection e with h8 h9
    subst h1 h2 h3 h4 h5 h6 h7 h8 h9
    exact ⟨_, _, _, _, _, _, _, _, _, rfl, c⟩
theorem prop_of {P : Program} {w : World} {K : PySem.W.Frag} {mg : Str → Option Value} {base : Heap} {m q f : Str} {i : Nat} {p1 p2 p3 : Pos} (b : prB K m q = true) (e : fnAt K (gAd K m) = gVal m q i) (cl : Cls K (He.ga K "Closer")) (n : NoAttr K (He.ga K "Closer") f)
    (S : FnScope ["self"] ["self"] (defScope (inClass (topS 35) i))) (hb : defBody (inClass (topS 35) i) = [.Return (some (.Attribute (.Name "self" p1) f p2)) p3])
    (hbi : ∀ (kV doc pm : Value) (an : Option Addr) (cdv ct : Value) (us : List Value), us.length = ["self"].length → bindArgs (PySem.W.fnOf m q (defArgs (inClass (topS 35) i)) (defBody (inClass (topS 35) i)) (defScope (inClass (topS 35) i)) .none kV doc pm an cdv ct) ⟨us, []⟩ = pure ((["self"] : List Str).zip us)) :
    ∃ p g fd, PropOf K (He.ga K "Closer") m p g ∧ FnOk P w K mg base CX0 1 g fd ["self"] (getSp (He.ga K "Closer") f) ∧ Binds K fd ["self"] [] := by
  obtain ⟨b1, b⟩ := He.ba b
  obtain ⟨b2, b⟩ := He.ba b
  obtain ⟨b3, b⟩ := He.ba b
  obtain ⟨b4, b⟩ := He.ba b
  obtain ⟨b5, b6⟩ := He.ba b
  obtain ⟨oc, od, osl, kV, doc, pm, an, cdv, ct, l, cd⟩ := fnAt_ok e b6
  have hr : ∃ rest, PySem.W.recIn K (pAd K m) "property" = some (.ref (gAd K m) :: rest) := by
    unfold gAd
    generalize hz : PySem.W.recIn K (pAd K m) "property" = z at b4
    match z, b4 with
    | some (.ref g :: r), _ => exact ⟨r, rfl⟩
  have F : Fun K m q (inClass (topS 35) i) (gAd K m) (PySem.W.fnOf m q (defArgs (inClass (topS 35) i)) (defBody (inClass (topS 35) i)) (defScope (inClass (topS 35) i)) .none kV doc pm an cdv ct) := fun_mk l cd b5
  exact ⟨pAd K m, gAd K m, _, ⟨He.eqO_ok b1, He.eqO_ok b2, of_decide_eq_true b3, hr⟩, fn_getter l cd S rfl hb cl n, F.binds hbi⟩
theorem law_ok {P : Program} {w : World} {K : PySem.W.Frag} {h base : Heap} {mg : Str → Option Value} (X : K.In h) (G : h.Ns mainGlobals mg) (e : obsX K = valX) : K_law P w K mg base := by
  have c : He.SaysE hfa hfn K := congrArg (fun z : AlX => z.2.1) e
  have mo : more K = true := congrArg (fun z : AlX => z.1) e
  obtain ⟨m1, m23⟩ := He.ba mo
  obtain ⟨m2, m3⟩ := He.ba m23
  have bt : Bt mg := ⟨He.free_ok X G (c.fact 136 (f := .free "len")), He.free_ok X G (c.fact 137 (f := .free "range")), He.free_ok X G (c.fact 138 (f := .free "all")), He.free_ok X G (c.fact 139 (f := .free "any")), He.free_ok X G (c.fact 140 (f := .free "sum")), He.free_ok X G (c.fact 141 (f := .free "sorted")), He.free_ok X G (c.fact 142 (f := .free "set")), He.free_ok X G (c.fact 143 (f := .free "tuple")), He.free_ok X G (c.fact 144 (f := .free "list")), He.free_ok X G (c.fact 145 (f := .free "isinstance")), He.free_ok X G (c.fact 146 (f := .free "str")), He.free_ok X G (c.fact 147 (f := .free "max")), He.free_ok X G (c.fact 148 (f := .free "min")), He.free_ok X G (c.fact 149 (f := .free "abs")), He.free_ok X G (c.fact 150 (f := .free "int")), He.free_ok X G (c.fact 151 (f := .free "divmod")), He.free_ok X G (c.fact 152 (f := .free "repr"))⟩
  have mgC : mg "Closer" = some (.ref (He.ga K "Closer")) := He.glo_ok X G (c.fact 153 (f := .glo "Closer"))
  have cl : Cls K (He.ga K "Closer") := He.cls_ok (c.fact 154 (f := .cls "Closer"))
  have M : Mk K (He.ga K "Closer") (He.ma K (He.ga K "Closer") "__init__") := He.mkr_ok (c.fact 155 (f := .mkr "Closer"))
  have me : Meth K (He.ga K "Closer") "__init__" (He.ma K (He.ga K "Closer") "__init__") := He.meth_ok (c.fact 156 (f := .meth "Closer" "__init__"))
  have nL : NoAttr K (He.ga K "Closer") "letters" := He.noat_ok (c.fact 157 (f := .noat "Closer" "letters"))
  have nF : NoAttr K (He.ga K "Closer") "family" := He.noat_ok (c.fact 158 (f := .noat "Closer" "family"))
  have nT : NoAttr K (He.ga K "Closer") "table" := He.noat_ok (c.fact 159 (f := .noat "Closer" "table"))
  have mt : ∃ t, mg "MOST_THINGS" = some (.int (7 : Nat) t) := He.int_ok X G (c.fact 160 (f := .int "MOST_THINGS" 7))
  have lt : ∃ t, mg "LETTERS" = some (.str "abcdefghijklmnopqrstuvwxyz" t) := He.str_ok X G (c.fact 161 (f := .str "LETTERS" "abcdefghijklmnopqrstuvwxyz"))
  obtain ⟨fdi, Fi0, bi⟩ := init_of (c.def_ 68 (d := dI)) me
  have cf : ClF P w K mg base (He.ga K "Closer") := ⟨cl, insc_of m1 cl, mgC, nL, nF, nT, prop_of (i := 2) m2 (congrArg (fun z : AlX => z.2.2.1) e) cl nL ⟨rfl, rfl, rfl, by decide +kernel, rfl, by decide +kernel, by decide +kernel⟩ rfl (fun _ _ _ _ _ _ us hl => match us, hl with | [_], _ => rfl), prop_of (i := 3) m3 (congrArg (fun z : AlX => z.2.2.2) e) cl nF ⟨rfl, rfl, rfl, by decide +kernel, rfl, by decide +kernel, by decide +kernel⟩ rfl (fun _ _ _ _ _ _ us hl => match us, hl with | [_], _ => rfl)⟩
  have d_is_letter : Df K mg "is_letter" (topS 14) ["value"] := df_of X G (c.def_ 0 (d := dF 14 "is_letter")) (c.fact 0 (f := .glo "is_letter")) (c.fact 1 (f := .keep "is_letter")) fun _ _ _ _ _ _ us hl => match us, hl with | [_], _ => rfl
  have d_mask_of : Df K mg "mask_of" (topS 21) ["things", "lot"] := df_of X G (c.def_ 1 (d := dF 21 "mask_of")) (c.fact 2 (f := .glo "mask_of")) (c.fact 3 (f := .keep "mask_of")) fun _ _ _ _ _ _ us hl => match us, hl with | [_, _], _ => rfl
  have d_lot_of : Df K mg "lot_of" (topS 22) ["things", "mask"] := df_of X G (c.def_ 2 (d := dF 22 "lot_of")) (c.fact 4 (f := .glo "lot_of")) (c.fact 5 (f := .keep "lot_of")) fun _ _ _ _ _ _ us hl => match us, hl with | [_, _], _ => rfl
  have d_whole_of : Df K mg "whole_of" (topS 23) ["things"] := df_of X G (c.def_ 3 (d := dF 23 "whole_of")) (c.fact 6 (f := .glo "whole_of")) (c.fact 7 (f := .keep "whole_of")) fun _ _ _ _ _ _ us hl => match us, hl with | [_], _ => rfl
  have d_is_inside : Df K mg "is_inside" (topS 26) ["one", "other"] := df_of X G (c.def_ 4 (d := dF 26 "is_inside")) (c.fact 8 (f := .glo "is_inside")) (c.fact 9 (f := .keep "is_inside")) fun _ _ _ _ _ _ us hl => match us, hl with | [_, _], _ => rfl
  have d_masks_of : Df K mg "masks_of" (topS 24) ["things", "family"] := df_of X G (c.def_ 5 (d := dF 24 "masks_of")) (c.fact 10 (f := .glo "masks_of")) (c.fact 11 (f := .keep "masks_of")) fun _ _ _ _ _ _ us hl => match us, hl with | [_, _], _ => rfl
  have d_is_rising : Df K mg "is_rising" (topS 15) ["value"] := df_of X G (c.def_ 6 (d := dF 15 "is_rising")) (c.fact 12 (f := .glo "is_rising")) (c.fact 13 (f := .keep "is_rising")) fun _ _ _ _ _ _ us hl => match us, hl with | [_], _ => rfl
  have d_are_things : Df K mg "are_things" (topS 16) ["value"] := df_of X G (c.def_ 7 (d := dF 16 "are_things")) (c.fact 14 (f := .glo "are_things")) (c.fact 15 (f := .keep "are_things")) fun _ _ _ _ _ _ us hl => match us, hl with | [_], _ => rfl
  have d_check_things : Df K mg "check_things" (topS 17) ["value"] := df_of X G (c.def_ 8 (d := dF 17 "check_things")) (c.fact 16 (f := .glo "check_things")) (c.fact 17 (f := .keep "check_things")) fun _ _ _ _ _ _ us hl => match us, hl with | [_], _ => rfl
  have d_is_lot : Df K mg "is_lot" (topS 18) ["things", "value"] := df_of X G (c.def_ 9 (d := dF 18 "is_lot")) (c.fact 18 (f := .glo "is_lot")) (c.fact 19 (f := .keep "is_lot")) fun _ _ _ _ _ _ us hl => match us, hl with | [_, _], _ => rfl
  have d_check_lot : Df K mg "check_lot" (topS 19) ["things", "value"] := df_of X G (c.def_ 10 (d := dF 19 "check_lot")) (c.fact 20 (f := .glo "check_lot")) (c.fact 21 (f := .keep "check_lot")) fun _ _ _ _ _ _ us hl => match us, hl with | [_, _], _ => rfl
  have d_wrong_in_family : Df K mg "wrong_in_family" (topS 20) ["things", "value"] := df_of X G (c.def_ 11 (d := dF 20 "wrong_in_family")) (c.fact 22 (f := .glo "wrong_in_family")) (c.fact 23 (f := .keep "wrong_in_family")) fun _ _ _ _ _ _ us hl => match us, hl with | [_, _], _ => rfl
  have d_family_of : Df K mg "family_of" (topS 25) ["things", "masks"] := df_of X G (c.def_ 12 (d := dF 25 "family_of")) (c.fact 24 (f := .glo "family_of")) (c.fact 25 (f := .keep "family_of")) fun _ _ _ _ _ _ us hl => match us, hl with | [_, _], _ => rfl
  have d_meets_of : Df K mg "meets_of" (topS 27) ["things", "masks"] := df_of X G (c.def_ 13 (d := dF 27 "meets_of")) (c.fact 26 (f := .glo "meets_of")) (c.fact 27 (f := .keep "meets_of")) fun _ _ _ _ _ _ us hl => match us, hl with | [_, _], _ => rfl
  have d_is_closed_family : Df K mg "is_closed_family" (topS 29) ["things", "family"] := df_of X G (c.def_ 14 (d := dF 29 "is_closed_family")) (c.fact 28 (f := .glo "is_closed_family")) (c.fact 29 (f := .keep "is_closed_family")) fun _ _ _ _ _ _ us hl => match us, hl with | [_, _], _ => rfl
  have d_check_closed : Df K mg "check_closed" (topS 30) ["things", "family"] := df_of X G (c.def_ 15 (d := dF 30 "check_closed")) (c.fact 30 (f := .glo "check_closed")) (c.fact 31 (f := .keep "check_closed")) fun _ _ _ _ _ _ us hl => match us, hl with | [_, _], _ => rfl
  have d_rounds_of : Df K mg "rounds_of" (topS 31) ["things", "masks"] := df_of X G (c.def_ 16 (d := dF 31 "rounds_of")) (c.fact 32 (f := .glo "rounds_of")) (c.fact 33 (f := .keep "rounds_of")) fun _ _ _ _ _ _ us hl => match us, hl with | [_, _], _ => rfl
  have d_check_closer : Df K mg "check_closer" (topS 39) ["value"] := df_of X G (c.def_ 17 (d := dF 39 "check_closer")) (c.fact 34 (f := .glo "check_closer")) (c.fact 35 (f := .keep "check_closer")) fun _ _ _ _ _ _ us hl => match us, hl with | [_], _ => rfl
  have d_closed_masks : Df K mg "closed_masks" (topS 37) ["closer"] := df_of X G (c.def_ 18 (d := dF 37 "closed_masks")) (c.fact 36 (f := .glo "closed_masks")) (c.fact 37 (f := .keep "closed_masks")) fun _ _ _ _ _ _ us hl => match us, hl with | [_], _ => rfl
  have d_is_closed_mask : Df K mg "is_closed_mask" (topS 62) ["closer", "mask"] := df_of X G (c.def_ 19 (d := dF 62 "is_closed_mask")) (c.fact 38 (f := .glo "is_closed_mask")) (c.fact 39 (f := .keep "is_closed_mask")) fun _ _ _ _ _ _ us hl => match us, hl with | [_, _], _ => rfl
  have d_span_of : Df K mg "span_of" (topS 51) ["closer", "one", "other"] := df_of X G (c.def_ 20 (d := dF 51 "span_of")) (c.fact 40 (f := .glo "span_of")) (c.fact 41 (f := .keep "span_of")) fun _ _ _ _ _ _ us hl => match us, hl with | [_, _, _], _ => rfl
  have d_outside_of : Df K mg "outside_of" (topS 41) ["closer", "mask"] := df_of X G (c.def_ 21 (d := dF 41 "outside_of")) (c.fact 42 (f := .glo "outside_of")) (c.fact 43 (f := .keep "outside_of")) fun _ _ _ _ _ _ us hl => match us, hl with | [_, _], _ => rfl
  have d_end_mask : Df K mg "end_mask" (topS 44) ["closer", "mask"] := df_of X G (c.def_ 22 (d := dF 44 "end_mask")) (c.fact 44 (f := .glo "end_mask")) (c.fact 45 (f := .keep "end_mask")) fun _ _ _ _ _ _ us hl => match us, hl with | [_, _], _ => rfl
  have d_ends : Df K mg "ends" (topS 45) ["closer", "lot"] := df_of X G (c.def_ 23 (d := dF 45 "ends")) (c.fact 46 (f := .glo "ends")) (c.fact 47 (f := .keep "ends")) fun _ _ _ _ _ _ us hl => match us, hl with | [_, _], _ => rfl
  have d_swap_of : Df K mg "swap_of" (topS 42) ["closer"] := df_of X G (c.def_ 24 (d := dF 42 "swap_of")) (c.fact 48 (f := .glo "swap_of")) (c.fact 49 (f := .keep "swap_of")) fun _ _ _ _ _ _ us hl => match us, hl with | [_], _ => rfl
  have d_is_convex : Df K mg "is_convex" (topS 43) ["closer"] := df_of X G (c.def_ 25 (d := dF 43 "is_convex")) (c.fact 50 (f := .glo "is_convex")) (c.fact 51 (f := .keep "is_convex")) fun _ _ _ _ _ _ us hl => match us, hl with | [_], _ => rfl
  have d_barring_of : Df K mg "barring_of" (topS 47) ["closer"] := df_of X G (c.def_ 26 (d := dF 47 "barring_of")) (c.fact 52 (f := .glo "barring_of")) (c.fact 53 (f := .keep "barring_of")) fun _ _ _ _ _ _ us hl => match us, hl with | [_], _ => rfl
  have d_has_exchange : Df K mg "has_exchange" (topS 48) ["closer"] := df_of X G (c.def_ 27 (d := dF 48 "has_exchange")) (c.fact 54 (f := .glo "has_exchange")) (c.fact 55 (f := .keep "has_exchange")) fun _ _ _ _ _ _ us hl => match us, hl with | [_], _ => rfl
  have d_check_convex : Df K mg "check_convex" (topS 61) ["closer"] := df_of X G (c.def_ 28 (d := dF 61 "check_convex")) (c.fact 56 (f := .glo "check_convex")) (c.fact 57 (f := .keep "check_convex")) fun _ _ _ _ _ _ us hl => match us, hl with | [_], _ => rfl
  have d_corner_masks : Df K mg "corner_masks" (topS 59) ["closer"] := df_of X G (c.def_ 29 (d := dF 59 "corner_masks")) (c.fact 58 (f := .glo "corner_masks")) (c.fact 59 (f := .keep "corner_masks")) fun _ _ _ _ _ _ us hl => match us, hl with | [_], _ => rfl
  have d_wrong_union_of : Df K mg "wrong_union_of" (topS 71) ["closer"] := df_of X G (c.def_ 30 (d := dF 71 "wrong_union_of")) (c.fact 60 (f := .glo "wrong_union_of")) (c.fact 61 (f := .keep "wrong_union_of")) fun _ _ _ _ _ _ us hl => match us, hl with | [_], _ => rfl
  have d_is_topology : Df K mg "is_topology" (topS 72) ["closer"] := df_of X G (c.def_ 31 (d := dF 72 "is_topology")) (c.fact 62 (f := .glo "is_topology")) (c.fact 63 (f := .keep "is_topology")) fun _ _ _ _ _ _ us hl => match us, hl with | [_], _ => rfl
  have d_leads_of : Df K mg "leads_of" (topS 73) ["closer"] := df_of X G (c.def_ 32 (d := dF 73 "leads_of")) (c.fact 64 (f := .glo "leads_of")) (c.fact 65 (f := .keep "leads_of")) fun _ _ _ _ _ _ us hl => match us, hl with | [_], _ => rfl
  have d_leads : Df K mg "leads" (topS 74) ["closer"] := df_of X G (c.def_ 33 (d := dF 74 "leads")) (c.fact 66 (f := .glo "leads")) (c.fact 67 (f := .keep "leads")) fun _ _ _ _ _ _ us hl => match us, hl with | [_], _ => rfl
  have d_is_lead : Df K mg "is_lead" (topS 75) ["things", "value"] := df_of X G (c.def_ 34 (d := dF 75 "is_lead")) (c.fact 68 (f := .glo "is_lead")) (c.fact 69 (f := .keep "is_lead")) fun _ _ _ _ _ _ us hl => match us, hl with | [_, _], _ => rfl
  have d_go_on : Df K mg "go_on" (topS 76) ["some"] := df_of X G (c.def_ 35 (d := dF 76 "go_on")) (c.fact 70 (f := .glo "go_on")) (c.fact 71 (f := .keep "go_on")) fun _ _ _ _ _ _ us hl => match us, hl with | [_], _ => rfl
  have d_check_leads : Df K mg "check_leads" (topS 77) ["things", "value"] := df_of X G (c.def_ 36 (d := dF 77 "check_leads")) (c.fact 72 (f := .glo "check_leads")) (c.fact 73 (f := .keep "check_leads")) fun _ _ _ _ _ _ us hl => match us, hl with | [_, _], _ => rfl
  have d__law_is_in : Df K mg "_law_is_in" (topS 83) ["_law_pack", "_law_more"] := df_of X G (c.def_ 37 (d := dF 83 "_law_is_in")) (c.fact 74 (f := .glo "_law_is_in")) (c.fact 75 (f := .keep "_law_is_in")) fun _ _ _ _ _ _ us hl => match us, hl with | [_, _], _ => rfl
  have d__law_packs : Df K mg "_law_packs" (topS 84) ["_law_crew_here"] := df_of X G (c.def_ 38 (d := dF 84 "_law_packs")) (c.fact 76 (f := .glo "_law_packs")) (c.fact 77 (f := .keep "_law_packs")) fun _ _ _ _ _ _ us hl => match us, hl with | [_], _ => rfl
  have d__law_led_halls : Df K mg "_law_led_halls" (topS 87) ["_law_crew_here", "_law_ties"] := df_of X G (c.def_ 39 (d := dF 87 "_law_led_halls")) (c.fact 78 (f := .glo "_law_led_halls")) (c.fact 79 (f := .keep "_law_led_halls")) fun _ _ _ _ _ _ us hl => match us, hl with | [_, _], _ => rfl
  have d__law_most_free : Df K mg "_law_most_free" (topS 91) ["_law_crew_here", "_law_ties"] := df_of X G (c.def_ 40 (d := dF 91 "_law_most_free")) (c.fact 80 (f := .glo "_law_most_free")) (c.fact 81 (f := .keep "_law_most_free")) fun _ _ _ _ _ _ us hl => match us, hl with | [_, _], _ => rfl
  have d__law_orders : Df K mg "_law_orders" (topS 90) ["_law_crew_here", "_law_ties"] := df_of X G (c.def_ 41 (d := dF 90 "_law_orders")) (c.fact 82 (f := .glo "_law_orders")) (c.fact 83 (f := .keep "_law_orders")) fun _ _ _ _ _ _ us hl => match us, hl with | [_, _], _ => rfl
  have d_closer_of_masks : Df K mg "closer_of_masks" (topS 38) ["things", "masks"] := df_of X G (c.def_ 42 (d := dF 38 "closer_of_masks")) (c.fact 84 (f := .glo "closer_of_masks")) (c.fact 85 (f := .keep "closer_of_masks")) fun _ _ _ _ _ _ us hl => match us, hl with | [_, _], _ => rfl
  have d_by_leads : Df K mg "by_leads" (topS 78) ["things", "some"] := df_of X G (c.def_ 43 (d := dF 78 "by_leads")) (c.fact 86 (f := .glo "by_leads")) (c.fact 87 (f := .keep "by_leads")) fun _ _ _ _ _ _ us hl => match us, hl with | [_, _], _ => rfl
  have d_covers_of : Df K mg "covers_of" (topS 50) ["closer"] := df_of X G (c.def_ 44 (d := dF 50 "covers_of")) (c.fact 88 (f := .glo "covers_of")) (c.fact 89 (f := .keep "covers_of")) fun _ _ _ _ _ _ us hl => match us, hl with | [_], _ => rfl
  have d_counts_by_lots : Df K mg "counts_by_lots" (topS 63) ["closer"] := df_of X G (c.def_ 45 (d := dF 63 "counts_by_lots")) (c.fact 90 (f := .glo "counts_by_lots")) (c.fact 91 (f := .keep "counts_by_lots")) fun _ _ _ _ _ _ us hl => match us, hl with | [_], _ => rfl
  have d_root_masks : Df K mg "root_masks" (topS 52) ["closer"] := df_of X G (c.def_ 46 (d := dF 52 "root_masks")) (c.fact 92 (f := .glo "root_masks")) (c.fact 93 (f := .keep "root_masks")) fun _ _ _ _ _ _ us hl => match us, hl with | [_], _ => rfl
  have d_roots : Df K mg "roots" (topS 53) ["closer"] := df_of X G (c.def_ 47 (d := dF 53 "roots")) (c.fact 94 (f := .glo "roots")) (c.fact 95 (f := .keep "roots")) fun _ _ _ _ _ _ us hl => match us, hl with | [_], _ => rfl
  have d_count_down : Df K mg "count_down" (topS 54) ["closer"] := df_of X G (c.def_ 48 (d := dF 54 "count_down")) (c.fact 96 (f := .glo "count_down")) (c.fact 97 (f := .keep "count_down")) fun _ _ _ _ _ _ us hl => match us, hl with | [_], _ => rfl
  have d_peels_from : Df K mg "peels_from" (topS 64) ["closer", "mask"] := df_of X G (c.def_ 49 (d := dF 64 "peels_from")) (c.fact 98 (f := .glo "peels_from")) (c.fact 99 (f := .keep "peels_from")) fun _ _ _ _ _ _ us hl => match us, hl with | [_, _], _ => rfl
  have d_peels : Df K mg "peels" (topS 65) ["closer"] := df_of X G (c.def_ 50 (d := dF 65 "peels")) (c.fact 100 (f := .glo "peels")) (c.fact 101 (f := .keep "peels")) fun _ _ _ _ _ _ us hl => match us, hl with | [_], _ => rfl
  have d_count_peels : Df K mg "count_peels" (topS 66) ["closer"] := df_of X G (c.def_ 51 (d := dF 66 "count_peels")) (c.fact 102 (f := .glo "count_peels")) (c.fact 103 (f := .keep "count_peels")) fun _ _ _ _ _ _ us hl => match us, hl with | [_], _ => rfl
  have d_try : Df K mg "try_to_join" (topS 67) ["tops_here", "mates", "low", "seen"] := df_of X G (c.def_ 52 (d := dF 67 "try_to_join")) (c.fact 104 (f := .glo "try_to_join")) (c.fact 105 (f := .keep "try_to_join")) fun _ _ _ _ _ _ us hl => match us, hl with | [_, _, _, _], _ => rfl
  have d_joined_corners : Df K mg "joined_corners" (topS 68) ["closer"] := df_of X G (c.def_ 53 (d := dF 68 "joined_corners")) (c.fact 106 (f := .glo "joined_corners")) (c.fact 107 (f := .keep "joined_corners")) fun _ _ _ _ _ _ us hl => match us, hl with | [_], _ => rfl
  have d_fewest_rows : Df K mg "fewest_rows" (topS 69) ["closer"] := df_of X G (c.def_ 54 (d := dF 69 "fewest_rows")) (c.fact 108 (f := .glo "fewest_rows")) (c.fact 109 (f := .keep "fewest_rows")) fun _ _ _ _ _ _ us hl => match us, hl with | [_], _ => rfl
  have d_pentagon_masks : Df K mg "pentagon_masks" (topS 55) ["closer"] := df_of X G (c.def_ 55 (d := dF 55 "pentagon_masks")) (c.fact 110 (f := .glo "pentagon_masks")) (c.fact 111 (f := .keep "pentagon_masks")) fun _ _ _ _ _ _ us hl => match us, hl with | [_], _ => rfl
  have d_diamond_lots : Df K mg "diamond_lots" (topS 56) ["closer"] := df_of X G (c.def_ 56 (d := dF 56 "diamond_lots")) (c.fact 112 (f := .glo "diamond_lots")) (c.fact 113 (f := .keep "diamond_lots")) fun _ _ _ _ _ _ us hl => match us, hl with | [_], _ => rfl
  have d_is_distributive : Df K mg "is_distributive" (topS 57) ["closer"] := df_of X G (c.def_ 57 (d := dF 57 "is_distributive")) (c.fact 114 (f := .glo "is_distributive")) (c.fact 115 (f := .keep "is_distributive")) fun _ _ _ _ _ _ us hl => match us, hl with | [_], _ => rfl
  have d__law_about : Df K mg "_law_about" (topS 89) ["_law_halls", "_law_pack"] := df_of X G (c.def_ 58 (d := dF 89 "_law_about")) (c.fact 116 (f := .glo "_law_about")) (c.fact 117 (f := .keep "_law_about")) fun _ _ _ _ _ _ us hl => match us, hl with | [_, _], _ => rfl
  have d__law_leads_right : Df K mg "_law_leads_right" (topS 92) ["_law_crew_here", "_law_ties"] := df_of X G (c.def_ 59 (d := dF 92 "_law_leads_right")) (c.fact 118 (f := .glo "_law_leads_right")) (c.fact 119 (f := .keep "_law_leads_right")) fun _ _ _ _ _ _ us hl => match us, hl with | [_, _], _ => rfl
  have d_tap : Df K mg "_law_tap" (topS 81) ["_law_brew_here", "_law_top"] := df_of X G (c.def_ 60 (d := dF 81 "_law_tap")) (c.fact 120 (f := .glo "_law_tap")) (c.fact 121 (f := .keep "_law_tap")) fun _ _ _ _ _ _ us hl => match us, hl with | [_, _], _ => rfl
  have d_of : Df K mg "_law_of" (topS 82) ["_law_brew_here", "_law_menu"] := df_of X G (c.def_ 61 (d := dF 82 "_law_of")) (c.fact 122 (f := .glo "_law_of")) (c.fact 123 (f := .keep "_law_of")) fun _ _ _ _ _ _ us hl => match us, hl with | [_, _], _ => rfl
  have d_crew : Df K mg "_law_crew" (topS 85) ["_law_brew_here", "_law_most"] := df_of X G (c.def_ 62 (d := dF 85 "_law_crew")) (c.fact 124 (f := .glo "_law_crew")) (c.fact 125 (f := .keep "_law_crew")) fun _ _ _ _ _ _ us hl => match us, hl with | [_, _], _ => rfl
  have d_line : Df K mg "_law_line" (topS 88) ["_law_brew_here", "_law_crew_here"] := df_of X G (c.def_ 63 (d := dF 88 "_law_line")) (c.fact 126 (f := .glo "_law_line")) (c.fact 127 (f := .keep "_law_line")) fun _ _ _ _ _ _ us hl => match us, hl with | [_, _], _ => rfl
  have d_drawn : Df K mg "_law_drawn_leads" (topS 86) ["_law_brew_here", "_law_crew_here", "_law_many"] := df_of X G (c.def_ 64 (d := dF 86 "_law_drawn_leads")) (c.fact 128 (f := .glo "_law_drawn_leads")) (c.fact 129 (f := .keep "_law_drawn_leads")) fun _ _ _ _ _ _ us hl => match us, hl with | [_, _, _], _ => rfl
  have d_right : Df K mg "_law_right" (topS 93) ["_law_brew_here"] := df_of X G (c.def_ 65 (d := dF 93 "_law_right")) (c.fact 130 (f := .glo "_law_right")) (c.fact 131 (f := .keep "_law_right")) fun _ _ _ _ _ _ us hl => match us, hl with | [_], _ => rfl
  have d_brew : Df K mg "_law_brew" (topS 80) ["_law_cells", "_law_k"] := df_of X G (c.def_ 66 (d := dF 80 "_law_brew")) (c.fact 132 (f := .glo "_law_brew")) (c.fact 133 (f := .keep "_law_brew")) fun _ _ _ _ _ _ us hl => match us, hl with | [_, _], _ => rfl
  have d_law : Df K mg "law" (topS 94) ["_law_cells"] := df_of X G (c.def_ 67 (d := dF 94 "law")) (c.fact 134 (f := .glo "law")) (c.fact 135 (f := .keep "law")) fun _ _ _ _ _ _ us hl => match us, hl with | [_], _ => rfl
  have c_is_letter := fun cw => cal_is_letter (P := P) (w := w) (K := K) (mg := mg) (base := base) (cw := cw) (C := He.ga K "Closer") (d := d_is_letter) (bt := bt) (lt := lt)
  have c_mask_of := fun cw => cal_mask_of (P := P) (w := w) (K := K) (mg := mg) (base := base) (cw := cw) (C := He.ga K "Closer") (d := d_mask_of) (bt := bt)
  have c_lot_of := fun cw => cal_lot_of (P := P) (w := w) (K := K) (mg := mg) (base := base) (cw := cw) (C := He.ga K "Closer") (d := d_lot_of) (bt := bt)
  have c_whole_of := fun cw => cal_whole_of (P := P) (w := w) (K := K) (mg := mg) (base := base) (cw := cw) (C := He.ga K "Closer") (d := d_whole_of) (bt := bt)
  have c_is_inside := fun cw => cal_is_inside (P := P) (w := w) (K := K) (mg := mg) (base := base) (cw := cw) (C := He.ga K "Closer") (d := d_is_inside) (bt := bt)
  have c_masks_of := fun cw => cal_masks_of (P := P) (w := w) (K := K) (mg := mg) (base := base) (cw := cw) (C := He.ga K "Closer") (d := d_masks_of) (bt := bt) (c_mask_of := c_mask_of cw)
  have c_is_rising := fun cw => cal_is_rising (P := P) (w := w) (K := K) (mg := mg) (base := base) (cw := cw) (C := He.ga K "Closer") (d := d_is_rising) (bt := bt) (c_is_letter := c_is_letter cw)
  have c_are_things := fun cw => cal_are_things (P := P) (w := w) (K := K) (mg := mg) (base := base) (cw := cw) (C := He.ga K "Closer") (d := d_are_things) (bt := bt) (mt := mt) (c_is_rising := c_is_rising cw)
  have c_check_things := fun cw => cal_check_things (P := P) (w := w) (K := K) (mg := mg) (base := base) (cw := cw) (C := He.ga K "Closer") (d := d_check_things) (bt := bt) (c_are_things := c_are_things cw)
  have c_is_lot := fun cw => cal_is_lot (P := P) (w := w) (K := K) (mg := mg) (base := base) (cw := cw) (C := He.ga K "Closer") (d := d_is_lot) (bt := bt) (c_is_rising := c_is_rising cw)
  have c_check_lot := fun cw => cal_check_lot (P := P) (w := w) (K := K) (mg := mg) (base := base) (cw := cw) (C := He.ga K "Closer") (d := d_check_lot) (bt := bt) (c_is_lot := c_is_lot cw)
  have c_wrong_in_family := fun cw => cal_wrong_in_family (P := P) (w := w) (K := K) (mg := mg) (base := base) (cw := cw) (C := He.ga K "Closer") (d := d_wrong_in_family) (bt := bt) (c_is_lot := c_is_lot cw)
  have c_family_of := fun cw => cal_family_of (P := P) (w := w) (K := K) (mg := mg) (base := base) (cw := cw) (C := He.ga K "Closer") (d := d_family_of) (bt := bt) (c_lot_of := c_lot_of cw)
  have c_meets_of := fun cw => cal_meets_of (P := P) (w := w) (K := K) (mg := mg) (base := base) (cw := cw) (C := He.ga K "Closer") (d := d_meets_of) (bt := bt) (c_whole_of := c_whole_of cw)
  have c_is_closed_family := fun cw => cal_is_closed_family (P := P) (w := w) (K := K) (mg := mg) (base := base) (cw := cw) (C := He.ga K "Closer") (d := d_is_closed_family) (bt := bt) (c_masks_of := c_masks_of cw) (c_meets_of := c_meets_of cw)
  have c_check_closed := fun cw => cal_check_closed (P := P) (w := w) (K := K) (mg := mg) (base := base) (cw := cw) (C := He.ga K "Closer") (d := d_check_closed) (bt := bt) (c_wrong_in_family := c_wrong_in_family cw) (c_is_closed_family := c_is_closed_family cw)
  have c_rounds_of := fun cw => cal_rounds_of (P := P) (w := w) (K := K) (mg := mg) (base := base) (cw := cw) (C := He.ga K "Closer") (d := d_rounds_of) (bt := bt) (c_whole_of := c_whole_of cw)
  have c_check_closer := fun cw => cal_check_closer (P := P) (w := w) (K := K) (mg := mg) (base := base) (cw := cw) (C := He.ga K "Closer") (d := d_check_closer) (bt := bt) (cf := cf)
  have c_closed_masks := fun cw => cal_closed_masks (P := P) (w := w) (K := K) (mg := mg) (base := base) (cw := cw) (C := He.ga K "Closer") (d := d_closed_masks) (bt := bt) (cf := cf)
  have c_is_closed_mask := fun cw => cal_is_closed_mask (P := P) (w := w) (K := K) (mg := mg) (base := base) (cw := cw) (C := He.ga K "Closer") (d := d_is_closed_mask) (bt := bt) (cf := cf)
  have c_span_of := fun cw => cal_span_of (P := P) (w := w) (K := K) (mg := mg) (base := base) (cw := cw) (C := He.ga K "Closer") (d := d_span_of) (bt := bt) (cf := cf)
  have c_outside_of := fun cw => cal_outside_of (P := P) (w := w) (K := K) (mg := mg) (base := base) (cw := cw) (C := He.ga K "Closer") (d := d_outside_of) (bt := bt) (cf := cf)
  have c_end_mask := fun cw => cal_end_mask (P := P) (w := w) (K := K) (mg := mg) (base := base) (cw := cw) (C := He.ga K "Closer") (d := d_end_mask) (bt := bt) (cf := cf)
  have c_ends := fun cw => cal_ends (P := P) (w := w) (K := K) (mg := mg) (base := base) (cw := cw) (C := He.ga K "Closer") (d := d_ends) (bt := bt) (cf := cf) (c_check_closer := c_check_closer cw) (c_check_lot := c_check_lot cw) (c_lot_of := c_lot_of cw) (c_end_mask := c_end_mask cw) (c_mask_of := c_mask_of cw)
  have c_swap_of := fun cw => cal_swap_of (P := P) (w := w) (K := K) (mg := mg) (base := base) (cw := cw) (C := He.ga K "Closer") (d := d_swap_of) (bt := bt) (cf := cf) (c_closed_masks := c_closed_masks cw) (c_outside_of := c_outside_of cw) (c_lot_of := c_lot_of cw)
  have c_is_convex := fun cw => cal_is_convex (P := P) (w := w) (K := K) (mg := mg) (base := base) (cw := cw) (C := He.ga K "Closer") (d := d_is_convex) (bt := bt) (c_check_closer := c_check_closer cw) (c_swap_of := c_swap_of cw)
  have c_barring_of := fun cw => cal_barring_of (P := P) (w := w) (K := K) (mg := mg) (base := base) (cw := cw) (C := He.ga K "Closer") (d := d_barring_of) (bt := bt) (cf := cf) (c_closed_masks := c_closed_masks cw) (c_outside_of := c_outside_of cw) (c_lot_of := c_lot_of cw)
  have c_has_exchange := fun cw => cal_has_exchange (P := P) (w := w) (K := K) (mg := mg) (base := base) (cw := cw) (C := He.ga K "Closer") (d := d_has_exchange) (bt := bt) (c_check_closer := c_check_closer cw) (c_barring_of := c_barring_of cw)
  have c_check_convex := fun cw => cal_check_convex (P := P) (w := w) (K := K) (mg := mg) (base := base) (cw := cw) (C := He.ga K "Closer") (d := d_check_convex) (bt := bt) (c_swap_of := c_swap_of cw)
  have c_corner_masks := fun cw => cal_corner_masks (P := P) (w := w) (K := K) (mg := mg) (base := base) (cw := cw) (C := He.ga K "Closer") (d := d_corner_masks) (bt := bt) (cf := cf) (c_closed_masks := c_closed_masks cw) (c_whole_of := c_whole_of cw) (c_is_inside := c_is_inside cw)
  have c_wrong_union_of := fun cw => cal_wrong_union_of (P := P) (w := w) (K := K) (mg := mg) (base := base) (cw := cw) (C := He.ga K "Closer") (d := d_wrong_union_of) (bt := bt) (cf := cf) (c_mask_of := c_mask_of cw)
  have c_is_topology := fun cw => cal_is_topology (P := P) (w := w) (K := K) (mg := mg) (base := base) (cw := cw) (C := He.ga K "Closer") (d := d_is_topology) (bt := bt) (c_check_closer := c_check_closer cw) (c_wrong_union_of := c_wrong_union_of cw)
  have c_leads_of := fun cw => cal_leads_of (P := P) (w := w) (K := K) (mg := mg) (base := base) (cw := cw) (C := He.ga K "Closer") (d := d_leads_of) (bt := bt) (cf := cf)
  have c_leads := fun cw => cal_leads (P := P) (w := w) (K := K) (mg := mg) (base := base) (cw := cw) (C := He.ga K "Closer") (d := d_leads) (bt := bt) (c_check_closer := c_check_closer cw) (c_leads_of := c_leads_of cw)
  have c_is_lead := fun cw => cal_is_lead (P := P) (w := w) (K := K) (mg := mg) (base := base) (cw := cw) (C := He.ga K "Closer") (d := d_is_lead) (bt := bt)
  have c_go_on := fun cw => cal_go_on (P := P) (w := w) (K := K) (mg := mg) (base := base) (cw := cw) (C := He.ga K "Closer") (d := d_go_on) (bt := bt)
  have c_check_leads := fun cw => cal_check_leads (P := P) (w := w) (K := K) (mg := mg) (base := base) (cw := cw) (C := He.ga K "Closer") (d := d_check_leads) (bt := bt) (c_is_lead := c_is_lead cw) (c_go_on := c_go_on cw)
  have c__law_is_in := fun cw => cal__law_is_in (P := P) (w := w) (K := K) (mg := mg) (base := base) (cw := cw) (C := He.ga K "Closer") (d := d__law_is_in) (bt := bt)
  have c__law_packs := fun cw => cal__law_packs (P := P) (w := w) (K := K) (mg := mg) (base := base) (cw := cw) (C := He.ga K "Closer") (d := d__law_packs) (bt := bt)
  have c__law_led_halls := fun cw => cal__law_led_halls (P := P) (w := w) (K := K) (mg := mg) (base := base) (cw := cw) (C := He.ga K "Closer") (d := d__law_led_halls) (bt := bt) (c__law_packs := c__law_packs cw)
  have c__law_most_free := fun cw => cal__law_most_free (P := P) (w := w) (K := K) (mg := mg) (base := base) (cw := cw) (C := He.ga K "Closer") (d := d__law_most_free) (bt := bt) (c__law_packs := c__law_packs cw)
  have c__law_orders := fun cw => cal__law_orders (P := P) (w := w) (K := K) (mg := mg) (base := base) (cw := cw) (C := He.ga K "Closer") (d := d__law_orders) (bt := bt) (c__law_is_in := c__law_is_in cw)
  have ok_init0 := fun cw => ok_init (P := P) (w := w) (K := K) (mg := mg) (base := base) (cw := cw) (C := He.ga K "Closer") (F := Fi0) (cl := cl) (nL := nL) (nF := nF) (nT := nT) (c_check_things := c_check_things cw) (c_check_closed := c_check_closed cw) (c_masks_of := c_masks_of cw) (c_rounds_of := c_rounds_of cw)
  have c_closer_of_masks := fun cw => cal_closer_of_masks (P := P) (w := w) (K := K) (mg := mg) (base := base) (cw := cw) (C := He.ga K "Closer") (d := d_closer_of_masks) (bt := bt) (M := M) (Fi := ok_init0 cw) (bi := bi) (mgC := mgC) (c_family_of := c_family_of cw) (c_meets_of := c_meets_of cw)
  have c_by_leads := fun cw => cal_by_leads (P := P) (w := w) (K := K) (mg := mg) (base := base) (cw := cw) (C := He.ga K "Closer") (d := d_by_leads) (bt := bt) (c_check_things := c_check_things cw) (c_check_leads := c_check_leads cw) (c_mask_of := c_mask_of cw) (c_whole_of := c_whole_of cw) (c_closer_of_masks := c_closer_of_masks cw)
  have c_covers_of := fun cw => cal_covers_of (P := P) (w := w) (K := K) (mg := mg) (base := base) (cw := cw) (C := He.ga K "Closer") (d := d_covers_of) (bt := bt) (c_closed_masks := c_closed_masks cw) (c_is_inside := c_is_inside cw)
  have c_counts_by_lots := fun cw => cal_counts_by_lots (P := P) (w := w) (K := K) (mg := mg) (base := base) (cw := cw) (C := He.ga K "Closer") (d := d_counts_by_lots) (bt := bt) (cf := cf) (c_is_closed_mask := c_is_closed_mask cw)
  have c_root_masks := fun cw => cal_root_masks (P := P) (w := w) (K := K) (mg := mg) (base := base) (cw := cw) (C := He.ga K "Closer") (d := d_root_masks) (bt := bt) (c_covers_of := c_covers_of cw)
  have c_roots := fun cw => cal_roots (P := P) (w := w) (K := K) (mg := mg) (base := base) (cw := cw) (C := He.ga K "Closer") (d := d_roots) (bt := bt) (cf := cf) (c_check_closer := c_check_closer cw) (c_family_of := c_family_of cw) (c_root_masks := c_root_masks cw)
  have c_count_down := fun cw => cal_count_down (P := P) (w := w) (K := K) (mg := mg) (base := base) (cw := cw) (C := He.ga K "Closer") (d := d_count_down) (bt := bt) (c_check_closer := c_check_closer cw) (c_root_masks := c_root_masks cw) (c_is_inside := c_is_inside cw)
  have c_peels_from := fun cw => cal_peels_from (P := P) (w := w) (K := K) (mg := mg) (base := base) (cw := cw) (C := He.ga K "Closer") (d := d_peels_from) (bt := bt) (cf := cf) (c_is_closed_mask := c_is_closed_mask cw)
  have c_peels := fun cw => cal_peels (P := P) (w := w) (K := K) (mg := mg) (base := base) (cw := cw) (C := He.ga K "Closer") (d := d_peels) (bt := bt) (cf := cf) (c_check_closer := c_check_closer cw) (c_check_convex := c_check_convex cw) (c_peels_from := c_peels_from cw) (c_whole_of := c_whole_of cw)
  have c_count_peels := fun cw => cal_count_peels (P := P) (w := w) (K := K) (mg := mg) (base := base) (cw := cw) (C := He.ga K "Closer") (d := d_count_peels) (bt := bt) (cf := cf) (c_check_closer := c_check_closer cw) (c_check_convex := c_check_convex cw) (c_counts_by_lots := c_counts_by_lots cw) (c_whole_of := c_whole_of cw)
  have c_try := fun cw => cal_try (P := P) (w := w) (K := K) (mg := mg) (base := base) (cw := cw) (C := He.ga K "Closer") (d := d_try) (bt := bt) (c_is_inside := c_is_inside cw)
  have c_joined_corners := fun cw => cal_joined_corners (P := P) (w := w) (K := K) (mg := mg) (base := base) (cw := cw) (C := He.ga K "Closer") (d := d_joined_corners) (bt := bt) (c_corner_masks := c_corner_masks cw) (c_try := c_try cw 8)
  have c_fewest_rows := fun cw => cal_fewest_rows (P := P) (w := w) (K := K) (mg := mg) (base := base) (cw := cw) (C := He.ga K "Closer") (d := d_fewest_rows) (bt := bt) (c_check_closer := c_check_closer cw) (c_check_convex := c_check_convex cw) (c_joined_corners := c_joined_corners cw)
  have c_pentagon_masks := fun cw => cal_pentagon_masks (P := P) (w := w) (K := K) (mg := mg) (base := base) (cw := cw) (C := He.ga K "Closer") (d := d_pentagon_masks) (bt := bt) (c_closed_masks := c_closed_masks cw) (c_span_of := c_span_of cw) (c_is_inside := c_is_inside cw)
  have c_diamond_lots := fun cw => cal_diamond_lots (P := P) (w := w) (K := K) (mg := mg) (base := base) (cw := cw) (C := He.ga K "Closer") (d := d_diamond_lots) (bt := bt) (cf := cf) (c_mask_of := c_mask_of cw) (c_span_of := c_span_of cw)
  have c_is_distributive := fun cw => cal_is_distributive (P := P) (w := w) (K := K) (mg := mg) (base := base) (cw := cw) (C := He.ga K "Closer") (d := d_is_distributive) (bt := bt) (c_check_closer := c_check_closer cw) (c_pentagon_masks := c_pentagon_masks cw) (c_diamond_lots := c_diamond_lots cw)
  have c__law_about := fun cw => cal__law_about (P := P) (w := w) (K := K) (mg := mg) (base := base) (cw := cw) (C := He.ga K "Closer") (d := d__law_about) (bt := bt) (c__law_is_in := c__law_is_in cw)
  have c__law_leads_right := fun cw => cal__law_leads_right (P := P) (w := w) (K := K) (mg := mg) (base := base) (cw := cw) (C := He.ga K "Closer") (d := d__law_leads_right) (bt := bt) (cf := cf) (c_by_leads := c_by_leads cw) (c__law_led_halls := c__law_led_halls cw) (c_is_topology := c_is_topology cw) (c_leads := c_leads cw) (c_is_convex := c_is_convex cw) (c_is_distributive := c_is_distributive cw) (c__law_about := c__law_about cw) (c_roots := c_roots cw) (c_count_down := c_count_down cw) (c_ends := c_ends cw) (c_has_exchange := c_has_exchange cw) (c__law_orders := c__law_orders cw) (c_peels := c_peels cw) (c_count_peels := c_count_peels cw) (c_fewest_rows := c_fewest_rows cw) (c__law_most_free := c__law_most_free cw)
  have c_tap := cal_tap (P := P) (w := w) (K := K) (mg := mg) (base := base) (d := d_tap) (bt := bt)
  have c_of := fun cw => cal_of (P := P) (w := w) (K := K) (mg := mg) (base := base) (cw := cw) (d := d_of) (bt := bt) (c_tap := c_tap)
  have c_crew := cal_crew (P := P) (w := w) (K := K) (mg := mg) (base := base) (d := d_crew) (bt := bt) (c_tap := c_tap)
  have c_line := fun cw => cal_line (P := P) (w := w) (K := K) (mg := mg) (base := base) (cw := cw) (d := d_line) (bt := bt) (c_tap := c_tap)
  have c_drawn := fun cw => cal_drawn (P := P) (w := w) (K := K) (mg := mg) (base := base) (cw := cw) (dd := d_drawn) (bt := bt) (c_of := c_of cw)
  have c_right := cal_right (P := P) (w := w) (K := K) (mg := mg) (base := base) (C := He.ga K "Closer") (dd := d_right) (bt := bt) (c_tap := c_tap) (c_crew := c_crew) (c_line := c_line) (c_drawn := c_drawn) (c_leads := c__law_leads_right)
  have c_brew := cal_brew (P := P) (w := w) (K := K) (mg := mg) (base := base) (dd := d_brew) (bt := bt)
  have c_law := cal_law (P := P) (w := w) (K := K) (mg := mg) (base := base) (dd := d_law) (bt := bt) (c_brew := c_brew) (c_right := c_right)
  exact c_law
/-- the script alone is known, locked, unless it is the module's own -/
def scrH (a : Addr) (o : Obj) (xs : List V) (t : Bool) : Hp := fun b => if t = true ∧ b = a then some (.frz o (.lst xs)) else none
theorem scr_some {a b : Addr} {o : Obj} {xs : List V} {t : Bool} {u : HO} (h : scrH a o xs t b = some u) : t = true ∧ b = a ∧ u = .frz o (.lst xs) := by
  unfold scrH at h
  split at h
  · rename_i z
    cases h
    exact ⟨z.1, z.2, rfl⟩
  · cases h
theorem end_law {P : Program} {w : World} {K : PySem.W.Frag} {mg mb : Str → Option Value} {fa a : Addr} {s : Shared} {vs : List Value} {ns : List Int} (X : K.In s.heap) (Gm : s.heap.Ns mainGlobals mg) (Gb : s.heap.Ns builtinsNs mb) (bb : ∀ x : Str, x ≠ "__name__" → mb x = bootBuiltins x)
    (lim : s.heap.NoLimit) (hg : s.gens = #[]) (ha : s.heap.get? a = some { cls := .type "list", data := .seq vs.toArray }) (hi : IntsAre vs ns) (hl : ns.length ≤ 63) (hfa : mg "law" = some (.ref fa)) (C : ∀ base : Heap, K_law P w K mg base) :
    codeAny (model P w) callerA (.call (.ref fa) ⟨[.ref a], []⟩) (fun r s' => r = .ok (.ret (.bool true)) ∧ OldK s.heap s'.heap ∧ s'.os = s.os ∧ AllBare s'.gens) s := by
  have rv := vals_ints hi
  have hz : ns.length ≤ sizeLine := Nat.le_trans hl (by decide)
  generalize ht : (K.lookup a).isNone = t
  generalize hH : scrH a { cls := .type "list", data := .seq vs.toArray } (ns.map V.int) t = H
  have hs : ∀ {b u}, H b = some u → t = true ∧ b = a ∧ u = .frz { cls := .type "list", data := .seq vs.toArray } (.lst (ns.map V.int)) := fun h => scr_some (by rw [← hH] at h; exact h)
  have hS : SqL K H a (ns.map V.int) := by
    cases t with
    | true => exact .inl (.inr ⟨_, by rw [← hH]; exact if_pos ⟨rfl, rfl⟩⟩)
    | false =>
      cases q : K.lookup a with
      | none =>
        rw [q] at ht
        cases ht
      | some o =>
        have z := X a o q
        rw [ha] at z
        cases z
        exact .inr ⟨_, vs.toArray, _, q, rfl, rfl, rfl, by rw [List.size_toArray, hi.length]; exact hz, by simpa using rv⟩
  have hok : HOk P w H s.heap := fun b u h => by
    obtain ⟨_, rfl, rfl⟩ := hs h
    exact ⟨ha, by rw [List.length_map]; exact hz, vs, _, rv, ha⟩
  have other : ∀ {b : Addr} {o : Obj}, s.heap.get? b = some o → o.data ≠ .seq vs.toArray → H b = none := fun {b o} h1 h2 => by
    cases q : H b with
    | none => rfl
    | some u =>
      obtain ⟨_, rfl, _⟩ := hs q
      rw [ha] at h1
      cases h1
      exact absurd rfl h2
  have nsK : ∀ {b : Addr} {m : Str → Option Value}, s.heap.Ns b m → (hidT s.heap H).Ns b m := fun {b m} ⟨o, es, ep, z, d, r⟩ => ⟨o, es, ep, hidT_get z (other z (by rw [d]; intro z; cases z)), d, r⟩
  have XK : K.In (hidT s.heap H) := fun b o z => hidT_get (X b o z) (by
    cases q : H b with
    | none => rfl
    | some u =>
      obtain ⟨rfl, rfl, _⟩ := hs q
      rw [z] at ht
      cases ht)
  obtain ⟨mc, l1, l2⟩ := lim
  have M : Mod K mg (hidT s.heap H) := ⟨XK, nsK Gm, ⟨mb, nsK Gb, bb⟩, mc, nsK l1, l2⟩
  have E : Env0 P w K mg (hidT s.heap H) callerA [] s H := ⟨rfl, M, fun _ _ z => of_hidT z, Nat.le_of_eq (hidT_size _ _), trivial, fun _ z => absurd z (by intro q; cases q), hok, .of_eq hg⟩
  obtain ⟨f, fd, F, mgf, _, bi⟩ := (C (hidT s.heap H)).ex
  cases hfa.symm.trans mgf
  have hb := bi s [.ref a] X rfl
  refine codeAny_mono (F.run callerA [] s H ⟨[.ref a], []⟩ [.ref a] [.ref a] (fun v _ => v = .bl true) (fun _ _ _ => False) rfl ⟨rfl, by decide, by decide⟩ E hb (.cons rfl .nil) ⟨a, ns, rfl, hS, Nat.le_trans hl (by decide), fun _ => rfl⟩) fun r s' z => ?_
  match r, z with
  | .ok (.ret u), z =>
    obtain ⟨v, H', os, bare, un, hok', rv', rfl⟩ := z
    cases (show u = Value.bool true from rv')
    refine ⟨rfl, .of_keep fun b o z => ?_, os, bare⟩
    cases q : H b with
    | none => exact un.keep b o z q (fun z => nomatch z) (by simp)
    | some u =>
      obtain ⟨_, rfl, rfl⟩ := hs q
      obtain ⟨k1, _⟩ := hok _ _ q
      obtain ⟨k2, _⟩ := hok' _ _ (un.frzs _ _ _ q)
      rw [z] at k1
      cases k1
      exact k2
end Cw
open PySem PySem.W PyProof.Rows
set_option maxHeartbeats 0 in
theorem PySem.Challenge.cw_closerworks_k40_whole_topologies_that_ar_holds : PySem.Challenge.rw_closerworks_k40_whole_topologies_that_ar.Holds := by
  w_on; o_law
  refine HandSHeadRun.head_any (r := Cw.R) (q := Cw.qv) (H := Cw.hookX) (ob := Cw.obT) (M := 9000) (loose := Cw.names) (d := HandSHeadRun.topDef Cw.R.prog 94) (kwd := []) Cw.obT_eq
    (by kernel_rfl) (fun s => by kernel_rfl) Cw.runX (by kernel_rfl) (by kernel_rfl) (by kernel_rfl) (by rfl) (by first | assumption | decide +kernel) (by decide +kernel) ⟨rfl, rfl, rfl, rfl, rfl, by decide +kernel⟩ ?hw ?hc
  case hw => w_witness2
  case hc =>
    refine Att.attach_call (l := PySem.Challenge.rw_closerworks_k40_whole_topologies_that_ar) (n := 63) rfl (by kernel_rfl) fun w s₀ s₁ mg mb fa o pm cd doc a vs ns G Y ho hd hcd hmg hobj hints hlen hg => ?_
    obtain ⟨K, X, e⟩ := Y
    have hmg : mg ("law" : PySem.Str) = some (.ref fa) := by
      have z : (HandSHeadRun.topDef Cw.R.prog 94).name = ("law" : PySem.Str) := by kernel_rfl
      rw [← z]
      exact hmg
    exact Cw.end_law X G.T.g G.T.b G.T.builtins G.T.nolimit hg hobj hints hlen hmg fun base => Cw.law_ok X G.T.g e
