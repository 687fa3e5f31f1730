import PyProof.Rows.All
import Wide.All
import OpenK.AllK
import Wide.FinOn
import HandS.ForMost
import HandS.Slots
import HandS.SlotsOwn
import HandS.Property
import HandS.ClsMeth
import HandS.Walk
import HandS.Zip
import HandS.Star
import HandS.DictComp
import HandS.TupAny
import HandS.TupMul
import HandS.SetKeys
import HandS.Style
import HandS.Flow
import HandS.Conv
import HandS.CallLocal
import HandS.IsInst
import HandS.More
import HandS.Strs
import HandS.SortRule
import HandS.SortInts
import HandS.Codes
import HandS.Defaults
import KE.KWithOwn
import KE.GoesEnum
import KE.DataMinMax
import KE.KDictZip
import HandS.Head0
import HandS.Head1
import HandS.Head2
import HandS.HeadEnd
import HandS.HeadHook1
import HandS.HeadHook2
import HandS.HeadHook3
import HandS.HeadNt
import PySem.Challenge.RW_blindfuses_k70_whole_boxes_of_long_histo
set_option Elab.async false
set_option linter.all false
set_option maxRecDepth 100000
set_option maxHeartbeats 4000000
/-! ### data: what a value bears -/
namespace Bf
open PySem PySem.Spec PyProof.Rows L2
/-- plain data of the program -/
inductive D where
  | non | bl (b : Bool) | int (i : Int) | str (s : Str) | tup (l : List D) | dict (ks : List Str) (l : List D)
  /-- a tuple that is known to have no dict (its methods can be called) -/
  | tupz (l : List D)
/-- a plain tuple's object: no dict -/
def Frz (o : Obj) : Prop := o.cls = .type "tuple" ∧ o.dict = none
mutual
/-- the value v bears d in the heap H -/
def Rep (H : Hp) : D → V → Prop
  | .non, v => v = .non
  | .bl b, v => v = .bl b
  | .int i, v => v = .int i
  | .str s, v => v = .str s
  | .tup ds, v => ∃ a xs, v = .ref a ∧ H a = some (.tup xs) ∧ Reps H ds xs
  | .dict ks ds, v => ∃ a kvs, v = .ref a ∧ H a = some (.dK kvs) ∧ kvs.map (·.1) = ks.map Sum.inr ∧ Reps H ds (kvs.map (·.2))
  | .tupz ds, v => ∃ a o xs, v = .ref a ∧ H a = some (.frz o (.tup xs)) ∧ Frz o ∧ Reps H ds xs
def Reps (H : Hp) : List D → List V → Prop
  | [], xs => xs = []
  | d :: ds, xs => ∃ x ys, xs = x :: ys ∧ Rep H d x ∧ Reps H ds ys
end
/-- objects that are never changed once they are given out -/
def Imm : HO → Prop
  | .tup _ => True
  | .dK _ => True
  | .frz _ _ => True
  | _ => False
def Pr (H H' : Hp) : Prop := ∀ a o, H a = some o → Imm o → H' a = some o
theorem Pr.refl (H : Hp) : Pr H H := fun _ _ h _ => h
theorem Pr.trans {H H1 H2 : Hp} (a : Pr H H1) (b : Pr H1 H2) : Pr H H2 := fun x o h i => b x o (a x o h i) i
theorem Same.pr {H H' : Hp} (h : Same H H') : Pr H H' := fun a o e _ => h a o e
theorem Same.new {H : Hp} {p : Addr} {o : HO} (h : H p = none) : Same H (upd H p o) := fun a u e => by
  rw [upd_ne (ne_of_none e h)]
  exact e
theorem Same.mut {H H' : Hp} {p : Addr} {o : HO} (e : Same H H') (h : H p = none) : Same H (upd H' p o) := fun a u ha => by
  rw [upd_ne (ne_of_none ha h)]
  exact e a u ha
theorem Pr.new {H : Hp} {p : Addr} {o : HO} (h : H p = none) : Pr H (upd H p o) := Same.pr (Same.new h)
theorem Pr.mutL {H : Hp} {p : Addr} {o : HO} {xs : List V} (h : H p = some (.lst xs)) : Pr H (upd H p o) := fun a u e i => by
  have ne : a ≠ p := fun z => by
    rw [z, h] at e
    cases e
    exact i
  rw [upd_ne ne]
  exact e
theorem Pr.mutI {H : Hp} {p C dx : Addr} {o : HO} {fs : List (Str × V)} (h : H p = some (.ins C dx fs)) : Pr H (upd H p o) := fun a u e i => by
  have ne : a ≠ p := fun z => by
    rw [z, h] at e
    cases e
    exact i
  rw [upd_ne ne]
  exact e
theorem Pr.mutO {H H' : Hp} {p : Addr} {o : HO} (e : Pr H H') (h : H p = none) : Pr H (upd H' p o) := fun a u ha i => by
  rw [upd_ne (ne_of_none ha h)]
  exact e a u ha i
mutual
theorem Rep.pr {H H' : Hp} (k : Pr H H') : ∀ {d : D} {v : V}, Rep H d v → Rep H' d v
  | .non, _, h => h
  | .bl _, _, h => h
  | .int _, _, h => h
  | .str _, _, h => h
  | .tup _, _, ⟨a, xs, e, h, r⟩ => ⟨a, xs, e, k _ _ h trivial, Reps.pr k r⟩
  | .dict _ _, _, ⟨a, kvs, e, h, q, r⟩ => ⟨a, kvs, e, k _ _ h trivial, q, Reps.pr k r⟩
  | .tupz _, _, ⟨a, o, xs, e, h, z, r⟩ => ⟨a, o, xs, e, k _ _ h trivial, z, Reps.pr k r⟩
theorem Reps.pr {H H' : Hp} (k : Pr H H') : ∀ {ds : List D} {xs : List V}, Reps H ds xs → Reps H' ds xs
  | [], _, h => h
  | _ :: _, _, ⟨x, ys, e, h, r⟩ => ⟨x, ys, e, Rep.pr k h, Reps.pr k r⟩
end
theorem Rep.same {H H' : Hp} (k : Same H H') {d : D} {v : V} (h : Rep H d v) : Rep H' d v := Rep.pr (Same.pr k) h
theorem Reps.same {H H' : Hp} (k : Same H H') {d : List D} {v : List V} (h : Reps H d v) : Reps H' d v := Reps.pr (Same.pr k) h
section
variable {H : Hp}
theorem Rep.non : Rep H .non .non := rfl
theorem Rep.bl {b : Bool} : Rep H (.bl b) (.bl b) := rfl
theorem Rep.int {i : Int} : Rep H (.int i) (.int i) := rfl
theorem Rep.str {s : Str} : Rep H (.str s) (.str s) := rfl
theorem Rep.tup {a : Addr} {xs : List V} {ds : List D} (h : H a = some (.tup xs)) (r : Reps H ds xs) : Rep H (.tup ds) (.ref a) := ⟨a, xs, rfl, h, r⟩
theorem Rep.tupz {a : Addr} {o : Obj} {xs : List V} {ds : List D} (h : H a = some (.frz o (.tup xs))) (z : Frz o) (r : Reps H ds xs) : Rep H (.tupz ds) (.ref a) := ⟨a, o, xs, rfl, h, z, r⟩
/-- a tuple, whichever -/
def TupOf : D → Option (List D)
  | .tup l => some l
  | .tupz l => some l
  | _ => none
theorem Rep.seq {d : D} {ds : List D} {v : V} (h : Rep H d v) (e : TupOf d = some ds) (K : PySem.W.Frag) : ∃ a xs, v = .ref a ∧ SqT K H a xs ∧ Reps H ds xs := by
  cases d with
  | tup l =>
    cases e
    obtain ⟨a, xs, e, h, r⟩ := h
    exact ⟨a, xs, e, .inl (.inl h), r⟩
  | tupz l =>
    cases e
    obtain ⟨a, o, xs, e, h, _, r⟩ := h
    exact ⟨a, xs, e, .inl (.inr ⟨o, h⟩), r⟩
  | _ => cases e
theorem Rep.dict {a : Addr} {kvs : List (Key × V)} {ks : List Str} {ds : List D} (h : H a = some (.dK kvs)) (q : kvs.map (·.1) = ks.map Sum.inr) (r : Reps H ds (kvs.map (·.2))) : Rep H (.dict ks ds) (.ref a) := ⟨a, kvs, rfl, h, q, r⟩
theorem Reps.nil : Reps H [] [] := rfl
theorem Reps.cons {d : D} {ds : List D} {x : V} {xs : List V} (h : Rep H d x) (r : Reps H ds xs) : Reps H (d :: ds) (x :: xs) := ⟨x, xs, rfl, h, r⟩
theorem Reps.length : ∀ {ds : List D} {xs : List V}, Reps H ds xs → xs.length = ds.length
  | [], _, h => by
    have e : _ = [] := h
    rw [e]
    rfl
  | _ :: _, _, ⟨x, ys, e, _, r⟩ => by rw [e, List.length_cons, List.length_cons, r.length]
theorem Reps.get : ∀ {ds : List D} {xs : List V} {i : Nat} {d : D}, Reps H ds xs → ds[i]? = some d → ∃ x, xs[i]? = some x ∧ Rep H d x
  | [], _, i, d, _, h => by simp at h
  | d0 :: ds, _, 0, d, ⟨x, ys, e, q, _⟩, h => by
    simp at h
    subst h
    exact ⟨x, by rw [e]; rfl, q⟩
  | d0 :: ds, _, i + 1, d, ⟨x, ys, e, q, r⟩, h => by
    obtain ⟨y, h1, h2⟩ := Reps.get (i := i) (d := d) r (by simpa using h)
    exact ⟨y, by rw [e]; simpa using h1, h2⟩
theorem Reps.get' : ∀ {ds : List D} {xs : List V} {i : Nat} {x : V}, Reps H ds xs → xs[i]? = some x → ∃ d, ds[i]? = some d ∧ Rep H d x
  | [], xs, i, d, e, h => by
    have e' : xs = [] := e
    subst e'
    simp at h
  | d0 :: ds, _, 0, x', ⟨x, ys, e, q, _⟩, h => by
    subst e
    simp at h
    subst h
    exact ⟨d0, rfl, q⟩
  | d0 :: ds, _, i + 1, x', ⟨x, ys, e, q, r⟩, h => by
    subst e
    obtain ⟨y, h1, h2⟩ := Reps.get' (i := i) (x := x') r (by simpa using h)
    exact ⟨y, by simpa using h1, h2⟩
theorem Reps.append : ∀ {ds es : List D} {xs ys : List V}, Reps H ds xs → Reps H es ys → Reps H (ds ++ es) (xs ++ ys)
  | [], _, xs, _, e, r => by
    have e' : xs = [] := e
    subst e'
    exact r
  | _ :: _, _, _, _, ⟨x, ys, e, q, r⟩, r2 => by
    subst e
    exact ⟨x, _, rfl, q, Reps.append r r2⟩
theorem Reps.drop : ∀ {ds : List D} {xs : List V} (n : Nat), Reps H ds xs → Reps H (ds.drop n) (xs.drop n)
  | [], xs, n, e => by
    have e' : xs = [] := e
    subst e'
    rw [List.drop_nil, List.drop_nil]
    exact Reps.nil
  | _ :: _, _, 0, r => r
  | _ :: _, _, n + 1, ⟨x, ys, e, q, r⟩ => by
    subst e
    exact Reps.drop n r
theorem Reps.take : ∀ {ds : List D} {xs : List V} (n : Nat), Reps H ds xs → Reps H (ds.take n) (xs.take n)
  | [], xs, n, e => by
    have e' : xs = [] := e
    subst e'
    rw [List.take_nil, List.take_nil]
    exact Reps.nil
  | _ :: _, _, 0, r => rfl
  | _ :: _, _, n + 1, ⟨x, ys, e, q, r⟩ => by
    subst e
    exact ⟨x, _, rfl, q, Reps.take n r⟩
theorem Reps.one {d : D} {xs : List V} (h : Reps H [d] xs) : ∃ x, xs = [x] ∧ Rep H d x := by
  obtain ⟨x, ys, e, q, r⟩ := h
  have e' : ys = [] := r
  subst e'
  exact ⟨x, e, q⟩
theorem Reps.two {d e : D} {xs : List V} (h : Reps H [d, e] xs) : ∃ x y, xs = [x, y] ∧ Rep H d x ∧ Rep H e y := by
  obtain ⟨x, ys, rfl, q, r⟩ := h
  obtain ⟨y, rfl, q2⟩ := Reps.one r
  exact ⟨x, y, rfl, q, q2⟩
theorem Reps.three {d e f : D} {xs : List V} (h : Reps H [d, e, f] xs) : ∃ x y z, xs = [x, y, z] ∧ Rep H d x ∧ Rep H e y ∧ Rep H f z := by
  obtain ⟨x, ys, rfl, q, r⟩ := h
  obtain ⟨y, z, rfl, q2, q3⟩ := Reps.two r
  exact ⟨x, y, z, rfl, q, q2, q3⟩
theorem Reps.four {d e f g : D} {xs : List V} (h : Reps H [d, e, f, g] xs) : ∃ x y z w, xs = [x, y, z, w] ∧ Rep H d x ∧ Rep H e y ∧ Rep H f z ∧ Rep H g w := by
  obtain ⟨x, ys, rfl, q, r⟩ := h
  obtain ⟨y, z, w, rfl, q2, q3, q4⟩ := Reps.three r
  exact ⟨x, y, z, w, rfl, q, q2, q3, q4⟩
/-- a list of plain ints, bools, .. -/
theorem Reps.ints : ∀ {ns : List Int} {xs : List V}, Reps H (ns.map D.int) xs → xs = ns.map V.int
  | [], _, e => e
  | _ :: _, _, ⟨x, ys, e, q, r⟩ => by
    have q' : x = _ := q
    rw [e, q', Reps.ints r]
    rfl
theorem Reps.bls : ∀ {ns : List Bool} {xs : List V}, Reps H (ns.map D.bl) xs → xs = ns.map V.bl
  | [], _, e => e
  | _ :: _, _, ⟨x, ys, e, q, r⟩ => by
    have q' : x = _ := q
    rw [e, q', Reps.bls r]
    rfl
theorem Reps.of_ints : ∀ {ns : List Int}, Reps H (ns.map D.int) (ns.map V.int)
  | [] => rfl
  | _ :: _ => ⟨_, _, rfl, rfl, Reps.of_ints⟩
theorem Reps.of_bls : ∀ {ns : List Bool}, Reps H (ns.map D.bl) (ns.map V.bl)
  | [] => rfl
  | _ :: _ => ⟨_, _, rfl, rfl, Reps.of_bls⟩
theorem Reps.of_strs : ∀ {ns : List Str}, Reps H (ns.map D.str) (ns.map V.str)
  | [] => rfl
  | _ :: _ => ⟨_, _, rfl, rfl, Reps.of_strs⟩
theorem Reps.strs : ∀ {ns : List Str} {xs : List V}, Reps H (ns.map D.str) xs → xs = ns.map V.str
  | [], _, e => e
  | _ :: _, _, ⟨x, ys, e, q, r⟩ => by
    have q' : x = _ := q
    rw [e, q', Reps.strs r]
    rfl
end
end Bf
/-! ### the text, what stands behind the top, the forms of a def's promise -/
-- NEEDS_ROW
namespace Bf
open PySem PySem.Spec PyProof.Rows L2
def top (i : Nat) : Stmt := PySem.Challenge.pw_blindfuses_k70_whole_boxes_of_long_histo.main.body.getD i (.Pass ⟨0, 0, 0, 0⟩)
abbrev sis_number : Stmt := top 22
abbrev Nis_number : List Str := [("value" : Str), ("smallest" : Str), ("largest" : Str)]
theorem scis_number : FnScope Nis_number [("value" : Str), ("smallest" : Str), ("largest" : Str)] (defScope sis_number) := ⟨rfl, rfl, rfl, by decide +kernel, rfl, by decide +kernel, by decide +kernel⟩
abbrev sis_word : Stmt := top 23
abbrev Nis_word : List Str := [("value" : Str), ("letter" : Str)]
theorem scis_word : FnScope Nis_word [("value" : Str)] (defScope sis_word) := ⟨rfl, rfl, rfl, by decide +kernel, rfl, by decide +kernel, by decide +kernel⟩
abbrev sare_rates : Stmt := top 24
abbrev Nare_rates : List Str := [("row" : Str), ("rate" : Str)]
theorem scare_rates : FnScope Nare_rates [("row" : Str)] (defScope sare_rates) := ⟨rfl, rfl, rfl, by decide +kernel, rfl, by decide +kernel, by decide +kernel⟩
abbrev sare_above : Stmt := top 25
abbrev Nare_above : List Str := [("row" : Str), ("count" : Str), ("breaker" : Str), ("other" : Str)]
theorem scare_above : FnScope Nare_above [("row" : Str), ("count" : Str)] (defScope sare_above) := ⟨rfl, rfl, rfl, by decide +kernel, rfl, by decide +kernel, by decide +kernel⟩
abbrev sis_point : Stmt := top 26
abbrev Nis_point : List Str := [("value" : Str)]
theorem scis_point : FnScope Nis_point [("value" : Str)] (defScope sis_point) := ⟨rfl, rfl, rfl, by decide +kernel, rfl, by decide +kernel, by decide +kernel⟩
abbrev sare_points : Stmt := top 27
abbrev Nare_points : List Str := [("row" : Str), ("one" : Str), ("other" : Str), ("point" : Str)]
theorem scare_points : FnScope Nare_points [("row" : Str)] (defScope sare_points) := ⟨rfl, rfl, rfl, by decide +kernel, rfl, by decide +kernel, by decide +kernel⟩
abbrev sPlan_init : Stmt := inClass (top 28) 1
abbrev NPlan_init : List Str := [("self" : Str), ("rates" : Str), ("above" : Str), ("points" : Str), ("rule" : Str)]
theorem scPlan_init : FnScope NPlan_init [("self" : Str), ("rates" : Str), ("above" : Str), ("points" : Str), ("rule" : Str)] (defScope sPlan_init) := ⟨rfl, rfl, rfl, by decide +kernel, rfl, by decide +kernel, by decide +kernel⟩
abbrev sPlan_rates : Stmt := inClass (top 28) 2
abbrev NPlan_rates : List Str := [("self" : Str)]
theorem scPlan_rates : FnScope NPlan_rates [("self" : Str)] (defScope sPlan_rates) := ⟨rfl, rfl, rfl, by decide +kernel, rfl, by decide +kernel, by decide +kernel⟩
abbrev sPlan_above : Stmt := inClass (top 28) 3
abbrev NPlan_above : List Str := [("self" : Str)]
theorem scPlan_above : FnScope NPlan_above [("self" : Str)] (defScope sPlan_above) := ⟨rfl, rfl, rfl, by decide +kernel, rfl, by decide +kernel, by decide +kernel⟩
abbrev sPlan_points : Stmt := inClass (top 28) 4
abbrev NPlan_points : List Str := [("self" : Str)]
theorem scPlan_points : FnScope NPlan_points [("self" : Str)] (defScope sPlan_points) := ⟨rfl, rfl, rfl, by decide +kernel, rfl, by decide +kernel, by decide +kernel⟩
abbrev sPlan_rule : Stmt := inClass (top 28) 5
abbrev NPlan_rule : List Str := [("self" : Str)]
theorem scPlan_rule : FnScope NPlan_rule [("self" : Str)] (defScope sPlan_rule) := ⟨rfl, rfl, rfl, by decide +kernel, rfl, by decide +kernel, by decide +kernel⟩
abbrev sPlan_names : Stmt := inClass (top 28) 6
abbrev NPlan_names : List Str := [("self" : Str), ("point" : Str)]
theorem scPlan_names : FnScope NPlan_names [("self" : Str)] (defScope sPlan_names) := ⟨rfl, rfl, rfl, by decide +kernel, rfl, by decide +kernel, by decide +kernel⟩
abbrev sPlan_len : Stmt := inClass (top 28) 8
abbrev NPlan_len : List Str := [("self" : Str)]
theorem scPlan_len : FnScope NPlan_len [("self" : Str)] (defScope sPlan_len) := ⟨rfl, rfl, rfl, by decide +kernel, rfl, by decide +kernel, by decide +kernel⟩
abbrev sdoes_follow : Stmt := top 29
abbrev Ndoes_follow : List Str := [("plan" : Str), ("wiring" : Str), ("found" : Str), ("point" : Str), ("breaker" : Str)]
theorem scdoes_follow : FnScope Ndoes_follow [("plan" : Str), ("wiring" : Str)] (defScope sdoes_follow) := ⟨rfl, rfl, rfl, by decide +kernel, rfl, by decide +kernel, by decide +kernel⟩
abbrev sis_wiring : Stmt := top 30
abbrev Nis_wiring : List Str := [("plan" : Str), ("value" : Str), ("breaker" : Str)]
theorem scis_wiring : FnScope Nis_wiring [("plan" : Str), ("value" : Str)] (defScope sis_wiring) := ⟨rfl, rfl, rfl, by decide +kernel, rfl, by decide +kernel, by decide +kernel⟩
abbrev scheck_wiring : Stmt := top 31
abbrev Ncheck_wiring : List Str := [("plan" : Str), ("wiring" : Str)]
theorem sccheck_wiring : FnScope Ncheck_wiring [("plan" : Str), ("wiring" : Str)] (defScope scheck_wiring) := ⟨rfl, rfl, rfl, by decide +kernel, rfl, by decide +kernel, by decide +kernel⟩
abbrev scheck_name : Stmt := top 32
abbrev Ncheck_name : List Str := [("plan" : Str), ("name" : Str)]
theorem sccheck_name : FnScope Ncheck_name [("plan" : Str), ("name" : Str)] (defScope scheck_name) := ⟨rfl, rfl, rfl, by decide +kernel, rfl, by decide +kernel, by decide +kernel⟩
abbrev scheck_breaker : Stmt := top 33
abbrev Ncheck_breaker : List Str := [("plan" : Str), ("breaker" : Str)]
theorem sccheck_breaker : FnScope Ncheck_breaker [("plan" : Str), ("breaker" : Str)] (defScope scheck_breaker) := ⟨rfl, rfl, rfl, by decide +kernel, rfl, by decide +kernel, by decide +kernel⟩
abbrev sall_on : Stmt := top 34
abbrev Nall_on : List Str := [("plan" : Str), ("rate" : Str)]
theorem scall_on : FnScope Nall_on [("plan" : Str)] (defScope sall_on) := ⟨rfl, rfl, rfl, by decide +kernel, rfl, by decide +kernel, by decide +kernel⟩
abbrev sline_up : Stmt := top 35
abbrev Nline_up : List Str := [("plan" : Str), ("breaker" : Str), ("found" : Str)]
theorem scline_up : FnScope Nline_up [("plan" : Str), ("breaker" : Str)] (defScope sline_up) := ⟨rfl, rfl, rfl, by decide +kernel, rfl, by decide +kernel, by decide +kernel⟩
abbrev shas_power : Stmt := top 38
abbrev Nhas_power : List Str := [("plan" : Str), ("state" : Str), ("breaker" : Str), ("one" : Str)]
theorem schas_power : FnScope Nhas_power [("plan" : Str), ("state" : Str), ("breaker" : Str)] (defScope shas_power) := ⟨rfl, rfl, rfl, by decide +kernel, rfl, by decide +kernel, by decide +kernel⟩
abbrev slive_in : Stmt := top 39
abbrev Nlive_in : List Str := [("plan" : Str), ("wiring" : Str), ("state" : Str), ("rows" : Str), ("name" : Str), ("breaker" : Str)]
theorem sclive_in : FnScope Nlive_in [("plan" : Str), ("wiring" : Str), ("state" : Str)] (defScope slive_in) := ⟨rfl, rfl, rfl, by decide +kernel, rfl, by decide +kernel, by decide +kernel⟩
abbrev scurrents_in : Stmt := top 40
abbrev Ncurrents_in : List Str := [("plan" : Str), ("wiring" : Str), ("state" : Str), ("loads" : Str), ("found" : Str), ("name" : Str), ("breaker" : Str), ("one" : Str), ("rate" : Str)]
theorem sccurrents_in : FnScope Ncurrents_in [("plan" : Str), ("wiring" : Str), ("state" : Str), ("loads" : Str)] (defScope scurrents_in) := ⟨rfl, rfl, rfl, by decide +kernel, rfl, by decide +kernel, by decide +kernel⟩
abbrev strips_in : Stmt := top 41
abbrev Ntrips_in : List Str := [("plan" : Str), ("wiring" : Str), ("state" : Str), ("loads" : Str), ("numbers" : Str), ("over" : Str), ("row" : Str), ("first" : Str), ("one" : Str)]
theorem sctrips_in : FnScope Ntrips_in [("plan" : Str), ("wiring" : Str), ("state" : Str), ("loads" : Str)] (defScope strips_in) := ⟨rfl, rfl, rfl, by decide +kernel, rfl, by decide +kernel, by decide +kernel⟩
abbrev sis_operation : Stmt := top 44
abbrev Nis_operation : List Str := [("value" : Str)]
theorem scis_operation : FnScope Nis_operation [("value" : Str)] (defScope sis_operation) := ⟨rfl, rfl, rfl, by decide +kernel, rfl, by decide +kernel, by decide +kernel⟩
abbrev sswitched : Stmt := top 45
abbrev Nswitched : List Str := [("state" : Str), ("breaker" : Str)]
theorem scswitched : FnScope Nswitched [("state" : Str), ("breaker" : Str)] (defScope sswitched) := ⟨rfl, rfl, rfl, by decide +kernel, rfl, by decide +kernel, by decide +kernel⟩
abbrev sState_init : Stmt := inClass (top 46) 1
abbrev NState_init : List Str := [("self" : Str), ("facts" : Str), ("shelf" : Str), ("past" : Str), ("undone" : Str)]
theorem scState_init : FnScope NState_init [("self" : Str), ("facts" : Str), ("shelf" : Str), ("past" : Str), ("undone" : Str)] (defScope sState_init) := ⟨rfl, rfl, rfl, by decide +kernel, rfl, by decide +kernel, by decide +kernel⟩
abbrev sState_copied : Stmt := inClass (top 46) 2
abbrev NState_copied : List Str := [("self" : Str)]
theorem scState_copied : FnScope NState_copied [("self" : Str)] (defScope sState_copied) := ⟨rfl, rfl, rfl, by decide +kernel, rfl, by decide +kernel, by decide +kernel⟩
abbrev sState_go_on : Stmt := inClass (top 46) 3
abbrev NState_go_on : List Str := [("self" : Str), ("operation" : Str), ("facts" : Str), ("shelf" : Str)]
theorem scState_go_on : FnScope NState_go_on [("self" : Str), ("operation" : Str), ("facts" : Str), ("shelf" : Str)] (defScope sState_go_on) := ⟨rfl, rfl, rfl, by decide +kernel, rfl, by decide +kernel, by decide +kernel⟩
abbrev sState_go_back : Stmt := inClass (top 46) 4
abbrev NState_go_back : List Str := [("self" : Str), ("operation" : Str), ("facts" : Str), ("shelf" : Str)]
theorem scState_go_back : FnScope NState_go_back [("self" : Str)] (defScope sState_go_back) := ⟨rfl, rfl, rfl, by decide +kernel, rfl, by decide +kernel, by decide +kernel⟩
abbrev sState_go_again : Stmt := inClass (top 46) 5
abbrev NState_go_again : List Str := [("self" : Str), ("operation" : Str), ("facts" : Str), ("shelf" : Str)]
theorem scState_go_again : FnScope NState_go_again [("self" : Str)] (defScope sState_go_again) := ⟨rfl, rfl, rfl, by decide +kernel, rfl, by decide +kernel, by decide +kernel⟩
abbrev sBox_init : Stmt := inClass (top 47) 0
abbrev NBox_init : List Str := [("self" : Str), ("plan" : Str), ("wiring" : Str)]
theorem scBox_init : FnScope NBox_init [("self" : Str), ("plan" : Str), ("wiring" : Str)] (defScope sBox_init) := ⟨rfl, rfl, rfl, by decide +kernel, rfl, by decide +kernel, by decide +kernel⟩
abbrev sBox_replay : Stmt := inClass (top 47) 1
abbrev NBox_replay : List Str := [("cls" : Str), ("plan" : Str), ("wiring" : Str), ("operations" : Str), ("box" : Str)]
theorem scBox_replay : FnScope NBox_replay [("cls" : Str), ("plan" : Str), ("wiring" : Str), ("operations" : Str)] (defScope sBox_replay) := ⟨rfl, rfl, rfl, by decide +kernel, rfl, by decide +kernel, by decide +kernel⟩
abbrev sBox_state_now : Stmt := inClass (top 47) 2
abbrev NBox_state_now : List Str := [("self" : Str)]
theorem scBox_state_now : FnScope NBox_state_now [("self" : Str)] (defScope sBox_state_now) := ⟨rfl, rfl, rfl, by decide +kernel, rfl, by decide +kernel, by decide +kernel⟩
abbrev sBox_loads_now : Stmt := inClass (top 47) 3
abbrev NBox_loads_now : List Str := [("self" : Str), ("name" : Str)]
theorem scBox_loads_now : FnScope NBox_loads_now [("self" : Str)] (defScope sBox_loads_now) := ⟨rfl, rfl, rfl, by decide +kernel, rfl, by decide +kernel, by decide +kernel⟩
abbrev sBox_fed_now : Stmt := inClass (top 47) 4
abbrev NBox_fed_now : List Str := [("self" : Str)]
theorem scBox_fed_now : FnScope NBox_fed_now [("self" : Str)] (defScope sBox_fed_now) := ⟨rfl, rfl, rfl, by decide +kernel, rfl, by decide +kernel, by decide +kernel⟩
abbrev sBox_trip_count : Stmt := inClass (top 47) 5
abbrev NBox_trip_count : List Str := [("self" : Str)]
theorem scBox_trip_count : FnScope NBox_trip_count [("self" : Str)] (defScope sBox_trip_count) := ⟨rfl, rfl, rfl, by decide +kernel, rfl, by decide +kernel, by decide +kernel⟩
abbrev sBox_kept_under : Stmt := inClass (top 47) 6
abbrev NBox_kept_under : List Str := [("self" : Str)]
theorem scBox_kept_under : FnScope NBox_kept_under [("self" : Str)] (defScope sBox_kept_under) := ⟨rfl, rfl, rfl, by decide +kernel, rfl, by decide +kernel, by decide +kernel⟩
abbrev sBox_history : Stmt := inClass (top 47) 7
abbrev NBox_history : List Str := [("self" : Str), ("operation" : Str), ("facts" : Str), ("shelf" : Str)]
theorem scBox_history : FnScope NBox_history [("self" : Str)] (defScope sBox_history) := ⟨rfl, rfl, rfl, by decide +kernel, rfl, by decide +kernel, by decide +kernel⟩
abbrev sBox_settle : Stmt := inClass (top 47) 8
abbrev NBox_settle : List Str := [("self" : Str), ("operation" : Str), ("state" : Str), ("loads" : Str), ("before" : Str), ("old" : Str), ("wiring" : Str), ("count" : Str), ("later" : Str), ("numbers" : Str)]
theorem scBox_settle : FnScope NBox_settle [("self" : Str), ("operation" : Str), ("state" : Str), ("loads" : Str)] (defScope sBox_settle) := ⟨rfl, rfl, rfl, by decide +kernel, rfl, by decide +kernel, by decide +kernel⟩
abbrev sBox_flip : Stmt := inClass (top 47) 9
abbrev NBox_flip : List Str := [("self" : Str), ("breaker" : Str), ("state" : Str), ("loads" : Str), ("wiring" : Str), ("count" : Str)]
theorem scBox_flip : FnScope NBox_flip [("self" : Str), ("breaker" : Str)] (defScope sBox_flip) := ⟨rfl, rfl, rfl, by decide +kernel, rfl, by decide +kernel, by decide +kernel⟩
abbrev sBox_plug : Stmt := inClass (top 47) 10
abbrev NBox_plug : List Str := [("self" : Str), ("name" : Str), ("load" : Str), ("state" : Str), ("loads" : Str), ("wiring" : Str), ("count" : Str), ("others" : Str), ("other" : Str)]
theorem scBox_plug : FnScope NBox_plug [("self" : Str), ("name" : Str), ("load" : Str)] (defScope sBox_plug) := ⟨rfl, rfl, rfl, by decide +kernel, rfl, by decide +kernel, by decide +kernel⟩
abbrev sBox_rewire : Stmt := inClass (top 47) 11
abbrev NBox_rewire : List Str := [("self" : Str), ("name" : Str), ("breaker" : Str), ("state" : Str), ("loads" : Str), ("wiring" : Str), ("count" : Str), ("place" : Str), ("later" : Str)]
theorem scBox_rewire : FnScope NBox_rewire [("self" : Str), ("name" : Str), ("breaker" : Str)] (defScope sBox_rewire) := ⟨rfl, rfl, rfl, by decide +kernel, rfl, by decide +kernel, by decide +kernel⟩
abbrev sBox_reset : Stmt := inClass (top 47) 12
abbrev NBox_reset : List Str := [("self" : Str), ("state" : Str), ("loads" : Str), ("wiring" : Str), ("count" : Str), ("breaker" : Str), ("numbers" : Str), ("one" : Str)]
theorem scBox_reset : FnScope NBox_reset [("self" : Str)] (defScope sBox_reset) := ⟨rfl, rfl, rfl, by decide +kernel, rfl, by decide +kernel, by decide +kernel⟩
abbrev sBox_keep_as : Stmt := inClass (top 47) 13
abbrev NBox_keep_as : List Str := [("self" : Str), ("name" : Str), ("held" : Str), ("is_there" : Str)]
theorem scBox_keep_as : FnScope NBox_keep_as [("self" : Str), ("name" : Str)] (defScope sBox_keep_as) := ⟨rfl, rfl, rfl, by decide +kernel, rfl, by decide +kernel, by decide +kernel⟩
abbrev sBox_fetch : Stmt := inClass (top 47) 14
abbrev NBox_fetch : List Str := [("self" : Str), ("name" : Str), ("held" : Str)]
theorem scBox_fetch : FnScope NBox_fetch [("self" : Str), ("name" : Str)] (defScope sBox_fetch) := ⟨rfl, rfl, rfl, by decide +kernel, rfl, by decide +kernel, by decide +kernel⟩
abbrev sBox_undo : Stmt := inClass (top 47) 15
abbrev NBox_undo : List Str := [("self" : Str)]
theorem scBox_undo : FnScope NBox_undo [("self" : Str)] (defScope sBox_undo) := ⟨rfl, rfl, rfl, by decide +kernel, rfl, by decide +kernel, by decide +kernel⟩
abbrev sBox_redo : Stmt := inClass (top 47) 16
abbrev NBox_redo : List Str := [("self" : Str)]
theorem scBox_redo : FnScope NBox_redo [("self" : Str)] (defScope sBox_redo) := ⟨rfl, rfl, rfl, by decide +kernel, rfl, by decide +kernel, by decide +kernel⟩
abbrev sBox_execute : Stmt := inClass (top 47) 17
abbrev NBox_execute : List Str := [("self" : Str), ("operation" : Str), ("word" : Str), ("rest" : Str)]
theorem scBox_execute : FnScope NBox_execute [("self" : Str), ("operation" : Str)] (defScope sBox_execute) := ⟨rfl, rfl, rfl, by decide +kernel, rfl, by decide +kernel, by decide +kernel⟩
abbrev sBox_apply_all : Stmt := inClass (top 47) 18
abbrev NBox_apply_all : List Str := [("self" : Str), ("operations" : Str), ("index" : Str), ("operation" : Str), ("trial" : Str), ("found" : Str)]
theorem scBox_apply_all : FnScope NBox_apply_all [("self" : Str), ("operations" : Str)] (defScope sBox_apply_all) := ⟨rfl, rfl, rfl, by decide +kernel, rfl, by decide +kernel, by decide +kernel⟩
abbrev sTrial_init : Stmt := inClass (top 48) 0
abbrev NTrial_init : List Str := [("self" : Str), ("box" : Str)]
theorem scTrial_init : FnScope NTrial_init [("self" : Str), ("box" : Str)] (defScope sTrial_init) := ⟨rfl, rfl, rfl, by decide +kernel, rfl, by decide +kernel, by decide +kernel⟩
abbrev sTrial_hold : Stmt := inClass (top 48) 1
abbrev NTrial_hold : List Str := [("self" : Str)]
theorem scTrial_hold : FnScope NTrial_hold [("self" : Str)] (defScope sTrial_hold) := ⟨rfl, rfl, rfl, by decide +kernel, rfl, by decide +kernel, by decide +kernel⟩
abbrev sTrial_enter : Stmt := inClass (top 48) 2
abbrev NTrial_enter : List Str := [("self" : Str)]
theorem scTrial_enter : FnScope NTrial_enter [("self" : Str)] (defScope sTrial_enter) := ⟨rfl, rfl, rfl, by decide +kernel, rfl, by decide +kernel, by decide +kernel⟩
abbrev sTrial_exit : Stmt := inClass (top 48) 3
abbrev NTrial_exit : List Str := [("self" : Str), ("kind" : Str), ("error" : Str), ("trace" : Str)]
theorem scTrial_exit : FnScope NTrial_exit [("self" : Str), ("kind" : Str), ("error" : Str), ("trace" : Str)] (defScope sTrial_exit) := ⟨rfl, rfl, rfl, by decide +kernel, rfl, by decide +kernel, by decide +kernel⟩
abbrev slaw_taken : Stmt := top 50
abbrev Nlaw_taken : List Str := [("_law_row" : Str), ("_law_many" : Str), ("_law_found" : Str), ("_law_cell" : Str)]
theorem sclaw_taken : FnScope Nlaw_taken [("_law_row" : Str), ("_law_many" : Str)] (defScope slaw_taken) := ⟨rfl, rfl, rfl, by decide +kernel, rfl, by decide +kernel, by decide +kernel⟩
abbrev slaw_pick : Stmt := top 51
abbrev Nlaw_pick : List Str := [("_law_row" : Str), ("_law_some" : Str)]
theorem sclaw_pick : FnScope Nlaw_pick [("_law_row" : Str), ("_law_some" : Str)] (defScope slaw_pick) := ⟨rfl, rfl, rfl, by decide +kernel, rfl, by decide +kernel, by decide +kernel⟩
abbrev slaw_scheme : Stmt := top 52
abbrev Nlaw_scheme : List Str := [("_law_row" : Str), ("_law_breakers" : Str), ("_law_spots" : Str), ("_law_size" : Str), ("_law_count" : Str), ("_law_rates" : Str), ("_law_above" : Str), ("_law_points" : Str), ("_law_name" : Str), ("_law_bound" : Str), ("_law_whole" : Str), ("_law_k" : Str)]
theorem sclaw_scheme : FnScope Nlaw_scheme [("_law_row" : Str), ("_law_breakers" : Str), ("_law_spots" : Str)] (defScope slaw_scheme) := ⟨rfl, rfl, rfl, by decide +kernel, rfl, by decide +kernel, by decide +kernel⟩
abbrev slaw_plan : Stmt := top 53
abbrev Nlaw_plan : List Str := [("_law_s" : Str)]
theorem sclaw_plan : FnScope Nlaw_plan [("_law_s" : Str)] (defScope slaw_plan) := ⟨rfl, rfl, rfl, by decide +kernel, rfl, by decide +kernel, by decide +kernel⟩
abbrev slaw_wirings : Stmt := top 54
abbrev Nlaw_wirings : List Str := [("_law_s" : Str), ("_law_found" : Str), ("_law_k" : Str), ("_law_longer" : Str), ("_law_some" : Str), ("_law_fed" : Str), ("_law_j" : Str), ("_law_one" : Str)]
theorem sclaw_wirings : FnScope Nlaw_wirings [("_law_s" : Str)] (defScope slaw_wirings) := ⟨rfl, rfl, rfl, by decide +kernel, rfl, by decide +kernel, by decide +kernel⟩
abbrev slaw_has : Stmt := top 55
abbrev Nlaw_has : List Str := [("_law_s" : Str), ("_law_state" : Str), ("_law_one" : Str), ("_law_turn" : Str)]
theorem sclaw_has : FnScope Nlaw_has [("_law_s" : Str), ("_law_state" : Str), ("_law_one" : Str)] (defScope slaw_has) := ⟨rfl, rfl, rfl, by decide +kernel, rfl, by decide +kernel, by decide +kernel⟩
abbrev slaw_lit : Stmt := top 56
abbrev Nlaw_lit : List Str := [("_law_s" : Str), ("_law_wiring" : Str), ("_law_state" : Str), ("_law_k" : Str)]
theorem sclaw_lit : FnScope Nlaw_lit [("_law_s" : Str), ("_law_wiring" : Str), ("_law_state" : Str)] (defScope slaw_lit) := ⟨rfl, rfl, rfl, by decide +kernel, rfl, by decide +kernel, by decide +kernel⟩
abbrev slaw_under : Stmt := top 57
abbrev Nlaw_under : List Str := [("_law_s" : Str), ("_law_one" : Str), ("_law_breaker" : Str), ("_law_turn" : Str)]
theorem sclaw_under : FnScope Nlaw_under [("_law_s" : Str), ("_law_one" : Str), ("_law_breaker" : Str)] (defScope slaw_under) := ⟨rfl, rfl, rfl, by decide +kernel, rfl, by decide +kernel, by decide +kernel⟩
abbrev slaw_flows : Stmt := top 58
abbrev Nlaw_flows : List Str := [("_law_s" : Str), ("_law_wiring" : Str), ("_law_state" : Str), ("_law_loads" : Str), ("_law_lit_here" : Str), ("_law_found" : Str), ("_law_breaker" : Str), ("_law_k" : Str)]
theorem sclaw_flows : FnScope Nlaw_flows [("_law_s" : Str), ("_law_wiring" : Str), ("_law_state" : Str), ("_law_loads" : Str)] (defScope slaw_flows) := ⟨rfl, rfl, rfl, by decide +kernel, rfl, by decide +kernel, by decide +kernel⟩
abbrev slaw_tripped : Stmt := top 59
abbrev Nlaw_tripped : List Str := [("_law_s" : Str), ("_law_wiring" : Str), ("_law_state" : Str), ("_law_loads" : Str), ("_law_numbers" : Str), ("_law_turn" : Str), ("_law_flows_here" : Str), ("_law_over" : Str), ("_law_first" : Str), ("_law_k" : Str)]
theorem sclaw_tripped : FnScope Nlaw_tripped [("_law_s" : Str), ("_law_wiring" : Str), ("_law_state" : Str), ("_law_loads" : Str)] (defScope slaw_tripped) := ⟨rfl, rfl, rfl, by decide +kernel, rfl, by decide +kernel, by decide +kernel⟩
abbrev slaw_at : Stmt := top 60
abbrev Nlaw_at : List Str := [("_law_s" : Str), ("_law_wiring" : Str), ("_law_spot" : Str), ("_law_found" : Str), ("_law_some" : Str)]
theorem sclaw_at : FnScope Nlaw_at [("_law_s" : Str), ("_law_wiring" : Str), ("_law_spot" : Str)] (defScope slaw_at) := ⟨rfl, rfl, rfl, by decide +kernel, rfl, by decide +kernel, by decide +kernel⟩
abbrev slaw_run : Stmt := top 61
abbrev Nlaw_run : List Str := [("_law_s" : Str), ("_law_scene" : Str), ("_law_state" : Str), ("_law_loads" : Str), ("_law_later" : Str), ("_law_numbers" : Str)]
theorem sclaw_run : FnScope Nlaw_run [("_law_s" : Str), ("_law_scene" : Str), ("_law_state" : Str), ("_law_loads" : Str)] (defScope slaw_run) := ⟨rfl, rfl, rfl, by decide +kernel, rfl, by decide +kernel, by decide +kernel⟩
abbrev slaw_reset : Stmt := top 62
abbrev Nlaw_reset : List Str := [("_law_s" : Str), ("_law_scene" : Str), ("_law_breaker" : Str), ("_law_state" : Str), ("_law_k" : Str)]
theorem sclaw_reset : FnScope Nlaw_reset [("_law_s" : Str), ("_law_scene" : Str)] (defScope slaw_reset) := ⟨rfl, rfl, rfl, by decide +kernel, rfl, by decide +kernel, by decide +kernel⟩
abbrev slaw_step : Stmt := top 63
abbrev Nlaw_step : List Str := [("_law_row" : Str), ("_law_s" : Str), ("_law_scene" : Str), ("_law_kind" : Str), ("_law_name" : Str), ("_law_spot" : Str), ("_law_breaker" : Str), ("_law_state" : Str), ("_law_load" : Str), ("_law_loads" : Str), ("_law_later" : Str), ("_law_count" : Str), ("_law_lit_here" : Str), ("_law_more" : Str), ("_law_wiring" : Str), ("_law_k" : Str), ("_law_one" : Str)]
theorem sclaw_step : FnScope Nlaw_step [("_law_row" : Str), ("_law_s" : Str), ("_law_scene" : Str)] (defScope slaw_step) := ⟨rfl, rfl, rfl, by decide +kernel, rfl, by decide +kernel, by decide +kernel⟩
abbrev slaw_shows : Stmt := top 64
abbrev Nlaw_shows : List Str := [("_law_box" : Str), ("_law_scene" : Str)]
theorem sclaw_shows : FnScope Nlaw_shows [("_law_box" : Str), ("_law_scene" : Str)] (defScope slaw_shows) := ⟨rfl, rfl, rfl, by decide +kernel, rfl, by decide +kernel, by decide +kernel⟩
abbrev slaw : Stmt := top 65
abbrev Nlaw : List Str := [("_law_script" : Str), ("_law_row" : Str), ("_law_s" : Str), ("_law_begin" : Str), ("_law_box" : Str), ("_law_past" : Str), ("_law_future" : Str), ("_law_turn" : Str), ("_law_kind" : Str), ("_law_operation" : Str), ("_law_scene" : Str), ("_law_due" : Str), ("_law_done" : Str), ("_law_again" : Str), ("_law_one" : Str)]
theorem sclaw : FnScope Nlaw [("_law_script" : Str)] (defScope slaw) := ⟨rfl, rfl, rfl, by decide +kernel, rfl, by decide +kernel, by decide +kernel⟩
section
variable (P : Program) (w : World) (K : PySem.W.Frag) (mg : Str → Option Value) (base : Heap)
/-- a def of the module that may be called by its name -/
structure Cl (k : Nat) (x : Str) (sp : Sp) : Prop where
  ex : ∃ f, FnR P w K mg base CX0 k f sp ∧ mg x = some (.ref f) ∧ PySem.W.keepIn K (.ref f) = true
end
/-- a def as it stands, without defaults -/
def FD (K : PySem.W.Frag) (x qual : Str) (st : Stmt) (f : Addr) : Prop := ∃ fd, FunD K x qual (defArgs st) (defBody st) (defScope st) [] [] f fd
section
variable {P : Program} {w : World} {K : PySem.W.Frag} {mg : Str → Option Value} {base : Heap}
/-- THE RULE for a def without defaults -/
theorem fnr_of {x qual : Str} {st : Stmt} {f : Addr} {N ps : List Str} {k : Nat} {sp : Sp} (F : FD K x qual st f) (S : FnScope N ps (defScope st))
    (hb : ∀ (kV doc pm : Value) (an : Option Addr) (cdv ct : Value) (us : List Value), us.length = ps.length → bindArgs (PySem.W.fnOf x qual (defArgs st) (defBody st) (defScope st) .none kV doc pm an cdv ct) ⟨us, []⟩ = pure (ps.zip us))
    (len : ∀ vs H Q E, sp vs H Q E → vs.length = ps.length)
    (hbody : ∀ (cdv : Value) (A : Around) (outer : List Env) (s : Shared) (H : Hp) (vs : List V) (Q : VK) (E : XK), Room k (A.deeper (envOfC qual (defScope st) s.heap.objs.size f cdv)) → sp vs H Q E →
      ∃ t, PSs (cxOf CX0 P w K mg base N qual (defScope st) f cdv A outer s H E).nox (defBody st) t ∧ t { nx := fun _ H' => Q .non H', rt := Q } (start N vs) H) :
    FnR P w K mg base CX0 (k + 1) f sp := by
  obtain ⟨fd, F⟩ := F
  have G : FnOk P w K mg base CX0 (k + 1) f fd ps sp := F.ok S len fun cdv A outer s H vs Q E hr h => by
    obtain ⟨t, h1, h2⟩ := hbody cdv A outer s H vs Q E hr h
    exact ⟨t, h1.nox, h2⟩
  refine FnR.imp (FnOk.raw G (F.bindsN hb) .nil) fun vs H Q E h => ?_
  show sp (vs ++ []) H Q E
  rw [List.append_nil]
  exact h
theorem cl_of {x : Str} {f : Addr} {k : Nat} {sp : Sp} (F : FnR P w K mg base CX0 k f sp) (h : mg x = some (.ref f)) {qual : Str} {st : Stmt} (D : FD K x qual st f) : Cl P w K mg base k x sp := by
  obtain ⟨fd, D⟩ := D
  exact ⟨f, F, h, D.kp⟩
end
/-! ### rules: constants of the module, calls -/
def tCl (sp : Sp) (t : TA) : TE := fun σ H Q => t σ H fun vs H1 => sp vs H1 Q E0
section
variable {X : Cx} {x m : Str} {p pos apos : Pos} {k j : Nat} {sp : Sp} {e o : Expr} {es : List Expr} {t : TA} {ta : TE}
theorem pe_gs {z : Str} (hg : Gl X x) (h : ∃ t, X.mg x = some (.str z t)) (hd : (x == ("__debug__" : Str)) = false := by decide) : PE X (.Name x pos) (tC (.str z)) := by
  obtain ⟨t, h⟩ := h
  exact pe_glob hg h ⟨t, rfl⟩ hd
theorem pe_gi {z : Int} (hg : Gl X x) (h : ∃ t, X.mg x = some (.int z t)) (hd : (x == ("__debug__" : Str)) = false := by decide) : PE X (.Name x pos) (tC (.int z)) := by
  obtain ⟨t, h⟩ := h
  exact pe_glob hg h ⟨t, rfl⟩ hd
theorem pe_cl (c : Cl X.prog X.w X.K X.mg X.base k x sp) (hr : Room j X.A) (hk : k ≤ j) (hg : Gl X x) (ha : PA X (e :: es) t) (hd : (x == ("__debug__" : Str)) = false := by decide)
    (he : starEach (e :: es) X.env = (false, eval e X.env) :: starEach es X.env := by rfl) (hpl : (backTo pos (starEach es X.env)).any (·.1) = false := by rfl) :
    PE X (.Call (.Name x p) (e :: es) [] pos) (tCl sp t) := by
  obtain ⟨f, F, hm, hkp⟩ := c.ex
  refine ⟨fun pins s σ H Q I h => ?_⟩
  refine wpAny_Call_Name_kw (ld_glob I hg hm ?_ hd)
  refine PySem.W.callWith_K (h₀ := X.base) I.ok.mod.kin hkp (thn (ha.run pos pins s σ H _ I h) fun us s2 ⟨vs, H2, I2, r, q⟩ => ⟨I2.kIn, ?_⟩) he hpl
  exact wpAny_call (run_fnR F (hr.mono hk) pass0 I2 r q)
/-- o.m(..), o an instance with a dict -/
theorem pe_md {C f : Addr} {pl : Sem Bool} (c : Cls X.K C) (hm : Meth X.K C m f) (F : FnR X.prog X.w X.K X.mg X.base CX0 k f sp) (hr : Room j X.A) (hk : k ≤ j) (he : PE X o ta) (ha : PA X (e :: es) t)
    (hst : starEach (e :: es) X.env = (false, eval e X.env) :: starEach es X.env := by rfl) (hpl : (backTo pos (starEach es X.env)).any (·.1) = false := by rfl)
    (ht : eval (.Call (.Attribute o m apos) (e :: es) [] pos) X.env = (do
      let ov ← eval o X.env
      standAt apos.atName
      let (f, first) ← holding [ov] (getMethod ov m pl)
      callWith pos f first (backTo pos (starEach (e :: es) X.env)) (backToKw pos (keywordEach [] X.env))) := by rfl) :
    PE X (.Call (.Attribute o m apos) (e :: es) [] pos) (tMethR C m sp E0 ta t) := pe_methR he c hm F (hr.mono hk) pass0 ha hst hpl ht
end
end Bf
/-! ### rules that the hand layer lacks -/
namespace Bf
open PySem PySem.Spec PyProof.Rows L2
section
variable {X : Cx}
theorem ip_add : PIp X .Add (rI0 fun i j => .int (i + j)) := fun pins s σ H x y v u Q I rx ry h => iop_add pins s σ H x y v u Q I rx ry h
/-- xs[i] as xs[i] += e reads it -/
def rGetL : V → V → Hp → VK → Prop := fun o i H Q => ∃ p xs k v, o = .ref p ∧ i = .int (k : Nat) ∧ H p = some (.lst xs) ∧ xs[k]? = some v ∧ Q v H
theorem pget_list : PGet X rGetL := by
  intro pins s σ H o i ov iv Q I ro ri h
  obtain ⟨p, xs, k, z, rfl, rfl, hp, hk, q⟩ := h
  cases ro
  obtain ⟨t, rfl⟩ := ri
  obtain ⟨its, r, pl, hz⟩ := I.list (SqL.of hp)
  obtain ⟨w, ew, rw'⟩ := r.get hk
  have hl := r.length
  have hk' : k < xs.length := (List.getElem?_eq_some_iff.mp hk).1
  have hn := line63
  exact wpAny_getItem_list pl.isList (by omega) (by omega) (by rw [Int.toNat_natCast]; simpa using ew) ⟨z, H, I, rw', q⟩
end

/-! ### a tuple's methods: its object is known to have no dict -/
section
variable {X : Cx} {pins : List (Addr × Obj)} {σ : L2.St} {H : Hp} {s : Shared}
def tTM (r : V → List V → Hp → VK → Prop) (to : TE) (t : TA) : TE := fun σ H Q => to σ H fun x H1 => (∃ a o xs, x = .ref a ∧ H1 a = some (.frz o (.tup xs)) ∧ Frz o) ∧ t σ H1 fun vs H2 => r x vs H2 Q
theorem pe_tmeth {o e : Expr} {es : List Expr} {to : TE} {t : TA} {name : Str} {apos cpos : Pos} {id : String} {r : V → List V → Hp → VK → Prop} (slot : Slot "tuple" name id) (hty : typeOf (.builtin id) = pure (.type "method_descriptor")) (hm : MtR X id r) (ho : PE X o to) (ha : PA X (e :: es) t)
    (hbase : attributeBase o name X.env (eval o X.env) = eval o X.env := by rfl)
    (hfew : ((backTo cpos (starEach (e :: es) X.env)).all (fun x => !x.1) && (backToKw cpos (keywordEach [] X.env)).all (fun x => x.1.isSome)
      && decide ((e :: es).length + ([] : List Keyword).length + (if ([] : List Keyword).isEmpty then 0 else 1) < 30)) = true := by rfl)
    (hline : (apos.endLine == cpos.line) = true := by rfl) (hs : starEach (e :: es) X.env = (false, eval e X.env) :: starEach es X.env := by rfl) (hplain : (backTo cpos (starEach es X.env)).any (·.1) = false := by rfl) :
    PE X (.Call (.Attribute o name apos) (e :: es) [] cpos) (tTM r to t) := by
  refine ⟨fun pins s σ H Q I h => ?_⟩
  refine wpAny_Call_method_late hbase hfew hline rfl (thn (ho.run pins s σ H _ I h) fun v s1 ⟨x, H1, I1, r1, ty, q1⟩ => ?_)
  obtain ⟨a, ob, xs, ex, ha1, hz⟩ := ty
  subst ex
  obtain rfl : v = Value.ref a := r1
  obtain ⟨e1, _⟩ := I1.hok a _ ha1
  refine ⟨"tuple", id, PySem.F.plainAttrs_tuple, slot, hty, ⟨ob, e1, hz.1⟩, fun b hb => ?_, ?_⟩
  · cases hb
    exact ⟨ob, e1, hz.2⟩
  have hA := ha.run cpos pins s1 σ H1 _ I1 q1
  rw [hs] at hA ⊢
  refine Calls.callWith_builtin (by show (false || (backTo cpos (starEach es X.env)).any (·.1)) = false; rw [hplain] <;> rfl) (Calls.evalArgs_plain ?_)
  exact thn hA fun us s2 ⟨vs, H2, I2, r2, q2⟩ => hm pins s2 σ H2 (.ref a) vs (.ref a) us Q I2 rfl r2 q2
/-- t.count(True) of a tuple of bools -/
def rCntB (K : PySem.W.Frag) : V → List V → Hp → VK → Prop := fun x xs H Q => ∃ (p : Addr) (bs : List Bool) (b : Bool), x = .ref p ∧ xs = [.bl b] ∧ SqT K H p (bs.map V.bl) ∧ Q (.int (bs.count b : Nat)) H
theorem cntB {b : Bool} : ∀ {bs : List Bool} {us : List Value}, Vals (bs.map V.bl) us → us.countP (eqU (.bl b)) = bs.count b
  | [], us, r => by
    cases r
    rfl
  | c :: bs, us, r => by
    cases r with
    | cons r1 r2 =>
      have e : eqU (.bl b) _ = eqV (.bl c) (.bl b) := eqU_of r1 rfl
      rw [List.countP_cons, List.count_cons, cntB r2, e]
      cases b <;> cases c <;> rfl
theorem mt_tup_count : MtR X "tuple.count" (rCntB X.K) := by
  intro pins s σ H x xs v us Q I rx rxs h
  obtain ⟨p, bs, b, rfl, rfl, hq, q⟩ := h
  cases rx
  obtain ⟨u, rfl, ru⟩ := rxs.one
  obtain ⟨its, r, pl, hz⟩ := I.tuple hq
  obtain ⟨⟨cls, dd, dt, sl⟩, ho, hc, n, hd⟩ := pl
  simp only at hc hd
  subst hc
  subst hd
  have hf : (bs.map V.bl).all flatV = true := by
    rw [List.all_map]
    exact List.all_eq_true.mpr fun _ _ => rfl
  refine call_meets PySem.F.slot_tuple_count ⟨_, ho, rfl⟩ PySem.F.entry_tuple_count (PySem.F.args_tuple_count_2 _ _) (SeqAt.tuple_countAt p its.toArray n dd sl u (eqU (.bl b)))
    ⟨ho, fun w hw => mem_eqAt (x := .bl b) ru rfl r hf w (by simpa using hw), ?_⟩
  have ec : its.toArray.toList.countP (eqU (.bl b)) = bs.count b := cntB r
  refine ⟨.int (bs.count b : Nat), H, I.tok _, ⟨s.toks, ?_⟩, q⟩
  rw [ec]

/-! ### tuples made with their object known -/
theorem frz_new {a : Addr} {its : List Value} {ys : List V} {h' : Heap} {H : Hp} {P : Program} {w : World} (r : Vals ys its) (hz : ys.length ≤ sizeLine) (e : h'.get? a = some { cls := .type "tuple", data := .seq its.toArray }) :
    ObjOk P w H h' a (.frz { cls := .type "tuple", data := .seq its.toArray } (.tup ys)) := ⟨e, hz, its, r, _, e, rfl, _, rfl⟩
/-- tuple(xs), xs a list -/
theorem call_tupleZ : CallR X (.type "tuple") (fun xs H Q => ∃ p ys, xs = [.ref p] ∧ SqL X.K H p ys ∧ ∀ l o, H l = none → Frz o → Q (.ref l) (upd H l (.frz o (.tup ys)))) := by
  intro pins s σ H xs us Q I r h
  obtain ⟨p, ys, rfl, hq, q⟩ := h
  obtain ⟨u, rfl, rx⟩ := vals1 r
  cases rx
  obtain ⟨its, r', pl, hz⟩ := I.list hq
  have hlen := r'.length
  refine call_tuple_list pl.isList (fun h' kp => ?_) (by simp only [List.size_toArray] <;> omega)
  have I1 : Inv X pins σ H { s with heap := h' } := I.kept (t' := s.toks) kp
  refine ⟨.ref h'.objs.size, _, I1.laid (t' := s.toks) (o := .frz { cls := .type "tuple", data := .seq its.toArray } (.tup ys)) (fun b o e => Heap.get?_push_of_some _ e) (Nat.le_refl _) (frz_new r' hz (Heap.get?_push_size _ rfl)), rfl, q _ _ (I1.hok.fresh (Nat.le_refl _)) ⟨rfl, rfl⟩⟩
end
end Bf
/-! ### more rules: comparisons with nothing, dict | dict, min of pairs -/
namespace Bf
open PySem PySem.Spec PyProof.Rows L2
section
variable {X : Cx}
/-- t == (), whatever t holds -/
def rEqNil (K : PySem.W.Frag) : R2 := fun x y H Q => ∃ a b xs, x = .ref a ∧ y = .ref b ∧ SqT K H a xs ∧ SqT K H b [] ∧ Q (.bl (decide (xs = []))) H
theorem op_eqNil (hu : X.A.units < cLine) : OpR X (compareOp .Eq) (rEqNil X.K) := by
  intro pins s σ H x y v u Q I rx ry h
  obtain ⟨a, b, xs, rfl, rfl, ha, hb, q⟩ := h
  cases rx
  cases ry
  obtain ⟨its, r1, p1, _⟩ := I.tuple ha
  obtain ⟨its2, r2, p2, _⟩ := I.tuple hb
  have e2 : its2 = [] := by
    have := r2.length
    exact List.eq_nil_of_length_eq_zero (by simpa using this.symm)
  subst e2
  have z := SeqAt.RcAt.tuples (A := X.A) (s := s) (l := a) (b := b) (e := fun _ => true) p1 p2 hu (fun j h1 h2 => absurd h2 (by simp))
  refine z X.prog X.w X.xe _ ?_
  have e3 : ((List.range (min its.toArray.size ([] : List Value).toArray.size)).all (fun _ => true) && its.toArray.size == ([] : List Value).toArray.size) = decide (xs = []) := by
    have hl := r1.length
    cases xs with
    | nil =>
      have : its = [] := List.eq_nil_of_length_eq_zero (by simpa using hl.symm)
      subst this
      rfl
    | cons c cs =>
      cases its with
      | nil => simp at hl
      | cons d ds => simp
  rw [e3]
  exact ⟨.bl _, H, I, rfl, q⟩
/-- xs != [], whatever xs holds -/
def rNeNilL (K : PySem.W.Frag) : R2 := fun x y H Q => ∃ a b xs, x = .ref a ∧ y = .ref b ∧ SqL K H a xs ∧ SqL K H b [] ∧ Q (.bl (!decide (xs = []))) H
theorem op_neNilL (hu : X.A.units < cLine) : OpR X (compareOp .NotEq) (rNeNilL X.K) := by
  intro pins s σ H x y v u Q I rx ry h
  obtain ⟨a, b, xs, rfl, rfl, ha, hb, q⟩ := h
  cases rx
  cases ry
  obtain ⟨its, r1, p1, _⟩ := I.list ha
  obtain ⟨its2, r2, p2, _⟩ := I.list hb
  have e2 : its2 = [] := by
    have := r2.length
    exact List.eq_nil_of_length_eq_zero (by simpa using this.symm)
  subst e2
  have hl := r1.length
  cases xs with
  | nil =>
    have : its = [] := List.eq_nil_of_length_eq_zero (by simpa using hl.symm)
    subst this
    have z := SeqAt.RcNeAt.lists (A := X.A) (s := s) (l := a) (b := b) (e := fun _ => true) p1.isList p2.isList rfl hu (fun j h1 h2 => absurd h2 (by simp))
    exact z X.prog X.w X.xe _ ⟨.bl _, H, I, rfl, q⟩
  | cons c cs =>
    cases its with
    | nil => simp at hl
    | cons d ds =>
      have z := SeqAt.RcNeAt.lists_lengths (A := X.A) (s := s) (l := a) (b := b) p1.isList p2.isList (by simp) hu
      exact z X.prog X.w X.xe _ ⟨.bl _, H, I, rfl, q⟩
end
section
variable {prog : Program} {w : World} {κ : Type} [DecidableEq κ]
theorem meets_dict_or (knd : KeyKind prog w κ) (d o : Addr) (hdS : (d == sysModules) = false) (hoS : (o == sysModules) = false) :
    MeetsIn prog w (Builtin.«dict.__or__» ⟨[.ref d, .ref o], []⟩) (fun _ R s => ∃ kvs more, s.heap.DictOf knd d kvs ∧ s.heap.DictOf knd o more ∧ kvs.length + more.length ≤ sizeLine ∧
      ∀ h', h'.DictOf knd s.heap.objs.size (merged kvs more) → (∀ b o, s.heap.get? b = some o → h'.get? b = some o) → R (.ok (.ret (.ref s.heap.objs.size))) { s with heap := h' }) :=
  .of_wp fun A R s ⟨kvs, more, hm, ho, hsz, h⟩ => by
    obtain ⟨od, es, ep, hod, hc, hdat, hk, hp, hn⟩ := id hm
    have hes : es.size ≤ sizeLine + 1 := by have e1 := hp.length; have e2 : es.toList.length = es.size := by simp
                                            omega
    unfold Builtin.«dict.__or__»
    refine wpAny_bind ?_
    unfold Builtin.Dict.dictSlotArgs
    refine wpAny_bind (wpAny_notOrdered_dict hm.typeIs ?_)
    show wpAny _ _ (pure (Value.ref d, Value.ref o)) _ _ s
    refine wpAny_pure ?_
    refine wpAny_bind (m := andM (isInstance (Value.ref d) (.type "dict")) (isInstance (Value.ref o) (.type "dict"))) ?_
    refine wpAny_bind (wpAny_isInstance hm.typeIs isSubtype_dict_dict ?_)
    refine wpAny_isInstance ho.typeIs isSubtype_dict_dict ?_
    rw [if_neg (by decide)]
    refine wpAny_bind (m := Builtin.Dict.copyOf "dict.__or__" (Value.ref d)) ?_
    have fin : ∀ es' : Array DictEntry, es' = es → wpAny (model prog w) A.in1 (do
        let __do_lift ← Builtin.Dict.addrOf (Value.ref s.heap.objs.size)
        holding [Value.ref s.heap.objs.size] (Builtin.Dict.updateFrom "dict.__or__" __do_lift (Value.ref o) [] (Value.ref s.heap.objs.size)))
        (fun fin s' => ∃ v, fin = .done (.ret v) ∧ R (.ok (.ret v)) s') (fun e s' => R (.error e) s') { s with heap := s.heap.push { cls := .type "dict", data := .dict es' } } := by
      rintro es' rfl
      refine wpAny_bind (m := Builtin.Dict.addrOf (Value.ref s.heap.objs.size)) (wpAny_pure ?_)
      try with_reducible refine wpAny_holding ?_
      have hn1 : Heap.DictOf knd (s.heap.push { cls := .type "dict", data := .dict es' }) s.heap.objs.size kvs := ⟨_, es', 0, Heap.get?_push_size _ rfl, ⟨rfl, rfl, rfl⟩, rfl, hk, hp, hn⟩
      have ho1 : Heap.DictOf knd (s.heap.push { cls := .type "dict", data := .dict es' }) o more := ho.push _
      have hne : s.heap.objs.size ≠ o := fun z => by
        obtain ⟨q, _, _, e, _⟩ := ho
        exact absurd (Heap.lt_size e) (by rw [z]; exact Nat.lt_irrefl _)
      unfold Builtin.Dict.updateFrom
      refine wpAny_bind (wpAny_typeOf ho1.typeIs ?_)
      rw [if_neg (by decide)]
      refine wpAny_bind ?_
      unfold Builtin.Dict.merge
      refine wpAny_bind ?_
      unfold Builtin.Dict.readDirectly
      refine wpAny_bind (wpAny_isInstance ho1.typeIs isSubtype_dict_dict ?_)
      simp only [Bool.not_true, Bool.false_eq_true, if_false]
      refine wpAny_bind (wpAny_specialOf ho1.typeIs F.slot_dict_iter.lookup (wpAny_pure ?_))
      simp only [beq_self_eq_true, if_true]
      refine wpAny_bind (wpAny_pure ?_)
      refine wpAny_mergeDict (hsz := hsz) hne hoS hn1 ho1 fun h' hd' ho' hs' => ?_
      show wpAny _ _ (Builtin.Dict.addKeywords s.heap.objs.size [] >>= _) _ _ _
      exact wpAny_bind (wpAny_pure (wpAny_pure ⟨_, rfl, h h' hd' fun b ob e => (hs'.2 b (Nat.ne_of_lt (Heap.lt_size e))).trans (Heap.get?_push_of_some _ e)⟩))
    unfold Builtin.Dict.copyOf
    refine wpAny_bind (wpAny_pure ?_)
    unfold Builtin.Dict.showsAll
    rw [if_neg (by rw [hdS]; exact Bool.false_ne_true)]
    refine wpAny_bind (wpAny_pure ?_)
    refine wpAny_bind (wpAny_dictEntries hod hdat ?_)
    by_cases hemp : es.isEmpty = true
    · rw [if_pos hemp]
      refine wpAny_bind (wpAny_rule (wpAny_newObj_type ?_))
      exact fin #[] (Array.isEmpty_iff.mp hemp).symm
    · rw [if_neg hemp]
      refine wpAny_bind ?_
      unfold Builtin.Dict.readDirectly
      refine wpAny_bind (wpAny_isInstance hm.typeIs isSubtype_dict_dict ?_)
      simp only [Bool.not_true, Bool.false_eq_true, if_false]
      refine wpAny_bind (wpAny_specialOf hm.typeIs F.slot_dict_iter.lookup (wpAny_pure ?_))
      simp only [beq_self_eq_true, if_true]
      refine wpAny_bind (wpAny_entriesForEmpty (knd := knd) hod hdat hk (wpAny_newObj_type ?_ hes))
      exact fin es rfl
end
section
variable {X : Cx}
/-- d | e -/
def rDor : R2 := fun x y H Q => ∃ a b kvs more, x = .ref a ∧ y = .ref b ∧ H a = some (.dK kvs) ∧ H b = some (.dK more) ∧ kvs.length + more.length ≤ sizeLine ∧ ∀ p, H p = none → Q (.ref p) (upd H p (.dK (mergeK kvs more)))
theorem op_dor : OpR X (binaryOp .BitOr) rDor := by
  intro pins s σ H x y v u Q I rx ry h
  obtain ⟨a, b, kvs, more, rfl, rfl, ha, hb, hz, q⟩ := h
  cases rx
  cases ry
  obtain ⟨z1, lo1, vs, rel1, d1⟩ := dk_of I.hok ha
  obtain ⟨z2, lo2, ms, rel2, d2⟩ := dk_of I.hok hb
  have hm : (s.heap.objs.size == sysModules) = false := beq_eq_false_iff_ne.mpr (Nat.ne_of_gt I.big)
  refine wpAny_binaryOp_same (op := .BitOr) (T := "dict") d1.typeIs d2.typeIs PySem.F.fills_dict_or PySem.F.slot_dict_or
    (call_meetsIn PySem.F.slot_dict_or d1.typeIs PySem.F.entry_dict_or (PySem.F.args_dict_or_2 _ _) (meets_dict_or (mixKind X.prog X.w) a b lo1 lo2)
      ⟨vs, ms, d1, d2, by rw [← rel1.length, ← rel2.length]; exact hz, fun h' d' hk => ⟨(fun z => nomatch z), ?_⟩⟩)
  have hl : (mergeK kvs more).length ≤ sizeLine := Nat.le_trans (length_mergeK more kvs) hz
  exact ⟨.ref s.heap.objs.size, upd H s.heap.objs.size (.dK (mergeK kvs more)), I.laid (t' := s.toks) hk (Nat.le_refl _) (show ObjOk X.prog X.w _ _ _ (.dK _) from ⟨hl, hm, _, KV.merge rel2 rel1, d'⟩), rfl, q _ (I.hok.fresh (Nat.le_refl _))⟩
end
end Bf
/-! ### enumerate of a tuple, zip of tuples walked and listed -/
namespace Bf
open PySem PySem.Spec PyProof.Rows L2 RZ StX ClX
theorem meets_enumerate_new1 {v : Value} {o : Obj} {H : Heap → Prop} (B : Begins v o H) :
    Meets (Builtin.«enumerate.__new__» ⟨[.type "enumerate", v], []⟩) (fun _ R s => H s.heap ∧
      R (.ok (.ret (.ref (s.heap.push o).objs.size))) { s with heap := (s.heap.push o).push { cls := .type "enumerate", data := .fields #[.none, .bool false, .ref s.heap.objs.size, rawInt 0, .none, .none] } }) :=
  .of_wp fun prog w A R s h => by
    obtain ⟨hp, g, d, tk, os⟩ := s; obtain ⟨h1, h⟩ := h
    have hsub := sub_enumerate
    have q1 : ∀ {A' : Around} {E : Value → Shared → Prop} {Q : Value → Shared → Prop}, Q (.ref hp.objs.size) ⟨hp.push o, g, d, tk, os⟩ → wpAny (model prog w) A' (pyIter v) Q E ⟨hp, g, d, tk, os⟩ :=
      fun q => B.iter prog w _ _ ⟨hp, g, d, tk, os⟩ _ h1 q
    wp_walk using q1
    refine wpAny_stack_any fun st => wpAny_pure ?_
    split
    · rename_i c _ _ _ _ _
      cases (c == Value.type "enumerate")
      · wp_walk using q1
        exact ⟨_, rfl, h⟩
      · wp_walk using q1
        exact ⟨_, rfl, h⟩
    · wp_walk using q1
      exact ⟨_, rfl, h⟩
section
variable {prog : Program} {w : World} {A : Around} {E : Value → Shared → Prop} {s : Shared}
theorem call_enumerate_tuple {l : Addr} {items : Array Value} {Q : Value → Shared → Prop} (hL : s.heap.IsTuple l items)
    (h : ∀ h', IsEnum h' (s.heap.objs.size + 1) s.heap.objs.size 0 .none → h'.IsTupleIter s.heap.objs.size l 0 → h'.objs.size = s.heap.objs.size + 2 →
      (∀ b o, s.heap.get? b = some o → h'.get? b = some o) → Q (.ref (s.heap.objs.size + 1)) { s with heap := h' }) :
    wpAny (model prog w) A (call (.type "enumerate") [.ref l]) Q E s := by
  refine callType_new F.called_enumerate (by decide) (F.typeCall_enumerate_1 _) (F.newCall_enumerate_1 _) (fun obj => F.args_object_init_2 obj _) F.entry_enumerate_new
    (meets_enumerate_new1 (begins_tuple l items)) ⟨hL, ?_⟩
  have hz : (s.heap.push { cls := .type "tuple_iterator", data := .fields #[.ref l, .int 0 0] }).objs.size = s.heap.objs.size + 1 := Heap.size_push ..
  show _ ∧ _
  rw [hz]
  have he : IsEnum ((s.heap.push { cls := .type "tuple_iterator", data := .fields #[.ref l, .int 0 0] }).push
      { cls := .type "enumerate", data := .fields #[.none, .bool false, .ref s.heap.objs.size, rawInt 0, .none, .none] }) (s.heap.objs.size + 1) s.heap.objs.size 0 .none := by
    have := Heap.get?_push_size (s.heap.push { cls := .type "tuple_iterator", data := .fields #[.ref l, .int 0 0] })
      (o := { cls := .type "enumerate", data := .fields #[.none, .bool false, .ref s.heap.objs.size, rawInt 0, .none, .none] }) rfl
    rw [hz] at this; exact this
  refine ⟨⟨_, he, rfl⟩, h _ he ⟨_, Heap.get?_push_of_some _ (Heap.get?_push_size _ rfl), rfl, rfl⟩ (by rw [Heap.size_push, hz]) fun b o x => Heap.get?_push_of_some _ (Heap.get?_push_of_some _ x)⟩
end
/-- the tuple at a as it stands at each turn, its places and items in new pairs -/
def IteT (K : PySem.W.Frag) (a : Addr) : It :=
  ⟨fun i H => ∃ (xs : List V) (x : V), SqT K H a xs ∧ xs[i]? = some x,
    fun i H v H' => ∃ T x, v = .ref T ∧ H T = none ∧ H' = upd H T (.tup [.int (i : Nat), x]) ∧ (∀ xs, SqT K H a xs → xs[i]? = some x),
    fun i H => ∃ xs : List V, SqT K H a xs ∧ xs.length ≤ i⟩
theorem turn_enumT {P : Program} {w : World} {K : PySem.W.Frag} {elts : List Expr} {kk : Nat} {tpos : Pos} {a e it : Addr} (hae : a ≠ e) (hai : a ≠ it) :
    Turn P w K (.Tuple elts kk tpos) (IteT K a) [e, it] e (fun i h => (∃ old, IsEnum h e it ((i : Nat) : Int) old) ∧ h.IsTupleIter it a i ∧ e ≠ it) where
  mem := by simp
  obj := fun i h st b hb => by
    obtain ⟨⟨old, he⟩, ⟨o, ho, hc, hd⟩, _⟩ := st
    have e' : b = e ∨ b = it := by simpa using hb
    rcases e' with z | z
    · rw [z]; exact ⟨_, he, fun v q => nomatch q⟩
    · rw [z]; exact ⟨o, ho, fun v q => by rw [hd] at q; cases q⟩
  keep := fun i h h' st k => let ⟨⟨old, he⟩, hi, hne⟩ := st; ⟨⟨old, k e (by simp) _ he⟩, hi.at fun o q => k it (by simp) o q, hne⟩
  item := by
    intro X hP hw hK hc i pins s σ H E I hf st hg
    subst hP hw hK
    obtain ⟨⟨old, he⟩, hit, hne⟩ := st
    obtain ⟨xs, x, hq, hx⟩ := hg
    obtain ⟨its, rv, p, hz⟩ := I.tuple hq
    obtain ⟨u, hu, ru⟩ := rv.get hx
    have hel : e < s.heap.objs.size := Heap.lt_size he
    have hil : it < s.heap.objs.size := by obtain ⟨_, q, _⟩ := hit; exact Heap.lt_size q
    have hlt : i < its.toArray.size := by
      have := (List.getElem?_eq_some_iff.mp hu).1
      simpa using this
    refine wpAny_pyNext_enum_itemD (Draws.tuple (prog := X.prog) (w := X.w) (A := X.A.in1) (I.ok.hd hc) it a hai its.toArray) he ⟨hit, p⟩ hlt hne (by simp; exact ⟨hne, hae.symm⟩) fun x' h' tk hP' ho hst' hT hsz hk => ?_
    have hx' : x' = u := by
      have e1 : its.toArray[i]? = some x' := hP'
      have e2 : its.toArray[i]? = some u := by simpa using hu
      rw [e1] at e2
      exact Option.some.inj e2
    subst hx'
    refine ⟨_, rfl, wpAny_letOwnedTupleGo_enum (s := { s with heap := h', toks := tk + 1 }) ho fun h'' he' sb => ?_⟩
    have hT2 : h''.get? s.heap.objs.size = some { cls := .type "tuple", data := .seq #[.int i tk, x'] } := (sb.2 _ (Nat.ne_of_gt hel)).trans hT
    have new : ObjOk X.prog X.w (upd H s.heap.objs.size (.tup [.int (i : Nat), x])) h'' s.heap.objs.size (.tup [.int (i : Nat), x]) :=
      ⟨by show 2 ≤ sizeLine; decide, [.int i tk, x'], .cons ⟨_, rfl⟩ (.cons ru .nil), ⟨_, hT2, rfl, _, rfl⟩⟩
    have I1 : Inv X pins σ (upd H s.heap.objs.size (.tup [.int (i : Nat), x])) { s with heap := h'', toks := tk + 1 } :=
      I.turnedNew (ch := [e, it]) (fun b ob hb q => (sb.2 b (fun z => hb (by simp [z]))).trans (hk b ob (fun z => hb (by simp [z])) (fun z => hb (by simp [z])) q)) hf (Nat.le_refl _) new
    refine ⟨.ref s.heap.objs.size, _, I1, rfl, ⟨_, x, rfl, I.hok.fresh (Nat.le_refl _), rfl, fun ys hy => by rw [I.tuple_inj hy hq]; exact hx⟩, ⟨⟨x', ?_⟩, hst'.1.at fun o q => (sb.2 it (Ne.symm hne)).trans q, hne⟩, fun b hb => ?_⟩
    · have e1 : ((i + 1 : Nat) : Int) = (i : Int) + 1 := by omega
      rw [e1]; exact he'
    · have hb' : b < s.heap.objs.size := by
        have e' : b = e ∨ b = it := by simpa using hb
        rcases e' with z | z
        · rw [z]; exact hel
        · rw [z]; exact hil
      rw [upd_ne (Nat.ne_of_lt hb')]
      exact (hf b hb).1
  done := by
    intro X hP hw hK hc i pins s σ H E I hf st hg
    subst hP hw hK
    obtain ⟨⟨old, he⟩, hit, hne⟩ := st
    obtain ⟨xs, hq, hx⟩ := hg
    obtain ⟨its, rv, p, hz⟩ := I.tuple hq
    obtain ⟨f0, f1, f2, f3, f4, f5⟩ := hf it (by simp)
    have hl := rv.length
    have hb := hit
    refine wpAny_pyNext_enum_endD (n := 0) (e := e) (it := it) (i := (i : Int)) (St := fun _ h => h.IsTupleIter it a i ∧ h.IsTuple a its.toArray) (P := fun _ _ => False) (fp := [it, a]) ?_ he ⟨hit, p⟩ fun h' eb => ⟨rfl, I.turned (t' := s.toks) (fun b o hb q => eb b o hb q) f0 f1 f3 f4 f5⟩
    exact {
      live := fun _ _ st => let ⟨o, ho, _⟩ := st.1; ⟨o, ho⟩
      frame := fun _ _ _ st hk => ⟨st.1.at fun o e => hk it (by simp) o e, st.2.at fun o e => hk a (by simp) o e⟩
      item := fun j s Q E hj st hQ => absurd hj (Nat.not_lt_zero j)
      done := fun s Q E st hE => wpAny_nextOf_tuple_end (I.ok.hd hc) st.1 st.2 (by simp; omega) hE }
  self := fun A i s Q E st h => let ⟨⟨_, he⟩, _⟩ := st; wpAny_pyIter_enum he h
def iEnumT (K : PySem.W.Frag) (ta : TA) : TI := fun σ H R => ta σ H fun vs H1 => ∃ a xs, vs = [.ref a] ∧ SqT K H1 a xs ∧ R (IteT K a) H1
theorem pi_enumT {X : Cx} {e : Expr} {ta : TA} {p pos tpos : Pos} {elts : List Expr} {kk : Nat} (hg : Gl X "enumerate") (hm : X.mg "enumerate" = none) (ha : PA X [e] ta) (hs : starEach [e] X.env = [(false, eval e X.env)] := by rfl) :
    PI X (.Tuple elts kk tpos) (.Call (.Name "enumerate" p) [e] [] pos) (iEnumT X.K ta) := by
  refine ⟨fun pins s σ H R I h => ?_⟩
  refine Call_ (ld_blt I hg hm boot_enumerate (PyProof.Rows.callWith_type1 (thn (ha.run pos pins s σ H _ I h) fun us s1 ⟨vs, H1, I1, r1, q1⟩ => ?_) hs rfl))
  obtain ⟨a, xs, ex, hq, q⟩ := q1
  subst ex
  cases r1 with
  | cons r rr =>
    cases rr
    cases r
    obtain ⟨its, rv, p', hz⟩ := I1.tuple hq
    have hlt : a < s1.heap.objs.size := by
      obtain ⟨_, e, _⟩ := id p'
      exact Heap.lt_size e
    refine call_enumerate_tuple p' fun h' he hit hsz hk => wpAny_pyIter_enum he ?_
    have I2 : Inv X pins σ H1 { s1 with heap := h' } := I1.kept (t' := s1.toks) hk
    refine ⟨s1.heap.objs.size + 1, [s1.heap.objs.size + 1, s1.heap.objs.size], _, _, H1, rfl, I2, turn_enumT (Nat.ne_of_lt (Nat.lt_succ_of_lt hlt)) (Nat.ne_of_lt hlt), ⟨⟨.none, he⟩, hit, Nat.succ_ne_self _⟩, fun b hb => ?_, q⟩
    have e' : b = s1.heap.objs.size + 1 ∨ b = s1.heap.objs.size := by simpa using hb
    have hle : s1.heap.objs.size ≤ b := by
      rcases e' with z | z
      · rw [z]; exact Nat.le_add_right _ _
      · rw [z]; exact Nat.le_refl _
    exact I1.fpOk hle (I1.hok.fresh hle)
section
variable {K : PySem.W.Frag} {a b : Addr} {xs ys : List V}
theorem walk_enumT : Walk (IteT K a) xs.length (fun H => SqT K H a xs) (YPair (fun i => some (.int (i : Nat))) (fun i => xs[i]?)) := by
  refine ⟨fun i _ hi q => ⟨xs, xs[i], q, by simp [hi]⟩, fun _ q => ⟨xs, q, Nat.le_refl _⟩, fun i H v H' _ q y => ?_⟩
  obtain ⟨T, x, h1, h2, h3, h4⟩ := y
  exact ⟨T, .int (i : Nat), x, h1, h2, h3, rfl, h4 xs q⟩
theorem walk_zipT {n : Nat} (hn : n = min xs.length ys.length) : Walk (ItzT K a b) n (fun H => SqT K H a xs ∧ SqT K H b ys) (YPair (fun i => xs[i]?) (fun i => ys[i]?)) := by
  subst hn
  refine ⟨fun i _ hi q => ?_, fun _ q => ⟨xs, ys, q.1, q.2, by omega⟩, fun i H v H' _ q y => ?_⟩
  · have h1 : i < xs.length := by omega
    have h2 : i < ys.length := by omega
    exact ⟨xs, ys, xs[i], ys[i], q.1, q.2, by simp [h1], by simp [h2]⟩
  · obtain ⟨T, x, z, h1, h2, h3, h4, h5⟩ := y
    exact ⟨T, x, z, h1, h2, h3, h4 xs q.1, h5 ys q.2⟩
end
end Bf
/-! ### min of pairs, (True,) * n, own __len__, properties, methods, classes held by a name, a written dict's get -/
namespace Bf
open PySem PySem.Spec PyProof.Rows L2 RZ StX ClX
/-! min([(a, b), ..]) -/
def pairD (p : Int × Int) : PyData := .tuple [.int p.1, .int p.2]
def ltP2 (p q : Int × Int) : Bool := decide (p.1 < q.1) || (decide (p.1 = q.1) && decide (p.2 < q.2))
theorem dataLt_pair (p q : Int × Int) : PySem.W.dataLt (pairD p) (pairD q) = ltP2 p q := by
  obtain ⟨a, b⟩ := p
  obtain ⟨c, d⟩ := q
  have e1 : ∀ x y : Int, PySem.W.alike (.int x) (.int y) = true := fun x y => by rw [PySem.W.alike]
  have e2 : ∀ x y : Int, PyData.eqv (.int x) (.int y) = (x == y) := fun x y => by rw [PyData.eqv]
  show PySem.W.dataLt (.tuple [.int a, .int b]) (.tuple [.int c, .int d]) = (decide (a < c) || (decide (a = c) && decide (b < d)))
  rw [PySem.W.dataLt_tuple]
  by_cases h : a = c
  · subst h
    rw [PySem.W.dataLt_all_yes (e1 _ _) (by rw [e2]; simp)]
    by_cases h2 : b = d
    · subst h2
      rw [PySem.W.dataLt_all_yes (e1 _ _) (by rw [e2]; simp)]
      simp [PySem.W.keyToksAll, PyProof.Rows.lexLt, PyProof.Rows.itemOrd, PyProof.Rows.itemLt]
    · rw [PySem.W.dataLt_all_no (e1 _ _) (by rw [e2]; simp [h2]), PySem.W.dataLt_int]
      simp
  · rw [PySem.W.dataLt_all_no (e1 _ _) (by rw [e2]; simp [h]), PySem.W.dataLt_int]
    simp [h]
section
variable {X : Cx}
def rMinP (K : PySem.W.Frag) : List V → Hp → VK → Prop := fun vs H Q => ∃ (a : Addr) (xs : List V) (p : Int × Int) (ps : List (Int × Int)), vs = [V.ref a] ∧ SqL K H a xs ∧ DpAll K H xs ((p :: ps).map pairD) ∧
  ∀ (i : Nat) x, xs[i]? = some x → (p :: ps)[i]? = some (ps.foldl (fun a y => if ltP2 y a then y else a) p) → Q x H
theorem fold_pair : ∀ (ps : List (Int × Int)) (p : Int × Int), (ps.map pairD).foldl (fun a y => if PySem.W.dataLt y a then y else a) (pairD p) = pairD (ps.foldl (fun a y => if ltP2 y a then y else a) p)
  | [], p => rfl
  | q :: ps, p => by
    rw [List.map_cons, List.foldl_cons, List.foldl_cons, dataLt_pair]
    cases ltP2 q p
    · exact fold_pair ps p
    · exact fold_pair ps q
theorem pairD_inj {p q : Int × Int} (h : pairD p = pairD q) : p = q := by
  obtain ⟨a, b⟩ := p
  obtain ⟨c, d⟩ := q
  simp [pairD] at h
  rw [h.1, h.2]
theorem cr_minP (hc : X.calm = true) (hu : X.A.units + 64 < cLine) : CallR X (.builtin "min") (rMinP X.K) := by
  intro pins s σ H vs us Q I r h
  obtain ⟨a, xs, p, ps, rfl, hs, hd, q⟩ := h
  obtain ⟨its, rv, hl, _⟩ := I.list hs
  rw [Vals.ref1 r]
  obtain ⟨as, hr⟩ := Dp.readsAll I _ _ _ hd rv
  rw [List.map_cons] at hr
  have hdep : ∀ (l : List (Int × Int)), PyData.depthAll (l.map pairD) ≤ 1 := fun l => by
    induction l with
    | nil => simp [PyData.depthAll]
    | cons q l ih =>
      rw [List.map_cons, PyData.depthAll]
      refine Nat.max_le.mpr ⟨?_, ih⟩
      simp [pairD, PyData.depth, PyData.depthAll]
  have hd1 := hdep (p :: ps)
  have mem : ∀ x ∈ pairD p :: ps.map pairD, ∃ q : Int × Int, x = pairD q := fun x hx => by
    rw [← List.map_cons, List.mem_map] at hx
    obtain ⟨q, _, e⟩ := hx
    exact ⟨q, e.symm⟩
  refine PySem.W.min_list_data (I.ok.hd hc) hl.isList (x := pairD p) (xs := ps.map pairD) (as := as) (by simpa using hr) ⟨?_, ?_⟩ (by rw [← List.map_cons]; omega) fun i v h' tk bs hv hrd hk => ?_
  · intro x hx y hy
    obtain ⟨q1, rfl⟩ := mem x hx
    obtain ⟨q2, rfl⟩ := mem y hy
    simp [pairD, PySem.W.alike, PySem.W.alikeAll]
  · intro x hx
    obtain ⟨q1, rfl⟩ := mem x hx
    simp [pairD]
  · have hv' : its[i]? = some v := by simpa using hv
    have hi : i < its.length := (List.getElem?_eq_some_iff.mp hv').1
    have hlen := rv.length
    obtain ⟨z, hz⟩ : ∃ z, xs[i]? = some z := ⟨xs[i], by simp [hlen ▸ hi]⟩
    obtain ⟨v', hv2, rz⟩ := rv.get hz
    rw [hv'] at hv2
    cases hv2
    obtain ⟨cs, hrd2, hlt, _, _⟩ := PySem.W.readsAll_at hr i v hv'
    have hrd3 := PySem.W.reads_keeps hk hrd2
    have hu := (PySem.Reads.unique hrd3 _ _ hrd).1
    have hlt2 : i < (p :: ps).length := by simpa using hlt
    have e2 : (pairD p :: ps.map pairD).getD i .none = pairD ((p :: ps)[i]) := by
      rw [← List.map_cons, List.getD_eq_getElem?_getD, List.getElem?_map, List.getElem?_eq_getElem hlt2]
      rfl
    rw [e2] at hu
    unfold PySem.W.minD at hu
    rw [fold_pair] at hu
    exact ⟨z, H, I.kept hk, rz, q i z hz (by rw [List.getElem?_eq_getElem hlt2, pairD_inj hu])⟩
end
end Bf
/-! ### rules: bundles of a class's text; properties, methods, instances made, len -/
namespace Bf
open PySem PySem.Spec PyProof.Rows L2
section
variable (P : Program) (w : World) (K : PySem.W.Frag) (mg : Str → Option Value) (base : Heap)
/-- a method of the class at C -/
def Md (C : Addr) (m : Str) (k : Nat) (sp : Sp) : Prop := ∃ g, Meth K C m g ∧ FnR P w K mg base CX0 k g sp
/-- a property -/
def Pp (C : Addr) (x : Str) (k : Nat) (sp : Sp) : Prop := ∃ p g, PropOf K C x p g ∧ FnR P w K mg base CX0 k g sp
/-- an instance made by the class's name -/
def Mi (C : Addr) (x : Str) (k : Nat) (sp : Sp) : Prop := ∃ g, Mk K C g ∧ mg x = some (.ref C) ∧ FnR P w K mg base CX0 k g sp
/-- a classmethod of the class, by the class's name -/
def Cmt (C : Addr) (x m : Str) (k : Nat) (sp : Sp) : Prop := ∃ mc p g, mg x = some (.ref C) ∧ ClX.CRead K C mc ∧ ClX.CMet K C mc m p g ∧ FnR P w K mg base CX0 k g sp
/-- len(o) -/
def Ln (C : Addr) (k : Nat) (sp : Sp) : Prop := ∃ g, PySem.W.findIn K (.ref C) "__len__" = some (some (.ref g)) ∧ PySem.W.isFn K (.ref g) = true ∧ FnR P w K mg base CX0 k g sp
end
section
variable {X : Cx} {C : Addr} {x m f : Str} {k j i : Nat} {sp : Sp} {o e : Expr} {es : List Expr} {ta : TE} {t : TA} {p pos apos : Pos} {pl : Sem Bool}
theorem pe_pp (c : SlX.SCls X.K C) (h : Pp X.prog X.w X.K X.mg X.base C f k sp) (hr : Room j X.A) (hk : k + 1 ≤ j) (he : PE X e ta) (hb : attributeBase e f X.env (eval e X.env) = eval e X.env := by rfl) : PE X (.Attribute e f pos) (SlX.tPropSl C sp E0 ta) := by
  obtain ⟨p, g, hp, F⟩ := h
  exact SlX.pe_propSl he c hp.at_ hp.get hp.tak hp.rec_ F (hr.mono hk) (fun _ _ _ _ z => z.elim) hb
theorem getprop_d {pins : List (Addr × Obj)} {σ : L2.St} {H : Hp} {s : Shared} {b : Bool} {Q : VK} {a dx q g : Addr} {fs : List (Str × V)} {n : Nat} {CX : CXT} {E : XK} (I : Inv X pins σ H s) (ea : H a = some (.ins C dx fs)) (c : Cls X.K C) (hp : PropOf X.K C f q g) (F : FnR X.prog X.w X.K X.mg X.base CX n g sp) (hr : Room (n + 1) X.A)
    (hx : ∀ (H : Hp) (s : Shared) (e : Value) (s' : Shared), CX X.stack H s E e s' → False) (h : sp [.ref a] H Q E) : wpAny (model X.prog X.w) X.A (getAttr (.ref a) f b) (EP X pins σ Q) X.xe s := by
  obtain ⟨mA, O, _, _, _, _⟩ := ins_get I.hok ea
  obtain ⟨od, J, _⟩ := O.look
  obtain ⟨rest, hrec⟩ := hp.rec_
  have I1 : Inv X pins σ H { s with toks := s.toks + 1 } := I.tok (s.toks + 1)
  have hc : (PySem.W.clsIn X.K C).isSome = true := by
    obtain ⟨cd, hc, _⟩ := PySem.W.any_some c.hd
    rw [hc]
    rfl
  refine PySem.W.get_bind I.kIn J (PySem.W.plainGet_of (c.get f)).1 (PySem.W.findObj_data hc hp.at_ hp.get hp.tak) (PySem.W.plainGet_of (c.get f)).2 (wpAny_call (PySem.W.prop_get (s := { s with toks := s.toks + 1 }) I.kIn hrec ?_))
  refine codeAny_mono (F X.A.in1 X.stack { s with toks := s.toks + 1 } H [.ref a] [.ref a] Q E hr.in1 I1.env0.in1 (.cons rfl .nil) h) fun r s' hq => ?_
  cases r with
  | error e => exact (hx _ _ _ _ hq).elim
  | ok fl =>
    cases fl with
    | ret u =>
      obtain ⟨v, H', I2, rv, q⟩ := I1.after hq
      exact wpAny_of_eq (PySem.W.handedOut_of (handed_of rv)) ⟨v, H', I2, rv, q⟩
    | next => exact False.elim hq
    | brk => exact False.elim hq
    | cont => exact False.elim hq
theorem pe_bp (c : Cls X.K C) (h : Pp X.prog X.w X.K X.mg X.base C f k sp) (hr : Room j X.A) (hk : k + 1 ≤ j) (he : PE X e ta) (hb : attributeBase e f X.env (eval e X.env) = eval e X.env := by rfl) : PE X (.Attribute e f pos) (tProp C sp [] E0 ta) := by
  obtain ⟨p, g, hp, F⟩ := h
  refine ⟨fun pins s σ H Q I h => ?_⟩
  refine attr_of hb (thn (he.run pins s σ H _ I h) fun u s1 ⟨x, H1, I1, rx, a, dx, fs, ex, ea, q⟩ => ?_)
  subst ex
  obtain rfl : u = Value.ref a := rx
  exact getprop_d I1 ea c hp F (hr.mono hk) (fun _ _ _ _ z => z.elim) q
theorem pe_ms (c : SlX.SCls X.K C) (h : Md X.prog X.w X.K X.mg X.base C m k sp) (hr : Room j X.A) (hk : k ≤ j) (he : PE X o ta) (ha : PA X (e :: es) t)
    (hst : starEach (e :: es) X.env = (false, eval e X.env) :: starEach es X.env := by rfl) (hpl : (backTo pos (starEach es X.env)).any (·.1) = false := by rfl)
    (ht : eval (.Call (.Attribute o m apos) (e :: es) [] pos) X.env = (do
      let ov ← eval o X.env
      standAt apos.atName
      let (f, first) ← holding [ov] (getMethod ov m pl)
      callWith pos f first (backTo pos (starEach (e :: es) X.env)) (backToKw pos (keywordEach [] X.env))) := by rfl) :
    PE X (.Call (.Attribute o m apos) (e :: es) [] pos) (SlX.tMethSl C sp E0 ta t) := by
  obtain ⟨g, hm, F⟩ := h
  exact SlX.pe_methSl he c hm F (hr.mono hk) pass0 ha hst hpl ht
theorem pe_ms0 (c : SlX.SCls X.K C) (h : Md X.prog X.w X.K X.mg X.base C m k sp) (hr : Room j X.A) (hk : k ≤ j) (he : PE X o ta)
    (ht : eval (.Call (.Attribute o m apos) [] [] pos) X.env = (do
      let ov ← eval o X.env
      standAt apos.atName
      let (f, first) ← holding [ov] (getMethod ov m pl)
      callWith pos f first (backTo pos (starEach [] X.env)) (backToKw pos (keywordEach [] X.env))) := by rfl) :
    PE X (.Call (.Attribute o m apos) [] [] pos) (SlX.tMethSl C sp E0 ta tNil) := by
  obtain ⟨g, hm, F⟩ := h
  exact SlX.pe_methSl0 he c hm F (hr.mono hk) pass0 ht
theorem pe_mdm (c : Cls X.K C) (h : Md X.prog X.w X.K X.mg X.base C m k sp) (hr : Room j X.A) (hk : k ≤ j) (he : PE X o ta) (ha : PA X (e :: es) t)
    (hst : starEach (e :: es) X.env = (false, eval e X.env) :: starEach es X.env := by rfl) (hpl : (backTo pos (starEach es X.env)).any (·.1) = false := by rfl)
    (ht : eval (.Call (.Attribute o m apos) (e :: es) [] pos) X.env = (do
      let ov ← eval o X.env
      standAt apos.atName
      let (f, first) ← holding [ov] (getMethod ov m pl)
      callWith pos f first (backTo pos (starEach (e :: es) X.env)) (backToKw pos (keywordEach [] X.env))) := by rfl) :
    PE X (.Call (.Attribute o m apos) (e :: es) [] pos) (tMethR C m sp E0 ta t) := by
  obtain ⟨g, hm, F⟩ := h
  exact pe_methR he c hm F (hr.mono hk) pass0 ha hst hpl ht
theorem pe_md0 (c : Cls X.K C) (h : Md X.prog X.w X.K X.mg X.base C m k sp) (hr : Room j X.A) (hk : k ≤ j) (he : PE X o ta)
    (ht : eval (.Call (.Attribute o m apos) [] [] pos) X.env = (do
      let ov ← eval o X.env
      standAt apos.atName
      let (f, first) ← holding [ov] (getMethod ov m pl)
      callWith pos f first (backTo pos (starEach [] X.env)) (backToKw pos (keywordEach [] X.env))) := by rfl) :
    PE X (.Call (.Attribute o m apos) [] [] pos) (tMethR C m sp E0 ta tNil) := by
  obtain ⟨g, hm, F⟩ := h
  refine ⟨fun pins s σ H Q I h => ?_⟩
  refine PySem.W.methodCall_KW (pl := pl) (thn (he.run pins s σ H _ I h) fun u s1 ⟨x, H1, I1, rx, a, dx, fs, ex, ea, l, q⟩ => ?_) ht
  subst ex
  obtain rfl : u = Value.ref a := rx
  refine getmeth_ok I1 ea c hm l ?_
  exact PySem.W.callWith_K0 (first := [.ref a]) I1.kIn hm.kp (wpAny_call (run_fnR (us := [.ref a]) (vs := [.ref a]) F (hr.mono hk) pass0 I1 (.cons rfl .nil) q))
theorem pe_mk (h : Mi X.prog X.w X.K X.mg X.base C x k sp) (hr : Room j X.A) (hk : k + 1 ≤ j) (hg : Gl X x) (ha : PA X (e :: es) t) (hdb : (x == ("__debug__" : Str)) = false := by decide)
    (he : starEach (e :: es) X.env = (false, eval e X.env) :: starEach es X.env := by rfl) (hpl : (backTo pos (starEach es X.env)).any (·.1) = false := by rfl) : PE X (.Call (.Name x p) (e :: es) [] pos) (StX.tMakeR C sp E0 t) := by
  obtain ⟨g, M, hm, F⟩ := h
  exact StX.pe_makeR M F (hr.mono hk) hg hm pass0 ha hdb he hpl
/-- cls(..), cls a local name that holds the class -/
def tMkL (i : Nat) (C : Addr) (sp : Sp) (t : TA) : TE := fun σ H Q => σ[i]? = some (some (.ref C)) ∧ StX.tMakeR C sp E0 t σ H Q
theorem pe_mkL {y : Str} (h : Mi X.prog X.w X.K X.mg X.base C y k sp) (hr : Room j X.A) (hk : k + 1 ≤ j) (hN : X.N[i]? = some x) (hv : Vis X.env.scope x) (ha : PA X (e :: es) t)
    (hdb : (x == ("__debug__" : Str)) = false := by decide) (hcd : (x == ("__classdict__" : Str)) = false := by decide)
    (he : starEach (e :: es) X.env = (false, eval e X.env) :: starEach es X.env := by rfl) (hpl : (backTo pos (starEach es X.env)).any (·.1) = false := by rfl) : PE X (.Call (.Name x p) (e :: es) [] pos) (tMkL i C sp t) := by
  obtain ⟨g, M, hm, F⟩ := h
  refine ⟨fun pins s σ H Q I h => ?_⟩
  obtain ⟨h1, h2⟩ := h
  refine wpAny_Call_Name_kw ?_
  refine thn ((pe_var (pos := p) hN hv hdb hcd).run pins s σ H (fun v H1 => v = .ref C ∧ H1 = H) I ⟨_, h1, rfl, rfl⟩) fun u s1 ⟨v, H1, I1, rv, ev, eH⟩ => ?_
  subst ev
  subst eH
  obtain rfl : u = Value.ref C := rv
  refine PySem.W.callWith_K (h₀ := X.base) I1.ok.mod.kin M.kp (thn (ha.run pos pins s1 σ H1 _ I1 h2) fun us s1 ⟨vs, H1, I1, r, q⟩ => ⟨I1.kIn, ?_⟩) he hpl
  exact StX.run_makeR M F (hr.mono hk) pass0 I1 r q
theorem pe_cmt (h : Cmt X.prog X.w X.K X.mg X.base C x m k sp) (hr : Room j X.A) (hk : k ≤ j) (hg : Gl X x) (ha : PA X (e :: es) t) (hdb : (x == ("__debug__" : Str)) = false := by decide)
    (hst : starEach (e :: es) X.env = (false, eval e X.env) :: starEach es X.env := by rfl) (hpl : (backTo pos (starEach es X.env)).any (·.1) = false := by rfl)
    (ht : eval (.Call (.Attribute (.Name x p) m apos) (e :: es) [] pos) X.env = (do
      let ov ← eval (.Name x p) X.env
      standAt apos.atName
      let (f, first) ← holding [ov] (getMethod ov m pl)
      callWith pos f first (backTo pos (starEach (e :: es) X.env)) (backToKw pos (keywordEach [] X.env))) := by rfl) :
    PE X (.Call (.Attribute (.Name x p) m apos) (e :: es) [] pos) (ClX.tCMeth C sp E0 (tC (.ref C)) t) := by
  obtain ⟨mc, q, g, hm, r, c, F⟩ := h
  exact ClX.pe_cmeth (pe_glob hg hm rfl hdb) r c F (hr.mono hk) pass0 ha hst hpl ht
/-- len(o), o an instance with slots -/
def rLenO (C : Addr) (sp : Sp) : List V → Hp → VK → Prop := fun xs H Q => ∃ a dx vs, xs = [.ref a] ∧ SlX.Slt H a C dx vs ∧ sp [.ref a] H (fun v H1 => ∃ n : Nat, v = .int n ∧ n < 1000 ∧ Q v H1) E0
theorem call_lenO (h : Ln X.prog X.w X.K X.mg X.base C k sp) (hr : Room j X.A) (hk : k + 1 ≤ j) : CallR X (.builtin "len") (rLenO C sp) := by
  intro pins s σ H xs us Q I r h'
  obtain ⟨g, h1, h2, F⟩ := h
  obtain ⟨a, dx, vs, rfl, hs, q⟩ := h'
  obtain ⟨u, rfl, rx⟩ := vals1 r
  cases rx
  obtain ⟨sl, od, _, J, _⟩ := SlX.slt_inst I hs
  obtain ⟨mm, Fr⟩ := I.fr
  refine PySem.W.len_K Fr I.ok.mod.kin J h1 h2 (wpAny_call (codeAny_mono (F X.A.in1 X.stack s H [.ref a] [.ref a] _ E0 (hr.mono hk).in1 I.env0.in1 (.cons rfl .nil) q) fun r s' hq => ?_))
  cases r with
  | error e => exact hq.elim
  | ok fl =>
    cases fl with
    | ret u =>
      obtain ⟨v, H', I2, rv, n, ev, hn, q⟩ := I.after hq
      subst ev
      obtain ⟨t, rfl⟩ := rv
      exact ⟨⟨by omega, by omega⟩, ⟨.int n, H', I2.tok _, ⟨_, rfl⟩, q⟩⟩
    | next => exact False.elim hq
    | brk => exact False.elim hq
    | cont => exact False.elim hq
end
end Bf
/-! ### rules: (x,) * n with its object known, a dict comprehension assigned, with, d.get of a written dict -/
namespace Bf
open PySem PySem.Spec PyProof.Rows L2
section
variable {X : Cx}
/-- a tuple display whose object is known -/
def tTupZ (t : TA) : TE := fun σ H Q => t σ H fun xs H1 => xs.length ≤ sizeLine ∧ ∀ p o, H1 p = none → Frz o → Q (.ref p) (upd H1 p (.frz o (.tup xs)))
theorem pe_tupZ {es : List Expr} {t : TA} {x1} {pos : Pos} (h : PA X es t) : PE X (.Tuple es x1 pos) (tTupZ t) := by
  refine ⟨fun pins s σ H Q I hq => ?_⟩
  refine wpAny_Tuple_spliced (thn (h.run pos pins s σ H _ I hq) fun us s1 ⟨xs, H1, I1, r, z, q⟩ => ⟨by rw [← r.length]; exact z, ?_⟩)
  have hf : H1 s1.heap.objs.size = none := I1.hok.fresh (Nat.le_refl _)
  exact ⟨.ref s1.heap.objs.size, _, I1.laid (t' := s1.toks) (o := .frz { cls := .type "tuple", data := .seq us.toArray } (.tup xs)) (fun b u e => Heap.get?_push_of_some _ e) (Nat.le_refl _) (frz_new r z (Heap.get?_push_size _ rfl)), rfl, q _ _ hf ⟨rfl, rfl⟩⟩
theorem tuple_mul1 (l : Addr) (items : Array Value) (n : Nat) (sl : Array (Option Value)) (u : Tok) (x : Int) (hx : x = 1) :
    Meets (Builtin.«tuple.__mul__» ⟨[.ref l, .int x u], []⟩) (fun _ R s => s.heap.get? l = some { cls := .type "tuple", dict := none, data := .seq items n, slots := sl } ∧ R (.ok (.ret (Value.ref l))) s) :=
  .of_wp fun prog w A R s h => by
    obtain ⟨hp, g, d, tk, os⟩ := s
    obtain ⟨hl, h⟩ := h
    have f1 := AutoSeq1.idx_int
    have c0 : (decide (x < -(2 ^ 63)) || decide (x ≥ 2 ^ 63)) = false := by
      subst hx
      decide
    have c1 : (items.isEmpty || x == 1) = true := by
      subst hx
      rw [show ((1 : Int) == 1) = true from rfl, Bool.or_true]
    wp_walk using wpAny_loadPart' hl
    repeat (first
      | (refine wpAny_ite_false (decide_eq_false (by rw [c0]; exact Bool.false_ne_true)) ?_; wp_walk using wpAny_loadPart' hl)
      | (refine wpAny_ite_true (decide_eq_true (by rw [c1])) ?_; wp_walk using wpAny_loadPart' hl))
    exact ⟨_, rfl, h⟩
def rRepTZ : R2 := fun x y H Q => ∃ l o k xs, x = .ref l ∧ y = .int k ∧ H l = some (.frz o (.tup xs)) ∧ Frz o ∧ xs ≠ [] ∧ 1 ≤ k ∧ k ≤ 1000 ∧ xs.length ≤ 1000 ∧ ∀ p H' o', (H' = H ∨ (H p = none ∧ H' = upd H p (.frz o' (.tup (List.replicate k.toNat xs).flatten)))) → Frz o' → H' p = some (.frz o' (.tup (List.replicate k.toNat xs).flatten)) → Q (.ref p) H'
theorem op_repTZ : OpR X (binaryOp .Mult) rRepTZ := by
  intro pins s σ H x y v u Q I rx ry h
  obtain ⟨l, o, k, xs, rfl, rfl, hT, hz0, hne, h1, h2, hz, q⟩ := h
  cases rx
  obtain ⟨t, rfl⟩ := ry
  obtain ⟨ho, hzz, its, r, ob, ho', hc, n, hd⟩ := (show ObjOk X.prog X.w H s.heap l (.frz o (.tup xs)) from I.hok l _ hT)
  obtain rfl : o = ob := Option.some.inj (ho.symm.trans ho')
  obtain ⟨cls, dd, data, sl⟩ := o
  simp only at hc hd
  subst hc
  subst hd
  obtain rfl : dd = none := hz0.2
  have hle : its.length = xs.length := r.length.symm
  have hn : its ≠ [] := fun e => hne (by
    rw [e] at hle
    exact List.eq_nil_of_length_eq_zero hle.symm)
  have hi : its.toArray.isEmpty = false := by
    cases its with
    | nil => exact absurd rfl hn
    | cons a b => rfl
  by_cases hk : k = 1
  · refine wpAny_binaryOp_repeat_ref (T := "tuple") (U := "int") (by decide) ⟨_, ho, rfl⟩ (fun s' => typeIs_int s' k t) noFill_tuple_mul F.fills_int_mul F.slot_int_rmul repeat_tuple F.slot_int_index.lookup
      (call_meets F.slot_int_rmul (typeIs_int s k t) F.entry_int_rmul (F.args_int_rmul_2 _ _) (int_rmul_tuple k t l its.toArray n none sl)
        ⟨ho, rfl, ⟨_, ho, rfl⟩, call_meets F.slot_tuple_mul ⟨_, ho, rfl⟩ F.entry_tuple_mul (F.args_tuple_mul_2 _ _) (tuple_mul1 l its.toArray n sl t k hk) ⟨ho, ?_⟩⟩)
    have e : (List.replicate k.toNat xs).flatten = xs := by
      subst hk
      show (xs ++ []) = xs
      rw [List.append_nil]
    exact ⟨.ref l, H, I, rfl, q l H _ (.inl rfl) ⟨rfl, rfl⟩ (by rw [e]; exact hT)⟩
  · have hk2 : 2 ≤ k := by omega
    have hm : ((its.toArray.size : Nat) : Int) * k ≤ 1000000 := by
      rw [List.size_toArray, hle]
      have a1 : ((xs.length : Nat) : Int) * k ≤ 1000 * k := Int.mul_le_mul_of_nonneg_right (by omega) (by omega)
      omega
    have flen : (List.replicate k.toNat its).flatten.length ≤ sizeLine := by
      rw [PyProof.Rows.lm_len_rep_flat, hle, sizeLine_eq]
      have a1 : k.toNat * xs.length ≤ 1000 * 1000 := Nat.mul_le_mul (by omega) hz
      omega
    have c0 : (decide (k < -(2 ^ 63)) || decide (k ≥ 2 ^ 63)) = false := by
      rw [decide_eq_false (by omega), decide_eq_false (by omega)] <;> rfl
    have c1 : (its.toArray.isEmpty || k == 1) = false := by
      rw [hi, Bool.false_or]
      exact beq_eq_false_iff_ne.mpr hk
    have c2 : (decide (k ≤ 0) || its.toArray.isEmpty) = false := by
      rw [hi, Bool.or_false]
      exact decide_eq_false (by omega)
    have c4 : Builtin.Tuple.tupleTooMany (((its.toArray.size : Nat) : Int) * k) = false := by
      unfold Builtin.Tuple.tupleTooMany
      rw [sizeLine_eq]
      exact decide_eq_false (by omega)
    refine wpAny_binaryOp_repeat_ref (T := "tuple") (U := "int") (by decide) ⟨_, ho, rfl⟩ (fun s' => typeIs_int s' k t) noFill_tuple_mul F.fills_int_mul F.slot_int_rmul repeat_tuple F.slot_int_index.lookup
      (call_meets F.slot_int_rmul (typeIs_int s k t) F.entry_int_rmul (F.args_int_rmul_2 _ _) (int_rmul_tuple k t l its.toArray n none sl)
        ⟨ho, rfl, ⟨_, ho, rfl⟩, call_meets F.slot_tuple_mul ⟨_, ho, rfl⟩ F.entry_tuple_mul (F.args_tuple_mul_2 _ _) (tuple_mulW l its.toArray n none sl k t c0 c1 c2 (by omega) c4 (by rw [size_rep, List.size_toArray]; exact flen)) ⟨ho, ?_⟩⟩)
    rw [size_rep]
    have hf := I.hok.fresh (Nat.le_refl s.heap.objs.size)
    refine ⟨.ref s.heap.objs.size, _, I.laid (t' := s.toks) (o := .frz { cls := .type "tuple", data := .seq (List.replicate k.toNat its).flatten.toArray } (.tup (List.replicate k.toNat xs).flatten)) (fun b ob q => Heap.get?_push_of_some _ q) (Nat.le_refl _) (frz_new (r.rep k.toNat) ?_ (Heap.get?_push_size _ rfl)), rfl,
      q _ _ _ (.inr ⟨hf, rfl⟩) ⟨rfl, rfl⟩ upd_same⟩
    rw [PyProof.Rows.lm_len_rep_flat, sizeLine_eq]
    have a1 : k.toNat * xs.length ≤ 1000 * 1000 := Nat.mul_le_mul (by omega) hz
    omega
theorem ps_setDc {i : Nat} {y : Str} {py : Pos} {kx vx tg iter : Expr} {ifs : List Expr} {scope : Scope} {own : List (Str × Nat)} {pos spos : Pos} {wi : TI} {g : TG} {tt : TT} {tk tv : TE} (hc : X.calm = true) (hN : X.N.Nodup) (hy : X.N[i]? = some y) (hyl : X.env.scope.names.lookup y = some .local)
    (hsw : swapsWith (.DictComp kx vx [⟨tg, iter, ifs, 0⟩] scope pos) (some (.Name y py)) spos.line X.env = pure true) (hi : PI X tg iter wi) (ok : BlkOk X.N X.env.scope scope own)
    (hg : ∀ (s : Shared) (H : Hp) (C : Addr) (cl : List (Str × Addr)) (fp : List Addr), PG (X.blk s H scope (compEnvC scope cl C X.env) fp) tg g) (ht : ∀ (s : Shared) (H : Hp) (C : Addr) (cl : List (Str × Addr)) (fp : List Addr), PTs (X.blk s H scope (compEnvC scope cl C X.env) fp) ifs tt)
    (hk : ∀ (s : Shared) (H : Hp) (C : Addr) (cl : List (Str × Addr)) (fp : List Addr), PE (X.blk s H scope (compEnvC scope cl C X.env) fp) kx tk)
    (he : ∀ (s : Shared) (H : Hp) (C : Addr) (cl : List (Str × Addr)) (fp : List Addr), PE (X.blk s H scope (compEnvC scope cl C X.env) fp) vx tv) (hs : ∀ x, foldedSetIterable iter X.env x = pure x := by intro _; rfl) :
    PS X (.Assign [.Name y py] (.DictComp kx vx [⟨tg, iter, ifs, 0⟩] scope pos) spos) (tAsg (tDc wi g tt tk tv (own.map (·.2))) (gName i)) := by
  refine ⟨fun pins s σ H D I h => ?_⟩
  rw [exec_Assign_Name_used _ _ _ _ hsw]
  refine wpAny_bind (wpAny_standAt (wpAny_bind ?_))
  show wpAny _ X.A (do let _ ← comprehension (.DictComp kx vx [⟨tg, iter, ifs, 0⟩] scope pos) scope X.env (firstIterPos [⟨tg, iter, ifs, 0⟩] pos) newDict false (eval iter X.env) (some (assign (.Name y py) X.env))) _ _ s
  have h : tDc wi g tt tk tv (own.map (·.2)) σ H (fun x H1 => gName i x σ H1 D.nx) := h
  refine wpAny_bind (thn (dc_core (Qf := fun _ s' => SP X pins D .next s') hc hN I hi ok hg ht hk he hs h fun L C s' m H' I' q hn f => ?_) fun _ s' hq => wpAny_pure (wpAny_pure hq))
  show wpAny _ _ (assign (.Name y py) X.env (.ref L)) _ _ _
  refine wpAny_assign_Name (store_ok2 (v := V.ref L) I' hN hy (.inl hyl) rfl (fun s2 I2 ⟨a, sb, ha⟩ => ?_) (.inr hyl))
  obtain ⟨f0, f1, f2, f3, f4, f5⟩ := f
  have haC : C ≠ a := by
    rcases ha with z | z
    · rw [z]; exact f1
    · exact fun e => f4 y a z e.symm
  refine ⟨m, hn.sameBut sb haC, fun h3 sb3 => ?_⟩
  exact ⟨_, H', I2.turned (t' := s2.toks) (fun b o hb e => (sb3.2 b hb).trans e) f0 f1 f3 f4 f5, q⟩
theorem sw_trueD {kx vx : Expr} {gs : List Comprehension} {scope : Scope} {pos py : Pos} {y : Str} {l : Nat} {env : Env} (hk : env.scope.kind = .function) (hy : env.scope.names.lookup y = some .local) (hl : (py.line == pos.line) = true)
    (ha : (scope.names.any fun (n, k) => n == y && (k == .local || k == .cell)) = false) : swapsWith (.DictComp kx vx gs scope pos) (some (.Name y py)) l env = pure true := by
  have ky : env.kindOf y = some .local := hy
  have hb : env.blockKind = .function := by unfold Env.blockKind; rw [hk]; rfl
  unfold swapsWith
  simp only [hb, ky, ha, Expr.pos, hl]
  rfl
/-- a with whose body comes to its end -/
structure Wi (P : Program) (w : World) (K : PySem.W.Frag) (mg : Str → Option Value) (base : Heap) (C : Addr) (k : Nat) (spE spX : Sp) : Prop where
  cls : Cls K C
  en : ∃ g, PySem.W.findIn K (.ref C) "__enter__" = some (some (.ref g)) ∧ PySem.W.isFn K (.ref g) = true ∧ FnR P w K mg base CX0 k g spE
  exi : ∃ g, PySem.W.findIn K (.ref C) "__exit__" = some (some (.ref g)) ∧ PySem.W.isFn K (.ref g) = true ∧ FnR P w K mg base CX0 k g spX
def tWith (C : Addr) (spE spX : Sp) (i : Nat) (te : TE) (tb : TS) : TS := fun D σ H => te σ H fun x H1 => ∃ a dx fs, x = .ref a ∧ H1 a = some (.ins C dx fs) ∧ spE [.ref a] H1 (fun v H2 =>
  tb { nx := fun σ3 H3 => spX [.ref a, .non, .non, .non] H3 (fun _ H4 => D.nx σ3 H4) E0, rt := fun _ _ => False } (σ.set i (some v)) H2) E0
theorem ps_with {k j : Nat} {C : Addr} {spE spX : Sp} {ctx : Expr} {i : Nat} {y : Str} {py pos : Pos} {body : List Stmt} {te : TE} {tb : TS} (W : Wi X.prog X.w X.K X.mg X.base C k spE spX) (hr : Room j X.A) (hk : k ≤ j) (he : PE X.nox ctx te) (hN : X.N.Nodup) (hi : X.N[i]? = some y) (hx : Loc X.env.scope y)
    (hb : PSs X.nox body tb) (hf : X.fn y = true ∨ X.env.scope.names.lookup y = some .local := by first | exact .inl rfl | exact .inr rfl | assumption) : PS X.nox (.With [⟨ctx, some (.Name y py)⟩] body pos) (tWith C spE spX i te tb) := by
  refine ⟨fun pins s σ H D I h => ?_⟩
  obtain ⟨ge, e1, e2, Fe⟩ := W.en
  obtain ⟨gx, x1, x2, Fx⟩ := W.exi
  refine PySem.W.kw_execN (thn (he.run pins s σ H _ I h) fun u s1 ⟨x, H1, I1, rx, a, dx, fs, ex, ea, q⟩ => ?_)
  subst ex
  obtain rfl : u = Value.ref a := rx
  obtain ⟨mA, O, _, _, _, _⟩ := ins_get I1.hok ea
  obtain ⟨od, J, _⟩ := O.look
  obtain ⟨mm, Fr⟩ := I1.fr
  refine PySem.W.kw_inN Fr I1.ok.mod.kin J e1 e2 x1 x2 (wpAny_call (codeAny_mono (run_fnR (us := [.ref a]) (vs := [.ref a]) Fe (hr.mono hk) pass0 I1 (.cons rfl .nil) q) fun r s' hq => ?_))
  cases r with
  | error e => exact hq.elim
  | ok fl =>
    cases fl with
    | ret u =>
      obtain ⟨v, H2, I2, rv, q2⟩ := hq
      refine store_ok I2 hN hi hx rv (fun s3 I3 => ?_) hf
      refine thn (hb.run pins s3 _ H2 _ I3 q2) fun f s4 q3 => ?_
      cases f with
      | next =>
        obtain ⟨σ4, H4, I4, q4⟩ := q3
        refine wpAny_call (codeAny_mono (run_fnR (us := [.ref a, .none, .none, .none]) (vs := [.ref a, .non, .non, .non]) Fx (hr.mono hk) pass0 I4 (.cons rfl (.cons rfl (.cons rfl (.cons rfl .nil)))) q4) fun r5 s5 hq5 => ?_)
        cases r5 with
        | error e => exact hq5.elim
        | ok fl =>
          cases fl with
          | ret u =>
            obtain ⟨v5, H5, I5, _, q5⟩ := hq5
            exact ⟨σ4, H5, I5, q5⟩
          | next => exact hq5.elim
          | brk => exact hq5.elim
          | cont => exact hq5.elim
      | brk => obtain ⟨_, _, _, z⟩ := q3; exact z.elim
      | cont => obtain ⟨_, _, _, z⟩ := q3; exact z.elim
      | ret v => obtain ⟨_, _, _, _, _, z⟩ := q3; exact z.elim
    | next => exact hq.elim
    | brk => exact hq.elim
    | cont => exact hq.elim
/-- a dict of the module, read by d.get(k, x) -/
structure GD (K : PySem.W.Frag) (w : World) (d : Addr) : Prop where
  at_ : ∃ es n, KDict K w d es n
def tKGet (K : PySem.W.Frag) (d : Addr) (t : TA) : TE := fun σ H Q => t σ H fun vs H1 => ∃ z y r, vs = [.str z, y] ∧ PySem.W.nsIn K d z = some r ∧ (∀ u, r = some u → ∃ v, RelV v u ∧ Q v H1) ∧ (r = none → Q y H1)
theorem pe_kget {x : Str} {e f : Expr} {p apos cpos : Pos} {d : Addr} {t : TA} (g : GD X.K X.w d) (hm : X.mg x = some (.ref d)) (hg : Gl X x) (ha : PA X [e, f] t) (hdb : (x == ("__debug__" : Str)) = false := by decide)
    (hb : attributeBase (.Name x p) "get" X.env (eval (.Name x p) X.env) = eval (.Name x p) X.env := by rfl) (hs : starEach [e, f] X.env = (false, eval e X.env) :: starEach [f] X.env := by rfl) (hplain : (backTo cpos (starEach [f] X.env)).any (·.1) = false := by rfl)
    (hfew : ((backTo cpos (starEach [e, f] X.env)).all (fun x => !x.1) && (backToKw cpos (keywordEach [] X.env)).all (fun x => x.1.isSome)
      && decide (([e, f] : List Expr).length + ([] : List Keyword).length + (if ([] : List Keyword).isEmpty then 0 else 1) < 30)) = true := by rfl) (hl : (apos.endLine == cpos.line) = true := by rfl) :
    PE X (.Call (.Attribute (.Name x p) "get" apos) [e, f] [] cpos) (tKGet X.K d t) := by
  obtain ⟨es, n, D⟩ := g.at_
  refine ⟨fun pins s σ H Q I h => ?_⟩
  refine wpAny_Call_method hb hfew hl PySem.F.plainAttrs_dict PySem.F.slot_dict_get PySem.F.type_dict_get (thn ((pe_glob (v := .ref d) (pos := p) hg hm rfl hdb).run pins s σ H (fun v H1 => v = .ref d ∧ H1 = H) I ⟨rfl, rfl⟩) fun u s1 ⟨v, H1, I1, r1, ev, eH⟩ => ?_)
  subst ev
  subst eH
  obtain rfl : u = Value.ref d := r1
  refine ⟨kd_type D I1, fun b hb => ?_, ?_⟩
  · cases hb
    obtain ⟨ob, _, _, h1, h2, _⟩ := (PySem.W.mapOf_K (prog := X.prog) (w := X.w) I1.kIn D.at_ D.lit)
    exact ⟨ob, h1, h2.2.1⟩
  have hA := ha.run cpos pins s1 σ H1 _ I1 h
  rw [hs] at hA ⊢
  refine Calls.callWith_builtin (by show (false || (backTo cpos (starEach [f] X.env)).any (·.1)) = false; rw [hplain] <;> rfl) (Calls.evalArgs_plain ?_)
  refine thn hA fun us s2 ⟨vs, H2, I2, r2, z, y, r, ez, hn, q1, q2⟩ => ?_
  subst ez
  cases r2 with
  | cons ra rb =>
  cases rb with
  | cons rb rc =>
  cases rc
  obtain ⟨t, rfl⟩ := ra
  have hM := PySem.W.mapOf_K (prog := X.prog) (w := X.w) I2.kIn D.at_ D.lit
  refine call_meetsIn PySem.F.slot_dict_get hM.typeIs PySem.F.entry_dict_get (PySem.F.args_dict_get_3 _ _ _) (meets_dict_get_default (PySem.strKind X.prog X.w) d (PySem.strKind_is X.prog X.w z t) D.low _) ⟨_, hM, ?_⟩
  rw [PySem.W.find_K D.at_ hn]
  cases r with
  | none => exact ⟨y, H2, I2.tok _, rb, q2 rfl⟩
  | some u =>
    obtain ⟨v, rv, q⟩ := q1 u rfl
    exact ⟨v, H2, I2.tok _, rv, q⟩
end
end Bf
/-! ### list(zip(t, u)), t and u tuples -/
namespace Bf
open PySem PySem.Spec PyProof.Rows L2 RZ
open PySem.W (KdxIt kdx_alive)
section
variable {prog : Program} {w : World} {A : Around} {E : Value → Shared → Prop} {s : Shared}
theorem zipT_item_held {z TI TO T i1 i2 l1 l2 : Addr} {f : Bool} {oT : Obj} {k1 k2 : Nat} {xs ys : Array Value} {x y : Value} {Q : Value → Shared → Prop} (D : ZipApart z TI TO i1 i2 l1 l2)
    (hz : IsZipHeld s.heap z TI TO T f) (hT : s.heap.get? T = some oT) (hTI : IsPair s.heap TI (.ref i1) (.ref i2))
    (h1 : s.heap.IsTupleIter i1 l1 k1) (h2 : s.heap.IsTupleIter i2 l2 k2) (hl1 : s.heap.IsTuple l1 xs) (hl2 : s.heap.IsTuple l2 ys) (hx : xs[k1]? = some x) (hy : ys[k2]? = some y)
    (hQ : ∀ h', IsZipHeld h' z TI TO T true → h'.IsTupleIter i1 l1 (k1 + 1) → h'.IsTupleIter i2 l2 (k2 + 1) → IsPair h' s.heap.objs.size x y → h'.objs.size = s.heap.objs.size + 1 →
      (∀ c o, c ≠ z → c ≠ i1 → c ≠ i2 → s.heap.get? c = some o → h'.get? c = some o) → Q (.ref s.heap.objs.size) { s with heap := h' }) :
    wpAny (model prog w) A (Builtin.«zip.__next__» ⟨[.ref z], []⟩) (fun fin s' => ∃ v, fin = .done (.ret v) ∧ Q v s') E s := by
  show wpAny _ _ (field (.ref z) 2 >>= _) _ _ _
  refine wpAny_bind (wpAny_field hz rfl (x := .bool false) rfl ?_)
  show wpAny _ _ (field (.ref z) 3 >>= _) _ _ _
  refine wpAny_bind (wpAny_field hz rfl (x := .ref TI) rfl ?_)
  refine wpAny_bind (wpAny_seqItems hTI rfl ?_)
  show wpAny _ _ (Builtin.SmallTypes.ownedTupleIsFree (.ref z) >>= _) _ _ _
  refine wpAny_bind (wpAny_tupleHeld_zip hz hT fun h₁ hz₁ hs₁ => ?_)
  simp only [Bool.false_eq_true, if_false]
  refine wpAny_bind ?_
  rw [← Array.forIn_toList]
  simp only [List.forIn_cons, List.forIn_nil]
  refine wpAny_bind (wpAny_bind (wpAny_holding ?_))
  show wpAny _ _ (Builtin.SmallTypes.nextOf (.ref i1) >>= _) _ _ _
  refine wpAny_bind (nextOf_tuple_item (s := { s with heap := h₁ }) (h1.extBut hs₁.extBut D.i1z) (hl1.extBut hs₁.extBut D.l1z) hx fun h₂ h1₂ hs₂ => wpAny_pure ?_)
  refine wpAny_pure ?_
  refine wpAny_bind (wpAny_bind (wpAny_holding ?_))
  show wpAny _ _ (Builtin.SmallTypes.nextOf (.ref i2) >>= _) _ _ _
  refine wpAny_bind (nextOf_tuple_item (s := { s with heap := h₂ }) ((h2.extBut hs₁.extBut D.i2z).extBut hs₂.extBut D.i12.symm) ((hl2.extBut hs₁.extBut D.l2z).extBut hs₂.extBut D.l2i1) hy fun h₃ h2₃ hs₃ => wpAny_pure ?_)
  refine wpAny_pure (wpAny_pure ?_)
  show wpAny _ _ (newTuple [x, y] >>= _) _ _ _
  refine wpAny_bind (wpAny_newTuple ?_)
  have hsz : h₃.objs.size = s.heap.objs.size := by rw [hs₃.1, hs₂.1, hs₁.1]
  have hz₃ : IsZipHeld h₃ z TI TO T true := hs₃.extBut _ _ D.i2z.symm (hs₂.extBut _ _ D.i1z.symm hz₁)
  have hk : ∀ c o, c ≠ z → c ≠ i1 → c ≠ i2 → s.heap.get? c = some o → h₃.get? c = some o := fun c o c1 c2 c3 e => hs₃.extBut _ _ c3 (hs₂.extBut _ _ c2 (hs₁.extBut _ _ c1 e))
  have h1₃ : h₃.IsTupleIter i1 l1 (k1 + 1) := h1₂.extBut hs₃.extBut D.i12
  refine wpAny_pure ⟨_, rfl, ?_⟩
  show Q (.ref h₃.objs.size) _
  have hp : IsPair (h₃.push { cls := .type "tuple", data := .seq #[x, y] }) h₃.objs.size x y := Heap.get?_push_size _ rfl
  have hz4 : (h₃.push { cls := .type "tuple", data := .seq #[x, y] }).objs.size = h₃.objs.size + 1 := Heap.size_push ..
  rw [hsz] at hp hz4 ⊢
  exact hQ _ (Heap.get?_push_of_some _ hz₃) (h1₃.at fun o e => Heap.get?_push_of_some _ e) (h2₃.at fun o e => Heap.get?_push_of_some _ e) hp hz4 fun c o c1 c2 c3 e => Heap.get?_push_of_some _ (hk c o c1 c2 c3 e)
theorem zipT_end_held {z TI TO T i1 i2 l1 l2 : Addr} {f : Bool} {oT : Obj} {k1 k2 : Nat} {xs ys : Array Value} {Q : Fin → Shared → Prop} (hh : A.handled = none) (D : ZipApart z TI TO i1 i2 l1 l2)
    (hz : IsZipHeld s.heap z TI TO T f) (hT : s.heap.get? T = some oT) (hTI : IsPair s.heap TI (.ref i1) (.ref i2))
    (h1 : s.heap.IsTupleIter i1 l1 k1) (h2 : s.heap.IsTupleIter i2 l2 k2) (hl1 : s.heap.IsTuple l1 xs) (hl2 : s.heap.IsTuple l2 ys) (hend : xs[k1]? = none ∨ ys[k2]? = none)
    (hE : ∀ h' e, (∀ c o, c ≠ z → c ≠ i1 → c ≠ i2 → s.heap.get? c = some o → h'.get? c = some o) → (∃ o, h'.get? e = some o ∧ o.cls = .type "StopIteration") → E (.ref e) { s with heap := h' }) :
    wpAny (model prog w) A (Builtin.«zip.__next__» ⟨[.ref z], []⟩) Q E s := by
  show wpAny _ _ (field (.ref z) 2 >>= _) _ _ _
  refine wpAny_bind (wpAny_field hz rfl (x := .bool false) rfl ?_)
  show wpAny _ _ (field (.ref z) 3 >>= _) _ _ _
  refine wpAny_bind (wpAny_field hz rfl (x := .ref TI) rfl ?_)
  refine wpAny_bind (wpAny_seqItems hTI rfl ?_)
  show wpAny _ _ (Builtin.SmallTypes.ownedTupleIsFree (.ref z) >>= _) _ _ _
  refine wpAny_bind (wpAny_tupleHeld_zip hz hT fun h₁ hz₁ hs₁ => ?_)
  simp only [Bool.false_eq_true, if_false]
  refine wpAny_bind ?_
  rw [← Array.forIn_toList]
  simp only [List.forIn_cons, List.forIn_nil]
  refine wpAny_bind (wpAny_bind (wpAny_holding ?_))
  show wpAny _ _ (Builtin.SmallTypes.nextOf (.ref i1) >>= _) _ _ _
  cases hx : xs[k1]? with
  | none =>
    refine wpAny_bind (nextOf_tuple_end (s := { s with heap := h₁ }) hh (h1.extBut hs₁.extBut D.i1z) (hl1.extBut hs₁.extBut D.l1z) hx fun h₂ e hs₂ he => ?_)
    exact hE h₂ e (fun c o c1 c2 _ x => hs₂ _ _ c2 (hs₁.extBut _ _ c1 x)) he
  | some x =>
    have hy : ys[k2]? = none := by rcases hend with h | h; rw [hx] at h; cases h; exact h
    refine wpAny_bind (nextOf_tuple_item (s := { s with heap := h₁ }) (h1.extBut hs₁.extBut D.i1z) (hl1.extBut hs₁.extBut D.l1z) hx fun h₂ h1₂ hs₂ => wpAny_pure ?_)
    refine wpAny_pure ?_
    refine wpAny_bind (wpAny_bind (wpAny_holding ?_))
    show wpAny _ _ (Builtin.SmallTypes.nextOf (.ref i2) >>= _) _ _ _
    refine wpAny_bind (nextOf_tuple_end (s := { s with heap := h₂ }) hh ((h2.extBut hs₁.extBut D.i2z).extBut hs₂.extBut D.i12.symm) ((hl2.extBut hs₁.extBut D.l2z).extBut hs₂.extBut D.l2i1) hy fun h₃ e hs₃ he => ?_)
    exact hE h₃ e (fun c o c1 c2 c3 x => hs₃ _ _ c3 (hs₂.extBut _ _ c2 (hs₁.extBut _ _ c1 x))) he
theorem pyNext_zipT_item_held {z TI TO T i1 i2 l1 l2 : Addr} {f : Bool} {oT : Obj} {k1 k2 : Nat} {xs ys : Array Value} {x y : Value} {Q : Option Value → Shared → Prop} (D : ZipApart z TI TO i1 i2 l1 l2)
    (hz : IsZipHeld s.heap z TI TO T f) (hT : s.heap.get? T = some oT) (hTI : IsPair s.heap TI (.ref i1) (.ref i2))
    (h1 : s.heap.IsTupleIter i1 l1 k1) (h2 : s.heap.IsTupleIter i2 l2 k2) (hl1 : s.heap.IsTuple l1 xs) (hl2 : s.heap.IsTuple l2 ys) (hx : xs[k1]? = some x) (hy : ys[k2]? = some y)
    (hQ : ∀ h', IsZipHeld h' z TI TO T true → h'.IsTupleIter i1 l1 (k1 + 1) → h'.IsTupleIter i2 l2 (k2 + 1) → IsPair h' s.heap.objs.size x y → h'.objs.size = s.heap.objs.size + 1 →
      (∀ c o, c ≠ z → c ≠ i1 → c ≠ i2 → s.heap.get? c = some o → h'.get? c = some o) → Q (some (.ref s.heap.objs.size)) { s with heap := h' }) :
    wpAny (model prog w) A (pyNext (.ref z)) Q E s := by
  have hTy : s.TypeIs (.ref z) "zip" := ⟨_, hz, rfl⟩
  unfold pyNext
  exact wpAny_bind (wpAny_attempt (wpAny_callSpecial?_slot (name := Str.ofString "__next__") hTy F.slot_zip_next
    (wpAny_call_entry F.slot_zip_next hTy F.entry_zip_next
      (zipT_item_held D hz hT hTI h1 h2 hl1 hl2 hx hy fun h' a1 a3 a4 a5 a6 a7 => wpAny_pure (hQ h' a1 a3 a4 a5 a6 a7)) (F.args_zip_next_1 _))))
theorem pyNext_zipT_end_held {z TI TO T i1 i2 l1 l2 : Addr} {f : Bool} {oT : Obj} {k1 k2 : Nat} {xs ys : Array Value} {Q : Option Value → Shared → Prop} (hh : A.handled = none) (D : ZipApart z TI TO i1 i2 l1 l2)
    (hz : IsZipHeld s.heap z TI TO T f) (hT : s.heap.get? T = some oT) (hTI : IsPair s.heap TI (.ref i1) (.ref i2))
    (h1 : s.heap.IsTupleIter i1 l1 k1) (h2 : s.heap.IsTupleIter i2 l2 k2) (hl1 : s.heap.IsTuple l1 xs) (hl2 : s.heap.IsTuple l2 ys) (hend : xs[k1]? = none ∨ ys[k2]? = none)
    (hQ : ∀ h', (∀ c o, c ≠ z → c ≠ i1 → c ≠ i2 → s.heap.get? c = some o → h'.get? c = some o) → Q none { s with heap := h' }) : wpAny (model prog w) A (pyNext (.ref z)) Q E s := by
  have hTy : s.TypeIs (.ref z) "zip" := ⟨_, hz, rfl⟩
  unfold pyNext
  refine wpAny_bind (wpAny_attempt (wpAny_callSpecial?_slot (name := Str.ofString "__next__") hTy F.slot_zip_next
    (wpAny_call_entry F.slot_zip_next hTy F.entry_zip_next (zipT_end_held hh D hz hT hTI h1 h2 hl1 hl2 hend fun h' e hk he => ?_) (F.args_zip_next_1 _))))
  obtain ⟨o, ho, hc⟩ := he
  refine wpAny_bind (wpAny_isInstance (T := "StopIteration") (b := true) ⟨o, ho, hc⟩ isSubtype_stop ?_)
  exact wpAny_pure (hQ _ hk)
theorem zip_no_len : typeLookup (.type "zip") "__len__" = pure none := by rw [typeLookup_type, builtinLookup_eq_fast]; kernel_rfl
theorem zip_no_hint : typeLookup (.type "zip") "__length_hint__" = pure none := by rw [typeLookup_type, builtinLookup_eq_fast]; kernel_rfl
end
theorem sqT_same {K : PySem.W.Frag} {H H' : Hp} {a : Addr} {xs : List V} (k : Same H H') (h : SqT K H a xs) : SqT K H' a xs := by
  rcases h with (h | ⟨o, h⟩) | h
  · exact .inl (.inl (k _ _ h))
  · exact .inl (.inr ⟨o, k _ _ h⟩)
  · exact .inr h
theorem sqL_same {K : PySem.W.Frag} {H H' : Hp} {a : Addr} {xs : List V} (k : Same H H') (h : SqL K H a xs) : SqL K H' a xs := by
  rcases h with (h | ⟨o, h⟩) | h
  · exact .inl (.inl (k _ _ h))
  · exact .inl (.inr ⟨o, k _ _ h⟩)
  · exact .inr h
/-- the items of the list so far -/
def ZipIts (H : Hp) (xs ys zs : List V) : Prop := ∀ (j : Nat) (v : V), zs[j]? = some v → ∃ T x y, v = .ref T ∧ H T = some (.tup [x, y]) ∧ xs[j]? = some x ∧ ys[j]? = some y
structure ZipSt (X : Cx) (pins : List (Addr × Obj)) (σ : L2.St) (H0 : Hp) (z TI TO i1 i2 a b S : Addr) (xs ys : List V) (i : Nat) (H : Hp) (zs : List V) (s : Shared) : Prop where
  inv : Inv X pins σ H s
  same : Same H0 H
  lst : H S = some (.lst zs)
  len : zs.length = i
  its : ZipIts H xs ys zs
  fp : ∀ c ∈ [z, TI, TO, i1, i2], FpOk X pins H c
  al : ∀ c ∈ [z, TI, TO, i1, i2], ∃ o, s.heap.get? c = some o
  ti : IsPair s.heap TI (.ref i1) (.ref i2)
  h1 : s.heap.IsTupleIter i1 a i
  h2 : s.heap.IsTupleIter i2 b i
  zip : (IsZip s.heap z TI TO .none ∧ ∃ x y, IsPair s.heap TO x y) ∨ ∃ T f us, IsZipHeld s.heap z TI TO T f ∧ H T = some (.tup us)
section
variable {X : Cx} {pins : List (Addr × Obj)} {σ : L2.St} {H0 : Hp} {A : Around} {z TI TO i1 i2 a b S : Addr} {xs ys : List V} {res : Value} {R : Result → Shared → Prop}
theorem zip_push {i : Nat} {H : Hp} {zs : List V} {s : Shared} {h' : Heap} {u u2 : Value} {x y : V} {Tz : Addr} {f : Bool} (I : ZipSt X pins σ H0 z TI TO i1 i2 a b S xs ys i H zs s) (h0S : H0 S = none) (hx : xs[i]? = some x) (hy : ys[i]? = some y) (ru : RelV x u) (ru2 : RelV y u2) (hi : i < sizeLine)
    (hk : ∀ c o, c ∉ [z, TO, i1, i2] → s.heap.get? c = some o → h'.get? c = some o) (hT : IsPair h' s.heap.objs.size u u2) (hti : IsPair h' TI (.ref i1) (.ref i2)) (h1 : h'.IsTupleIter i1 a (i + 1)) (h2 : h'.IsTupleIter i2 b (i + 1))
    (hal : ∀ c ∈ [z, TI, TO, i1, i2], ∃ o, h'.get? c = some o) (hz : IsZipHeld h' z TI TO Tz f) (hTz : Tz = s.heap.objs.size ∨ ∃ us, H Tz = some (.tup us)) :
    ∃ its c, h'.get? S = some { cls := .type "list", data := .seq its c } ∧ its.size = i ∧ ∃ H', ZipSt X pins σ H0 z TI TO i1 i2 a b S xs ys (i + 1) H' (zs ++ [.ref s.heap.objs.size]) { s with heap := h'.update S (Obj.mapSeq (·.push (.ref s.heap.objs.size))) } := by
  have nT : H s.heap.objs.size = none := I.inv.hok.fresh (Nat.le_refl _)
  have hS := I.lst
  obtain ⟨hl0, its, n, r, e⟩ := (show ObjOk X.prog X.w H s.heap S (.lst zs) from I.inv.hok S _ hS)
  have nS : S ∉ [z, TI, TO, i1, i2] := fun q => by
    have := (I.fp S q).1
    rw [hS] at this
    cases this
  have sub : ∀ c, c ∈ [z, TO, i1, i2] → c ∈ [z, TI, TO, i1, i2] := fun c hc => by
    simp only [List.mem_cons, List.not_mem_nil, or_false] at hc ⊢
    rcases hc with q | q | q | q <;> simp [q]
  have new : ObjOk X.prog X.w (upd H s.heap.objs.size (.tup [x, y])) h' s.heap.objs.size (.tup [x, y]) :=
    ⟨by show 2 ≤ sizeLine; decide, [u, u2], .cons ru (.cons ru2 .nil), ⟨_, hT, rfl, _, rfl⟩⟩
  have I1 : Inv X pins σ (upd H s.heap.objs.size (.tup [x, y])) { s with heap := h' } :=
    I.inv.turnedNew (t' := s.toks) (ch := [z, TI, TO, i1, i2]) (fun c o hb q => hk c o (fun q' => hb (sub c q')) q) I.fp (Nat.le_refl _) new
  have hS1 : upd H s.heap.objs.size (.tup [x, y]) S = some (.lst zs) := by rw [upd_ne (ne_of_none hS nT)]; exact hS
  obtain ⟨hl1, its1, n1, r1, e1⟩ := (show ObjOk X.prog X.w (upd H s.heap.objs.size (.tup [x, y])) h' S (.lst zs) from I1.hok S _ hS1)
  have hlen : its1.length = i := by rw [← r1.length]; exact I.len
  refine ⟨its1.toArray, n1, e1, by rw [List.size_toArray]; exact hlen, upd (upd H s.heap.objs.size (.tup [x, y])) S (.lst (zs ++ [.ref s.heap.objs.size])), ?_⟩
  have I2 := I1.lset (its' := its1 ++ [.ref s.heap.objs.size]) (f := (·.push (.ref s.heap.objs.size))) (ys := zs ++ [.ref s.heap.objs.size]) (t' := s.toks) hS1 e1 (by simp) (r1.append (.cons (show RelV (.ref s.heap.objs.size) (.ref s.heap.objs.size) from rfl) .nil)) (by rw [List.length_append, I.len]; exact hi)
  have neS : ∀ c, c ∈ [z, TI, TO, i1, i2] → c ≠ S := fun c hc q => nS (q ▸ hc)
  have neT : ∀ c o, s.heap.get? c = some o → c ≠ s.heap.objs.size := fun c o q => Nat.ne_of_lt (Heap.lt_size q)
  have oth : ∀ c o, c ≠ S → h'.get? c = some o → (h'.update S (Obj.mapSeq (·.push (.ref s.heap.objs.size)))).get? c = some o := fun c o hc q => (Heap.get?_update_other _ _ (Ne.symm hc)).trans q
  have TnS : s.heap.objs.size ≠ S := fun q => by
    rw [q, hS] at nT
    cases nT
  have up : ∀ c o, H c = some o → c ≠ S → upd (upd H s.heap.objs.size (.tup [x, y])) S (.lst (zs ++ [.ref s.heap.objs.size])) c = some o := fun c o q hc => by
    rw [upd_ne hc, upd_ne (ne_of_none q nT)]
    exact q
  exact {
    inv := I2
    same := fun c o q => by
      have q' := I.same c o q
      refine up c o q' fun q2 => ?_
      rw [q2, h0S] at q
      cases q
    lst := upd_same
    len := by rw [List.length_append, I.len]; rfl
    its := fun j v hj => by
      by_cases hlt : j < zs.length
      · rw [List.getElem?_append_left hlt] at hj
        obtain ⟨T, x', y', e1, e2, e3, e4⟩ := I.its j v hj
        refine ⟨T, x', y', e1, up T _ e2 (fun q => ?_), e3, e4⟩
        rw [q, hS] at e2
        cases e2
      · have hj' : j = i := by
          have := (List.getElem?_eq_some_iff.mp hj).1
          rw [List.length_append, List.length_singleton, I.len] at this
          have h3 := I.len
          omega
        subst hj'
        rw [List.getElem?_append_right (by rw [I.len]; exact Nat.le_refl _), I.len, Nat.sub_self] at hj
        have e := (Option.some.inj (show some (V.ref s.heap.objs.size) = some v from hj)).symm
        refine ⟨_, x, y, e, ?_, hx, hy⟩
        rw [upd_ne TnS, upd_same]
    fp := fun c hc => by
      have q := I.fp c hc
      refine ⟨?_, q.2⟩
      rw [upd_ne (neS c hc)]
      have : c ≠ s.heap.objs.size := by
        obtain ⟨o, go⟩ := I.al c hc
        exact neT _ _ go
      rw [upd_ne this]
      exact q.1
    al := fun c hc => by
      obtain ⟨o, go⟩ := hal c hc
      exact ⟨o, oth _ _ (neS c hc) go⟩
    ti := oth _ _ (neS TI (by simp)) hti
    h1 := h1.at fun o q => oth _ o (neS i1 (by simp)) q
    h2 := h2.at fun o q => oth _ o (neS i2 (by simp)) q
    zip := .inr (by
      rcases hTz with q | ⟨us, q⟩
      · exact ⟨Tz, f, [x, y], oth _ _ (neS z (by simp)) hz, by rw [q, upd_ne TnS, upd_same]⟩
      · exact ⟨Tz, f, us, oth _ _ (neS z (by simp)) hz, up Tz _ q fun q2 => by rw [q2, hS] at q; cases q⟩) }
theorem zip_loop (hc : X.calm = true) (hh : A.in1.handled = none) (D : ZipApart z TI TO i1 i2 a b) (h0S : H0 S = none) (hx0 : SqT X.K H0 a xs) (hy0 : SqT X.K H0 b ys) (hn : min xs.length ys.length ≤ 1000)
    (hR : ∀ s' H' zs', ZipIts H' xs ys zs' → zs'.length = min xs.length ys.length → Inv X pins σ H' s' → Same H0 H' → H' S = some (.lst zs') → R (.ok (.ret res)) s') :
    ∀ (k i : Nat) (H : Hp) (zs : List V) (s : Shared), min xs.length ys.length - i = k → i ≤ min xs.length ys.length → ZipSt X pins σ H0 z TI TO i1 i2 a b S xs ys i H zs s →
      codeAny (model X.prog X.w) A (.builtin "list.extend.loop" ⟨[.ref S, .ref z, res], []⟩) R s := by
  intro k
  induction k with
  | zero =>
    intro i H zs s hk hi I
    have hin : i = min xs.length ys.length := by omega
    refine codeAny_builtin F.entry_extend_loop ?_
    rw [Around.under_plainId F.plain_extend_loop _]
    show wpAny _ A.in1 (pyNext (.ref z) >>= _) _ _ s
    obtain ⟨its, rv, p, _⟩ := I.inv.tuple (sqT_same I.same hx0)
    obtain ⟨its2, rv2, p2, _⟩ := I.inv.tuple (sqT_same I.same hy0)
    have l1 := rv.length
    have l2 := rv2.length
    have he : its.toArray[i]? = none ∨ its2.toArray[i]? = none := by
      rcases Nat.le_total xs.length ys.length with q | q
      · exact .inl (by simp; omega)
      · exact .inr (by simp; omega)
    have fin : ∀ h', (∀ c o, c ∉ [z, TI, TO, i1, i2] → s.heap.get? c = some o → h'.get? c = some o) → R (.ok (.ret res)) { s with heap := h' } := fun h' kp => by
      have I1 : Inv X pins σ H { s with heap := h' } := I.inv.turnedL (t' := s.toks) (ch := [z, TI, TO, i1, i2]) kp I.fp
      exact hR _ H zs I.its (by rw [I.len]; exact hin) I1 I.same I.lst
    rcases I.zip with ⟨hz, x0, y0, hTO⟩ | ⟨T, f, us, hz, hT⟩
    · refine wpAny_bind (pyNext_zipT_end hh D hz I.ti hTO I.h1 I.h2 p p2 he fun h' kp => wpAny_pure (fin h' fun c o hb q =>
        kp c o (fun q' => hb (by simp [q'])) (fun q' => hb (by simp [q'])) (fun q' => hb (by simp [q'])) (fun q' => hb (by simp [q'])) q))
    · obtain ⟨_, _, _, oT, eT, _⟩ := I.inv.hok T _ hT
      refine wpAny_bind (pyNext_zipT_end_held hh D hz eT I.ti I.h1 I.h2 p p2 he fun h' kp => wpAny_pure (fin h' fun c o hb q =>
        kp c o (fun q' => hb (by simp [q'])) (fun q' => hb (by simp [q'])) (fun q' => hb (by simp [q'])) q))
  | succ k ih =>
    intro i H zs s hk hi I
    have hlt : i < min xs.length ys.length := by omega
    have hx : xs[i]? = some xs[i] := List.getElem?_eq_getElem (by omega)
    have hy : ys[i]? = some ys[i] := List.getElem?_eq_getElem (by omega)
    have hs63 := sizeLine_eq
    refine codeAny_builtin F.entry_extend_loop ?_
    rw [Around.under_plainId F.plain_extend_loop _]
    show wpAny _ A.in1 (pyNext (.ref z) >>= _) _ _ s
    obtain ⟨its, rv, p, _⟩ := I.inv.tuple (sqT_same I.same hx0)
    obtain ⟨its2, rv2, p2, _⟩ := I.inv.tuple (sqT_same I.same hy0)
    obtain ⟨u, hu, ru⟩ := rv.get hx
    obtain ⟨u2, hu2, ru2⟩ := rv2.get hy
    have fin : ∀ (h' : Heap) (Tz : Addr) (f : Bool), (∀ c o, c ∉ [z, TO, i1, i2] → s.heap.get? c = some o → h'.get? c = some o) → IsPair h' s.heap.objs.size u u2 → IsPair h' TI (.ref i1) (.ref i2) → h'.IsTupleIter i1 a (i + 1) → h'.IsTupleIter i2 b (i + 1) →
        (∀ c ∈ [z, TI, TO, i1, i2], ∃ o, h'.get? c = some o) → IsZipHeld h' z TI TO Tz f → (Tz = s.heap.objs.size ∨ ∃ us, H Tz = some (.tup us)) →
        wpAny (model X.prog X.w) A.in1 (updateSeq S (·.push (.ref s.heap.objs.size)) >>= fun _ => again (.builtin "list.extend.loop" ⟨[.ref S, .ref z, res], []⟩)) (fun fin s' => match fin with | .done f => R (.ok f) s' | .again c' => c'.quiet = true ∧ codeAny (model X.prog X.w) A c' R s') (fun e s' => R (.error e) s') { s with heap := h' } := by
      intro h' Tz f kp hT hti h1 h2 hal hz hTz
      obtain ⟨its', c, eS, esz, H', I'⟩ := zip_push I h0S hx hy ru ru2 (by omega) kp hT hti h1 h2 hal hz hTz
      refine wpAny_bind (wpAny_updateSeq eS rfl (wpAny_pure ⟨plainId_quiet F.plain_extend_loop _, ih (i + 1) H' _ _ (by omega) hlt I'⟩) (by omega) (by show (its'.push _).size ≤ _; rw [Array.size_push]; omega))
    rcases I.zip with ⟨hz, x0, y0, hTO⟩ | ⟨T, f, us, hz, hT⟩
    · refine wpAny_bind (pyNext_zipT_item D hz I.ti hTO I.h1 I.h2 p p2 (x := u) (y := u2) (by simpa using hu) (by simpa using hu2) fun h' z' TO' h1' h2' hT hsz kp => ?_)
      refine fin h' s.heap.objs.size false (fun c o hb q => kp c o (fun q' => hb (by simp [q'])) (fun q' => hb (by simp [q'])) (fun q' => hb (by simp [q'])) (fun q' => hb (by simp [q'])) q) hT (kp _ _ D.TIz D.TITO D.TIi1 D.TIi2 I.ti) h1' h2' (fun c hc => ?_) z' (.inl rfl)
      simp only [List.mem_cons, List.not_mem_nil, or_false] at hc
      rcases hc with q | q | q | q | q
      · rw [q]; exact ⟨_, z'⟩
      · rw [q]; exact ⟨_, kp _ _ D.TIz D.TITO D.TIi1 D.TIi2 I.ti⟩
      · rw [q]; exact ⟨_, TO'⟩
      · rw [q]; obtain ⟨o, e, _⟩ := h1'; exact ⟨o, e⟩
      · rw [q]; obtain ⟨o, e, _⟩ := h2'; exact ⟨o, e⟩
    · obtain ⟨_, _, _, oT, eT, _⟩ := I.inv.hok T _ hT
      refine wpAny_bind (pyNext_zipT_item_held D hz eT I.ti I.h1 I.h2 p p2 (x := u) (y := u2) (by simpa using hu) (by simpa using hu2) fun h' z' h1' h2' hT' hsz kp => ?_)
      obtain ⟨oO, eO⟩ := I.al TO (by simp)
      refine fin h' T true (fun c o hb q => kp c o (fun q' => hb (by simp [q'])) (fun q' => hb (by simp [q'])) (fun q' => hb (by simp [q'])) q) hT' (kp _ _ D.TIz D.TIi1 D.TIi2 I.ti) h1' h2' (fun c hc => ?_) z' (.inr ⟨us, hT⟩)
      simp only [List.mem_cons, List.not_mem_nil, or_false] at hc
      rcases hc with q | q | q | q | q
      · rw [q]; exact ⟨_, z'⟩
      · rw [q]; exact ⟨_, kp _ _ D.TIz D.TIi1 D.TIi2 I.ti⟩
      · rw [q]; exact ⟨_, kp _ _ D.TOz D.TOi1 D.TOi2 eO⟩
      · rw [q]; obtain ⟨o, e, _⟩ := h1'; exact ⟨o, e⟩
      · rw [q]; obtain ⟨o, e, _⟩ := h2'; exact ⟨o, e⟩
/-- list(zip(t, u)) -/
def tLstZip (K : PySem.W.Frag) (t : TA) : TE := fun σ H Q => t σ H fun vs H1 => ∃ a b xs ys, vs = [.ref a, .ref b] ∧ SqT K H1 a xs ∧ SqT K H1 b ys ∧ min xs.length ys.length ≤ 1000 ∧
  ∀ p H' zs, H1 p = none → Same H1 H' → H' p = some (.lst zs) → zs.length = min xs.length ys.length → ZipIts H' xs ys zs → Q (.ref p) H'
theorem pe_listZip {e1 e2 : Expr} {t : TA} {p p2 pos pos2 : Pos} (hc : X.calm = true) (hg : Gl X "list") (hm : X.mg "list" = none) (hg2 : Gl X "zip") (hm2 : X.mg "zip" = none) (ha : PA X [e1, e2] t)
    (na : starEach [.Call (.Name "zip" p2) [e1, e2] [] pos2] X.env = (false, eval (.Call (.Name "zip" p2) [e1, e2] [] pos2) X.env) :: starEach [] X.env := by rfl)
    (hs : starEach [e1, e2] X.env = (false, eval e1 X.env) :: starEach [e2] X.env := by rfl) (hpl : (backTo pos2 (starEach [e2] X.env)).any (·.1) = false := by rfl) :
    PE X (.Call (.Name "list" p) [.Call (.Name "zip" p2) [e1, e2] [] pos2] [] pos) (tLstZip X.K t) := by
  refine ⟨fun pins s σ H Q I h => ?_⟩
  refine Call_ (ld_blt I hg hm boot_list (PyProof.Rows.callWith_type1 (args_cons ?_ na) na))
  refine Call_ (ld_blt I hg2 hm2 PyProof.Rows.boot_zip (PyProof.Rows.callWith_type1 (thn (ha.run pos2 pins s σ H _ I h) fun us s1 ⟨vs, H1, I1, r1, a, b, xs, ys, ex, hqx, hqy, hn, q⟩ => ?_) hs hpl))
  subst ex
  cases r1 with
  | cons r rr =>
  cases rr with
  | cons r' rr =>
  cases rr
  cases r
  cases r'
  obtain ⟨its, rv, p1, _⟩ := I1.tuple hqx
  obtain ⟨its2, rv2, p22, _⟩ := I1.tuple hqy
  obtain ⟨o1, ho1, _⟩ := id p1
  obtain ⟨o2, ho2, _⟩ := id p22
  refine call_zipT (show s1.heap.IsTuple a its.toArray from p1) (show s1.heap.IsTuple b its2.toArray from p22) fun h' hz hTI hTO h1 h2 hsz hk => args_nil ?_
  have I2 : Inv X pins σ H1 { s1 with heap := h' } := I1.kept (t' := s1.toks) hk
  have hz0 : h'.objs.size = s1.heap.objs.size + 5 := hsz
  have lz : s1.heap.objs.size + 4 < h'.objs.size := by omega
  refine callType_codes (Q₁ := fun obj s₁ => obj = .ref h'.objs.size ∧ s₁ = { s1 with heap := h'.push { cls := .type "list", data := .seq #[] } }) F.called_list (F.typeCall_list_1 _) F.entry_list_init
    (code_list_new _ ⟨rfl, rfl⟩) fun obj s₁ h₁ => ?_
  obtain ⟨rfl, rfl⟩ := h₁
  have hS : (h'.push { cls := .type "list", data := .seq #[] }).get? h'.objs.size = some { cls := .type "list", data := .seq #[] } := Heap.get?_push_size _ rfl
  refine ⟨⟨_, hS, rfl⟩, F.args_list_init_2 _ _, ?_⟩
  -- the new list is tracked from now on
  have I3 : Inv X pins σ (upd H1 h'.objs.size (.lst [])) { s1 with heap := h'.push { cls := .type "list", data := .seq #[] } } := I2.lnew (its := []) (t' := s1.toks) .nil (by decide)
  have n0 : H1 h'.objs.size = none := I2.hok.fresh (Nat.le_refl _)
  show wpAny _ _ (do let old ← Builtin.List.listItems (.ref h'.objs.size); Builtin.List.listUpdate (.ref h'.objs.size) (fun _ => #[]); letGo old.toList.reverse; Builtin.List.listExtendWith (.ref h'.objs.size) (.ref (s1.heap.objs.size + 4)) .none) _ _ _
  refine wpAny_bind ?_
  unfold Builtin.List.listItems
  refine wpAny_bind (wpAny_seqItems hS rfl (wpAny_pure ?_))
  show wpAny _ _ (updateSeq h'.objs.size (fun _ => #[]) >>= fun _ => letGo (#[] : Array Value).toList.reverse >>= fun _ => Builtin.List.listExtendWith (.ref h'.objs.size) (.ref (s1.heap.objs.size + 4)) .none) _ _ _
  refine wpAny_bind (wpAny_updateSeq hS rfl ?_)
  have I4 := I3.lset (its := []) (its' := []) (n := 0) (f := fun _ => (#[] : Array Value)) (ys := []) (t' := s1.toks) upd_same hS rfl .nil (by decide)
  rw [upd_upd] at I4
  have hS2 := Heap.get?_update_self (Obj.mapSeq (fun _ => (#[] : Array Value))) hS rfl
  refine wpAny_bind (wpAny_letGo ?_)
  unfold Builtin.List.listExtendWith
  generalize hh4 : ((h'.push { cls := .type "list", data := .seq #[] }).update h'.objs.size (Obj.mapSeq fun _ => (#[] : Array Value))) = h4 at I4 hS2 ⊢
  have oth4 : ∀ c o, h'.get? c = some o → h4.get? c = some o := fun c o e => by
    rw [← hh4]
    exact (Heap.get?_update_other _ _ (Nat.ne_of_gt (Heap.lt_size e))).trans (Heap.get?_push_of_some _ e)
  have hz4 : IsZip h4 (s1.heap.objs.size + 4) (s1.heap.objs.size + 2) (s1.heap.objs.size + 3) .none := oth4 _ _ hz
  refine wpAny_bind (wpAny_typeOf (T := "zip") ⟨_, hz4, rfl⟩ ?_)
  have g1 : Builtin.List.listSameRef (.ref h'.objs.size) (.ref (s1.heap.objs.size + 4)) = false := by
    have ne : ¬ h'.objs.size = s1.heap.objs.size + 4 := by omega
    simp [Builtin.List.listSameRef, ne]
  have g2 : (Value.type "zip" == Value.type "list") = false := by decide
  have g3 : (Value.type "zip" == Value.type "tuple") = false := by decide
  simp only [g1, g2, g3, Bool.or_false, Bool.false_eq_true, if_false]
  refine wpAny_bind (wpAny_pyIter_zip hz4 ?_)
  refine wpAny_bind (wpAny_holding ?_)
  unfold Builtin.List.listLengthHint
  refine wpAny_bind (wpAny_specialOf (T := "zip") ⟨_, hz4, rfl⟩ zip_no_len ?_)
  show wpAny _ _ (specialOf (Value.ref (s1.heap.objs.size + 4)) (Str.ofString "__length_hint__") >>= _) _ _ _
  refine wpAny_bind (wpAny_specialOf (T := "zip") ⟨_, hz4, rfl⟩ zip_no_hint ?_)
  refine wpAny_pure ?_
  show wpAny _ _ (rule "list.extend.makes-room" >>= fun _ => Builtin.List.listTouch (.ref h'.objs.size) >>= fun _ =>
    again (.builtin "list.extend.loop" ⟨[.ref h'.objs.size, .ref (s1.heap.objs.size + 4), .none], []⟩)) _ _ _
  refine wpAny_bind (wpAny_rule ?_)
  refine wpAny_bind ?_
  show wpAny _ _ (updateSeq h'.objs.size (·.push .none) >>= fun _ => updateSeq h'.objs.size (·.pop)) _ _ _
  refine wpAny_bind (wpAny_updateSeq hS2 rfl ?_)
  have hS5 := Heap.get?_update_self (Obj.mapSeq (·.push Value.none)) hS2 rfl
  refine wpAny_updateSeq (hz := by seq_fits) hS5 rfl ?_
  have hS6 := Heap.get?_update_self (Obj.mapSeq (·.pop)) hS5 rfl
  have I5 := I4.lset (its := []) (its' := [.none]) (n := 0) (f := (·.push Value.none)) (ys := [.non]) (t' := s1.toks) upd_same hS2 rfl (.cons rfl .nil) (by decide)
  rw [upd_upd] at I5
  have I6 := I5.lset (its := [.none]) (its' := []) (f := (·.pop)) (ys := []) (t' := s1.toks) upd_same hS5 rfl .nil (by decide)
  rw [upd_upd] at I6
  have oth6 : ∀ c o, h'.get? c = some o → ((h4.update h'.objs.size (Obj.mapSeq (·.push Value.none))).update h'.objs.size (Obj.mapSeq (·.pop))).get? c = some o := fun c o e =>
    have nc := Nat.ne_of_gt (Heap.lt_size e)
    (Heap.get?_update_other _ _ nc).trans ((Heap.get?_update_other _ _ nc).trans (oth4 c o e))
  have al : ∀ c ∈ [s1.heap.objs.size + 4, s1.heap.objs.size + 2, s1.heap.objs.size + 3, s1.heap.objs.size, s1.heap.objs.size + 1], s1.heap.objs.size ≤ c ∧ ∃ o, h'.get? c = some o := fun c hc => by
    simp only [List.mem_cons, List.not_mem_nil, or_false] at hc
    rcases hc with q | q | q | q | q
    · rw [q]; exact ⟨by omega, _, hz⟩
    · rw [q]; exact ⟨by omega, _, hTI⟩
    · rw [q]; exact ⟨by omega, _, hTO⟩
    · rw [q]; obtain ⟨o, e, _⟩ := h1; exact ⟨by omega, o, e⟩
    · rw [q]; obtain ⟨o, e, _⟩ := h2; exact ⟨by omega, o, e⟩
  refine wpAny_pure ⟨plainId_quiet F.plain_extend_loop _, zip_loop (X := X) (pins := pins) (σ := σ) (H0 := H1) (A := X.A.in1) hc (show X.A.in1.in1.handled = none from I.ok.hd hc) (PySem.W.ktu_apart s1.heap.objs.size a b (Heap.lt_size ho1) (Heap.lt_size ho2)) n0 hqx hqy hn (fun s' H' zs' h1 h2 h3 h4 h5 => ?_) _ 0 (upd H1 h'.objs.size (.lst [])) [] _ rfl (Nat.zero_le _) ?_⟩
  · exact ⟨rfl, .ref h'.objs.size, H', h3, rfl, q _ H' zs' n0 h4 h5 h2 h1⟩
  · exact {
      inv := I6
      same := Same.new n0
      lst := upd_same
      len := rfl
      its := fun j v hj => by simp at hj
      fp := fun c hc => by
        obtain ⟨g1, o, g2⟩ := al c hc
        have z := I1.fpOk g1 (I1.hok.fresh g1)
        exact ⟨by rw [upd_ne (Nat.ne_of_lt (Heap.lt_size g2))]; exact z.1, z.2⟩
      al := fun c hc => by
        obtain ⟨_, o, g2⟩ := al c hc
        exact ⟨o, oth6 c o g2⟩
      ti := oth6 _ _ hTI
      h1 := h1.at fun o e => oth6 _ o e
      h2 := h2.at fun o e => oth6 _ o e
      zip := .inl ⟨oth6 _ _ hz, _, _, oth6 _ _ hTO⟩ }
end
end Bf
/-! ### comprehensions whose parts are told in their own block -/
namespace Bf
open PySem PySem.Spec PyProof.Rows L2
section
variable {X : Cx}
theorem pe_lcD {elt tg iter : Expr} {ifs : List Expr} {scope : Scope} {own : List (Str × Nat)} {pos : Pos} {wi : TI} {g : Shared → Hp → Addr → List (Str × Addr) → List Addr → TG} {tt : Shared → Hp → Addr → List (Str × Addr) → List Addr → TT} {te : Shared → Hp → Addr → List (Str × Addr) → List Addr → TE} (hc : X.calm = true) (hN : X.N.Nodup) (hi : PI X tg iter wi) (ok : BlkOk X.N X.env.scope scope own)
    (hg : ∀ (s : Shared) (H : Hp) (C : Addr) (cl : List (Str × Addr)) (fp : List Addr), PG (X.blk s H scope (compEnvC scope cl C X.env) fp) tg (g s H C cl fp)) (ht : ∀ (s : Shared) (H : Hp) (C : Addr) (cl : List (Str × Addr)) (fp : List Addr), PTs (X.blk s H scope (compEnvC scope cl C X.env) fp) ifs (tt s H C cl fp))
    (he : ∀ (s : Shared) (H : Hp) (C : Addr) (cl : List (Str × Addr)) (fp : List Addr), PE (X.blk s H scope (compEnvC scope cl C X.env) fp) elt (te s H C cl fp)) (hs : ∀ x, foldedSetIterable iter X.env x = pure x := by intro _; rfl)
    (eg : ∀ s H C cl fp, g s H C cl fp = g X.s_0 X.H_0 0 [] [] := by intros; rfl) (et : ∀ s H C cl fp, tt s H C cl fp = tt X.s_0 X.H_0 0 [] [] := by intros; rfl) (ee : ∀ s H C cl fp, te s H C cl fp = te X.s_0 X.H_0 0 [] [] := by intros; rfl) :
    PE X (.ListComp elt [⟨tg, iter, ifs, 0⟩] scope pos) (tLc wi (g X.s_0 X.H_0 0 [] []) (tt X.s_0 X.H_0 0 [] []) (te X.s_0 X.H_0 0 [] []) (own.map (·.2))) :=
  pe_lc hc hN hi ok (fun s H C cl fp => eg s H C cl fp ▸ hg s H C cl fp) (fun s H C cl fp => et s H C cl fp ▸ ht s H C cl fp) (fun s H C cl fp => ee s H C cl fp ▸ he s H C cl fp) hs
theorem ps_setLcD {i : Nat} {y : Str} {py : Pos} {elt tg iter : Expr} {ifs : List Expr} {scope : Scope} {own : List (Str × Nat)} {pos spos : Pos} {wi : TI} {g : Shared → Hp → Addr → List (Str × Addr) → List Addr → TG} {tt : Shared → Hp → Addr → List (Str × Addr) → List Addr → TT} {te : Shared → Hp → Addr → List (Str × Addr) → List Addr → TE} (hc : X.calm = true) (hN : X.N.Nodup) (hy : X.N[i]? = some y) (hyl : X.env.scope.names.lookup y = some .local)
    (hsw : swapsWith (.ListComp elt [⟨tg, iter, ifs, 0⟩] scope pos) (some (.Name y py)) spos.line X.env = pure true) (hi : PI X tg iter wi) (ok : BlkOk X.N X.env.scope scope own)
    (hg : ∀ (s : Shared) (H : Hp) (C : Addr) (cl : List (Str × Addr)) (fp : List Addr), PG (X.blk s H scope (compEnvC scope cl C X.env) fp) tg (g s H C cl fp)) (ht : ∀ (s : Shared) (H : Hp) (C : Addr) (cl : List (Str × Addr)) (fp : List Addr), PTs (X.blk s H scope (compEnvC scope cl C X.env) fp) ifs (tt s H C cl fp))
    (he : ∀ (s : Shared) (H : Hp) (C : Addr) (cl : List (Str × Addr)) (fp : List Addr), PE (X.blk s H scope (compEnvC scope cl C X.env) fp) elt (te s H C cl fp)) (hs : ∀ x, foldedSetIterable iter X.env x = pure x := by intro _; rfl)
    (eg : ∀ s H C cl fp, g s H C cl fp = g X.s_0 X.H_0 0 [] [] := by intros; rfl) (et : ∀ s H C cl fp, tt s H C cl fp = tt X.s_0 X.H_0 0 [] [] := by intros; rfl) (ee : ∀ s H C cl fp, te s H C cl fp = te X.s_0 X.H_0 0 [] [] := by intros; rfl) :
    PS X (.Assign [.Name y py] (.ListComp elt [⟨tg, iter, ifs, 0⟩] scope pos) spos) (tAsg (tLc wi (g X.s_0 X.H_0 0 [] []) (tt X.s_0 X.H_0 0 [] []) (te X.s_0 X.H_0 0 [] []) (own.map (·.2))) (gName i)) :=
  ps_setLc hc hN hy hyl hsw hi ok (fun s H C cl fp => eg s H C cl fp ▸ hg s H C cl fp) (fun s H C cl fp => et s H C cl fp ▸ ht s H C cl fp) (fun s H C cl fp => ee s H C cl fp ▸ he s H C cl fp) hs
theorem pe_dcD {kx vx tg iter : Expr} {ifs : List Expr} {scope : Scope} {own : List (Str × Nat)} {pos : Pos} {wi : TI} {g : Shared → Hp → Addr → List (Str × Addr) → List Addr → TG} {tt : Shared → Hp → Addr → List (Str × Addr) → List Addr → TT} {tk tv : Shared → Hp → Addr → List (Str × Addr) → List Addr → TE} (hc : X.calm = true) (hN : X.N.Nodup) (hi : PI X tg iter wi) (ok : BlkOk X.N X.env.scope scope own)
    (hg : ∀ (s : Shared) (H : Hp) (C : Addr) (cl : List (Str × Addr)) (fp : List Addr), PG (X.blk s H scope (compEnvC scope cl C X.env) fp) tg (g s H C cl fp)) (ht : ∀ (s : Shared) (H : Hp) (C : Addr) (cl : List (Str × Addr)) (fp : List Addr), PTs (X.blk s H scope (compEnvC scope cl C X.env) fp) ifs (tt s H C cl fp))
    (hk : ∀ (s : Shared) (H : Hp) (C : Addr) (cl : List (Str × Addr)) (fp : List Addr), PE (X.blk s H scope (compEnvC scope cl C X.env) fp) kx (tk s H C cl fp))
    (he : ∀ (s : Shared) (H : Hp) (C : Addr) (cl : List (Str × Addr)) (fp : List Addr), PE (X.blk s H scope (compEnvC scope cl C X.env) fp) vx (tv s H C cl fp)) (hs : ∀ x, foldedSetIterable iter X.env x = pure x := by intro _; rfl)
    (eg : ∀ s H C cl fp, g s H C cl fp = g X.s_0 X.H_0 0 [] [] := by intros; rfl) (et : ∀ s H C cl fp, tt s H C cl fp = tt X.s_0 X.H_0 0 [] [] := by intros; rfl) (ek : ∀ s H C cl fp, tk s H C cl fp = tk X.s_0 X.H_0 0 [] [] := by intros; rfl) (ee : ∀ s H C cl fp, tv s H C cl fp = tv X.s_0 X.H_0 0 [] [] := by intros; rfl) :
    PE X (.DictComp kx vx [⟨tg, iter, ifs, 0⟩] scope pos) (tDc wi (g X.s_0 X.H_0 0 [] []) (tt X.s_0 X.H_0 0 [] []) (tk X.s_0 X.H_0 0 [] []) (tv X.s_0 X.H_0 0 [] []) (own.map (·.2))) :=
  pe_dc hc hN hi ok (fun s H C cl fp => eg s H C cl fp ▸ hg s H C cl fp) (fun s H C cl fp => et s H C cl fp ▸ ht s H C cl fp) (fun s H C cl fp => ek s H C cl fp ▸ hk s H C cl fp) (fun s H C cl fp => ee s H C cl fp ▸ he s H C cl fp) hs
theorem ps_setDcD {i : Nat} {y : Str} {py : Pos} {kx vx tg iter : Expr} {ifs : List Expr} {scope : Scope} {own : List (Str × Nat)} {pos spos : Pos} {wi : TI} {g : Shared → Hp → Addr → List (Str × Addr) → List Addr → TG} {tt : Shared → Hp → Addr → List (Str × Addr) → List Addr → TT} {tk tv : Shared → Hp → Addr → List (Str × Addr) → List Addr → TE} (hc : X.calm = true) (hN : X.N.Nodup) (hy : X.N[i]? = some y) (hyl : X.env.scope.names.lookup y = some .local)
    (hsw : swapsWith (.DictComp kx vx [⟨tg, iter, ifs, 0⟩] scope pos) (some (.Name y py)) spos.line X.env = pure true) (hi : PI X tg iter wi) (ok : BlkOk X.N X.env.scope scope own)
    (hg : ∀ (s : Shared) (H : Hp) (C : Addr) (cl : List (Str × Addr)) (fp : List Addr), PG (X.blk s H scope (compEnvC scope cl C X.env) fp) tg (g s H C cl fp)) (ht : ∀ (s : Shared) (H : Hp) (C : Addr) (cl : List (Str × Addr)) (fp : List Addr), PTs (X.blk s H scope (compEnvC scope cl C X.env) fp) ifs (tt s H C cl fp))
    (hk : ∀ (s : Shared) (H : Hp) (C : Addr) (cl : List (Str × Addr)) (fp : List Addr), PE (X.blk s H scope (compEnvC scope cl C X.env) fp) kx (tk s H C cl fp))
    (he : ∀ (s : Shared) (H : Hp) (C : Addr) (cl : List (Str × Addr)) (fp : List Addr), PE (X.blk s H scope (compEnvC scope cl C X.env) fp) vx (tv s H C cl fp)) (hs : ∀ x, foldedSetIterable iter X.env x = pure x := by intro _; rfl)
    (eg : ∀ s H C cl fp, g s H C cl fp = g X.s_0 X.H_0 0 [] [] := by intros; rfl) (et : ∀ s H C cl fp, tt s H C cl fp = tt X.s_0 X.H_0 0 [] [] := by intros; rfl) (ek : ∀ s H C cl fp, tk s H C cl fp = tk X.s_0 X.H_0 0 [] [] := by intros; rfl) (ee : ∀ s H C cl fp, tv s H C cl fp = tv X.s_0 X.H_0 0 [] [] := by intros; rfl) :
    PS X (.Assign [.Name y py] (.DictComp kx vx [⟨tg, iter, ifs, 0⟩] scope pos) spos) (tAsg (tDc wi (g X.s_0 X.H_0 0 [] []) (tt X.s_0 X.H_0 0 [] []) (tk X.s_0 X.H_0 0 [] []) (tv X.s_0 X.H_0 0 [] []) (own.map (·.2))) (gName i)) :=
  ps_setDc hc hN hy hyl hsw hi ok (fun s H C cl fp => eg s H C cl fp ▸ hg s H C cl fp) (fun s H C cl fp => et s H C cl fp ▸ ht s H C cl fp) (fun s H C cl fp => ek s H C cl fp ▸ hk s H C cl fp) (fun s H C cl fp => ee s H C cl fp ▸ he s H C cl fp) hs
end
end Bf
/-! ### the second reading: what a transformer gives, in data -/
namespace Bf
open PySem PySem.Spec PyProof.Rows L2
/-- a frame: the addresses that may be written, what holds of the heap throughout -/
structure Fm where
  A : Addr → Prop
  I : Hp → Prop
  tr : ∀ {H : Hp} {a : Addr}, I H → A a → ∃ o, H a = some o ∧ ¬ Imm o
  same : ∀ {H H' : Hp}, I H → Same H H' → I H'
  wr : ∀ {H : Hp} {p : Addr} {o o' : HO}, I H → ¬ A p → H p = some o → (∀ ob u, o ≠ .frz ob u) → I (upd H p o')
def Fm.R (F : Fm) (H H' : Hp) : Prop := F.I H' ∧ ∀ a o, H a = some o → ¬ F.A a → H' a = some o
/-- nothing is written -/
def FS : Fm := ⟨fun _ => False, fun _ => True, fun _ h => h.elim, fun _ _ => trivial, fun _ _ _ _ => trivial⟩
section
variable {F : Fm} {H H' H1 H2 : Hp}
theorem Fm.refl (F : Fm) (h : F.I H) : F.R H H := ⟨h, fun _ _ e _ => e⟩
theorem Fm.trans (a : F.R H H1) (b : F.R H1 H2) : F.R H H2 := ⟨b.1, fun x o e n => b.2 x o (a.2 x o e n) n⟩
theorem Fm.ofSame (h : F.I H) (k : Same H H') : F.R H H' := ⟨F.same h k, fun a o e _ => k a o e⟩
theorem Fm.toPr (h : F.I H) (r : F.R H H') : Pr H H' := fun a o e i => r.2 a o e fun z => by
  obtain ⟨o', e', n⟩ := F.tr h z
  rw [e] at e'
  cases e'
  exact n i
theorem Fm.nA (h : F.I H) {p : Addr} (n : H p = none) : ¬ F.A p := fun z => by
  obtain ⟨o, e, _⟩ := F.tr h z
  rw [n] at e
  cases e
theorem FS_same (r : FS.R H H') : Same H H' := fun a o e => r.2 a o e fun z => z
end
/-- what a value is -/
structure Ev (F : Fm) where
  ok : Hp → V → Prop
  st : ∀ {H H' : Hp} {v : V}, F.I H → F.R H H' → ok H v → ok H' v
variable {F : Fm}
def Ev.d (F : Fm) (d : D) : Ev F := ⟨fun H v => Rep H d v, fun i r h => Rep.pr (Fm.toPr i r) h⟩
def Ev.l (F : Fm) (ds : List D) : Ev F := ⟨fun H v => ∃ a xs, v = .ref a ∧ ¬ F.A a ∧ H a = some (.lst xs) ∧ Reps H ds xs, fun i r ⟨a, xs, e, n, h, q⟩ => ⟨a, xs, e, n, r.2 _ _ h n, Reps.pr (Fm.toPr i r) q⟩⟩
/-- a value as it is -/
def Ev.v (F : Fm) (v0 : V) : Ev F := ⟨fun _ v => v = v0, fun _ _ h => h⟩
/-- one of several -/
def Ev.ex (F : Fm) {ι : Type} (p : ι → Prop) (f : ι → D) : Ev F := ⟨fun H v => ∃ i, p i ∧ Rep H (f i) v, fun i r ⟨x, hp, h⟩ => ⟨x, hp, Rep.pr (Fm.toPr i r) h⟩⟩
def EvsOk (H : Hp) : List (Ev F) → List V → Prop
  | [], vs => vs = []
  | e :: es, vs => ∃ v ws, vs = v :: ws ∧ e.ok H v ∧ EvsOk H es ws
abbrev Env' (F : Fm) := List (Option (Ev F))
def EnvOk (H : Hp) (σ : L2.St) (Γ : Env' F) : Prop := σ.length = Γ.length ∧ ∀ (i : Nat) (e : Ev F), Γ[i]? = some (some e) → ∃ v, σ[i]? = some (some v) ∧ e.ok H v
def startG (n : Nat) (es : List (Ev F)) : Env' F := es.map some ++ List.replicate (n - es.length) none
def wipeG (Γ : Env' F) : List Nat → Env' F
  | [] => Γ
  | v :: vs => (wipeG Γ vs).set v none
section
variable {H H' H1 H2 : Hp} {σ : L2.St} {Γ : Env' F}
theorem EvsOk.st (i : F.I H) (r : F.R H H') : ∀ {es : List (Ev F)} {vs : List V}, EvsOk H es vs → EvsOk H' es vs
  | [], _, h => h
  | e :: _, _, ⟨v, ws, q, h, t⟩ => ⟨v, ws, q, e.st i r h, EvsOk.st i r t⟩
theorem EvsOk.length : ∀ {es : List (Ev F)} {vs : List V}, EvsOk H es vs → vs.length = es.length
  | [], _, h => by
    have e : _ = [] := h
    rw [e]
    rfl
  | _ :: _, _, ⟨v, ws, q, h, t⟩ => by rw [q, List.length_cons, List.length_cons, t.length]
theorem EvsOk.get : ∀ {es : List (Ev F)} {vs : List V} {i : Nat} {e : Ev F}, EvsOk H es vs → es[i]? = some e → ∃ v, vs[i]? = some v ∧ e.ok H v
  | [], _, i, e, _, h => by simp at h
  | e0 :: es, _, 0, e, ⟨v, ws, q, h, t⟩, z => by
    simp at z
    subst z
    exact ⟨v, by rw [q]; rfl, h⟩
  | e0 :: es, _, i + 1, e, ⟨v, ws, q, h, t⟩, z => by
    obtain ⟨x, h1, h2⟩ := EvsOk.get (i := i) t (by simpa using z)
    exact ⟨x, by rw [q]; simpa using h1, h2⟩
theorem EvsOk.ds : ∀ {ds : List D} {vs : List V}, EvsOk H (ds.map (Ev.d F)) vs → Reps H ds vs
  | [], _, h => h
  | _ :: _, _, ⟨v, ws, q, h, t⟩ => ⟨v, ws, q, h, EvsOk.ds t⟩
theorem EnvOk.st (i : F.I H) (r : F.R H H') (h : EnvOk H σ Γ) : EnvOk H' σ Γ := ⟨h.1, fun j e z => by
  obtain ⟨v, h1, h2⟩ := h.2 j e z
  exact ⟨v, h1, e.st i r h2⟩⟩
theorem EnvOk.start {es : List (Ev F)} {vs : List V} {N : List Str} (h : EvsOk H es vs) : EnvOk H (start N vs) (startG N.length es) := by
  have hl := h.length
  refine ⟨by simp [L2.start, startG, hl], fun i e z => ?_⟩
  unfold startG at z
  by_cases hi : i < es.length
  · rw [List.getElem?_append_left (by simpa using hi)] at z
    rw [List.getElem?_map] at z
    obtain ⟨e', h1, h2⟩ := Option.map_eq_some_iff.mp z
    cases h2
    obtain ⟨v, h3, h4⟩ := h.get h1
    refine ⟨v, ?_, h4⟩
    unfold L2.start
    rw [List.getElem?_append_left (by rw [List.length_map, hl]; exact hi), List.getElem?_map, h3]
    rfl
  · rw [List.getElem?_append_right (by simpa using hi), List.getElem?_replicate] at z
    split at z <;> cases z
theorem EnvOk.set {i : Nat} {e : Ev F} {v : V} (h : EnvOk H σ Γ) (q : e.ok H v) : EnvOk H (σ.set i (some v)) (Γ.set i (some e)) := by
  refine ⟨by simp [h.1], fun j e' z => ?_⟩
  by_cases hj : j = i
  · subst hj
    have hlt : j < Γ.length := by
      have := (List.getElem?_eq_some_iff.mp z).1
      simpa using this
    rw [List.getElem?_set_self hlt] at z
    cases z
    exact ⟨v, List.getElem?_set_self (by rw [h.1]; exact hlt), q⟩
  · rw [List.getElem?_set_ne (Ne.symm hj)] at z ⊢
    exact h.2 j e' z
theorem EnvOk.set' {i : Nat} {e : Ev F} {v : V} (h : EnvOk H σ Γ) (q : e.ok H v) : EnvOk H (σ.set i (some v)) (Γ.set i (some e)) := h.set q
theorem EnvOk.wipe (h : EnvOk H σ Γ) : ∀ vs : List Nat, EnvOk H (wipe σ vs) (wipeG Γ vs)
  | [] => h
  | v :: vs => by
    have ih := EnvOk.wipe h vs
    refine ⟨by simp [L2.wipe, wipeG, ih.1], fun j e z => ?_⟩
    unfold wipeG at z
    unfold L2.wipe
    by_cases hj : j = v
    · subst hj
      by_cases hlt : j < (wipeG Γ vs).length
      · rw [List.getElem?_set_self hlt] at z
        cases z
      · rw [List.getElem?_eq_none (by simpa using hlt)] at z
        cases z
    · rw [List.getElem?_set_ne (Ne.symm hj)] at z ⊢
      exact ih.2 j e z
theorem wipe_set {x : Option V} {j : Nat} : ∀ {vs : List Nat}, j ∈ vs → L2.wipe (σ.set j x) vs = L2.wipe σ vs
  | v :: vs, h => by
    unfold L2.wipe
    by_cases hj : j ∈ vs
    · rw [wipe_set hj]
    · have e : j = v := by
        rcases List.mem_cons.mp h with q | q
        · exact q
        · exact absurd q hj
      subst e
      have com : ∀ (vs : List Nat) (τ : L2.St), (L2.wipe (τ.set j x) vs).set j none = (L2.wipe τ vs).set j none := by
        intro vs
        induction vs with
        | nil => intro τ; simp [L2.wipe]
        | cons w ws ih =>
          intro τ
          unfold L2.wipe
          by_cases hw : w = j
          · subst hw
            simp only [List.set_set]
            exact ih τ
          · rw [List.set_comm _ _ hw, ih τ, List.set_comm _ _ (Ne.symm hw)]
      exact com vs σ
theorem wipe_wipe : ∀ {vs : List Nat}, L2.wipe (L2.wipe σ vs) vs = L2.wipe σ vs := by
  have com : ∀ (vs : List Nat) (τ : L2.St) (v : Nat), L2.wipe (τ.set v none) vs = (L2.wipe τ vs).set v none := by
    intro vs
    induction vs with
    | nil => intro τ v; rfl
    | cons w ws ih =>
      intro τ v
      unfold L2.wipe
      by_cases hw : w = v
      · subst hw
        rw [ih]
      · rw [ih, List.set_comm _ _ hw]
  intro vs
  induction vs generalizing σ with
  | nil => rfl
  | cons v vs ih =>
    show (L2.wipe ((L2.wipe σ vs).set v none) vs).set v none = (L2.wipe σ vs).set v none
    rw [com, ih, List.set_set]
end
/-! the judgements -/
def Pd (Γ : Env' F) (t : TE) (e : Ev F) : Prop := ∀ (σ : L2.St) (H : Hp) (Q : VK), F.I H → EnvOk H σ Γ → (∀ v H', F.R H H' → e.ok H' v → Q v H') → t σ H Q
def PdA (Γ : Env' F) (t : TA) (es : List (Ev F)) : Prop := ∀ (σ : L2.St) (H : Hp) (Q : List V → Hp → Prop), F.I H → EnvOk H σ Γ → (∀ vs H', F.R H H' → EvsOk H' es vs → Q vs H') → t σ H Q
def PdT (Γ : Env' F) (t : TT) (b : Bool) : Prop := ∀ (σ : L2.St) (H : Hp) (Q : Bool → Hp → Prop), F.I H → EnvOk H σ Γ → (∀ H', F.R H H' → Q b H') → t σ H Q
/-- what a relation of two values gives -/
def Pd2 (F : Fm) (r : R2) (a b e : Ev F) : Prop := ∀ (x y : V) (H : Hp) (Q : VK), F.I H → a.ok H x → b.ok H y → (∀ v H', F.R H H' → e.ok H' v → Q v H') → r x y H Q
def Pd1 (F : Fm) (r : V → Hp → VK → Prop) (a e : Ev F) : Prop := ∀ (x : V) (H : Hp) (Q : VK), F.I H → a.ok H x → (∀ v H', F.R H H' → e.ok H' v → Q v H') → r x H Q
def PdC (F : Fm) (r : List V → Hp → VK → Prop) (es : List (Ev F)) (e : Ev F) : Prop := ∀ (vs : List V) (H : Hp) (Q : VK), F.I H → EvsOk H es vs → (∀ v H', F.R H H' → e.ok H' v → Q v H') → r vs H Q
section
variable {Γ : Env' F} {ta tb tc : TE} {t : TA} {a b c e : Ev F} {es : List (Ev F)} {d : D} {ds : List D} {r r' : R2}
theorem pd_var {i : Nat} (h : Γ[i]? = some (some e)) : Pd Γ (tVar i) e := fun σ H Q i0 g k => by
  obtain ⟨v, h1, h2⟩ := g.2 i e h
  exact ⟨v, h1, k v H (F.refl i0) h2⟩
theorem pd_non : Pd Γ (tC .non) (Ev.d F .non) := fun σ H Q i g k => k _ H (F.refl i) rfl
theorem pd_bl {x : Bool} : Pd Γ (tC (.bl x)) (Ev.d F (.bl x)) := fun σ H Q i g k => k _ H (F.refl i) rfl
theorem pd_int {x : Int} : Pd Γ (tC (.int x)) (Ev.d F (.int x)) := fun σ H Q i g k => k _ H (F.refl i) rfl
theorem pd_str {x : Str} : Pd Γ (tC (.str x)) (Ev.d F (.str x)) := fun σ H Q i g k => k _ H (F.refl i) rfl
theorem pd_ty {x : String} : Pd Γ (tC (.ty x)) (Ev.v F (.ty x)) := fun σ H Q i g k => k _ H (F.refl i) rfl
theorem pd_op (h : Pd2 F r a b e) (h1 : Pd Γ ta a) (h2 : Pd Γ tb b) : Pd Γ (tOp r ta tb) e := fun σ H Q i g k =>
  h1 σ H _ i g fun x H1 r1 q1 => h2 σ H1 _ r1.1 (g.st i r1) fun y H2 r2 q2 => h x y H2 Q r2.1 (a.st r1.1 r2 q1) q2 fun v H3 r3 q3 => k v H3 (Fm.trans r1 (Fm.trans r2 r3)) q3
theorem pd_un {r : V → Hp → VK → Prop} (h : Pd1 F r a e) (h1 : Pd Γ ta a) : Pd Γ (tUn r ta) e := fun σ H Q i g k =>
  h1 σ H _ i g fun x H1 r1 q1 => h x H1 Q r1.1 q1 fun v H3 r3 q3 => k v H3 (Fm.trans r1 r3) q3
theorem pd_nil : PdA Γ tNil [] := fun σ H Q i g k => k [] H (F.refl i) rfl
theorem pd_cons (h1 : Pd Γ ta a) (h2 : PdA Γ t es) : PdA Γ (tCons ta t) (a :: es) := fun σ H Q i g k =>
  h1 σ H _ i g fun x H1 r1 q1 => h2 σ H1 _ r1.1 (g.st i r1) fun xs H2 r2 q2 => k _ H2 (Fm.trans r1 r2) ⟨x, xs, rfl, a.st r1.1 r2 q1, q2⟩
theorem pd_call {sp : List V → Hp → VK → Prop} (h : PdC F sp es e) (h1 : PdA Γ t es) : Pd Γ (tCB sp t) e := fun σ H Q i g k =>
  h1 σ H _ i g fun xs H1 r1 q1 => h xs H1 Q r1.1 q1 fun v H3 r3 q3 => k v H3 (Fm.trans r1 r3) q3
theorem pd_tup (h : PdA Γ t (ds.map (Ev.d F))) (hl : ds.length ≤ sizeLine := by decide) : Pd Γ (tTup t) (Ev.d F (.tup ds)) := fun σ H Q i g k =>
  h σ H _ i g fun xs H1 r1 q1 => by
    have q := EvsOk.ds q1
    refine ⟨by rw [q.length]; exact hl, fun p n => ?_⟩
    have sm : Same H1 (upd H1 p (.tup xs)) := Same.new n
    exact k _ _ (Fm.trans r1 (Fm.ofSame r1.1 sm)) (Rep.tup upd_same (Reps.same sm q))
theorem pd_lst (h : PdA Γ t (ds.map (Ev.d F))) (hl : ds.length ≤ sizeLine := by decide) : Pd Γ (tLst t) (Ev.l F ds) := fun σ H Q i g k =>
  h σ H _ i g fun xs H1 r1 q1 => by
    have q := EvsOk.ds q1
    refine ⟨by rw [q.length]; exact hl, fun p n => ?_⟩
    have sm : Same H1 (upd H1 p (.lst xs)) := Same.new n
    exact k _ _ (Fm.trans r1 (Fm.ofSame r1.1 sm)) ⟨p, xs, rfl, Fm.nA r1.1 n, upd_same, Reps.same sm q⟩
theorem pd_if {tA : TT} {x : Bool} (h : PdT Γ tA x) (h1 : x = true → Pd Γ ta e) (h2 : x = false → Pd Γ tb e) : Pd Γ (tIf tA ta tb) e := fun σ H Q i g k =>
  h σ H _ i g fun H1 r1 => by
    cases x with
    | true => exact h1 rfl σ H1 Q r1.1 (g.st i r1) fun v H2 r2 q => k v H2 (Fm.trans r1 r2) q
    | false => exact h2 rfl σ H1 Q r1.1 (g.st i r1) fun v H2 r2 q => k v H2 (Fm.trans r1 r2) q
theorem pdt_val {x : Bool} (h : Pd Γ ta (Ev.d F (.bl x))) : PdT Γ (tB ta) x := fun σ H Q i g k => h σ H _ i g fun v H1 r1 q => ⟨x, q, k H1 r1⟩
theorem pdt_test {x : Bool} (h : Pd Γ ta (Ev.d F (.bl x))) : PdT Γ (tTest ta) x := fun σ H Q i g k => h σ H _ i g fun v H1 r1 q => ⟨x, q, k H1 r1⟩
theorem pdt_not {tA : TT} {x : Bool} (h : PdT Γ tA x) : PdT Γ (tNot tA) (!x) := fun σ H Q i g k => h σ H _ i g fun H1 r1 => k H1 r1
theorem pdt_and {tA tB' : TT} {x y : Bool} (h : PdT Γ tA x) (h2 : x = true → PdT Γ tB' y) : PdT Γ (tAnd tA tB') (x && y) := fun σ H Q i g k => h σ H _ i g fun H1 r1 => by
  cases x with
  | true => exact h2 rfl σ H1 _ r1.1 (g.st i r1) fun H2 r2 => k H2 (Fm.trans r1 r2)
  | false => exact k H1 r1
theorem pdt_or {tA tB' : TT} {x y : Bool} (h : PdT Γ tA x) (h2 : x = false → PdT Γ tB' y) : PdT Γ (tOr tA tB') (x || y) := fun σ H Q i g k => h σ H _ i g fun H1 r1 => by
  cases x with
  | true => exact k H1 r1
  | false => exact h2 rfl σ H1 _ r1.1 (g.st i r1) fun H2 r2 => k H2 (Fm.trans r1 r2)
theorem pd_and {x y : Bool} (h : Pd Γ ta (Ev.d F (.bl x))) (h2 : x = true → Pd Γ tb (Ev.d F (.bl y))) : Pd Γ (tAndV ta tb) (Ev.d F (.bl (x && y))) := fun σ H Q i g k => h σ H _ i g fun v H1 r1 q => ⟨x, q, by
  cases x with
  | true => exact h2 rfl σ H1 _ r1.1 (g.st i r1) fun v H2 r2 q => k v H2 (Fm.trans r1 r2) q
  | false => exact k _ H1 r1 rfl⟩
theorem pd_or {x y : Bool} (h : Pd Γ ta (Ev.d F (.bl x))) (h2 : x = false → Pd Γ tb (Ev.d F (.bl y))) : Pd Γ (tOrV ta tb) (Ev.d F (.bl (x || y))) := fun σ H Q i g k => h σ H _ i g fun v H1 r1 q => ⟨x, q, by
  cases x with
  | true => exact k _ H1 r1 rfl
  | false => exact h2 rfl σ H1 _ r1.1 (g.st i r1) fun v H2 r2 q => k v H2 (Fm.trans r1 r2) q⟩
theorem pd_not {x : Bool} (h : Pd Γ ta (Ev.d F (.bl x))) : Pd Γ (tNotV ta) (Ev.d F (.bl (!x))) := fun σ H Q i g k => h σ H _ i g fun v H1 r1 q => ⟨x, q, k _ H1 r1 rfl⟩
theorem pd_chain {x y : Bool} (o1 : Pd2 F r a b (Ev.d F (.bl x))) (o2 : x = true → Pd2 F r' b c (Ev.d F (.bl y))) (h1 : Pd Γ ta a) (h2 : Pd Γ tb b) (h3 : Pd Γ tc c) : Pd Γ (tChain r r' ta tb tc) (Ev.d F (.bl (x && y))) := fun σ H Q i g k =>
  h1 σ H _ i g fun u H1 r1 q1 => h2 σ H1 _ r1.1 (g.st i r1) fun v H2 r2 q2 => o1 u v H2 _ r2.1 (a.st r1.1 r2 q1) q2 fun z H3 r3 q3 => ⟨x, q3, by
    cases x with
    | false => exact k _ H3 (Fm.trans r1 (Fm.trans r2 r3)) rfl
    | true =>
      have r13 := Fm.trans r1 (Fm.trans r2 r3)
      exact h3 σ H3 _ r3.1 (g.st i r13) fun w H4 r4 q4 => o2 rfl v w H4 _ r4.1 (b.st r2.1 (Fm.trans r3 r4) q2) q4 fun z2 H5 r5 q5 => k _ H5 (Fm.trans r13 (Fm.trans r4 r5)) q5⟩
/-- weakening by an equation -/
theorem pd_eq {e' : Ev F} (h : Pd Γ ta e) (q : e = e') : Pd Γ ta e' := q ▸ h
theorem pd_imp {e' : Ev F} (h : Pd Γ ta e) (q : ∀ H v, e.ok H v → e'.ok H v) : Pd Γ ta e' := fun σ H Q i g k => h σ H Q i g fun v H' r z => k v H' r (q _ _ z)
theorem pdt_eq {tA : TT} {x y : Bool} (h : PdT Γ tA x) (q : x = y) : PdT Γ tA y := q ▸ h
theorem pda_eq {es' : List (Ev F)} (h : PdA Γ t es) (q : es = es') : PdA Γ t es' := q ▸ h
end
end Bf
/-! ### the second reading: operators, calls of built-ins -/
namespace Bf
open PySem PySem.Spec PyProof.Rows L2
variable {F : Fm}
section
variable {K : PySem.W.Frag} {ds es : List D} {d dt : D} {a b e : Ev F}
theorem p2_I0i {g : Int → Int → Int} {m n : Int} : Pd2 F (rI0 fun i j => .int (g i j)) (Ev.d F (.int m)) (Ev.d F (.int n)) (Ev.d F (.int (g m n))) := fun x y H Q i h1 h2 k => ⟨m, n, h1, h2, k _ H (F.refl i) rfl⟩
theorem p2_I0b {g : Int → Int → Bool} {m n : Int} : Pd2 F (rI0 fun i j => .bl (g i j)) (Ev.d F (.int m)) (Ev.d F (.int n)) (Ev.d F (.bl (g m n))) := fun x y H Q i h1 h2 k => ⟨m, n, h1, h2, k _ H (F.refl i) rfl⟩
theorem p2_Ii {C : Int → Int → Prop} {g : Int → Int → Int} {m n : Int} (c : C m n) : Pd2 F (rI C fun i j => .int (g i j)) (Ev.d F (.int m)) (Ev.d F (.int n)) (Ev.d F (.int (g m n))) := fun x y H Q i h1 h2 k => ⟨m, n, h1, h2, c, k _ H (F.refl i) rfl⟩
theorem p1_U {g : Int → Int} {m : Int} : Pd1 F (rU fun i => .int (g i)) (Ev.d F (.int m)) (Ev.d F (.int (g m))) := fun x H Q i h1 k => ⟨m, h1, k _ H (F.refl i) rfl⟩
/-- the value of a plain scalar -/
def sv : D → Option V
  | .non => some .non
  | .bl b => some (.bl b)
  | .int i => some (.int i)
  | .str s => some (.str s)
  | _ => none
theorem sv_ok {H : Hp} {d : D} {v u : V} (h : sv d = some v) (r : Rep H d u) : u = v := by
  cases d <;> simp only [sv, Option.some.injEq, reduceCtorEq] at h <;> first | exact h ▸ r | exact nomatch h
theorem p2_eqV {d1 d2 : D} {v1 v2 : V} (h1 : sv d1 = some v1) (h2 : sv d2 = some v2) (s : scal v1 v2 = true) : Pd2 F rEq (Ev.d F d1) (Ev.d F d2) (Ev.d F (.bl (decide (v1 = v2)))) := fun x y H Q i r1 r2 k => by
  cases sv_ok h1 r1
  cases sv_ok h2 r2
  exact ⟨s, k _ H (F.refl i) rfl⟩
theorem p2_neV {d1 d2 : D} {v1 v2 : V} (h1 : sv d1 = some v1) (h2 : sv d2 = some v2) (s : scal v1 v2 = true) : Pd2 F rNe (Ev.d F d1) (Ev.d F d2) (Ev.d F (.bl (!decide (v1 = v2)))) := fun x y H Q i r1 r2 k => by
  cases sv_ok h1 r1
  cases sv_ok h2 r2
  exact ⟨s, k _ H (F.refl i) rfl⟩
theorem p2_eqI {m n : Int} : Pd2 F rEq (Ev.d F (.int m)) (Ev.d F (.int n)) (Ev.d F (.bl (decide (m = n)))) := by
  have h := p2_eqV (F := F) (d1 := .int m) (d2 := .int n) rfl rfl rfl
  have e : decide (V.int m = V.int n) = decide (m = n) := by simp
  rw [e] at h
  exact h
theorem p2_neI {m n : Int} : Pd2 F rNe (Ev.d F (.int m)) (Ev.d F (.int n)) (Ev.d F (.bl (!decide (m = n)))) := by
  have h := p2_neV (F := F) (d1 := .int m) (d2 := .int n) rfl rfl rfl
  have e : decide (V.int m = V.int n) = decide (m = n) := by simp
  rw [e] at h
  exact h
theorem p2_eqS {m n : Str} : Pd2 F rEq (Ev.d F (.str m)) (Ev.d F (.str n)) (Ev.d F (.bl (decide (m = n)))) := by
  have h := p2_eqV (F := F) (d1 := .str m) (d2 := .str n) rfl rfl rfl
  have e : decide (V.str m = V.str n) = decide (m = n) := by simp
  rw [e] at h
  exact h
theorem p2_neS {m n : Str} : Pd2 F rNe (Ev.d F (.str m)) (Ev.d F (.str n)) (Ev.d F (.bl (!decide (m = n)))) := by
  have h := p2_neV (F := F) (d1 := .str m) (d2 := .str n) rfl rfl rfl
  have e : decide (V.str m = V.str n) = decide (m = n) := by simp
  rw [e] at h
  exact h
theorem p2_neB {m n : Bool} : Pd2 F rNe (Ev.d F (.bl m)) (Ev.d F (.bl n)) (Ev.d F (.bl (!decide (m = n)))) := by
  have h := p2_neV (F := F) (d1 := .bl m) (d2 := .bl n) rfl rfl rfl
  have e : decide (V.bl m = V.bl n) = decide (m = n) := by simp
  rw [e] at h
  exact h
def isNon : D → Bool
  | .non => true
  | _ => false
theorem rep_non {H : Hp} {d : D} {v : V} (r : Rep H d v) : decide (v = .non) = isNon d := by
  cases d with
  | non =>
    have e : v = .non := r
    rw [e]
    rfl
  | bl b =>
    have e : v = .bl b := r
    rw [e]
    rfl
  | int b =>
    have e : v = .int b := r
    rw [e]
    rfl
  | str b =>
    have e : v = .str b := r
    rw [e]
    rfl
  | tup l =>
    obtain ⟨a, xs, e, _⟩ := r
    rw [e]
    rfl
  | dict ks l =>
    obtain ⟨a, xs, e, _⟩ := r
    rw [e]
    rfl
  | tupz l =>
    obtain ⟨a, o, xs, e, _⟩ := r
    rw [e]
    rfl
theorem p2_isN : Pd2 F (fun x y H Q => y = .non ∧ Q (.bl (decide (x = .non))) H) (Ev.d F d) (Ev.d F .non) (Ev.d F (.bl (isNon d))) := fun x y H Q i r1 r2 k => ⟨r2, k _ H (F.refl i) (by rw [rep_non r1]; rfl)⟩
theorem p2_notN : Pd2 F (fun x y H Q => y = .non ∧ Q (.bl (!decide (x = .non))) H) (Ev.d F d) (Ev.d F .non) (Ev.d F (.bl (!isNon d))) := fun x y H Q i r1 r2 k => ⟨r2, k _ H (F.refl i) (by rw [rep_non r1]; rfl)⟩
theorem reps_atI {H : Hp} {xs : List V} {i : Int} (r : Reps H ds xs) (h : atI ds i = some d) : ∃ v, atI xs i = some v ∧ Rep H d v := by
  unfold atI at h ⊢
  rw [r.length]
  cases hx : ixN ds.length i with
  | none =>
    rw [hx] at h
    cases h
  | some j =>
    rw [hx] at h
    exact r.get (i := j) h
theorem p2_ixT {i : Int} (ht : TupOf dt = some ds) (h : atI ds i = some d) : Pd2 F (rIxT K) (Ev.d F dt) (Ev.d F (.int i)) (Ev.d F d) := fun x y H Q i0 r1 r2 k => by
  obtain ⟨a, xs, e, hq, q⟩ := Rep.seq r1 ht K
  obtain ⟨v, h1, h2⟩ := reps_atI q h
  exact ⟨a, xs, i, v, e, r2, hq, h1, k _ H (F.refl i0) h2⟩
theorem atI_nat {α : Type} {xs : List α} {k : Nat} : atI xs (k : Int) = xs[k]? := by
  unfold atI ixN
  rw [if_pos (Int.natCast_nonneg k)]
  by_cases h : k < xs.length
  · rw [if_pos (by omega)]
    simp
  · rw [if_neg (by omega), List.getElem?_eq_none (by omega)]
    rfl
theorem p2_ixN {i : Nat} (ht : TupOf dt = some ds) (h : ds[i]? = some d) : Pd2 F (rIxT K) (Ev.d F dt) (Ev.d F (.int (i : Int))) (Ev.d F d) := p2_ixT ht (by rw [atI_nat]; exact h)
theorem p2_ixL {i : Int} (h : atI ds i = some d) : Pd2 F (rIxL K) (Ev.l F ds) (Ev.d F (.int i)) (Ev.d F d) := fun x y H Q i0 ⟨a, xs, e, n, hq, q⟩ r2 k => by
  obtain ⟨v, h1, h2⟩ := reps_atI q h
  exact ⟨a, xs, i, v, e, r2, SqL.of hq, h1, k _ H (F.refl i0) h2⟩
theorem p2_ixLN {i : Nat} (h : ds[i]? = some d) : Pd2 F (rIxL K) (Ev.l F ds) (Ev.d F (.int (i : Int))) (Ev.d F d) := p2_ixL (by rw [atI_nat]; exact h)
theorem p2_ixL0 : Pd2 F (rIxL K) (Ev.l F (d :: ds)) (Ev.d F (.int 0)) (Ev.d F d) := p2_ixLN (i := 0) rfl
theorem atI_last {α : Type} {xs : List α} {x : α} : atI (xs ++ [x]) (-1) = some x := by
  unfold atI ixN
  rw [if_neg (by omega), if_pos (by rw [List.length_append, List.length_singleton]; omega)]
  have e : ((-1 : Int) + ((xs ++ [x]).length : Nat)).toNat = xs.length := by rw [List.length_append, List.length_singleton]; omega
  show (xs ++ [x])[((-1 : Int) + ((xs ++ [x]).length : Nat)).toNat]? = some x
  rw [e]
  simp
theorem p2_ixLL {m : Int} (hm : m = -1) : Pd2 F (rIxL K) (Ev.l F (ds ++ [d])) (Ev.d F (.int m)) (Ev.d F d) := p2_ixL (by rw [hm]; exact atI_last)
theorem p2_ixTL {m : Int} (hm : m = -1) (ht : TupOf dt = some (ds ++ [d])) : Pd2 F (rIxT K) (Ev.d F dt) (Ev.d F (.int m)) (Ev.d F d) := p2_ixT ht (by rw [hm]; exact atI_last)
theorem p2_cat {ds es : List D} (hz : ds.length + es.length ≤ sizeLine) : Pd2 F rCat (Ev.l F ds) (Ev.l F es) (Ev.l F (ds ++ es)) := fun x y H Q i ⟨a, xs, e1, n1, h1, q1⟩ ⟨b, ys, e2, n2, h2, q2⟩ k => by
  refine ⟨a, b, xs, ys, e1, e2, h1, h2, by rw [q1.length, q2.length]; exact hz, fun p n => ?_⟩
  have sm : Same H (upd H p (.lst (xs ++ ys))) := Same.new n
  exact k _ _ (Fm.ofSame i sm) ⟨p, _, rfl, Fm.nA i n, upd_same, Reps.same sm (Reps.append q1 q2)⟩
theorem p2_catT {ds es : List D} (hz : ds.length + es.length ≤ sizeLine) : Pd2 F (rCatA K) (Ev.d F (.tup ds)) (Ev.d F (.tup es)) (Ev.d F (.tup (ds ++ es))) := fun x y H Q i ⟨a, xs, e1, h1, q1⟩ ⟨b, ys, e2, h2, q2⟩ k => by
  refine ⟨a, b, xs, ys, e1, e2, .inl (.inl h1), .inl (.inl h2), by rw [q1.length, q2.length]; exact hz, fun z => ?_, fun _ z => ?_, fun _ _ p n => ?_⟩
  · subst z
    have l := q1.length
    have e : ds = [] := List.eq_nil_of_length_eq_zero (by simpa using l.symm)
    subst e
    exact k _ H (F.refl i) ⟨b, ys, rfl, h2, q2⟩
  · subst z
    have l := q2.length
    have e : es = [] := List.eq_nil_of_length_eq_zero (by simpa using l.symm)
    subst e
    rw [List.append_nil] at k
    exact k _ H (F.refl i) ⟨a, xs, rfl, h1, q1⟩
  · have sm : Same H (upd H p (.tup (xs ++ ys))) := Same.new n
    exact k _ _ (Fm.ofSame i sm) (Rep.tup upd_same (Reps.same sm (Reps.append q1 q2)))
theorem inV_strs {x : Str} : ∀ {l : List Str}, inV (.str x) (l.map V.str) = decide (x ∈ l)
  | [] => rfl
  | y :: l => by
    have ih := inV_strs (x := x) (l := l)
    show (eqV (.str y) (.str x) || inV (.str x) (l.map V.str)) = _
    rw [ih]
    show ((y == x) || _) = _
    by_cases h : y = x
    · subst h
      simp
    · rw [beq_eq_false_iff_ne.mpr h]
      simp [Ne.symm h]
theorem all_strs (l : List Str) : (l.map V.str).all flatV = true := by
  rw [List.all_map]
  exact List.all_eq_true.mpr fun _ _ => rfl
theorem p2_inT {neg : Bool} {x : Str} {l : List Str} (ht : TupOf dt = some (l.map .str)) : Pd2 F (rIn K neg) (Ev.d F (.str x)) (Ev.d F dt) (Ev.d F (.bl (if neg then !decide (x ∈ l) else decide (x ∈ l)))) := fun u y H Q i r1 r2 k => by
  obtain ⟨a, xs, e, hq, q⟩ := Rep.seq r2 ht K
  cases Reps.strs q
  have e1 : u = .str x := r1
  subst e1
  refine ⟨a, _, e, .inr hq, rfl, all_strs l, ?_⟩
  rw [inV_strs]
  exact k _ H (F.refl i) rfl
theorem p2_inSign {c : Nat} {z : Str} : Pd2 F (fun x y H Q => ∃ (c : Nat) (z : Str), x = .str ⟨#[c]⟩ ∧ y = .str z ∧ Q (.bl (decide (c ∈ z.cps.toList))) H) (Ev.d F (.str ⟨#[c]⟩)) (Ev.d F (.str z)) (Ev.d F (.bl (decide (c ∈ z.cps.toList)))) :=
  fun x y H Q i r1 r2 k => ⟨c, z, r1, r2, k _ H (F.refl i) rfl⟩
theorem p2_ltS {m n : Str} : Pd2 F (fun x y H Q => ∃ i j, x = .str i ∧ y = .str j ∧ Q (.bl (decide (i.cps.toList < j.cps.toList))) H) (Ev.d F (.str m)) (Ev.d F (.str n)) (Ev.d F (.bl (decide (m.cps.toList < n.cps.toList)))) :=
  fun x y H Q i r1 r2 k => ⟨m, n, r1, r2, k _ H (F.refl i) rfl⟩
theorem p2_neNil : Pd2 F (rNeNilL K) (Ev.l F ds) (Ev.l F []) (Ev.d F (.bl (!decide (ds = [])))) := fun x y H Q i ⟨a, xs, e1, n1, h1, q1⟩ ⟨b, ys, e2, n2, h2, q2⟩ k => by
  have e : ys = [] := q2
  subst e
  refine ⟨a, b, xs, e1, e2, SqL.of h1, SqL.of h2, ?_⟩
  have e3 : decide (xs = []) = decide (ds = []) := by
    have l := q1.length
    cases xs <;> cases ds <;> simp_all
  rw [e3]
  exact k _ H (F.refl i) rfl
theorem p2_eqNil : Pd2 F (rEqNil K) (Ev.d F (.tup ds)) (Ev.d F (.tup [])) (Ev.d F (.bl (decide (ds = [])))) := fun x y H Q i ⟨a, xs, e1, h1, q1⟩ ⟨b, ys, e2, h2, q2⟩ k => by
  have e : ys = [] := q2
  subst e
  refine ⟨a, b, xs, e1, e2, .inl (.inl h1), .inl (.inl h2), ?_⟩
  have e3 : decide (xs = []) = decide (ds = []) := by
    have l := q1.length
    cases xs <;> cases ds <;> simp_all
  rw [e3]
  exact k _ H (F.refl i) rfl
end
/-! slices -/
def cutD (xs : List D) (lo hi : Option Int) : List D := (xs.drop (HT.sIx xs.length 0 lo)).take (HT.sIx xs.length xs.length hi - HT.sIx xs.length 0 lo)
def PdO (Γ : Env' F) (t : TO) (o : Option Int) : Prop := ∀ (σ : L2.St) (H : Hp) (Q : Option Int → Hp → Prop), F.I H → EnvOk H σ Γ → (∀ H', F.R H H' → Q o H') → t σ H Q
section
variable {K : PySem.W.Frag} {Γ : Env' F} {te : TE} {tl th : TO} {ds : List D} {dt : D} {lo hi : Option Int} {ta : TE}
theorem pdo_none : PdO Γ tNoPart none := fun σ H Q i g k => k H (F.refl i)
theorem pdo_some {n : Int} (h : Pd Γ ta (Ev.d F (.int n))) : PdO Γ (tPart ta) (some n) := fun σ H Q i g k => h σ H _ i g fun v H1 r1 q => ⟨n, q, k H1 r1⟩
theorem cutD_whole {α : Type} (xs : List α) {lo hi : Option Int} (h : HT.sIx xs.length 0 lo = 0 ∧ HT.sIx xs.length xs.length hi = xs.length) : (xs.drop (HT.sIx xs.length 0 lo)).take (HT.sIx xs.length xs.length hi - HT.sIx xs.length 0 lo) = xs := by
  rw [h.1, h.2]
  simp
theorem reps_cut {H : Hp} {xs : List V} (r : Reps H ds xs) : Reps H (cutD ds lo hi) (cutV xs lo hi) := by
  unfold cutD cutV
  rw [r.length]
  exact Reps.take _ (Reps.drop _ r)
theorem pd_slT (h : Pd Γ te (Ev.d F (.tup ds))) (h1 : PdO Γ tl lo) (h2 : PdO Γ th hi) : Pd Γ (tSl (rSlA K) te tl th) (Ev.d F (.tup (cutD ds lo hi))) := fun σ H Q i g k =>
  h σ H _ i g fun x H1 r1 q1 => h1 σ H1 _ r1.1 (g.st i r1) fun H2 r2 => h2 σ H2 _ r2.1 (g.st i (Fm.trans r1 r2)) fun H3 r3 => by
    obtain ⟨a, xs, e, hx, q⟩ := (Ev.d F (.tup ds)).st r1.1 (Fm.trans r2 r3) q1
    have rr := Fm.trans r1 (Fm.trans r2 r3)
    refine ⟨a, xs, e, .inl (.inl hx), fun z => ?_, fun z p n => ?_⟩
    · refine k _ H3 rr ⟨a, xs, rfl, hx, ?_⟩
      have e2 : cutD ds lo hi = ds := cutD_whole ds (by rw [← q.length]; exact z)
      rw [e2]
      exact q
    · have sm : Same H3 (upd H3 p (.tup (cutV xs lo hi))) := Same.new n
      exact k _ _ (Fm.trans rr (Fm.ofSame r3.1 sm)) (Rep.tup upd_same (Reps.same sm (reps_cut q)))
theorem pd_slL (h : Pd Γ te (Ev.l F ds)) (h1 : PdO Γ tl lo) (h2 : PdO Γ th hi) : Pd Γ (tSl (rSlL K) te tl th) (Ev.l F (cutD ds lo hi)) := fun σ H Q i g k =>
  h σ H _ i g fun x H1 r1 q1 => h1 σ H1 _ r1.1 (g.st i r1) fun H2 r2 => h2 σ H2 _ r2.1 (g.st i (Fm.trans r1 r2)) fun H3 r3 => by
    obtain ⟨a, xs, e, hn, hx, q⟩ := (Ev.l F ds).st r1.1 (Fm.trans r2 r3) q1
    have rr := Fm.trans r1 (Fm.trans r2 r3)
    refine ⟨a, xs, e, SqL.of hx, fun p n => ?_⟩
    have sm : Same H3 (upd H3 p (.lst (cutV xs lo hi))) := Same.new n
    exact k _ _ (Fm.trans rr (Fm.ofSame r3.1 sm)) ⟨p, _, rfl, Fm.nA r3.1 n, upd_same, Reps.same sm (reps_cut q)⟩
theorem cutD_to {k : Nat} {xs : List D} : cutD xs none (some (k : Int)) = xs.take k := by
  unfold cutD
  rw [HT.sIx_none, HT.sIx_nat]
  rw [List.drop_zero, Nat.sub_zero, ← List.take_length (l := xs), List.take_take, List.length_take]
  simp
theorem cutD_from {k : Nat} {xs : List D} : cutD xs (some (k : Int)) none = xs.drop k := by
  unfold cutD
  rw [HT.sIx_none, HT.sIx_nat]
  by_cases h : k ≤ xs.length
  · rw [Nat.min_eq_left h, List.take_of_length_le (by rw [List.length_drop]; exact Nat.le_refl _)]
  · rw [Nat.min_eq_right (by omega), List.drop_of_length_le (Nat.le_refl _), List.drop_of_length_le (by omega)]
    simp
end
/-! calls of built-ins -/
section
variable {K : PySem.W.Frag} {ds : List D} {dt d : D}
theorem pc_lenT (ht : TupOf dt = some ds) : PdC F (fun xs H Q => ∃ p ys, xs = [.ref p] ∧ (SqL K H p ys ∨ SqT K H p ys) ∧ Q (.int ys.length) H) [Ev.d F dt] (Ev.d F (.int ds.length)) := fun vs H Q i g k => by
  obtain ⟨v, ws, e, h1, h2⟩ := g
  have e2 : ws = [] := h2
  subst e2
  obtain ⟨a, xs, e3, hq, q⟩ := Rep.seq h1 ht K
  subst e3
  exact ⟨a, xs, e, .inr hq, k _ H (F.refl i) (by rw [q.length]; rfl)⟩
theorem pc_lenL : PdC F (fun xs H Q => ∃ p ys, xs = [.ref p] ∧ (SqL K H p ys ∨ SqT K H p ys) ∧ Q (.int ys.length) H) [Ev.l F ds] (Ev.d F (.int ds.length)) := fun vs H Q i g k => by
  obtain ⟨v, ws, e, ⟨a, xs, e3, _, hq, q⟩, h2⟩ := g
  have e2 : ws = [] := h2
  subst e2
  subst e3
  exact ⟨a, xs, e, .inl (SqL.of hq), k _ H (F.refl i) (by rw [q.length]; rfl)⟩
theorem pc_lenS {z : Str} (hz : z.length ≤ sizeLine) : PdC F (fun xs H Q => ∃ z, xs = [.str z] ∧ z.length ≤ sizeLine ∧ Q (.int z.length) H) [Ev.d F (.str z)] (Ev.d F (.int z.length)) := fun vs H Q i g k => by
  obtain ⟨v, ws, e, h1, h2⟩ := g
  have e2 : ws = [] := h2
  subst e2
  have e3 : v = .str z := h1
  subst e3
  exact ⟨z, e, hz, k _ H (F.refl i) rfl⟩
theorem pc_tupL : PdC F (fun xs H Q => ∃ p ys, xs = [.ref p] ∧ ((SqL K H p ys ∧ ∀ l, H l = none → Q (.ref l) (upd H l (.tup ys))) ∨ (SqT K H p ys ∧ Q (.ref p) H))) [Ev.l F ds] (Ev.d F (.tup ds)) := fun vs H Q i g k => by
  obtain ⟨v, ws, e, ⟨a, xs, e3, _, hq, q⟩, h2⟩ := g
  have e2 : ws = [] := h2
  subst e2
  subst e3
  refine ⟨a, xs, e, .inl ⟨SqL.of hq, fun l n => ?_⟩⟩
  have sm : Same H (upd H l (.tup xs)) := Same.new n
  exact k _ _ (Fm.ofSame i sm) (Rep.tup upd_same (Reps.same sm q))
theorem pc_tupZ : PdC F (fun xs H Q => ∃ p ys, xs = [.ref p] ∧ SqL K H p ys ∧ ∀ l o, H l = none → Frz o → Q (.ref l) (upd H l (.frz o (.tup ys)))) [Ev.l F ds] (Ev.d F (.tupz ds)) := fun vs H Q i g k => by
  obtain ⟨v, ws, e, ⟨a, xs, e3, _, hq, q⟩, h2⟩ := g
  have e2 : ws = [] := h2
  subst e2
  subst e3
  refine ⟨a, xs, e, SqL.of hq, fun l o n z => ?_⟩
  have sm : Same H (upd H l (.frz o (.tup xs))) := Same.new n
  exact k _ _ (Fm.ofSame i sm) (Rep.tupz upd_same z (Reps.same sm q))
theorem pc_all {bs : List Bool} : PdC F (rAll K) [Ev.l F (bs.map .bl)] (Ev.d F (.bl (bs.all id))) := fun vs H Q i g k => by
  obtain ⟨v, ws, e, ⟨a, xs, e3, _, hq, q⟩, h2⟩ := g
  have e2 : ws = [] := h2
  subst e2
  subst e3
  cases Reps.bls q
  exact ⟨a, bs, e, SqL.of hq, k _ H (F.refl i) rfl⟩
theorem pc_sum {ns : List Int} : PdC F (rSum K) [Ev.l F (ns.map .int)] (Ev.d F (.int ns.sum)) := fun vs H Q i g k => by
  obtain ⟨v, ws, e, ⟨a, xs, e3, _, hq, q⟩, h2⟩ := g
  have e2 : ws = [] := h2
  subst e2
  subst e3
  cases Reps.ints q
  exact ⟨a, ns, e, SqL.of hq, k _ H (F.refl i) rfl⟩
theorem pc_int {n : Int} : PdC F (fun xs H Q => (∃ i, xs = [.int i] ∧ Q (.int i) H) ∨ ∃ k, xs = [.bl k] ∧ Q (.int (if k then 1 else 0)) H) [Ev.d F (.int n)] (Ev.d F (.int n)) := fun vs H Q i g k => by
  obtain ⟨v, ws, e, h1, h2⟩ := g
  have e2 : ws = [] := h2
  subst e2
  have e3 : v = .int n := h1
  subst e3
  exact .inl ⟨n, e, k _ H (F.refl i) rfl⟩
/-- the type's name of a datum -/
def tyN : D → Option String
  | .bl _ => some "bool"
  | .int _ => some "int"
  | .str _ => some "str"
  | .tup _ => some "tuple"
  | .tupz _ => some "tuple"
  | .dict _ _ => some "dict"
  | .non => none
theorem pc_isi {T U : String} {x : Bool} (h : tyN d = some T) (hk : PySem.W.kitOne K (.type T) (.type U) = some x) : PdC F (rIsi K) [Ev.d F d, Ev.v F (.ty U)] (Ev.d F (.bl x)) := fun vs H Q i g k => by
  obtain ⟨v, ws, e, h1, w2, us, e1, h2, h3⟩ := g
  have e2 : us = [] := h3
  have e4 : w2 = .ty U := h2
  subst e2 e1 e4
  have q := k (.bl x) H (F.refl i) rfl
  have ty : TyX K H v (.type T) := by
    cases d with
    | non => cases h
    | bl b =>
      cases h
      have e5 : v = .bl b := h1
      rw [e5]
      exact .base (.bl b)
    | int b =>
      cases h
      have e5 : v = .int b := h1
      rw [e5]
      exact .base (.int b)
    | str b =>
      cases h
      have e5 : v = .str b := h1
      rw [e5]
      exact .base (.str b)
    | tup l =>
      cases h
      obtain ⟨a, xs, e5, e6, _⟩ := h1
      rw [e5]
      exact .base (.tup e6)
    | tupz l =>
      cases h
      obtain ⟨a, o, xs, e5, e6, _⟩ := h1
      rw [e5]
      exact .fTuple e6
    | dict ks l =>
      cases h
      obtain ⟨a, o, e5, e6, _⟩ := h1
      rw [e5]
      exact .base (.dK e6)
  exact ⟨v, .ty U, .type T, .type U, x, e, .ty U, ty, hk, q⟩
example : PySem.W.kitOne K (.type "bool") (.type "int") = some true := rfl
end
end Bf
/-! ### the second reading: iterators, comprehensions, statements, promises -/
namespace Bf
open PySem PySem.Spec PyProof.Rows L2
variable {F : Fm}
/-- an iterator over data that stay as long as what cannot be written stays -/
def YD (H0 : Hp) (ds : List D) : Nat → Hp → V → Hp → Prop := fun i H x H' => Same H H' ∧ ∃ d, ds[i]? = some d ∧ Rep H' d x
def PdJ (F : Fm) (Γ : Env' F) (wi : TI) (ds : List D) : Prop := ∀ (σ : L2.St) (H : Hp) (R : It → Hp → Prop), F.I H → EnvOk H σ Γ →
  (∀ J H1, F.R H H1 → L2.Walk J ds.length (fun H' => Pr H1 H') (YD H1 ds) → R J H1) → wi σ H R
def PdI (F : Fm) (Γ : Env' F) (wi : TI) (ds : List D) : Prop := ∀ (σ : L2.St) (H : Hp) (R : It → Hp → Prop), F.I H → EnvOk H σ Γ →
  (∀ J H1, F.R H H1 → L2.Walk J ds.length (fun H' => F.R H1 H') (YD H1 ds) → R J H1) → wi σ H R
section
variable {K : PySem.W.Frag} {Γ : Env' F} {te : TE} {ds es : List D} {dt : D} {wi : TI}
theorem PdJ.i (h : PdJ F Γ wi ds) : PdI F Γ wi ds := fun σ H R i g k => h σ H R i g fun J H1 r w => k J H1 r (w.mono (fun H' z => Fm.toPr r.1 z) fun i H x H' _ _ y => y)
theorem sqT_pr {H H' : Hp} {a : Addr} {xs : List V} (k : Pr H H') (h : SqT K H a xs) : SqT K H' a xs := by
  rcases h with (h | ⟨o, h⟩) | h
  · exact .inl (.inl (k _ _ h trivial))
  · exact .inl (.inr ⟨o, k _ _ h trivial⟩)
  · exact .inr h
theorem pdj_tup (h : Pd Γ te (Ev.d F dt)) (ht : TupOf dt = some ds) : PdJ F Γ (iTup K te) ds := fun σ H R i g k => h σ H _ i g fun v H1 r1 q1 => by
  obtain ⟨a, xs, e, hq, q⟩ := Rep.seq q1 ht K
  refine ⟨a, e, ⟨xs, hq⟩, k _ H1 r1 ?_⟩
  rw [← q.length]
  refine (L2.walk_tup (K := K) (a := a) (xs := xs)).mono (fun H' z => sqT_pr z hq) fun i H x H' hi z y => ?_
  obtain ⟨e1, e2⟩ := y
  subst e1
  obtain ⟨d, h1, h2⟩ := (Reps.pr z q).get' e2
  exact ⟨Same.refl _, d, h1, h2⟩
theorem pdi_list (h : Pd Γ te (Ev.l F ds)) : PdI F Γ (iList K te) ds := fun σ H R i g k => h σ H _ i g fun v H1 r1 q1 => by
  obtain ⟨a, xs, e, hn, hq, q⟩ := q1
  refine ⟨a, e, ⟨xs, SqL.of hq⟩, k _ H1 r1 ?_⟩
  rw [← q.length]
  refine (L2.walk_list (K := K) (a := a) (xs := xs)).mono (fun H' z => SqL.of (z.2 _ _ hq hn)) fun i H x H' hi z y => ?_
  obtain ⟨e1, e2⟩ := y
  subst e1
  obtain ⟨d, h1, h2⟩ := (Reps.pr (Fm.toPr r1.1 z) q).get' e2
  exact ⟨Same.refl _, d, h1, h2⟩
theorem pdj_rng1 {ta : TE} {n : Nat} (h : Pd Γ ta (Ev.d F (.int (n : Int)))) (hn : n < 1000000) : PdJ F Γ (iRng1 (tCons ta tNil)) ((List.range n).map fun i => .int (i : Nat)) := fun σ H R i g k => h σ H _ i g fun v H1 r1 q1 => by
  have e : v = .int n := q1
  refine ⟨(n : Int), by rw [e], by omega, by omega, k _ H1 r1 ?_⟩
  have w := L2.walk_range (lo := 0) (n := n)
  have e1 : ((n : Int)).toNat = n := by omega
  rw [e1]
  have el : ((List.range n).map fun i => D.int (i : Nat)).length = n := by simp
  rw [el]
  refine w.mono (fun _ _ => trivial) fun i H x H' hi _ y => ?_
  obtain ⟨e2, e3⟩ := y
  subst e2
  refine ⟨Same.refl _, .int (i : Nat), by simp [hi], ?_⟩
  rw [e3]
  show V.int (0 + (i : Int)) = V.int (i : Int)
  rw [Int.zero_add]
/-- range(n - 1, -1, -1) -/
theorem pdj_down {ta tb tc : TE} {n : Nat} (h1 : Pd Γ ta (Ev.d F (.int ((n : Int) - 1)))) (h2 : Pd Γ tb (Ev.d F (.int (-1)))) (h3 : Pd Γ tc (Ev.d F (.int (-1)))) (hn : n < 1000000) :
    PdJ F Γ (iRng3 (tCons ta (tCons tb (tCons tc tNil)))) ((List.range n).map fun i => .int ((n - 1 - i : Nat) : Int)) := fun σ H R i g k => h1 σ H _ i g fun v H1 r1 q1 => h2 σ H1 _ r1.1 (g.st i r1) fun v2 H2 r2 q2 => h3 σ H2 _ r2.1 (g.st i (Fm.trans r1 r2)) fun v3 H3 r3 q3 => by
  have e : v = .int ((n : Int) - 1) := q1
  have e2 : v2 = .int (-1) := q2
  have e3 : v3 = .int (-1) := q3
  have c := RgC.neg (i := (n : Int) - 1) (j := -1) (by omega) (by omega) (by omega) (by omega)
  have en : ((n : Int) - 1 - -1).toNat = n := by omega
  rw [en] at c
  refine ⟨(n : Int) - 1, -1, -1, n, by rw [e, e2, e3], c, k _ H3 (Fm.trans r1 (Fm.trans r2 r3)) ?_⟩
  have el : ((List.range n).map fun i => D.int ((n - 1 - i : Nat) : Int)).length = n := by simp
  rw [el]
  refine (L2.walk_rangeC (lo := (n : Int) - 1) (c := -1) (n := n)).mono (fun _ _ => trivial) fun i H x H' hi _ y => ?_
  obtain ⟨e5, e6⟩ := y
  subst e5
  refine ⟨Same.refl _, .int ((n - 1 - i : Nat) : Int), by simp [hi], ?_⟩
  rw [e6]
  show V.int _ = V.int _
  congr 1
  omega
theorem pdj_str {z : Str} (h : Pd Γ te (Ev.d F (.str z))) : PdJ F Γ (iStr te) (z.cps.toList.map fun c => .str ⟨#[c]⟩) := fun σ H R i g k => h σ H _ i g fun v H1 r1 q1 => by
  refine ⟨z, q1, k _ H1 r1 ?_⟩
  have el : (z.cps.toList.map fun c => D.str ⟨#[c]⟩).length = z.cps.size := by simp
  rw [el]
  refine (L2.walk_str (z := z)).mono (fun _ _ => trivial) fun i H x H' hi _ y => ?_
  obtain ⟨e2, c, e3, e4⟩ := y
  subst e2
  refine ⟨Same.refl _, .str ⟨#[c]⟩, by simp [e3], e4⟩
/-- zip of two tuples -/
theorem pdj_zip {ta tb : TE} {d1 d2 : D} (h1 : Pd Γ ta (Ev.d F d1)) (h2 : Pd Γ tb (Ev.d F d2)) (t1 : TupOf d1 = some ds) (t2 : TupOf d2 = some es) : PdJ F Γ (RZ.iZipA K (tCons ta (tCons tb tNil))) ((ds.zip es).map fun p => .tup [p.1, p.2]) :=
  fun σ H R i g k => h1 σ H _ i g fun v H1 r1 q1 => h2 σ H1 _ r1.1 (g.st i r1) fun v2 H2 r2 q2 => by
  obtain ⟨a, xs, e, hq, q⟩ := Rep.seq ((Ev.d F d1).st r1.1 r2 q1) t1 K
  obtain ⟨b, ys, e2, hq2, q2⟩ := Rep.seq q2 t2 K
  refine ⟨a, b, xs, ys, by rw [e, e2], .inr ⟨hq, hq2, k _ H2 (Fm.trans r1 r2) ?_⟩⟩
  have el : ((ds.zip es).map fun p => D.tup [p.1, p.2]).length = min xs.length ys.length := by simp [q.length, q2.length]
  rw [el]
  refine (walk_zipT (K := K) (a := a) (b := b) (xs := xs) (ys := ys) rfl).mono (fun H' z => ⟨sqT_pr z hq, sqT_pr z hq2⟩) fun i H x H' hi z y => ?_
  obtain ⟨T, x1, y1, e5, n, e6, g1, g2⟩ := y
  subst e5
  subst e6
  obtain ⟨dx, f1, f2⟩ := (Reps.pr z q).get' g1
  obtain ⟨dy, f3, f4⟩ := (Reps.pr z q2).get' g2
  have sm : Same H (upd H T (.tup [x1, y1])) := Same.new n
  refine ⟨sm, .tup [dx, dy], ?_, Rep.tup upd_same ⟨x1, _, rfl, Rep.same sm f2, y1, _, rfl, Rep.same sm f4, rfl⟩⟩
  rw [List.getElem?_map, List.getElem?_zip_eq_some (z := (dx, dy)) |>.mpr ⟨f1, f3⟩]
  rfl
/-- enumerate of a tuple -/
theorem pdj_enumT {ta : TE} {d1 : D} (h1 : Pd Γ ta (Ev.d F d1)) (t1 : TupOf d1 = some ds) : PdJ F Γ (iEnumT K (tCons ta tNil)) (ds.zipIdx.map fun p => .tup [.int (p.2 : Nat), p.1]) :=
  fun σ H R i g k => h1 σ H _ i g fun v H1 r1 q1 => by
  obtain ⟨a, xs, e, hq, q⟩ := Rep.seq q1 t1 K
  refine ⟨a, xs, by rw [e], hq, k _ H1 r1 ?_⟩
  have el : (ds.zipIdx.map fun p => D.tup [.int (p.2 : Nat), p.1]).length = xs.length := by simp [q.length]
  rw [el]
  refine (walk_enumT (K := K) (a := a) (xs := xs)).mono (fun H' z => sqT_pr z hq) fun i H x H' hi z y => ?_
  obtain ⟨T, x1, y1, e5, n, e6, g1, g2⟩ := y
  subst e5
  subst e6
  cases g1
  obtain ⟨dy, f3, f4⟩ := (Reps.pr z q).get' g2
  have sm : Same H (upd H T (.tup [.int (i : Nat), y1])) := Same.new n
  refine ⟨sm, .tup [.int (i : Nat), dy], ?_, Rep.tup upd_same ⟨.int (i : Nat), _, rfl, rfl, y1, _, rfl, Rep.same sm f4, rfl⟩⟩
  rw [List.getElem?_map, List.getElem?_zipIdx, f3]
  simp
end
/-! comprehensions -/
/-- one turn: the target is bound, the test gives x, the element gives d -/
def LcB (F : Fm) (Γ : Env' F) (vs : List Nat) (g : TG) (tt : TT) (te : TE) (e : D) (x : Bool) (d : D) : Prop := ∀ (σ : L2.St) (H : Hp) (u : V) (Qy : VK) (Qn : Hp → Prop), F.I H → EnvOk H (L2.wipe σ vs) (wipeG Γ vs) → Rep H e u →
  (∀ y H', F.R H H' → x = true → Rep H' d y → Qy y H') → (∀ H', F.R H H' → x = false → Qn H') →
  g u (L2.wipe σ vs) H fun σ2 H2 => L2.wipe σ2 vs = L2.wipe σ vs ∧ tt σ2 H2 fun b H3 => if b = true then te σ2 H3 Qy else Qn H3
section
variable {K : PySem.W.Frag} {Γ : Env' F} {te : TE} {tt : TT} {g : TG} {vs : List Nat} {wi : TI}
theorem pdt_yes : PdT Γ tYes true := fun σ H Q i g k => k H (F.refl i)
theorem lcb1 {j : Nat} {e d : D} {x : Bool} (hj : j ∈ vs) (h1 : PdT ((wipeG Γ vs).set j (some (Ev.d F e))) tt x) (h2 : x = true → Pd ((wipeG Γ vs).set j (some (Ev.d F e))) te (Ev.d F d)) : LcB F Γ vs (gName j) tt te e x d := fun σ H u Qy Qn i g r k1 k2 => by
  refine ⟨(wipe_set hj).trans wipe_wipe, ?_⟩
  have g1 := EnvOk.set (i := j) (e := Ev.d F e) g r
  refine h1 _ H _ i g1 fun H1 r1 => ?_
  cases x with
  | true => exact h2 rfl _ H1 _ r1.1 (g1.st i r1) fun y H2 r2 q => k1 y H2 (Fm.trans r1 r2) rfl q
  | false => exact k2 H1 r1 rfl
theorem lcb2 {j l : Nat} {e1 e2 d : D} {x : Bool} (hj : j ∈ vs) (hl : l ∈ vs) (h1 : PdT (((wipeG Γ vs).set j (some (Ev.d F e1))).set l (some (Ev.d F e2))) tt x) (h2 : x = true → Pd (((wipeG Γ vs).set j (some (Ev.d F e1))).set l (some (Ev.d F e2))) te (Ev.d F d)) :
    LcB F Γ vs (gTup K 2 (gCons (gName j) (gCons (gName l) gNil))) tt te (.tup [e1, e2]) x d := fun σ H u Qy Qn i g r k1 k2 => by
  obtain ⟨a, xs, e, ha, q⟩ := r
  obtain ⟨y1, y2, e3, q1, q2⟩ := Reps.two q
  subst e3
  refine ⟨a, _, e, .inl (.inl ha), rfl, y1, _, rfl, y2, _, rfl, rfl, ?_⟩
  refine ⟨(wipe_set hl).trans ((wipe_set hj).trans wipe_wipe), ?_⟩
  have g1 := EnvOk.set (i := l) (e := Ev.d F e2) (EnvOk.set (i := j) (e := Ev.d F e1) g q1) q2
  refine h1 _ H _ i g1 fun H1 r1 => ?_
  cases x with
  | true => exact h2 rfl _ H1 _ r1.1 (g1.st i r1) fun y H2 r2 q => k1 y H2 (Fm.trans r1 r2) rfl q
  | false => exact k2 H1 r1 rfl
theorem lcb3 {j l m : Nat} {e1 e2 e3 d : D} {x : Bool} (hj : j ∈ vs) (hl : l ∈ vs) (hm : m ∈ vs) (h1 : PdT ((((wipeG Γ vs).set j (some (Ev.d F e1))).set l (some (Ev.d F e2))).set m (some (Ev.d F e3))) tt x)
    (h2 : x = true → Pd ((((wipeG Γ vs).set j (some (Ev.d F e1))).set l (some (Ev.d F e2))).set m (some (Ev.d F e3))) te (Ev.d F d)) :
    LcB F Γ vs (gTup K 3 (gCons (gName j) (gCons (gName l) (gCons (gName m) gNil)))) tt te (.tup [e1, e2, e3]) x d := fun σ H u Qy Qn i g r k1 k2 => by
  obtain ⟨a, xs, e, ha, q⟩ := r
  obtain ⟨y1, y2, y3, e4, q1, q2, q3⟩ := Reps.three q
  subst e4
  refine ⟨a, _, e, .inl (.inl ha), rfl, y1, _, rfl, y2, _, rfl, y3, _, rfl, rfl, ?_⟩
  refine ⟨(wipe_set hm).trans ((wipe_set hl).trans ((wipe_set hj).trans wipe_wipe)), ?_⟩
  have g1 := EnvOk.set (i := m) (e := Ev.d F e3) (EnvOk.set (i := l) (e := Ev.d F e2) (EnvOk.set (i := j) (e := Ev.d F e1) g q1) q2) q3
  refine h1 _ H _ i g1 fun H1 r1 => ?_
  cases x with
  | true => exact h2 rfl _ H1 _ r1.1 (g1.st i r1) fun y H2 r2 q => k1 y H2 (Fm.trans r1 r2) rfl q
  | false => exact k2 H1 r1 rfl
theorem pd_lc {ι : Type} {is : List ι} {f : ι → D} {p : ι → Bool} {d : ι → D} (hi : PdI F Γ wi (is.map f)) (hb : ∀ i ∈ is, LcB F Γ vs g tt te (f i) (p i) (d i)) (hl : is.length < sizeLine) : Pd Γ (tLc wi g tt te vs) (Ev.l F ((is.filter p).map d)) := fun σ H Q i0 g0 k => by
  refine hi σ H _ i0 g0 fun J H1 r1 w => fun D0 n0 => ?_
  have nA0 : ¬ F.A D0 := Fm.nA r1.1 n0
  have s1 : Same H1 (upd H1 D0 (.lst [])) := Same.new n0
  have g1 := (g0.st i0 r1).wipe vs
  refine L2.lc_it w (Pv := fun i H' => F.R H1 H' ∧ ∃ acc, H' D0 = some (.lst acc) ∧ Reps H' (((is.take i).filter p).map d) acc) ⟨Fm.ofSame r1.1 s1, [], upd_same, Reps.nil⟩ (fun i H' _ z => z.1) (fun i x H' H2 hlt ⟨rr, acc, hD, q⟩ y => ?_) fun H' ⟨rr, acc, hD, q⟩ => ?_
  · obtain ⟨sm, d0, hd0, rx⟩ := y
    rw [List.length_map] at hlt
    rw [List.getElem?_map, List.getElem?_eq_getElem hlt] at hd0
    obtain rfl : f is[i] = d0 := Option.some.inj hd0
    have r2 : F.R H1 H2 := Fm.trans rr (Fm.ofSame rr.1 sm)
    have hD2 := sm _ _ hD
    have q2 := Reps.same sm q
    have tk : is.take (i + 1) = is.take i ++ [is[i]] := by rw [List.take_succ, List.getElem?_eq_getElem hlt]; rfl
    refine hb is[i] (List.getElem_mem hlt) σ H2 x _ _ r2.1 (g1.st r1.1 r2) rx (fun y H3 r3 hp q3 => ?_) fun H3 r3 hp => ?_
    · have hD3 := r3.2 _ _ hD2 nA0
      have q4 := Reps.pr (Fm.toPr r2.1 r3) q2
      have hlen : acc.length ≤ i := by
        rw [q.length, List.length_map]
        exact Nat.le_trans (List.length_filter_le _ _) (by rw [List.length_take]; exact Nat.min_le_left _ _)
      have pr : Pr H3 (upd H3 D0 (.lst (acc ++ [y]))) := Pr.mutL hD3
      refine ⟨acc, hD3, by omega, ⟨F.wr r3.1 nA0 hD3 (fun _ _ z => nomatch z), fun a o e n => ?_⟩, acc ++ [y], upd_same, ?_⟩
      · have ne : a ≠ D0 := ne_of_none e n0
        rw [upd_ne ne]
        exact (Fm.trans r2 r3).2 a o e n
      · rw [tk, List.filter_append, List.map_append]
        refine Reps.append (Reps.pr pr q4) ?_
        have e1 : [is[i]].filter p = [is[i]] := by simp [hp]
        rw [e1]
        exact ⟨y, [], rfl, Rep.pr pr q3, rfl⟩
    · have hD3 := r3.2 _ _ hD2 nA0
      refine ⟨Fm.trans r2 r3, acc, hD3, ?_⟩
      rw [tk, List.filter_append]
      have e1 : [is[i]].filter p = [] := by simp [hp]
      rw [e1, List.append_nil]
      exact Reps.pr (Fm.toPr r2.1 r3) q2
  · rw [List.length_map, List.take_of_length_le (Nat.le_refl _)] at q
    exact k _ H' (Fm.trans r1 rr) ⟨D0, acc, rfl, nA0, hD, q⟩
/-- no test -/
theorem pd_lc' {ι : Type} {is : List ι} {f : ι → D} {d : ι → D} (hi : PdI F Γ wi (is.map f)) (hb : ∀ i ∈ is, LcB F Γ vs g tt te (f i) true (d i)) (hl : is.length < sizeLine) : Pd Γ (tLc wi g tt te vs) (Ev.l F (is.map d)) := by
  have h := pd_lc (p := fun _ => true) hi hb hl
  rw [List.filter_eq_self.mpr fun _ _ => rfl] at h
  exact h
end
/-! promises -/
/-- the promise: whatever the frame, from such arguments such a value -/
def SpG (R : (F : Fm) → List (Ev F) → Ev F → Prop) : Sp := fun vs H Q _ => ∃ (F : Fm) (es : List (Ev F)) (e : Ev F), F.I H ∧ R F es e ∧ EvsOk H es vs ∧ ∀ v H', F.R H H' → e.ok H' v → Q v H'
section
variable {R : (F : Fm) → List (Ev F) → Ev F → Prop} {Γ : Env' F} {ta : TA} {te : TE} {e a : Ev F} {es : List (Ev F)}
theorem spg_use {vs : List V} {H : Hp} {Q : VK} {E : XK} (i : F.I H) (h : R F es e) (q : EvsOk H es vs) (k : ∀ v H', F.R H H' → e.ok H' v → Q v H') : SpG R vs H Q E := ⟨F, es, e, i, h, q, k⟩
theorem pd_cl (h : PdA Γ ta es) (r : R F es e) : Pd Γ (tCl (SpG R) ta) e := fun σ H Q i g k => h σ H _ i g fun vs H1 r1 q => spg_use r1.1 r q fun v H2 r2 z => k v H2 (Fm.trans r1 r2) z
end
/-! statements -/
def Fin (F : Fm) (D : Ends) (e : Ev F) (H : Hp) : Prop := (∀ v H', F.R H H' → e.ok H' v → D.rt v H') ∧ ∀ σ' H', F.R H H' → e.ok H' .non → D.nx σ' H'
theorem Fin.r {D : Ends} {e : Ev F} {H H' : Hp} (h : Fin F D e H) (r : F.R H H') : Fin F D e H' := ⟨fun v H2 r2 q => h.1 v H2 (Fm.trans r r2) q, fun σ H2 r2 q => h.2 σ H2 (Fm.trans r r2) q⟩
def Pds (Γ : Env' F) (t : TS) (e : Ev F) : Prop := ∀ (σ : L2.St) (H : Hp) (D : Ends), F.I H → EnvOk H σ Γ → Fin F D e H → t D σ H
section
variable {K : PySem.W.Frag} {Γ : Env' F} {te : TE} {t u w : TS} {e a : Ev F} {c : TT} {ds : List D} {dt : D}
theorem pds_ret (h : Pd Γ te e) : Pds Γ (tRet te) e := fun σ H D i g f => h σ H _ i g fun v H' r q => f.1 v H' r q
theorem pds_next (h : ∀ H, e.ok H .non) : Pds Γ tNext e := fun σ H D i g f => f.2 σ H (F.refl i) (h H)
theorem pds_nextS (h : Pds Γ u e) : Pds Γ (tSeq tNext u) e := fun σ H D i g f => h σ H D i g f
theorem pds_retS (h : Pd Γ te e) : Pds Γ (tSeq (tRet te) u) e := fun σ H D i g f => h σ H _ i g fun v H' r q => f.1 v H' r q
theorem pds_assoc (h : Pds Γ (tSeq t (tSeq u w)) e) : Pds Γ (tSeq (tSeq t u) w) e := h
theorem pds_set {i : Nat} (h : Pd Γ te a) (h2 : Pds (Γ.set i (some a)) u e) : Pds Γ (tSeq (tAsg te (gName i)) u) e := fun σ H D i0 g f => h σ H _ i0 g fun v H1 r q => h2 _ H1 D r.1 (EnvOk.set (g.st i0 r) q) (f.r r)
theorem pds_drop (h : Pd Γ te a) (h2 : Pds Γ u e) : Pds Γ (tSeq (tDrop te) u) e := fun σ H D i0 g f => h σ H _ i0 g fun v H1 r q => h2 _ H1 D r.1 (g.st i0 r) (f.r r)
theorem pds_ifS {b : Bool} (h : PdT Γ c b) (h1 : b = true → Pds Γ (tSeq t w) e) (h2 : b = false → Pds Γ (tSeq u w) e) : Pds Γ (tSeq (tIfS c t u) w) e := fun σ H D i0 g f => h σ H _ i0 g fun H1 r => by
  cases b with
  | true => exact h1 rfl σ H1 D r.1 (g.st i0 r) (f.r r)
  | false => exact h2 rfl σ H1 D r.1 (g.st i0 r) (f.r r)
theorem pds_if {b : Bool} (h : PdT Γ c b) (h1 : b = true → Pds Γ t e) (h2 : b = false → Pds Γ u e) : Pds Γ (tIfS c t u) e := fun σ H D i0 g f => h σ H _ i0 g fun H1 r => by
  cases b with
  | true => exact h1 rfl σ H1 D r.1 (g.st i0 r) (f.r r)
  | false => exact h2 rfl σ H1 D r.1 (g.st i0 r) (f.r r)
theorem pds_eq {e' : Ev F} (h : Pds Γ t e) (q : e = e') : Pds Γ t e' := q ▸ h
theorem pds_two {i j : Nat} {d1 d2 : D} (h : Pd Γ te (Ev.d F dt)) (ht : TupOf dt = some [d1, d2]) (h2 : Pds ((Γ.set i (some (Ev.d F d1))).set j (some (Ev.d F d2))) u e) : Pds Γ (tSeq (tAsg te (gTup K 2 (gCons (gName i) (gCons (gName j) gNil)))) u) e := fun σ H D i0 g f => h σ H _ i0 g fun v H1 r q => by
  obtain ⟨a, xs, e1, ha, q⟩ := Rep.seq q ht K
  obtain ⟨y1, y2, e3, q1, q2⟩ := Reps.two q
  subst e3
  exact ⟨a, _, e1, ha, rfl, y1, _, rfl, y2, _, rfl, rfl, h2 _ H1 D r.1 (EnvOk.set (EnvOk.set (g.st i0 r) q1) q2) (f.r r)⟩
theorem pds_three {i j l : Nat} {d1 d2 d3 : D} (h : Pd Γ te (Ev.d F dt)) (ht : TupOf dt = some [d1, d2, d3]) (h2 : Pds (((Γ.set i (some (Ev.d F d1))).set j (some (Ev.d F d2))).set l (some (Ev.d F d3))) u e) :
    Pds Γ (tSeq (tAsg te (gTup K 3 (gCons (gName i) (gCons (gName j) (gCons (gName l) gNil))))) u) e := fun σ H D i0 g f => h σ H _ i0 g fun v H1 r q => by
  obtain ⟨a, xs, e1, ha, q⟩ := Rep.seq q ht K
  obtain ⟨y1, y2, y3, e3, q1, q2, q3⟩ := Reps.three q
  subst e3
  exact ⟨a, _, e1, ha, rfl, y1, _, rfl, y2, _, rfl, y3, _, rfl, rfl, h2 _ H1 D r.1 (EnvOk.set (EnvOk.set (EnvOk.set (g.st i0 r) q1) q2) q3) (f.r r)⟩
theorem pds_four {i j l m : Nat} {d1 d2 d3 d4 : D} (h : Pd Γ te (Ev.d F dt)) (ht : TupOf dt = some [d1, d2, d3, d4]) (h2 : Pds ((((Γ.set i (some (Ev.d F d1))).set j (some (Ev.d F d2))).set l (some (Ev.d F d3))).set m (some (Ev.d F d4))) u e) :
    Pds Γ (tSeq (tAsg te (gTup K 4 (gCons (gName i) (gCons (gName j) (gCons (gName l) (gCons (gName m) gNil)))))) u) e := fun σ H D i0 g f => h σ H _ i0 g fun v H1 r q => by
  obtain ⟨a, xs, e1, ha, q⟩ := Rep.seq q ht K
  obtain ⟨y1, y2, y3, y4, e3, q1, q2, q3, q4⟩ := Reps.four q
  subst e3
  exact ⟨a, _, e1, ha, rfl, y1, _, rfl, y2, _, rfl, y3, _, rfl, y4, _, rfl, rfl, h2 _ H1 D r.1 (EnvOk.set (EnvOk.set (EnvOk.set (EnvOk.set (g.st i0 r) q1) q2) q3) q4) (f.r r)⟩
theorem pds_par {i j : Nat} {ta : TA} {a1 a2 : Ev F} (h : PdA Γ ta [a1, a2]) (h2 : Pds ((Γ.set i (some a1)).set j (some a2)) u e) : Pds Γ (tSeq (tPar i j ta) u) e := fun σ H D i0 g f => h σ H _ i0 g fun vs H1 r q => by
  obtain ⟨v, ws, e1, q1, w2, us, e2, q2, e3⟩ := q
  have e3' : us = [] := e3
  subst e3' e2
  exact ⟨v, w2, e1, h2 _ H1 D r.1 (EnvOk.set (EnvOk.set (g.st i0 r) q1) q2) (f.r r)⟩
end
/-- a pure def -/
theorem fn_pure {P : Program} {w : World} {K : PySem.W.Frag} {mg : Str → Option Value} {base : Heap} {x qual : Str} {st : Stmt} {f : Addr} {N ps : List Str} {k : Nat} {R : (F : Fm) → List (Ev F) → Ev F → Prop} (FF : FD K x qual st f) (S : FnScope N ps (defScope st))
    (len : ∀ F es e, R F es e → es.length = ps.length)
    (hbody : ∀ (cdv : Value) (A : Around) (outer : List Env) (s : Shared) (H : Hp) (E : XK), Room k (A.deeper (envOfC qual (defScope st) s.heap.objs.size f cdv)) →
      ∃ t, PSs (cxOf CX0 P w K mg base N qual (defScope st) f cdv A outer s H E).nox (defBody st) t ∧ ∀ (F : Fm) es e, R F es e → Pds (startG N.length es) t e)
    (hb : ∀ (kV doc pm : Value) (an : Option Addr) (cdv ct : Value) (us : List Value), us.length = ps.length → bindArgs (PySem.W.fnOf x qual (defArgs st) (defBody st) (defScope st) .none kV doc pm an cdv ct) ⟨us, []⟩ = pure (ps.zip us)) :
    FnR P w K mg base CX0 (k + 1) f (SpG R) := by
  refine fnr_of FF S hb (fun vs H Q E h => ?_) fun cdv A outer s H vs Q E hr h => ?_
  · obtain ⟨F, es, e, i, r, q, _⟩ := h
    rw [q.length, len F es e r]
  · obtain ⟨F, es, e, i, r, q, kk⟩ := h
    obtain ⟨t, h1, h2⟩ := hbody cdv A outer s H E hr
    refine ⟨t, h1, h2 F es e r (start N vs) H _ i (EnvOk.start q) ⟨fun v H' rr z => kk v H' rr z, fun σ' H' rr z => kk _ H' rr z⟩⟩
section
variable {Γ : Env' F} {ta tb : TE} {t : TA} {a b e : Ev F} {es : List (Ev F)} {r : R2} {ds : List D}
theorem pd_op' (h1 : Pd Γ ta a) (h2 : Pd Γ tb b) (h : Pd2 F r a b e) : Pd Γ (tOp r ta tb) e := pd_op h h1 h2
theorem pd_un' {r : V → Hp → VK → Prop} (h1 : Pd Γ ta a) (h : Pd1 F r a e) : Pd Γ (tUn r ta) e := pd_un h h1
theorem pd_call' {sp : List V → Hp → VK → Prop} (h1 : PdA Γ t es) (h : PdC F sp es e) : Pd Γ (tCB sp t) e := pd_call h h1
theorem pd_tup' (h : PdA Γ t es) (q : es = ds.map (Ev.d F)) (hl : ds.length ≤ sizeLine) : Pd Γ (tTup t) (Ev.d F (.tup ds)) := pd_tup (q ▸ h) hl
theorem pd_lst' (h : PdA Γ t es) (q : es = ds.map (Ev.d F)) (hl : ds.length ≤ sizeLine) : Pd Γ (tLst t) (Ev.l F ds) := pd_lst (q ▸ h) hl
end
theorem len1 {us : List Value} (h : us.length = 1) : ∃ a, us = [a] := by
  match us, h with
  | [a], _ => exact ⟨a, rfl⟩
theorem len2 {us : List Value} (h : us.length = 2) : ∃ a b, us = [a, b] := by
  match us, h with
  | [a, b], _ => exact ⟨a, b, rfl⟩
theorem len3 {us : List Value} (h : us.length = 3) : ∃ a b c, us = [a, b, c] := by
  match us, h with
  | [a, b, c], _ => exact ⟨a, b, c, rfl⟩
theorem len4 {us : List Value} (h : us.length = 4) : ∃ a b c d, us = [a, b, c, d] := by
  match us, h with
  | [a, b, c, d], _ => exact ⟨a, b, c, d, rfl⟩
theorem len5 {us : List Value} (h : us.length = 5) : ∃ a b c d e, us = [a, b, c, d, e] := by
  match us, h with
  | [a, b, c, d, e], _ => exact ⟨a, b, c, d, e, rfl⟩
end Bf
/-! ### the second reading: loops -/
namespace Bf
open PySem PySem.Spec PyProof.Rows L2
variable {F : Fm}
/-- a block that comes to its end with other data, or returns e -/
def Pdb (Γ : Env' F) (t : TS) (Γ' : Env' F) (e : Ev F) : Prop := ∀ (σ : L2.St) (H : Hp) (D : Ends), F.I H → EnvOk H σ Γ → (∀ v H', F.R H H' → e.ok H' v → D.rt v H') → (∀ σ' H', F.R H H' → EnvOk H' σ' Γ' → D.nx σ' H') → t D σ H
/-- a block that returns e -/
def Pdr (Γ : Env' F) (t : TS) (e : Ev F) : Prop := ∀ (σ : L2.St) (H : Hp) (D : Ends), F.I H → EnvOk H σ Γ → (∀ v H', F.R H H' → e.ok H' v → D.rt v H') → t D σ H
theorem evs_app {H : Hp} {es : List (Ev F)} {ys : List V} (q2 : EvsOk H es ys) : ∀ {ds : List D} {xs : List V}, Reps H ds xs → EvsOk H (ds.map (Ev.d F) ++ es) (xs ++ ys)
  | [], xs, q => by
    have e : xs = [] := q
    subst e
    exact q2
  | d :: ds, xs, q => by
    obtain ⟨x, zs, e2, q4, q5⟩ := q
    subst e2
    exact ⟨x, _, rfl, q4, evs_app q2 q5⟩
section
variable {K : PySem.W.Frag} {Γ Γ' Γ1 : Env' F} {te : TE} {t u w tb : TS} {e a : Ev F} {c : TT} {ds : List D} {dt : D} {wi : TI}
theorem EnvOk.weak {H : Hp} {σ : L2.St} (h : EnvOk H σ Γ) (hl : Γ'.length = Γ.length) (w : ∀ (i : Nat) (e : Ev F), Γ'[i]? = some (some e) → Γ[i]? = some (some e)) : EnvOk H σ Γ' := ⟨by rw [hl]; exact h.1, fun i e z => h.2 i e (w i e z)⟩
theorem pdb_next : Pdb Γ tNext Γ e := fun σ H D i g k1 k2 => k2 σ H (F.refl i) g
theorem pdb_nextS (h : Pdb Γ u Γ' e) : Pdb Γ (tSeq tNext u) Γ' e := fun σ H D i g k1 k2 => h σ H D i g k1 k2
theorem pdb_weak (h : Pdb Γ t Γ1 e) (hl : Γ'.length = Γ1.length) (w : ∀ (i : Nat) (e : Ev F), Γ'[i]? = some (some e) → Γ1[i]? = some (some e)) : Pdb Γ t Γ' e := fun σ H D i g k1 k2 => h σ H D i g k1 fun σ' H' r z => k2 σ' H' r (z.weak hl w)
theorem pdb_set {i : Nat} (h : Pd Γ te a) : Pdb Γ (tAsg te (gName i)) (Γ.set i (some a)) e := fun σ H D i0 g k1 k2 => h σ H _ i0 g fun v H1 r q => k2 _ H1 r (EnvOk.set (g.st i0 r) q)
theorem pdb_setS {i : Nat} (h : Pd Γ te a) (h2 : Pdb (Γ.set i (some a)) u Γ' e) : Pdb Γ (tSeq (tAsg te (gName i)) u) Γ' e := fun σ H D i0 g k1 k2 => h σ H _ i0 g fun v H1 r q => h2 _ H1 D r.1 (EnvOk.set (g.st i0 r) q) (fun v H' r' z => k1 v H' (Fm.trans r r') z) fun σ' H' r' z => k2 σ' H' (Fm.trans r r') z
theorem pdb_two {i j : Nat} {d1 d2 : D} (h : Pd Γ te (Ev.d F dt)) (ht : TupOf dt = some [d1, d2]) (h2 : Pdb ((Γ.set i (some (Ev.d F d1))).set j (some (Ev.d F d2))) u Γ' e) : Pdb Γ (tSeq (tAsg te (gTup K 2 (gCons (gName i) (gCons (gName j) gNil)))) u) Γ' e := fun σ H D i0 g k1 k2 => h σ H _ i0 g fun v H1 r q => by
  obtain ⟨a, xs, e1, ha, q⟩ := Rep.seq q ht K
  obtain ⟨y1, y2, e3, q1, q2⟩ := Reps.two q
  subst e3
  exact ⟨a, _, e1, ha, rfl, y1, _, rfl, y2, _, rfl, rfl, h2 _ H1 D r.1 (EnvOk.set (EnvOk.set (g.st i0 r) q1) q2) (fun v H' r' z => k1 v H' (Fm.trans r r') z) fun σ' H' r' z => k2 σ' H' (Fm.trans r r') z⟩
theorem pdb_ifS {b : Bool} (h : PdT Γ c b) (h1 : b = true → Pdb Γ (tSeq t w) Γ' e) (h2 : b = false → Pdb Γ (tSeq u w) Γ' e) : Pdb Γ (tSeq (tIfS c t u) w) Γ' e := fun σ H D i0 g k1 k2 => h σ H _ i0 g fun H1 r => by
  have k1' := fun v H' r' z => k1 v H' (Fm.trans r r') z
  have k2' := fun σ' H' r' z => k2 σ' H' (Fm.trans r r') z
  cases b with
  | true => exact h1 rfl σ H1 D r.1 (g.st i0 r) k1' k2'
  | false => exact h2 rfl σ H1 D r.1 (g.st i0 r) k1' k2'
theorem pdb_if {b : Bool} (h : PdT Γ c b) (h1 : b = true → Pdb Γ t Γ' e) (h2 : b = false → Pdb Γ u Γ' e) : Pdb Γ (tIfS c t u) Γ' e := fun σ H D i0 g k1 k2 => h σ H _ i0 g fun H1 r => by
  have k1' := fun v H' r' z => k1 v H' (Fm.trans r r') z
  have k2' := fun σ' H' r' z => k2 σ' H' (Fm.trans r r') z
  cases b with
  | true => exact h1 rfl σ H1 D r.1 (g.st i0 r) k1' k2'
  | false => exact h2 rfl σ H1 D r.1 (g.st i0 r) k1' k2'
theorem pdb_skip (h : PdT Γ c false) (h2 : Pdb Γ u Γ' e) : Pdb Γ (tSeq (tIfS c t tNext) u) Γ' e := pdb_ifS h (fun z => nomatch z) fun _ => pdb_nextS h2
theorem pdr_b (h : Pdr Γ t e) : Pdb Γ t Γ' e := fun σ H D i g k1 _ => h σ H D i g k1
theorem pdr_ret (h : Pd Γ te e) : Pdr Γ (tRet te) e := fun σ H D i g k => h σ H _ i g fun v H' r q => k v H' r q
theorem pdr_retS (h : Pd Γ te e) : Pdr Γ (tSeq (tRet te) u) e := fun σ H D i g k => h σ H _ i g fun v H' r q => k v H' r q
theorem pdr_nextS (h : Pdr Γ u e) : Pdr Γ (tSeq tNext u) e := fun σ H D i g k1 => h σ H D i g k1
theorem pdr_ifS {b : Bool} (h : PdT Γ c b) (h1 : b = true → Pdr Γ (tSeq t w) e) (h2 : b = false → Pdr Γ (tSeq u w) e) : Pdr Γ (tSeq (tIfS c t u) w) e := fun σ H D i0 g k1 => h σ H _ i0 g fun H1 r => by
  have k1' := fun v H' r' z => k1 v H' (Fm.trans r r') z
  cases b with
  | true => exact h1 rfl σ H1 D r.1 (g.st i0 r) k1'
  | false => exact h2 rfl σ H1 D r.1 (g.st i0 r) k1'
theorem pdr_if {b : Bool} (h : PdT Γ c b) (h1 : b = true → Pdr Γ t e) (h2 : b = false → Pdr Γ u e) : Pdr Γ (tIfS c t u) e := fun σ H D i0 g k1 => h σ H _ i0 g fun H1 r => by
  have k1' := fun v H' r' z => k1 v H' (Fm.trans r r') z
  cases b with
  | true => exact h1 rfl σ H1 D r.1 (g.st i0 r) k1'
  | false => exact h2 rfl σ H1 D r.1 (g.st i0 r) k1'
theorem pdb_s (h : Pdb Γ t Γ' e) (h2 : Pds Γ' u e) : Pds Γ (tSeq t u) e := fun σ H D i g f => h σ H { D with nx := u D } i g (fun v H' r z => f.1 v H' r z) fun σ' H' r z => h2 σ' H' D r.1 z (f.r r)
/-- while: the data by a state -/
theorem pds_while {S : Type} {Γf : S → Env' F} (Inv : S → Prop) (meas : S → Nat) (s0 : S) (e0 : Γ = Γf s0) (i0 : Inv s0)
    (hs : ∀ s, Inv s → ∃ b, PdT (Γf s) c b ∧ (b = true → ∃ s', Inv s' ∧ meas s' < meas s ∧ Pdb (Γf s) tb (Γf s') e) ∧ (b = false → Pds (Γf s) u e)) : Pds Γ (tSeq (tWhile c tb) u) e := fun σ H D iH g f => by
  subst e0
  refine ⟨fun m σ' H' => ∃ s, m = meas s ∧ Inv s ∧ F.R H H' ∧ EnvOk H' σ' (Γf s), ⟨_, s0, rfl, i0, F.refl iH, g⟩, ?_⟩
  rintro m σ1 H1 ⟨s, rfl, is, r1, g1⟩
  obtain ⟨b, hc, ht, hf⟩ := hs s is
  refine hc σ1 H1 _ r1.1 g1 fun H2 r2 => ?_
  have r12 := Fm.trans r1 r2
  cases b with
  | true =>
    rw [if_pos rfl]
    obtain ⟨s', is', lt, hb⟩ := ht rfl
    refine ⟨fun σ' H' => F.R H H' ∧ EnvOk H' σ' (Γf s'), fun σ' H' ⟨r3, g3⟩ => ⟨meas s', lt, s', rfl, is', r3, g3⟩, ?_⟩
    exact hb σ1 H2 _ r2.1 (g1.st r1.1 r2) (fun v H' r3 z => f.1 v H' (Fm.trans r12 r3) z) fun σ' H' r3 z => ⟨Fm.trans r12 r3, z⟩
  | false =>
    rw [if_neg Bool.false_ne_true]
    exact hf rfl σ1 H2 D r2.1 (g1.st r1.1 r2) (f.r r12)
/-- for over data, one name: a turn ends with the data of the next state, or returns e -/
theorem pds_for {S : Type} {Γf : S → Env' F} {j : Nat} (hi : PdI F Γ wi ds) (Inv : Nat → S → Prop) (s0 : S) (e0 : Γ = Γf s0) (i0 : Inv 0 s0)
    (hs : ∀ i s d, ds[i]? = some d → Inv i s → (∃ s', Inv (i + 1) s' ∧ Pdb ((Γf s).set j (some (Ev.d F d))) tb (Γf s') e) ∨ Pdr ((Γf s).set j (some (Ev.d F d))) tb e)
    (hd : ∀ s, Inv ds.length s → Pds (Γf s) u e) : Pds Γ (tSeq (tFor wi (gName j) tb) u) e := fun σ H D iH g f => by
  refine hi σ H _ iH g fun J H1 r1 w => ?_
  have g1 := g.st iH r1
  subst e0
  refine L2.for_it w (fun i σ' H' => F.R H1 H' ∧ ∃ s, Inv i s ∧ EnvOk H' σ' (Γf s)) ⟨F.refl r1.1, s0, i0, g1⟩ (fun i σ' H' _ z => z.1) (fun i x σ' H' H2 hlt ⟨rr, s, is, gg⟩ y => ?_) fun σ' H' ⟨rr, s, is, gg⟩ => ?_
  · obtain ⟨sm, d, hd0, rx⟩ := y
    have r2 := Fm.ofSame rr.1 sm
    have g2 := EnvOk.set (i := j) (e := Ev.d F d) (gg.st rr.1 r2) rx
    have r12 := Fm.trans r1 (Fm.trans rr r2)
    rcases hs i s d hd0 is with ⟨s', is', hb⟩ | hr
    · exact hb _ H2 _ r2.1 g2 (fun v H' r3 z => f.1 v H' (Fm.trans r12 r3) z) fun σ3 H3 r3 z => ⟨Fm.trans rr (Fm.trans r2 r3), s', is', z⟩
    · exact hr _ H2 _ r2.1 g2 fun v H' r3 z => f.1 v H' (Fm.trans r12 r3) z
  · exact hd s is σ' H' D rr.1 gg (f.r (Fm.trans r1 rr))
theorem pda_starL {te : TE} {t : TA} {es : List (Ev F)} (h : Pd Γ te (Ev.l F ds)) (h2 : PdA Γ t es) : PdA Γ (StX.tStar K te t) (ds.map (Ev.d F) ++ es) := fun σ H Q i g k => h σ H _ i g fun v H1 r1 q => by
  obtain ⟨a, xs, e1, n, hq, q⟩ := q
  refine ⟨a, xs, e1, .inr (SqL.of hq), h2 σ H1 _ r1.1 (g.st i r1) fun ys H2 r2 q2 => k _ H2 (Fm.trans r1 r2) ?_⟩
  exact evs_app q2 (Reps.pr (Fm.toPr r1.1 r2) q)
theorem pda_starT {te : TE} {t : TA} {es : List (Ev F)} {dt : D} (h : Pd Γ te (Ev.d F dt)) (ht : TupOf dt = some ds) (h2 : PdA Γ t es) : PdA Γ (StX.tStar K te t) (ds.map (Ev.d F) ++ es) := fun σ H Q i g k => h σ H _ i g fun v H1 r1 q => by
  obtain ⟨a, xs, e1, hq, q⟩ := Rep.seq q ht K
  refine ⟨a, xs, e1, .inl hq, h2 σ H1 _ r1.1 (g.st i r1) fun ys H2 r2 q2 => k _ H2 (Fm.trans r1 r2) ?_⟩
  exact evs_app q2 (Reps.pr (Fm.toPr r1.1 r2) q)
end
/-! a list of one's own: its content as it stands, no other list is it -/
def FK (F : Fm) (a : Addr) (xs : List V) : Fm where
  A := fun p => F.A p ∨ p = a
  I := fun H => F.I H ∧ H a = some (.lst xs)
  tr := fun {H p} i h => by
    rcases h with h | h
    · exact F.tr i.1 h
    · subst h
      exact ⟨_, i.2, fun z => z⟩
  same := fun i k => ⟨F.same i.1 k, k _ _ i.2⟩
  wr := fun {H p o o'} i n e nf => ⟨F.wr i.1 (fun z => n (.inl z)) e nf, by
    rw [upd_ne (fun z => n (.inr z.symm))]
    exact i.2⟩
theorem FK.r {a : Addr} {xs : List V} {H H' : Hp} (hn : ¬ F.A a) (i : (FK F a xs).I H) (r : (FK F a xs).R H H') : F.R H H' := ⟨r.1.1, fun p o e n => by
  by_cases h : p = a
  · subst h
    rw [i.2] at e
    rw [r.1.2, e]
  · exact r.2 p o e fun z => z.elim n h⟩
/-- entries of an environment, one by one -/
theorem envOk_nil {H : Hp} : EnvOk (F := F) H [] [] := ⟨rfl, fun i e z => by simp at z⟩
theorem envOk_none {H : Hp} {σ : L2.St} {Γ : Env' F} {x : Option V} (h : EnvOk H σ Γ) : EnvOk H (x :: σ) (none :: Γ) := ⟨by simp [h.1], fun i e z => by
  cases i with
  | zero => simp at z
  | succ i => simpa using h.2 i e (by simpa using z)⟩
theorem envOk_some {H : Hp} {σ : L2.St} {Γ : Env' F} {v : V} {e : Ev F} (q : e.ok H v) (h : EnvOk H σ Γ) : EnvOk H (some v :: σ) (some e :: Γ) := ⟨by simp [h.1], fun i e' z => by
  cases i with
  | zero =>
    simp at z
    subst z
    exact ⟨v, rfl, q⟩
  | succ i => simpa using h.2 i e' (by simpa using z)⟩
end Bf
/-! ### the facts about the text: the defs at their addresses, the classes, the names of the module -/
namespace Bf
open PySem PySem.Spec PyProof.Rows L2
/-- the classes' addresses -/
structure Ca where
  plan : Addr
  state : Addr
  box : Addr
  trial : Addr
/-- a def with values for its last parameters -/
def FDd (K : PySem.W.Frag) (x qual : Str) (st : Stmt) (dvs : List V) (f : Addr) : Prop := ∃ fd, FunD K x qual (defArgs st) (defBody st) (defScope st) dvs [] f fd
/-- the slots stand by their names: facts, past, shelf, undone -/
def pm : Nat → Nat
  | 1 => 2
  | 2 => 1
  | i => i
theorem pm_ne {i j : Nat} (h : i ≠ j) : pm i ≠ pm j := by
  rcases i with _ | _ | _ | i <;> rcases j with _ | _ | _ | j <;> simp_all [pm]
structure Tx (w : World) (K : PySem.W.Frag) (mg : Str → Option Value) (c : Ca) : Prop where
  n_len : mg "len" = none
  n_all : mg "all" = none
  n_isinstance : mg "isinstance" = none
  n_enumerate : mg "enumerate" = none
  n_zip : mg "zip" = none
  n_tuple : mg "tuple" = none
  n_list : mg "list" = none
  n_range : mg "range" = none
  n_min : mg "min" = none
  n_sorted : mg "sorted" = none
  n_int : mg "int" = none
  n_sum : mg "sum" = none
  n_dict : mg "dict" = none
  n_bool : mg "bool" = none
  n_str : mg "str" = none
  g_LETTERS : ∃ t, mg "LETTERS" = some (.str "abcdefghijklmnopqrstuvwxyz" t)
  g_LAMP : ∃ t, mg "LAMP" = some (.str "lamp" t)
  g_PLUG : ∃ t, mg "PLUG" = some (.str "plug" t)
  g_FREE : ∃ t, mg "FREE" = some (.str "free" t)
  g_ROOMS : ∃ t, mg "ROOMS" = some (.str "rooms" t)
  g_MAX_LETTERS : ∃ t, mg "MAX_LETTERS" = some (.int 8 t)
  g_MAX_BREAKERS : ∃ t, mg "MAX_BREAKERS" = some (.int 5 t)
  g_MAX_RATE : ∃ t, mg "MAX_RATE" = some (.int 99 t)
  g_MAX_POINTS : ∃ t, mg "MAX_POINTS" = some (.int 5 t)
  g_MAX_ROOM : ∃ t, mg "MAX_ROOM" = some (.int 9 t)
  g_MAX_LOAD : ∃ t, mg "MAX_LOAD" = some (.int 99 t)
  sizes : ∃ d, mg "SIZES" = some (.ref d) ∧ GD K w d ∧ (∃ t, PySem.W.nsIn K d "flip" = some (some (.int 2 t))) ∧ (∃ t, PySem.W.nsIn K d "plug" = some (some (.int 3 t))) ∧ (∃ t, PySem.W.nsIn K d "rewire" = some (some (.int 3 t))) ∧ (∃ t, PySem.W.nsIn K d "reset" = some (some (.int 1 t))) ∧ (∃ t, PySem.W.nsIn K d "keep_as" = some (some (.int 2 t))) ∧ (∃ t, PySem.W.nsIn K d "fetch" = some (some (.int 2 t))) ∧ (∃ t, PySem.W.nsIn K d "undo" = some (some (.int 1 t))) ∧ (∃ t, PySem.W.nsIn K d "redo" = some (some (.int 1 t)))
  c_Plan : SlX.SCls K c.plan
  c_State : SlX.SCls K c.state
  c_Box : Cls K c.box
  c_Trial : Cls K c.trial
  sl_parts : ∃ p, SlX.Slot1 K c.plan "parts" p 0
  sl_facts : ∃ p, SlX.Slot1 K c.state "facts" p (pm 0)
  sl_shelf : ∃ p, SlX.Slot1 K c.state "shelf" p (pm 1)
  sl_past : ∃ p, SlX.Slot1 K c.state "past" p (pm 2)
  sl_undone : ∃ p, SlX.Slot1 K c.state "undone" p (pm 3)
  na_plan : NoAttr K c.box "plan"
  na_held : NoAttr K c.box "held"
  na_tested_box : NoAttr K c.trial "tested_box"
  na_origin : NoAttr K c.trial "origin"
  na_fresh : NoAttr K c.trial "fresh"
  na_chosen : NoAttr K c.trial "chosen"
  f_is_number : ∃ f, mg "is_number" = some (.ref f) ∧ FD K "is_number" "is_number" sis_number f
  f_is_word : ∃ f, mg "is_word" = some (.ref f) ∧ FD K "is_word" "is_word" sis_word f
  f_are_rates : ∃ f, mg "are_rates" = some (.ref f) ∧ FD K "are_rates" "are_rates" sare_rates f
  f_are_above : ∃ f, mg "are_above" = some (.ref f) ∧ FD K "are_above" "are_above" sare_above f
  f_is_point : ∃ f, mg "is_point" = some (.ref f) ∧ FD K "is_point" "is_point" sis_point f
  f_are_points : ∃ f, mg "are_points" = some (.ref f) ∧ FD K "are_points" "are_points" sare_points f
  k_Plan : ∃ g, Mk K c.plan g ∧ mg "Plan" = some (.ref c.plan) ∧ FDd K "__init__" "Plan.__init__" sPlan_init [.str "free"] g
  p_Plan_rates : ∃ p g, PropOf K c.plan "rates" p g ∧ FD K "rates" "Plan.rates" sPlan_rates g
  p_Plan_above : ∃ p g, PropOf K c.plan "above" p g ∧ FD K "above" "Plan.above" sPlan_above g
  p_Plan_points : ∃ p g, PropOf K c.plan "points" p g ∧ FD K "points" "Plan.points" sPlan_points g
  p_Plan_rule : ∃ p g, PropOf K c.plan "rule" p g ∧ FD K "rule" "Plan.rule" sPlan_rule g
  p_Plan_names : ∃ p g, PropOf K c.plan "names" p g ∧ FD K "names" "Plan.names" sPlan_names g
  x_Plan_len : ∃ g, PySem.W.findIn K (.ref c.plan) "__len__" = some (some (.ref g)) ∧ PySem.W.isFn K (.ref g) = true ∧ FD K "__len__" "Plan.__len__" sPlan_len g
  f_does_follow : ∃ f, mg "does_follow" = some (.ref f) ∧ FD K "does_follow" "does_follow" sdoes_follow f
  f_is_wiring : ∃ f, mg "is_wiring" = some (.ref f) ∧ FD K "is_wiring" "is_wiring" sis_wiring f
  f_check_wiring : ∃ f, mg "check_wiring" = some (.ref f) ∧ FD K "check_wiring" "check_wiring" scheck_wiring f
  f_check_name : ∃ f, mg "check_name" = some (.ref f) ∧ FD K "check_name" "check_name" scheck_name f
  f_check_breaker : ∃ f, mg "check_breaker" = some (.ref f) ∧ FD K "check_breaker" "check_breaker" scheck_breaker f
  f_all_on : ∃ f, mg "all_on" = some (.ref f) ∧ FD K "all_on" "all_on" sall_on f
  f_line_up : ∃ f, mg "line_up" = some (.ref f) ∧ FD K "line_up" "line_up" sline_up f
  f_has_power : ∃ f, mg "has_power" = some (.ref f) ∧ FD K "has_power" "has_power" shas_power f
  f_live_in : ∃ f, mg "live_in" = some (.ref f) ∧ FD K "live_in" "live_in" slive_in f
  f_currents_in : ∃ f, mg "currents_in" = some (.ref f) ∧ FD K "currents_in" "currents_in" scurrents_in f
  f_trips_in : ∃ f, mg "trips_in" = some (.ref f) ∧ FD K "trips_in" "trips_in" strips_in f
  f_is_operation : ∃ f, mg "is_operation" = some (.ref f) ∧ FD K "is_operation" "is_operation" sis_operation f
  f_switched : ∃ f, mg "switched" = some (.ref f) ∧ FD K "switched" "switched" sswitched f
  k_State : ∃ g, Mk K c.state g ∧ mg "State" = some (.ref c.state) ∧ FD K "__init__" "State.__init__" sState_init g
  m_State_copied : ∃ g, Meth K c.state "copied" g ∧ FD K "copied" "State.copied" sState_copied g
  m_State_go_on : ∃ g, Meth K c.state "go_on" g ∧ FD K "go_on" "State.go_on" sState_go_on g
  m_State_go_back : ∃ g, Meth K c.state "go_back" g ∧ FD K "go_back" "State.go_back" sState_go_back g
  m_State_go_again : ∃ g, Meth K c.state "go_again" g ∧ FD K "go_again" "State.go_again" sState_go_again g
  k_Box : ∃ g, Mk K c.box g ∧ mg "Box" = some (.ref c.box) ∧ FD K "__init__" "Box.__init__" sBox_init g
  cm_Box_replay : ∃ mc p g, mg "Box" = some (.ref c.box) ∧ ClX.CRead K c.box mc ∧ ClX.CMet K c.box mc "replay" p g ∧ FD K "replay" "Box.replay" sBox_replay g
  p_Box_state_now : ∃ p g, PropOf K c.box "state_now" p g ∧ FD K "state_now" "Box.state_now" sBox_state_now g
  p_Box_loads_now : ∃ p g, PropOf K c.box "loads_now" p g ∧ FD K "loads_now" "Box.loads_now" sBox_loads_now g
  p_Box_fed_now : ∃ p g, PropOf K c.box "fed_now" p g ∧ FD K "fed_now" "Box.fed_now" sBox_fed_now g
  p_Box_trip_count : ∃ p g, PropOf K c.box "trip_count" p g ∧ FD K "trip_count" "Box.trip_count" sBox_trip_count g
  p_Box_kept_under : ∃ p g, PropOf K c.box "kept_under" p g ∧ FD K "kept_under" "Box.kept_under" sBox_kept_under g
  p_Box_history : ∃ p g, PropOf K c.box "history" p g ∧ FD K "history" "Box.history" sBox_history g
  m_Box_settle : ∃ g, Meth K c.box "settle" g ∧ FD K "settle" "Box.settle" sBox_settle g
  m_Box_flip : ∃ g, Meth K c.box "flip" g ∧ FD K "flip" "Box.flip" sBox_flip g
  m_Box_plug : ∃ g, Meth K c.box "plug" g ∧ FD K "plug" "Box.plug" sBox_plug g
  m_Box_rewire : ∃ g, Meth K c.box "rewire" g ∧ FD K "rewire" "Box.rewire" sBox_rewire g
  m_Box_reset : ∃ g, Meth K c.box "reset" g ∧ FD K "reset" "Box.reset" sBox_reset g
  m_Box_keep_as : ∃ g, Meth K c.box "keep_as" g ∧ FD K "keep_as" "Box.keep_as" sBox_keep_as g
  m_Box_fetch : ∃ g, Meth K c.box "fetch" g ∧ FD K "fetch" "Box.fetch" sBox_fetch g
  m_Box_undo : ∃ g, Meth K c.box "undo" g ∧ FD K "undo" "Box.undo" sBox_undo g
  m_Box_redo : ∃ g, Meth K c.box "redo" g ∧ FD K "redo" "Box.redo" sBox_redo g
  m_Box_execute : ∃ g, Meth K c.box "execute" g ∧ FD K "execute" "Box.execute" sBox_execute g
  m_Box_apply_all : ∃ g, Meth K c.box "apply_all" g ∧ FD K "apply_all" "Box.apply_all" sBox_apply_all g
  k_Trial : ∃ g, Mk K c.trial g ∧ mg "Trial" = some (.ref c.trial) ∧ FD K "__init__" "Trial.__init__" sTrial_init g
  m_Trial_hold : ∃ g, Meth K c.trial "hold" g ∧ FD K "hold" "Trial.hold" sTrial_hold g
  x_Trial_enter : ∃ g, PySem.W.findIn K (.ref c.trial) "__enter__" = some (some (.ref g)) ∧ PySem.W.isFn K (.ref g) = true ∧ FD K "__enter__" "Trial.__enter__" sTrial_enter g
  x_Trial_exit : ∃ g, PySem.W.findIn K (.ref c.trial) "__exit__" = some (some (.ref g)) ∧ PySem.W.isFn K (.ref g) = true ∧ FD K "__exit__" "Trial.__exit__" sTrial_exit g
  f_law_taken : ∃ f, mg "_law_taken" = some (.ref f) ∧ FD K "_law_taken" "_law_taken" slaw_taken f
  f_law_pick : ∃ f, mg "_law_pick" = some (.ref f) ∧ FD K "_law_pick" "_law_pick" slaw_pick f
  f_law_scheme : ∃ f, mg "_law_scheme" = some (.ref f) ∧ FD K "_law_scheme" "_law_scheme" slaw_scheme f
  f_law_plan : ∃ f, mg "_law_plan" = some (.ref f) ∧ FD K "_law_plan" "_law_plan" slaw_plan f
  f_law_wirings : ∃ f, mg "_law_wirings" = some (.ref f) ∧ FD K "_law_wirings" "_law_wirings" slaw_wirings f
  f_law_has : ∃ f, mg "_law_has" = some (.ref f) ∧ FD K "_law_has" "_law_has" slaw_has f
  f_law_lit : ∃ f, mg "_law_lit" = some (.ref f) ∧ FD K "_law_lit" "_law_lit" slaw_lit f
  f_law_under : ∃ f, mg "_law_under" = some (.ref f) ∧ FD K "_law_under" "_law_under" slaw_under f
  f_law_flows : ∃ f, mg "_law_flows" = some (.ref f) ∧ FD K "_law_flows" "_law_flows" slaw_flows f
  f_law_tripped : ∃ f, mg "_law_tripped" = some (.ref f) ∧ FD K "_law_tripped" "_law_tripped" slaw_tripped f
  f_law_at : ∃ f, mg "_law_at" = some (.ref f) ∧ FD K "_law_at" "_law_at" slaw_at f
  f_law_run : ∃ f, mg "_law_run" = some (.ref f) ∧ FD K "_law_run" "_law_run" slaw_run f
  f_law_reset : ∃ f, mg "_law_reset" = some (.ref f) ∧ FD K "_law_reset" "_law_reset" slaw_reset f
  f_law_step : ∃ f, mg "_law_step" = some (.ref f) ∧ FD K "_law_step" "_law_step" slaw_step f
  f_law_shows : ∃ f, mg "_law_shows" = some (.ref f) ∧ FD K "_law_shows" "_law_shows" slaw_shows f
end Bf
/-! ### the head: what is looked at behind the top -/
namespace Bf
open PySem PySem.Spec PyProof.Rows L2
def sclsB (K : PySem.W.Frag) (C : Addr) : Bool := PySem.W.plainGet K C Str.empty && (PySem.W.isClsIn K C && (PySem.W.plainOver K C && He.eqO (PySem.W.findIn K (.ref C) "__setattr__") (some (some (.builtin "object.__setattr__")))))
theorem scls_ok {K : PySem.W.Frag} {C : Addr} (h : sclsB K C = true) : SlX.SCls K C := by
  obtain ⟨h1, h⟩ := He.ba h
  obtain ⟨h2, h⟩ := He.ba h
  obtain ⟨h3, h4⟩ := He.ba h
  exact ⟨h1, h2, h3, He.eqO_ok h4⟩
def slotB (K : PySem.W.Frag) (C : Addr) (f : Str) (i : Nat) : Bool := He.eqO (PySem.W.findIn K (.ref C) f) (some (some (.ref (He.ma K C f)))) && (He.eqO (PySem.W.specialIn K (.ref (He.ma K C f)) "__get__") (some (some (.builtin "member_descriptor.__get__"))) && (decide (PySem.W.takesIn K (.ref (He.ma K C f)) = some true) && (decide (PySem.W.typeIn K (.ref (He.ma K C f)) = some (.type "member_descriptor")) && decide (PySem.W.slotIn K (He.ma K C f) C = some i))))
theorem slot_ok {K : PySem.W.Frag} {C : Addr} {f : Str} {i : Nat} (lt : i < 1000) (h : slotB K C f i = true) : SlX.Slot1 K C f (He.ma K C f) i := by
  obtain ⟨h1, h⟩ := He.ba h
  obtain ⟨h2, h⟩ := He.ba h
  obtain ⟨h3, h⟩ := He.ba h
  obtain ⟨h4, h5⟩ := He.ba h
  exact ⟨He.eqO_ok h1, He.eqO_ok h2, of_decide_eq_true h3, of_decide_eq_true h4, of_decide_eq_true h5, lt⟩
def propB (K : PySem.W.Frag) (C : Addr) (f : Str) : Bool := He.eqO (PySem.W.findIn K (.ref C) f) (some (some (.ref (He.ma K C f)))) && (He.eqO (PySem.W.specialIn K (.ref (He.ma K C f)) "__get__") (some (some (.builtin "property.__get__"))) && (decide (PySem.W.takesIn K (.ref (He.ma K C f)) = some true) && (match PySem.W.recIn K (He.ma K C f) "property" with
  | some (.ref _ :: _) => true
  | _ => false)))
theorem prop_ok {K : PySem.W.Frag} {C : Addr} {f : Str} (h : propB K C f = true) : PropOf K C f (He.ma K C f) (He5.wf K C "property" f) := by
  obtain ⟨h1, h⟩ := He.ba h
  obtain ⟨h2, h⟩ := He.ba h
  obtain ⟨h3, h4⟩ := He.ba h
  refine ⟨He.eqO_ok h1, He.eqO_ok h2, of_decide_eq_true h3, ?_⟩
  unfold He5.wf
  split at h4
  · rename_i g r e
    exact ⟨r, by rw [e]⟩
  · cases h4
def spcB (K : PySem.W.Frag) (C : Addr) (m : Str) : Bool := He.eqO (PySem.W.findIn K (.ref C) m) (some (some (.ref (He.ma K C m)))) && PySem.W.isFn K (.ref (He.ma K C m))
theorem spc_ok {K : PySem.W.Frag} {C : Addr} {m : Str} (h : spcB K C m = true) : PySem.W.findIn K (.ref C) m = some (some (.ref (He.ma K C m))) ∧ PySem.W.isFn K (.ref (He.ma K C m)) = true := by
  obtain ⟨h1, h2⟩ := He.ba h
  exact ⟨He.eqO_ok h1, h2⟩
def cmB (K : PySem.W.Frag) (C : Addr) (m : Str) : Bool := PySem.W.readsIn K C (.type "type") && (He.eqO (PySem.W.specialIn K (.ref C) "__getattribute__") (some (some (.builtin "type.__getattribute__"))) && (He5.wrapB K C "classmethod" "classmethod.__get__" m && PySem.W.fnIn K (He5.wf K C "classmethod" m)))
theorem cm_ok {K : PySem.W.Frag} {C : Addr} {m : Str} (h : cmB K C m = true) : ClX.CRead K C (.type "type") ∧ ClX.CMet K C (.type "type") m (He.ma K C m) (He5.wf K C "classmethod" m) := by
  obtain ⟨h1, h⟩ := He.ba h
  obtain ⟨h2, h⟩ := He.ba h
  obtain ⟨h3, h4⟩ := He.ba h
  exact ⟨⟨h1, He.eqO_ok h2⟩, He5.cmet_of h3 h4⟩
def sizesL : List (Str × He.Dv) := [("flip", .int 2), ("plug", .int 3), ("rewire", .int 3), ("reset", .int 1), ("keep_as", .int 2), ("fetch", .int 2), ("undo", .int 1), ("redo", .int 1)]
def sizesK : List Str := ["flip", "plug", "rewire", "reset", "keep_as", "fetch", "undo", "redo"]
def hfa_0 : List He.Fa := [.free "len",
  .free "all",
  .free "isinstance",
  .free "enumerate",
  .free "zip",
  .free "tuple",
  .free "list",
  .free "range",
  .free "min",
  .free "sorted",
  .free "int",
  .free "sum"]
def hfa_1 : List He.Fa := [.free "dict",
  .free "bool",
  .free "str",
  .str "LETTERS" "abcdefghijklmnopqrstuvwxyz",
  .str "LAMP" "lamp",
  .str "PLUG" "plug",
  .str "FREE" "free",
  .str "ROOMS" "rooms",
  .int "MAX_LETTERS" 8,
  .int "MAX_BREAKERS" 5,
  .int "MAX_RATE" 99,
  .int "MAX_POINTS" 5]
def hfa_2 : List He.Fa := [.int "MAX_ROOM" 9,
  .int "MAX_LOAD" 99,
  .glo "SIZES",
  .cls "Box",
  .cls "Trial",
  .noat "Box" "plan",
  .noat "Box" "held",
  .noat "Trial" "tested_box",
  .noat "Trial" "origin",
  .noat "Trial" "fresh",
  .noat "Trial" "chosen",
  .glo "is_number"]
def hfa_3 : List He.Fa := [.glo "is_word",
  .glo "are_rates",
  .glo "are_above",
  .glo "is_point",
  .glo "are_points",
  .mkr "Plan",
  .glo "Plan",
  .glo "does_follow",
  .glo "is_wiring",
  .glo "check_wiring",
  .glo "check_name",
  .glo "check_breaker"]
def hfa_4 : List He.Fa := [.glo "all_on",
  .glo "line_up",
  .glo "has_power",
  .glo "live_in",
  .glo "currents_in",
  .glo "trips_in",
  .glo "is_operation",
  .glo "switched",
  .mkr "State",
  .glo "State",
  .meth "State" "copied",
  .meth "State" "go_on"]
def hfa_5 : List He.Fa := [.meth "State" "go_back",
  .meth "State" "go_again",
  .mkr "Box",
  .glo "Box",
  .meth "Box" "settle",
  .meth "Box" "flip",
  .meth "Box" "plug",
  .meth "Box" "rewire",
  .meth "Box" "reset",
  .meth "Box" "keep_as",
  .meth "Box" "fetch",
  .meth "Box" "undo"]
def hfa_6 : List He.Fa := [.meth "Box" "redo",
  .meth "Box" "execute",
  .meth "Box" "apply_all",
  .mkr "Trial",
  .glo "Trial",
  .meth "Trial" "hold",
  .glo "_law_taken",
  .glo "_law_pick",
  .glo "_law_scheme",
  .glo "_law_plan",
  .glo "_law_wirings",
  .glo "_law_has"]
def hfa_7 : List He.Fa := [.glo "_law_lit",
  .glo "_law_under",
  .glo "_law_flows",
  .glo "_law_tripped",
  .glo "_law_at",
  .glo "_law_run",
  .glo "_law_reset",
  .glo "_law_step",
  .glo "_law_shows",
  .glo "law"]
def hfa : List He.Fa := hfa_0 ++ hfa_1 ++ hfa_2 ++ hfa_3 ++ hfa_4 ++ hfa_5 ++ hfa_6 ++ hfa_7
def hex_0 : List (PySem.W.Frag → Bool) := [fun K => He.valsB K (He.ga K "SIZES") sizesL,
  fun K => sclsB K (He.ga K "Plan"),
  fun K => sclsB K (He.ga K "State"),
  fun K => slotB K (He.ga K "Plan") "parts" 0,
  fun K => slotB K (He.ga K "State") "facts" (pm 0),
  fun K => slotB K (He.ga K "State") "shelf" (pm 1),
  fun K => slotB K (He.ga K "State") "past" (pm 2),
  fun K => slotB K (He.ga K "State") "undone" (pm 3),
  fun K => propB K (He.ga K "Plan") "rates",
  fun K => propB K (He.ga K "Plan") "above"]
def hex_1 : List (PySem.W.Frag → Bool) := [fun K => propB K (He.ga K "Plan") "points",
  fun K => propB K (He.ga K "Plan") "rule",
  fun K => propB K (He.ga K "Plan") "names",
  fun K => spcB K (He.ga K "Plan") "__len__",
  fun K => cmB K (He.ga K "Box") "replay",
  fun K => propB K (He.ga K "Box") "state_now",
  fun K => propB K (He.ga K "Box") "loads_now",
  fun K => propB K (He.ga K "Box") "fed_now",
  fun K => propB K (He.ga K "Box") "trip_count",
  fun K => propB K (He.ga K "Box") "kept_under"]
def hex_2 : List (PySem.W.Frag → Bool) := [fun K => propB K (He.ga K "Box") "history",
  fun K => spcB K (He.ga K "Trial") "__enter__",
  fun K => spcB K (He.ga K "Trial") "__exit__"]
def hex : List (PySem.W.Frag → Bool) := hex_0 ++ hex_1 ++ hex_2
def d0 : He5.DefA := ⟨fun K => He.ga K "is_number", "is_number", "is_number", defArgs sis_number, defBody sis_number, defScope sis_number, [], []⟩
def d1 : He5.DefA := ⟨fun K => He.ga K "is_word", "is_word", "is_word", defArgs sis_word, defBody sis_word, defScope sis_word, [], []⟩
def d2 : He5.DefA := ⟨fun K => He.ga K "are_rates", "are_rates", "are_rates", defArgs sare_rates, defBody sare_rates, defScope sare_rates, [], []⟩
def d3 : He5.DefA := ⟨fun K => He.ga K "are_above", "are_above", "are_above", defArgs sare_above, defBody sare_above, defScope sare_above, [], []⟩
def d4 : He5.DefA := ⟨fun K => He.ga K "is_point", "is_point", "is_point", defArgs sis_point, defBody sis_point, defScope sis_point, [], []⟩
def d5 : He5.DefA := ⟨fun K => He.ga K "are_points", "are_points", "are_points", defArgs sare_points, defBody sare_points, defScope sare_points, [], []⟩
def d6 : He5.DefA := ⟨fun K => He.ma K (He.ga K "Plan") "__init__", "__init__", "Plan.__init__", defArgs sPlan_init, defBody sPlan_init, defScope sPlan_init, [.str "free"], []⟩
def d7 : He5.DefA := ⟨fun K => He5.wf K (He.ga K "Plan") "property" "rates", "rates", "Plan.rates", defArgs sPlan_rates, defBody sPlan_rates, defScope sPlan_rates, [], []⟩
def d8 : He5.DefA := ⟨fun K => He5.wf K (He.ga K "Plan") "property" "above", "above", "Plan.above", defArgs sPlan_above, defBody sPlan_above, defScope sPlan_above, [], []⟩
def d9 : He5.DefA := ⟨fun K => He5.wf K (He.ga K "Plan") "property" "points", "points", "Plan.points", defArgs sPlan_points, defBody sPlan_points, defScope sPlan_points, [], []⟩
def d10 : He5.DefA := ⟨fun K => He5.wf K (He.ga K "Plan") "property" "rule", "rule", "Plan.rule", defArgs sPlan_rule, defBody sPlan_rule, defScope sPlan_rule, [], []⟩
def d11 : He5.DefA := ⟨fun K => He5.wf K (He.ga K "Plan") "property" "names", "names", "Plan.names", defArgs sPlan_names, defBody sPlan_names, defScope sPlan_names, [], []⟩
def d12 : He5.DefA := ⟨fun K => He.ma K (He.ga K "Plan") "__len__", "__len__", "Plan.__len__", defArgs sPlan_len, defBody sPlan_len, defScope sPlan_len, [], []⟩
def d13 : He5.DefA := ⟨fun K => He.ga K "does_follow", "does_follow", "does_follow", defArgs sdoes_follow, defBody sdoes_follow, defScope sdoes_follow, [], []⟩
def d14 : He5.DefA := ⟨fun K => He.ga K "is_wiring", "is_wiring", "is_wiring", defArgs sis_wiring, defBody sis_wiring, defScope sis_wiring, [], []⟩
def d15 : He5.DefA := ⟨fun K => He.ga K "check_wiring", "check_wiring", "check_wiring", defArgs scheck_wiring, defBody scheck_wiring, defScope scheck_wiring, [], []⟩
def d16 : He5.DefA := ⟨fun K => He.ga K "check_name", "check_name", "check_name", defArgs scheck_name, defBody scheck_name, defScope scheck_name, [], []⟩
def d17 : He5.DefA := ⟨fun K => He.ga K "check_breaker", "check_breaker", "check_breaker", defArgs scheck_breaker, defBody scheck_breaker, defScope scheck_breaker, [], []⟩
def d18 : He5.DefA := ⟨fun K => He.ga K "all_on", "all_on", "all_on", defArgs sall_on, defBody sall_on, defScope sall_on, [], []⟩
def d19 : He5.DefA := ⟨fun K => He.ga K "line_up", "line_up", "line_up", defArgs sline_up, defBody sline_up, defScope sline_up, [], []⟩
def d20 : He5.DefA := ⟨fun K => He.ga K "has_power", "has_power", "has_power", defArgs shas_power, defBody shas_power, defScope shas_power, [], []⟩
def d21 : He5.DefA := ⟨fun K => He.ga K "live_in", "live_in", "live_in", defArgs slive_in, defBody slive_in, defScope slive_in, [], []⟩
def d22 : He5.DefA := ⟨fun K => He.ga K "currents_in", "currents_in", "currents_in", defArgs scurrents_in, defBody scurrents_in, defScope scurrents_in, [], []⟩
def d23 : He5.DefA := ⟨fun K => He.ga K "trips_in", "trips_in", "trips_in", defArgs strips_in, defBody strips_in, defScope strips_in, [], []⟩
def d24 : He5.DefA := ⟨fun K => He.ga K "is_operation", "is_operation", "is_operation", defArgs sis_operation, defBody sis_operation, defScope sis_operation, [], []⟩
def d25 : He5.DefA := ⟨fun K => He.ga K "switched", "switched", "switched", defArgs sswitched, defBody sswitched, defScope sswitched, [], []⟩
def d26 : He5.DefA := ⟨fun K => He.ma K (He.ga K "State") "__init__", "__init__", "State.__init__", defArgs sState_init, defBody sState_init, defScope sState_init, [], []⟩
def d27 : He5.DefA := ⟨fun K => He.ma K (He.ga K "State") "copied", "copied", "State.copied", defArgs sState_copied, defBody sState_copied, defScope sState_copied, [], []⟩
def d28 : He5.DefA := ⟨fun K => He.ma K (He.ga K "State") "go_on", "go_on", "State.go_on", defArgs sState_go_on, defBody sState_go_on, defScope sState_go_on, [], []⟩
def d29 : He5.DefA := ⟨fun K => He.ma K (He.ga K "State") "go_back", "go_back", "State.go_back", defArgs sState_go_back, defBody sState_go_back, defScope sState_go_back, [], []⟩
def d30 : He5.DefA := ⟨fun K => He.ma K (He.ga K "State") "go_again", "go_again", "State.go_again", defArgs sState_go_again, defBody sState_go_again, defScope sState_go_again, [], []⟩
def d31 : He5.DefA := ⟨fun K => He.ma K (He.ga K "Box") "__init__", "__init__", "Box.__init__", defArgs sBox_init, defBody sBox_init, defScope sBox_init, [], []⟩
def d32 : He5.DefA := ⟨fun K => He5.wf K (He.ga K "Box") "classmethod" "replay", "replay", "Box.replay", defArgs sBox_replay, defBody sBox_replay, defScope sBox_replay, [], []⟩
def d33 : He5.DefA := ⟨fun K => He5.wf K (He.ga K "Box") "property" "state_now", "state_now", "Box.state_now", defArgs sBox_state_now, defBody sBox_state_now, defScope sBox_state_now, [], []⟩
def d34 : He5.DefA := ⟨fun K => He5.wf K (He.ga K "Box") "property" "loads_now", "loads_now", "Box.loads_now", defArgs sBox_loads_now, defBody sBox_loads_now, defScope sBox_loads_now, [], []⟩
def d35 : He5.DefA := ⟨fun K => He5.wf K (He.ga K "Box") "property" "fed_now", "fed_now", "Box.fed_now", defArgs sBox_fed_now, defBody sBox_fed_now, defScope sBox_fed_now, [], []⟩
def d36 : He5.DefA := ⟨fun K => He5.wf K (He.ga K "Box") "property" "trip_count", "trip_count", "Box.trip_count", defArgs sBox_trip_count, defBody sBox_trip_count, defScope sBox_trip_count, [], []⟩
def d37 : He5.DefA := ⟨fun K => He5.wf K (He.ga K "Box") "property" "kept_under", "kept_under", "Box.kept_under", defArgs sBox_kept_under, defBody sBox_kept_under, defScope sBox_kept_under, [], []⟩
def d38 : He5.DefA := ⟨fun K => He5.wf K (He.ga K "Box") "property" "history", "history", "Box.history", defArgs sBox_history, defBody sBox_history, defScope sBox_history, [], []⟩
def d39 : He5.DefA := ⟨fun K => He.ma K (He.ga K "Box") "settle", "settle", "Box.settle", defArgs sBox_settle, defBody sBox_settle, defScope sBox_settle, [], []⟩
def d40 : He5.DefA := ⟨fun K => He.ma K (He.ga K "Box") "flip", "flip", "Box.flip", defArgs sBox_flip, defBody sBox_flip, defScope sBox_flip, [], []⟩
def d41 : He5.DefA := ⟨fun K => He.ma K (He.ga K "Box") "plug", "plug", "Box.plug", defArgs sBox_plug, defBody sBox_plug, defScope sBox_plug, [], []⟩
def d42 : He5.DefA := ⟨fun K => He.ma K (He.ga K "Box") "rewire", "rewire", "Box.rewire", defArgs sBox_rewire, defBody sBox_rewire, defScope sBox_rewire, [], []⟩
def d43 : He5.DefA := ⟨fun K => He.ma K (He.ga K "Box") "reset", "reset", "Box.reset", defArgs sBox_reset, defBody sBox_reset, defScope sBox_reset, [], []⟩
def d44 : He5.DefA := ⟨fun K => He.ma K (He.ga K "Box") "keep_as", "keep_as", "Box.keep_as", defArgs sBox_keep_as, defBody sBox_keep_as, defScope sBox_keep_as, [], []⟩
def d45 : He5.DefA := ⟨fun K => He.ma K (He.ga K "Box") "fetch", "fetch", "Box.fetch", defArgs sBox_fetch, defBody sBox_fetch, defScope sBox_fetch, [], []⟩
def d46 : He5.DefA := ⟨fun K => He.ma K (He.ga K "Box") "undo", "undo", "Box.undo", defArgs sBox_undo, defBody sBox_undo, defScope sBox_undo, [], []⟩
def d47 : He5.DefA := ⟨fun K => He.ma K (He.ga K "Box") "redo", "redo", "Box.redo", defArgs sBox_redo, defBody sBox_redo, defScope sBox_redo, [], []⟩
def d48 : He5.DefA := ⟨fun K => He.ma K (He.ga K "Box") "execute", "execute", "Box.execute", defArgs sBox_execute, defBody sBox_execute, defScope sBox_execute, [], []⟩
def d49 : He5.DefA := ⟨fun K => He.ma K (He.ga K "Box") "apply_all", "apply_all", "Box.apply_all", defArgs sBox_apply_all, defBody sBox_apply_all, defScope sBox_apply_all, [], []⟩
def d50 : He5.DefA := ⟨fun K => He.ma K (He.ga K "Trial") "__init__", "__init__", "Trial.__init__", defArgs sTrial_init, defBody sTrial_init, defScope sTrial_init, [], []⟩
def d51 : He5.DefA := ⟨fun K => He.ma K (He.ga K "Trial") "hold", "hold", "Trial.hold", defArgs sTrial_hold, defBody sTrial_hold, defScope sTrial_hold, [], []⟩
def d52 : He5.DefA := ⟨fun K => He.ma K (He.ga K "Trial") "__enter__", "__enter__", "Trial.__enter__", defArgs sTrial_enter, defBody sTrial_enter, defScope sTrial_enter, [], []⟩
def d53 : He5.DefA := ⟨fun K => He.ma K (He.ga K "Trial") "__exit__", "__exit__", "Trial.__exit__", defArgs sTrial_exit, defBody sTrial_exit, defScope sTrial_exit, [], []⟩
def d54 : He5.DefA := ⟨fun K => He.ga K "_law_taken", "_law_taken", "_law_taken", defArgs slaw_taken, defBody slaw_taken, defScope slaw_taken, [], []⟩
def d55 : He5.DefA := ⟨fun K => He.ga K "_law_pick", "_law_pick", "_law_pick", defArgs slaw_pick, defBody slaw_pick, defScope slaw_pick, [], []⟩
def d56 : He5.DefA := ⟨fun K => He.ga K "_law_scheme", "_law_scheme", "_law_scheme", defArgs slaw_scheme, defBody slaw_scheme, defScope slaw_scheme, [], []⟩
def d57 : He5.DefA := ⟨fun K => He.ga K "_law_plan", "_law_plan", "_law_plan", defArgs slaw_plan, defBody slaw_plan, defScope slaw_plan, [], []⟩
def d58 : He5.DefA := ⟨fun K => He.ga K "_law_wirings", "_law_wirings", "_law_wirings", defArgs slaw_wirings, defBody slaw_wirings, defScope slaw_wirings, [], []⟩
def d59 : He5.DefA := ⟨fun K => He.ga K "_law_has", "_law_has", "_law_has", defArgs slaw_has, defBody slaw_has, defScope slaw_has, [], []⟩
def d60 : He5.DefA := ⟨fun K => He.ga K "_law_lit", "_law_lit", "_law_lit", defArgs slaw_lit, defBody slaw_lit, defScope slaw_lit, [], []⟩
def d61 : He5.DefA := ⟨fun K => He.ga K "_law_under", "_law_under", "_law_under", defArgs slaw_under, defBody slaw_under, defScope slaw_under, [], []⟩
def d62 : He5.DefA := ⟨fun K => He.ga K "_law_flows", "_law_flows", "_law_flows", defArgs slaw_flows, defBody slaw_flows, defScope slaw_flows, [], []⟩
def d63 : He5.DefA := ⟨fun K => He.ga K "_law_tripped", "_law_tripped", "_law_tripped", defArgs slaw_tripped, defBody slaw_tripped, defScope slaw_tripped, [], []⟩
def d64 : He5.DefA := ⟨fun K => He.ga K "_law_at", "_law_at", "_law_at", defArgs slaw_at, defBody slaw_at, defScope slaw_at, [], []⟩
def d65 : He5.DefA := ⟨fun K => He.ga K "_law_run", "_law_run", "_law_run", defArgs slaw_run, defBody slaw_run, defScope slaw_run, [], []⟩
def d66 : He5.DefA := ⟨fun K => He.ga K "_law_reset", "_law_reset", "_law_reset", defArgs slaw_reset, defBody slaw_reset, defScope slaw_reset, [], []⟩
def d67 : He5.DefA := ⟨fun K => He.ga K "_law_step", "_law_step", "_law_step", defArgs slaw_step, defBody slaw_step, defScope slaw_step, [], []⟩
def d68 : He5.DefA := ⟨fun K => He.ga K "_law_shows", "_law_shows", "_law_shows", defArgs slaw_shows, defBody slaw_shows, defScope slaw_shows, [], []⟩
def d69 : He5.DefA := ⟨fun K => He.ga K "law", "law", "law", defArgs slaw, defBody slaw, defScope slaw, [], []⟩
def hfn_0 : List He5.DefA := [d0,
  d1,
  d2,
  d3,
  d4,
  d5,
  d6,
  d7,
  d8,
  d9,
  d10,
  d11]
def hfn_1 : List He5.DefA := [d12,
  d13,
  d14,
  d15,
  d16,
  d17,
  d18,
  d19,
  d20,
  d21,
  d22,
  d23]
def hfn_2 : List He5.DefA := [d24,
  d25,
  d26,
  d27,
  d28,
  d29,
  d30,
  d31,
  d32,
  d33,
  d34,
  d35]
def hfn_3 : List He5.DefA := [d36,
  d37,
  d38,
  d39,
  d40,
  d41,
  d42,
  d43,
  d44,
  d45,
  d46,
  d47]
def hfn_4 : List He5.DefA := [d48,
  d49,
  d50,
  d51,
  d52,
  d53,
  d54,
  d55,
  d56,
  d57,
  d58,
  d59]
def hfn_5 : List He5.DefA := [d60,
  d61,
  d62,
  d63,
  d64,
  d65,
  d66,
  d67,
  d68,
  d69]
def hfn : List He5.DefA := hfn_0 ++ hfn_1 ++ hfn_2 ++ hfn_3 ++ hfn_4 ++ hfn_5
/-- what is looked at -/
abbrev AlB : Type := (He.AlD × Bool) × Option (List (Option (Str × Int)))
section
variable (fa : List He.Fa) (fn : List He5.DefA) (ex : List (PySem.W.Frag → Bool)) (tb : Str) (ks : List Str) (as : List Addr)
def obsB (K : PySem.W.Frag) : AlB := ((He5.obsA fa fn K, ex.all fun f => f K), He.dicW K (He.ga K tb))
def valB (w : World) : AlB := ((He5.valA fn, true), some (He.keysIn w.params ks))
structure SaysB (w : World) (K : PySem.W.Frag) : Prop where
  a : He5.SaysA fa fn K
  all : (ex.all fun f => f K) = true
  dic : He.dicW K (He.ga K tb) = some (He.keysIn w.params ks)
theorem says_of {w : World} {K : PySem.W.Frag} (e : obsB fa fn ex tb K = valB fn ks w) : SaysB fa fn ex tb ks w K := by
  unfold obsB valB at e
  simp only [Prod.mk.injEq] at e
  exact ⟨e.1.1, e.1.2, e.2⟩
def obsBG (g : Addr → Option Obj) : AlB := obsB fa fn ex tb (He.frG g as)
def hookB : PySem.W.Hook where
  α := AlB
  obs := fun s => obsBG fa fn ex tb as s.heap.get?
  val := fun w => valB fn ks w
  says := fun w h => ∃ K : PySem.W.Frag, K.In h ∧ SaysB fa fn ex tb ks w K
  of := fun w _ e => ⟨_, He.frG_in, says_of fa fn ex tb ks e⟩
  keeps := fun _ _ _ ⟨K, hK, c⟩ k => ⟨K, PySem.W.Frag.In.keeps hK k, c⟩
theorem obsBG_eq {g : Addr → Option Obj} {s : Shared} (h : ∀ a, g a = s.heap.get? a) : obsBG fa fn ex tb as g = (hookB fa fn ex tb ks as).obs s := by
  have e : g = s.heap.get? := funext h
  rw [e] <;> rfl
end
theorem SaysB.ex {fa : List He.Fa} {fn : List He5.DefA} {ex : List (PySem.W.Frag → Bool)} {tb : Str} {ks : List Str} {w : World} {K : PySem.W.Frag} (c : SaysB fa fn ex tb ks w K) (i : Nat) {f : PySem.W.Frag → Bool} (h : ex[i]? = some f) : f K = true := List.all_eq_true.mp c.all f (List.mem_of_getElem? h)
theorem sizes_ok {fa : List He.Fa} {fn : List He5.DefA} {ex : List (PySem.W.Frag → Bool)} {ks : List Str} {w : World} {K : PySem.W.Frag} {h : Heap} {mg : Str → Option Value} (X : K.In h) (G : h.Ns mainGlobals mg) (c : SaysB fa fn ex "SIZES" ks w K) (h1 : (He.Fa.glo "SIZES").ok K = true) (h2 : He.valsB K (He.ga K "SIZES") sizesL = true) :
    ∃ d, mg "SIZES" = some (.ref d) ∧ GD K w d ∧ (∃ t, PySem.W.nsIn K d "flip" = some (some (.int 2 t))) ∧ (∃ t, PySem.W.nsIn K d "plug" = some (some (.int 3 t))) ∧ (∃ t, PySem.W.nsIn K d "rewire" = some (some (.int 3 t))) ∧ (∃ t, PySem.W.nsIn K d "reset" = some (some (.int 1 t))) ∧ (∃ t, PySem.W.nsIn K d "keep_as" = some (some (.int 2 t))) ∧ (∃ t, PySem.W.nsIn K d "fetch" = some (some (.int 2 t))) ∧ (∃ t, PySem.W.nsIn K d "undo" = some (some (.int 1 t))) ∧ (∃ t, PySem.W.nsIn K d "redo" = some (some (.int 1 t))) := by
  have key : ∀ k n, (k, He.Dv.int n) ∈ sizesL → ∃ t, PySem.W.nsIn K (He.ga K "SIZES") k = some (some (.int n t)) := fun k n m => by
    obtain ⟨u, e, r⟩ := He.valsB_ok h2 m
    obtain ⟨t, et⟩ := r
    exact ⟨t, by rw [e, et]⟩
  exact ⟨_, He.glo_ok X G h1, ⟨He.dicW_ok c.dic⟩, key _ _ (by unfold sizesL; simp), key _ _ (by unfold sizesL; simp), key _ _ (by unfold sizesL; simp), key _ _ (by unfold sizesL; simp), key _ _ (by unfold sizesL; simp), key _ _ (by unfold sizesL; simp), key _ _ (by unfold sizesL; simp), key _ _ (by unfold sizesL; simp)⟩
def has_0 : List Addr := [3,
  151,
  156,
  161,
  166,
  173,
  178,
  256,
  266,
  271,
  278,
  285,
  292,
  297,
  304,
  309,
  314,
  319,
  324,
  325,
  332,
  339,
  386,
  541,
  583,
  594,
  601,
  606,
  613,
  618]
def has_1 : List Addr := [625,
  630,
  637,
  642,
  647,
  654,
  661,
  666,
  671,
  678,
  683,
  150,
  155,
  160,
  165,
  172,
  177,
  255,
  265,
  270,
  277,
  284,
  291,
  296,
  303,
  308,
  313,
  318,
  323,
  331]
def has_2 : List Addr := [338,
  385,
  540,
  582,
  593,
  600,
  605,
  612,
  617,
  624,
  629,
  636,
  641,
  646,
  653,
  660,
  665,
  670,
  677,
  682,
  194,
  202,
  210,
  218,
  226,
  232,
  245,
  257,
  354,
  361]
def has_3 : List Addr := [368,
  375,
  382,
  387,
  388,
  389,
  390,
  406,
  415,
  424,
  430,
  438,
  446,
  454,
  460,
  467,
  474,
  479,
  486,
  491,
  498,
  505,
  512,
  519,
  526,
  531,
  559,
  566,
  573,
  580]
def has_4 : List Addr := [193,
  187,
  201,
  209,
  217,
  225,
  231,
  244,
  353,
  360,
  367,
  374,
  381,
  405,
  413,
  423,
  429,
  437,
  445,
  453,
  459,
  466,
  473,
  478,
  485,
  490,
  497,
  504,
  511,
  518]
def has_5 : List Addr := [525,
  530,
  558,
  565,
  572,
  579,
  200,
  208,
  216,
  224,
  230,
  412,
  422,
  428,
  436,
  444,
  452,
  458,
  2]
def has : List Addr := has_0 ++ has_1 ++ has_2 ++ has_3 ++ has_4 ++ has_5
def caOf (K : PySem.W.Frag) : Ca := ⟨He.ga K "Plan", He.ga K "State", He.ga K "Box", He.ga K "Trial"⟩
theorem tx_of {w : World} {K : PySem.W.Frag} {h : Heap} {mg : Str → Option Value} (X : K.In h) (G : h.Ns mainGlobals mg) (c : SaysB hfa hfn hex "SIZES" sizesK w K) : Tx w K mg (caOf K) where
  n_len := He.free_ok X G (c.a.fact 0 (f := .free "len") rfl)
  n_all := He.free_ok X G (c.a.fact 1 (f := .free "all") rfl)
  n_isinstance := He.free_ok X G (c.a.fact 2 (f := .free "isinstance") rfl)
  n_enumerate := He.free_ok X G (c.a.fact 3 (f := .free "enumerate") rfl)
  n_zip := He.free_ok X G (c.a.fact 4 (f := .free "zip") rfl)
  n_tuple := He.free_ok X G (c.a.fact 5 (f := .free "tuple") rfl)
  n_list := He.free_ok X G (c.a.fact 6 (f := .free "list") rfl)
  n_range := He.free_ok X G (c.a.fact 7 (f := .free "range") rfl)
  n_min := He.free_ok X G (c.a.fact 8 (f := .free "min") rfl)
  n_sorted := He.free_ok X G (c.a.fact 9 (f := .free "sorted") rfl)
  n_int := He.free_ok X G (c.a.fact 10 (f := .free "int") rfl)
  n_sum := He.free_ok X G (c.a.fact 11 (f := .free "sum") rfl)
  n_dict := He.free_ok X G (c.a.fact 12 (f := .free "dict") rfl)
  n_bool := He.free_ok X G (c.a.fact 13 (f := .free "bool") rfl)
  n_str := He.free_ok X G (c.a.fact 14 (f := .free "str") rfl)
  g_LETTERS := He.str_ok X G (c.a.fact 15 (f := .str "LETTERS" "abcdefghijklmnopqrstuvwxyz") rfl)
  g_LAMP := He.str_ok X G (c.a.fact 16 (f := .str "LAMP" "lamp") rfl)
  g_PLUG := He.str_ok X G (c.a.fact 17 (f := .str "PLUG" "plug") rfl)
  g_FREE := He.str_ok X G (c.a.fact 18 (f := .str "FREE" "free") rfl)
  g_ROOMS := He.str_ok X G (c.a.fact 19 (f := .str "ROOMS" "rooms") rfl)
  g_MAX_LETTERS := He.int_ok X G (c.a.fact 20 (f := .int "MAX_LETTERS" 8) rfl)
  g_MAX_BREAKERS := He.int_ok X G (c.a.fact 21 (f := .int "MAX_BREAKERS" 5) rfl)
  g_MAX_RATE := He.int_ok X G (c.a.fact 22 (f := .int "MAX_RATE" 99) rfl)
  g_MAX_POINTS := He.int_ok X G (c.a.fact 23 (f := .int "MAX_POINTS" 5) rfl)
  g_MAX_ROOM := He.int_ok X G (c.a.fact 24 (f := .int "MAX_ROOM" 9) rfl)
  g_MAX_LOAD := He.int_ok X G (c.a.fact 25 (f := .int "MAX_LOAD" 99) rfl)
  sizes := sizes_ok X G c (c.a.fact 26 (f := .glo "SIZES") rfl) (c.ex 0 (f := fun K => He.valsB K (He.ga K "SIZES") sizesL) rfl)
  c_Plan := scls_ok (c.ex 1 (f := fun K => sclsB K (He.ga K "Plan")) rfl)
  c_State := scls_ok (c.ex 2 (f := fun K => sclsB K (He.ga K "State")) rfl)
  c_Box := He.cls_ok (c.a.fact 27 (f := .cls "Box") rfl)
  c_Trial := He.cls_ok (c.a.fact 28 (f := .cls "Trial") rfl)
  sl_parts := ⟨_, slot_ok (by decide) (c.ex 3 (f := fun K => slotB K (He.ga K "Plan") "parts" 0) rfl)⟩
  sl_facts := ⟨_, slot_ok (by decide) (c.ex 4 (f := fun K => slotB K (He.ga K "State") "facts" (pm 0)) rfl)⟩
  sl_shelf := ⟨_, slot_ok (by decide) (c.ex 5 (f := fun K => slotB K (He.ga K "State") "shelf" (pm 1)) rfl)⟩
  sl_past := ⟨_, slot_ok (by decide) (c.ex 6 (f := fun K => slotB K (He.ga K "State") "past" (pm 2)) rfl)⟩
  sl_undone := ⟨_, slot_ok (by decide) (c.ex 7 (f := fun K => slotB K (He.ga K "State") "undone" (pm 3)) rfl)⟩
  na_plan := He.noat_ok (c.a.fact 29 (f := .noat "Box" "plan") rfl)
  na_held := He.noat_ok (c.a.fact 30 (f := .noat "Box" "held") rfl)
  na_tested_box := He.noat_ok (c.a.fact 31 (f := .noat "Trial" "tested_box") rfl)
  na_origin := He.noat_ok (c.a.fact 32 (f := .noat "Trial" "origin") rfl)
  na_fresh := He.noat_ok (c.a.fact 33 (f := .noat "Trial" "fresh") rfl)
  na_chosen := He.noat_ok (c.a.fact 34 (f := .noat "Trial" "chosen") rfl)
  f_is_number := ⟨_, He.glo_ok X G (c.a.fact 35 (f := .glo "is_number") rfl), c.a.def_ 0 (d := d0) rfl⟩
  f_is_word := ⟨_, He.glo_ok X G (c.a.fact 36 (f := .glo "is_word") rfl), c.a.def_ 1 (d := d1) rfl⟩
  f_are_rates := ⟨_, He.glo_ok X G (c.a.fact 37 (f := .glo "are_rates") rfl), c.a.def_ 2 (d := d2) rfl⟩
  f_are_above := ⟨_, He.glo_ok X G (c.a.fact 38 (f := .glo "are_above") rfl), c.a.def_ 3 (d := d3) rfl⟩
  f_is_point := ⟨_, He.glo_ok X G (c.a.fact 39 (f := .glo "is_point") rfl), c.a.def_ 4 (d := d4) rfl⟩
  f_are_points := ⟨_, He.glo_ok X G (c.a.fact 40 (f := .glo "are_points") rfl), c.a.def_ 5 (d := d5) rfl⟩
  k_Plan := ⟨_, He.mkr_ok (c.a.fact 41 (f := .mkr "Plan") rfl), He.glo_ok X G (c.a.fact 42 (f := .glo "Plan") rfl), c.a.def_ 6 (d := d6) rfl⟩
  p_Plan_rates := ⟨_, _, prop_ok (c.ex 8 (f := fun K => propB K (He.ga K "Plan") "rates") rfl), c.a.def_ 7 (d := d7) rfl⟩
  p_Plan_above := ⟨_, _, prop_ok (c.ex 9 (f := fun K => propB K (He.ga K "Plan") "above") rfl), c.a.def_ 8 (d := d8) rfl⟩
  p_Plan_points := ⟨_, _, prop_ok (c.ex 10 (f := fun K => propB K (He.ga K "Plan") "points") rfl), c.a.def_ 9 (d := d9) rfl⟩
  p_Plan_rule := ⟨_, _, prop_ok (c.ex 11 (f := fun K => propB K (He.ga K "Plan") "rule") rfl), c.a.def_ 10 (d := d10) rfl⟩
  p_Plan_names := ⟨_, _, prop_ok (c.ex 12 (f := fun K => propB K (He.ga K "Plan") "names") rfl), c.a.def_ 11 (d := d11) rfl⟩
  x_Plan_len := ⟨_, (spc_ok (c.ex 13 (f := fun K => spcB K (He.ga K "Plan") "__len__") rfl)).1, (spc_ok (c.ex 13 (f := fun K => spcB K (He.ga K "Plan") "__len__") rfl)).2, c.a.def_ 12 (d := d12) rfl⟩
  f_does_follow := ⟨_, He.glo_ok X G (c.a.fact 43 (f := .glo "does_follow") rfl), c.a.def_ 13 (d := d13) rfl⟩
  f_is_wiring := ⟨_, He.glo_ok X G (c.a.fact 44 (f := .glo "is_wiring") rfl), c.a.def_ 14 (d := d14) rfl⟩
  f_check_wiring := ⟨_, He.glo_ok X G (c.a.fact 45 (f := .glo "check_wiring") rfl), c.a.def_ 15 (d := d15) rfl⟩
  f_check_name := ⟨_, He.glo_ok X G (c.a.fact 46 (f := .glo "check_name") rfl), c.a.def_ 16 (d := d16) rfl⟩
  f_check_breaker := ⟨_, He.glo_ok X G (c.a.fact 47 (f := .glo "check_breaker") rfl), c.a.def_ 17 (d := d17) rfl⟩
  f_all_on := ⟨_, He.glo_ok X G (c.a.fact 48 (f := .glo "all_on") rfl), c.a.def_ 18 (d := d18) rfl⟩
  f_line_up := ⟨_, He.glo_ok X G (c.a.fact 49 (f := .glo "line_up") rfl), c.a.def_ 19 (d := d19) rfl⟩
  f_has_power := ⟨_, He.glo_ok X G (c.a.fact 50 (f := .glo "has_power") rfl), c.a.def_ 20 (d := d20) rfl⟩
  f_live_in := ⟨_, He.glo_ok X G (c.a.fact 51 (f := .glo "live_in") rfl), c.a.def_ 21 (d := d21) rfl⟩
  f_currents_in := ⟨_, He.glo_ok X G (c.a.fact 52 (f := .glo "currents_in") rfl), c.a.def_ 22 (d := d22) rfl⟩
  f_trips_in := ⟨_, He.glo_ok X G (c.a.fact 53 (f := .glo "trips_in") rfl), c.a.def_ 23 (d := d23) rfl⟩
  f_is_operation := ⟨_, He.glo_ok X G (c.a.fact 54 (f := .glo "is_operation") rfl), c.a.def_ 24 (d := d24) rfl⟩
  f_switched := ⟨_, He.glo_ok X G (c.a.fact 55 (f := .glo "switched") rfl), c.a.def_ 25 (d := d25) rfl⟩
  k_State := ⟨_, He.mkr_ok (c.a.fact 56 (f := .mkr "State") rfl), He.glo_ok X G (c.a.fact 57 (f := .glo "State") rfl), c.a.def_ 26 (d := d26) rfl⟩
  m_State_copied := ⟨_, He.meth_ok (c.a.fact 58 (f := .meth "State" "copied") rfl), c.a.def_ 27 (d := d27) rfl⟩
  m_State_go_on := ⟨_, He.meth_ok (c.a.fact 59 (f := .meth "State" "go_on") rfl), c.a.def_ 28 (d := d28) rfl⟩
  m_State_go_back := ⟨_, He.meth_ok (c.a.fact 60 (f := .meth "State" "go_back") rfl), c.a.def_ 29 (d := d29) rfl⟩
  m_State_go_again := ⟨_, He.meth_ok (c.a.fact 61 (f := .meth "State" "go_again") rfl), c.a.def_ 30 (d := d30) rfl⟩
  k_Box := ⟨_, He.mkr_ok (c.a.fact 62 (f := .mkr "Box") rfl), He.glo_ok X G (c.a.fact 63 (f := .glo "Box") rfl), c.a.def_ 31 (d := d31) rfl⟩
  cm_Box_replay := ⟨_, _, _, He.glo_ok X G (c.a.fact 63 (f := .glo "Box") rfl), (cm_ok (c.ex 14 (f := fun K => cmB K (He.ga K "Box") "replay") rfl)).1, (cm_ok (c.ex 14 (f := fun K => cmB K (He.ga K "Box") "replay") rfl)).2, c.a.def_ 32 (d := d32) rfl⟩
  p_Box_state_now := ⟨_, _, prop_ok (c.ex 15 (f := fun K => propB K (He.ga K "Box") "state_now") rfl), c.a.def_ 33 (d := d33) rfl⟩
  p_Box_loads_now := ⟨_, _, prop_ok (c.ex 16 (f := fun K => propB K (He.ga K "Box") "loads_now") rfl), c.a.def_ 34 (d := d34) rfl⟩
  p_Box_fed_now := ⟨_, _, prop_ok (c.ex 17 (f := fun K => propB K (He.ga K "Box") "fed_now") rfl), c.a.def_ 35 (d := d35) rfl⟩
  p_Box_trip_count := ⟨_, _, prop_ok (c.ex 18 (f := fun K => propB K (He.ga K "Box") "trip_count") rfl), c.a.def_ 36 (d := d36) rfl⟩
  p_Box_kept_under := ⟨_, _, prop_ok (c.ex 19 (f := fun K => propB K (He.ga K "Box") "kept_under") rfl), c.a.def_ 37 (d := d37) rfl⟩
  p_Box_history := ⟨_, _, prop_ok (c.ex 20 (f := fun K => propB K (He.ga K "Box") "history") rfl), c.a.def_ 38 (d := d38) rfl⟩
  m_Box_settle := ⟨_, He.meth_ok (c.a.fact 64 (f := .meth "Box" "settle") rfl), c.a.def_ 39 (d := d39) rfl⟩
  m_Box_flip := ⟨_, He.meth_ok (c.a.fact 65 (f := .meth "Box" "flip") rfl), c.a.def_ 40 (d := d40) rfl⟩
  m_Box_plug := ⟨_, He.meth_ok (c.a.fact 66 (f := .meth "Box" "plug") rfl), c.a.def_ 41 (d := d41) rfl⟩
  m_Box_rewire := ⟨_, He.meth_ok (c.a.fact 67 (f := .meth "Box" "rewire") rfl), c.a.def_ 42 (d := d42) rfl⟩
  m_Box_reset := ⟨_, He.meth_ok (c.a.fact 68 (f := .meth "Box" "reset") rfl), c.a.def_ 43 (d := d43) rfl⟩
  m_Box_keep_as := ⟨_, He.meth_ok (c.a.fact 69 (f := .meth "Box" "keep_as") rfl), c.a.def_ 44 (d := d44) rfl⟩
  m_Box_fetch := ⟨_, He.meth_ok (c.a.fact 70 (f := .meth "Box" "fetch") rfl), c.a.def_ 45 (d := d45) rfl⟩
  m_Box_undo := ⟨_, He.meth_ok (c.a.fact 71 (f := .meth "Box" "undo") rfl), c.a.def_ 46 (d := d46) rfl⟩
  m_Box_redo := ⟨_, He.meth_ok (c.a.fact 72 (f := .meth "Box" "redo") rfl), c.a.def_ 47 (d := d47) rfl⟩
  m_Box_execute := ⟨_, He.meth_ok (c.a.fact 73 (f := .meth "Box" "execute") rfl), c.a.def_ 48 (d := d48) rfl⟩
  m_Box_apply_all := ⟨_, He.meth_ok (c.a.fact 74 (f := .meth "Box" "apply_all") rfl), c.a.def_ 49 (d := d49) rfl⟩
  k_Trial := ⟨_, He.mkr_ok (c.a.fact 75 (f := .mkr "Trial") rfl), He.glo_ok X G (c.a.fact 76 (f := .glo "Trial") rfl), c.a.def_ 50 (d := d50) rfl⟩
  m_Trial_hold := ⟨_, He.meth_ok (c.a.fact 77 (f := .meth "Trial" "hold") rfl), c.a.def_ 51 (d := d51) rfl⟩
  x_Trial_enter := ⟨_, (spc_ok (c.ex 21 (f := fun K => spcB K (He.ga K "Trial") "__enter__") rfl)).1, (spc_ok (c.ex 21 (f := fun K => spcB K (He.ga K "Trial") "__enter__") rfl)).2, c.a.def_ 52 (d := d52) rfl⟩
  x_Trial_exit := ⟨_, (spc_ok (c.ex 22 (f := fun K => spcB K (He.ga K "Trial") "__exit__") rfl)).1, (spc_ok (c.ex 22 (f := fun K => spcB K (He.ga K "Trial") "__exit__") rfl)).2, c.a.def_ 53 (d := d53) rfl⟩
  f_law_taken := ⟨_, He.glo_ok X G (c.a.fact 78 (f := .glo "_law_taken") rfl), c.a.def_ 54 (d := d54) rfl⟩
  f_law_pick := ⟨_, He.glo_ok X G (c.a.fact 79 (f := .glo "_law_pick") rfl), c.a.def_ 55 (d := d55) rfl⟩
  f_law_scheme := ⟨_, He.glo_ok X G (c.a.fact 80 (f := .glo "_law_scheme") rfl), c.a.def_ 56 (d := d56) rfl⟩
  f_law_plan := ⟨_, He.glo_ok X G (c.a.fact 81 (f := .glo "_law_plan") rfl), c.a.def_ 57 (d := d57) rfl⟩
  f_law_wirings := ⟨_, He.glo_ok X G (c.a.fact 82 (f := .glo "_law_wirings") rfl), c.a.def_ 58 (d := d58) rfl⟩
  f_law_has := ⟨_, He.glo_ok X G (c.a.fact 83 (f := .glo "_law_has") rfl), c.a.def_ 59 (d := d59) rfl⟩
  f_law_lit := ⟨_, He.glo_ok X G (c.a.fact 84 (f := .glo "_law_lit") rfl), c.a.def_ 60 (d := d60) rfl⟩
  f_law_under := ⟨_, He.glo_ok X G (c.a.fact 85 (f := .glo "_law_under") rfl), c.a.def_ 61 (d := d61) rfl⟩
  f_law_flows := ⟨_, He.glo_ok X G (c.a.fact 86 (f := .glo "_law_flows") rfl), c.a.def_ 62 (d := d62) rfl⟩
  f_law_tripped := ⟨_, He.glo_ok X G (c.a.fact 87 (f := .glo "_law_tripped") rfl), c.a.def_ 63 (d := d63) rfl⟩
  f_law_at := ⟨_, He.glo_ok X G (c.a.fact 88 (f := .glo "_law_at") rfl), c.a.def_ 64 (d := d64) rfl⟩
  f_law_run := ⟨_, He.glo_ok X G (c.a.fact 89 (f := .glo "_law_run") rfl), c.a.def_ 65 (d := d65) rfl⟩
  f_law_reset := ⟨_, He.glo_ok X G (c.a.fact 90 (f := .glo "_law_reset") rfl), c.a.def_ 66 (d := d66) rfl⟩
  f_law_step := ⟨_, He.glo_ok X G (c.a.fact 91 (f := .glo "_law_step") rfl), c.a.def_ 67 (d := d67) rfl⟩
  f_law_shows := ⟨_, He.glo_ok X G (c.a.fact 92 (f := .glo "_law_shows") rfl), c.a.def_ 68 (d := d68) rfl⟩
theorem law_of {w : World} {K : PySem.W.Frag} {h : Heap} {mg : Str → Option Value} (X : K.In h) (G : h.Ns mainGlobals mg) (c : SaysB hfa hfn hex "SIZES" sizesK w K) : ∃ f, mg "law" = some (.ref f) ∧ FD K "law" "law" slaw f := ⟨_, He.glo_ok X G (c.a.fact 93 (f := .glo "law") rfl), c.a.def_ 69 (d := d69) rfl⟩
end Bf
/-! ### the head: the run of the top -/
namespace Bf
open PySem PySem.W PySem.Calls PyProof.Rows HandSHeadRun
abbrev RR : OpenRow := OpenLaw.row PySem.Challenge.rw_blindfuses_k70_whole_boxes_of_long_histo
/-- the law alone is looked at as a statement of the top -/
abbrev qv : Program := view RR.prog [65]
/-- the other names that the top binds -/
def lo0 : List PySem.Str := [("_wall" : PySem.Str), ("FuseError" : PySem.Str), ("InvalidPlan" : PySem.Str), ("InvalidWiring" : PySem.Str), ("UnknownName" : PySem.Str), ("UnknownBreaker" : PySem.Str), ("InvalidNumber" : PySem.Str), ("InvalidName" : PySem.Str), ("UnknownKept" : PySem.Str), ("InvalidOperation" : PySem.Str), ("LETTERS" : PySem.Str), ("MAX_LETTERS" : PySem.Str), ("MAX_BREAKERS" : PySem.Str), ("MAX_RATE" : PySem.Str), ("MAX_POINTS" : PySem.Str)]
def lo1 : List PySem.Str := [("MAX_ROOM" : PySem.Str), ("LAMP" : PySem.Str), ("PLUG" : PySem.Str), ("FREE" : PySem.Str), ("ROOMS" : PySem.Str), ("is_number" : PySem.Str), ("is_word" : PySem.Str), ("are_rates" : PySem.Str), ("are_above" : PySem.Str), ("is_point" : PySem.Str), ("are_points" : PySem.Str), ("Plan" : PySem.Str), ("does_follow" : PySem.Str), ("is_wiring" : PySem.Str), ("check_wiring" : PySem.Str)]
def lo2 : List PySem.Str := [("check_name" : PySem.Str), ("check_breaker" : PySem.Str), ("all_on" : PySem.Str), ("line_up" : PySem.Str), ("MAX_LOAD" : PySem.Str), ("has_power" : PySem.Str), ("live_in" : PySem.Str), ("currents_in" : PySem.Str), ("trips_in" : PySem.Str), ("SIZES" : PySem.Str), ("is_operation" : PySem.Str), ("switched" : PySem.Str), ("State" : PySem.Str), ("Box" : PySem.Str), ("Trial" : PySem.Str)]
def lo3 : List PySem.Str := [("_law_taken" : PySem.Str), ("_law_pick" : PySem.Str), ("_law_scheme" : PySem.Str), ("_law_plan" : PySem.Str), ("_law_wirings" : PySem.Str), ("_law_has" : PySem.Str), ("_law_lit" : PySem.Str), ("_law_under" : PySem.Str), ("_law_flows" : PySem.Str), ("_law_tripped" : PySem.Str), ("_law_at" : PySem.Str), ("_law_run" : PySem.Str), ("_law_reset" : PySem.Str), ("_law_step" : PySem.Str), ("_law_shows" : PySem.Str)]
def loose : List PySem.Str := lo0 ++ lo1 ++ lo2 ++ lo3
def obA (s : SharedT) : AlB := obsBG hfa hfn hex "SIZES" has (getT s)
abbrev hkA : Hook := hookB hfa hfn hex "SIZES" sizesK has
theorem obA_eq (s : SharedT) : obA s = hkA.obs s.abs := obsBG_eq hfa hfn hex "SIZES" sizesK has (getT_eq s)
theorem runL (w : World) : ∀ os : OsState, (endF (stepQ (denQ tabQ) RR.prog w) 8000 RR.prog w os).map (fun s => looksF RR.prog (boot_heap w.params) s.abs) = some true :=
  byRow2 "special-get-raises" (P := fun w => ∀ os : OsState, (endF (stepQ (denQ tabQ) RR.prog w) 8000 RR.prog w os).map (fun s => looksF RR.prog (boot_heap w.params) s.abs) = some true) (fun w os => by kernel_rfl) (fun w os => by kernel_rfl) w
theorem runS (w : World) : ∀ os : OsState, (endF (stepQ (denQ tabQ) RR.prog w) 8000 RR.prog w os).map (fun s => seenQ qv loose (importedModules RR.prog.main.body) (fun s => xlAt qv [] s && recOk RR.toRowW.records s) s.abs) = some (openGood qv loose) :=
  byRow2 "special-get-raises" (P := fun w => ∀ os : OsState, (endF (stepQ (denQ tabQ) RR.prog w) 8000 RR.prog w os).map (fun s => seenQ qv loose (importedModules RR.prog.main.body) (fun s => xlAt qv [] s && recOk RR.toRowW.records s) s.abs) = some (openGood qv loose)) (fun w os => by kernel_rfl) (fun w os => by kernel_rfl) w
theorem runO (w : World) : ∀ os : OsState, (endF (stepQ (denQ tabQ) RR.prog w) 8000 RR.prog w os).map obA = some (valB hfn sizesK w) :=
  byRow2 "special-get-raises" (P := fun w => ∀ os : OsState, (endF (stepQ (denQ tabQ) RR.prog w) 8000 RR.prog w os).map obA = some (valB hfn sizesK w)) (fun w os => by kernel_rfl) (fun w os => by kernel_rfl) w
theorem join3 {α β γ δ : Type} {o : Option α} {f : α → β} {g : α → γ} {h : α → δ} {a : β} {b : γ} {c : δ} (h1 : o.map f = some a) (h2 : o.map g = some b) (h3 : o.map h = some c) : o.map (fun s => (f s, g s, h s)) = some (a, b, c) := by
  cases o with
  | none => cases h1
  | some s =>
    cases h1
    cases h2
    cases h3
    rfl
theorem runA (w : World) : RunEq RR qv hkA obA 8000 loose w := fun os => join3 (runL w os) (runS w os) (runO w os)
end Bf
/-! ### the mirror's plan; its defs -/
namespace Bf
open PySem PySem.Spec PyProof.Rows L2
structure Pl where
  rates : List Nat
  above : List (Option Nat)
  pts : List (Str × Str × Nat)
  rule : Str
def dN (n : Nat) : D := .int (n : Int)
def dO : Option Nat → D
  | none => .non
  | some n => .int (n : Int)
abbrev dPt (p : Str × Str × Nat) : D := .tup [.str p.1, .str p.2.1, .int (p.2.2 : Int)]
abbrev dRates (P : Pl) : D := .tup (P.rates.map dN)
abbrev dAbove (P : Pl) : D := .tup (P.above.map dO)
abbrev dPts (P : Pl) : D := .tup (P.pts.map dPt)
abbrev dParts (P : Pl) : D := .tup [dRates P, dAbove P, dPts P, .str P.rule]
variable {F : Fm}
/-- a plan -/
def Ev.pl (F : Fm) (c : Ca) (P : Pl) : Ev F := ⟨fun H v => ∃ a dx vs t, v = .ref a ∧ ¬ F.A a ∧ ¬ F.A dx ∧ H a = some (SlX.SlO a c.plan dx vs) ∧ H dx = some (.xd []) ∧ vs[0]? = some (some t) ∧ Rep H (dParts P) t,
  fun i r ⟨a, dx, vs, t, e, n1, n2, h1, h2, h3, h4⟩ => ⟨a, dx, vs, t, e, n1, n2, r.2 _ _ h1 n1, r.2 _ _ h2 n2, h3, Rep.pr (Fm.toPr i r) h4⟩⟩
section
variable {Γ : Env' F} {te : TE} {t : TA} {K : PySem.W.Frag} {c : Ca} {P : Pl} {e : Ev F} {R : (F : Fm) → List (Ev F) → Ev F → Prop}
theorem pd_pp (h : Pd Γ te (Ev.pl F c P)) (r : R F [Ev.pl F c P] e) : Pd Γ (SlX.tPropSl c.plan (SpG R) E0 te) e := fun σ H Q i g k => h σ H _ i g fun v H1 r1 q => by
  obtain ⟨a, dx, vs, t, e1, n1, n2, h1, h2, h3, h4⟩ := id q
  refine ⟨a, dx, vs, e1, .inr ⟨h1, h2⟩, ?_⟩
  rw [← e1]
  exact spg_use r1.1 r ⟨v, [], rfl, q, rfl⟩ fun v' H2 r2 z => k v' H2 (Fm.trans r1 r2) z
theorem pd_lenO {n : Nat} (h : Pd Γ te (Ev.pl F c P)) (r : R F [Ev.pl F c P] (Ev.d F (.int (n : Int)))) (hn : n < 1000) : Pd Γ (tCB (rLenO c.plan (SpG R)) (tCons te tNil)) (Ev.d F (.int (n : Int))) := fun σ H Q i g k => h σ H _ i g fun v H1 r1 q => by
  obtain ⟨a, dx, vs, t, e1, n1, n2, h1, h2, h3, h4⟩ := id q
  refine ⟨a, dx, vs, by rw [e1], .inr ⟨h1, h2⟩, ?_⟩
  rw [← e1]
  exact spg_use r1.1 r ⟨v, [], rfl, q, rfl⟩ fun v' H2 r2 z => ⟨n, z, hn, k v' H2 (Fm.trans r1 r2) z⟩
theorem pd_parts {w : World} {mg : Str → Option Value} (T : Tx w K mg c) (h : Pd Γ te (Ev.pl F c P)) : Pd Γ (SlX.tSl K te "parts") (Ev.d F (dParts P)) := fun σ H Q i g k => h σ H _ i g fun v H1 r1 q => by
  obtain ⟨a, dx, vs, t, e1, n1, n2, h1, h2, h3, h4⟩ := q
  obtain ⟨p, hs⟩ := T.sl_parts
  exact ⟨a, c.plan, dx, p, vs, 0, t, e1, .inr ⟨h1, h2⟩, T.c_Plan, hs, h3, k t H1 r1 h4⟩
end
theorem pds_skip {Γ : Env' F} {c : TT} {t u : TS} {e : Ev F} (h : PdT Γ c false) (h2 : Pds Γ u e) : Pds Γ (tSeq (tIfS c t tNext) u) e := pds_ifS h (fun z => nomatch z) fun _ => pds_nextS h2
theorem pd_blt {Γ : Env' F} {t : TE} {b x : Bool} (h : Pd Γ t (Ev.d F (.bl b))) (q : b = x) : Pd Γ t (Ev.d F (.bl x)) := q ▸ h
theorem pc_allM {K : PySem.W.Frag} {ι : Type} {is : List ι} {p : ι → Bool} : PdC F (rAll K) [Ev.l F (is.map fun i => .bl (p i))] (Ev.d F (.bl (is.all p))) := by
  have h := pc_all (F := F) (K := K) (bs := is.map p)
  rw [List.map_map, List.all_map] at h
  exact h
theorem pc_sumM {K : PySem.W.Frag} {ι : Type} {is : List ι} {p : ι → Int} : PdC F (rSum K) [Ev.l F (is.map fun i => .int (p i))] (Ev.d F (.int ((is.map p).sum))) := by
  have h := pc_sum (F := F) (K := K) (ns := is.map p)
  rw [List.map_map] at h
  exact h
end Bf
/-! ### the mirror: what the program computes, in plain terms -/
namespace Bf
open PySem PySem.Spec PyProof.Rows L2
def sg (x : Str) : List Nat := x.cps.toList
def WordOk (x : Str) : Prop := 1 ≤ x.length ∧ x.length ≤ 8 ∧ ∀ ch ∈ x.cps.toList, ch ∈ ("abcdefghijklmnopqrstuvwxyz" : Str).cps.toList
structure Pl.Ok (P : Pl) : Prop where
  n1 : 1 ≤ P.rates.length
  n5 : P.rates.length ≤ 5
  r : ∀ r ∈ P.rates, 1 ≤ r ∧ r ≤ 99
  al : P.above.length = P.rates.length
  ab : ∀ (i o : Nat), P.above[i]? = some (some o) → o < i
  p1 : 1 ≤ P.pts.length
  p5 : P.pts.length ≤ 5
  pw : ∀ p ∈ P.pts, WordOk p.1 ∧ (p.2.1 = ("lamp" : Str) ∨ p.2.1 = ("plug" : Str)) ∧ p.2.2 ≤ 9
  ps : ∀ (i : Nat) a b, P.pts[i]? = some a → P.pts[i + 1]? = some b → a.1.cps.toList < b.1.cps.toList
  nd : (P.pts.map (·.1)).Nodup
  ru : P.rule = ("free" : Str) ∨ P.rule = ("rooms" : Str)
abbrev Pl.n (P : Pl) : Nat := P.rates.length
def lineF (ab : List (Option Nat)) : Nat → Nat → List Nat
  | 0, b => [b]
  | f + 1, b => match ab[b]? with
    | some (some o) => lineF ab f o ++ [b]
    | _ => [b]
def line (P : Pl) (b : Nat) : List Nat := lineF P.above b b
def isOn (st : List Bool) (k : Nat) : Bool := st[k]?.getD false
def pow (P : Pl) (st : List Bool) : Option Nat → Bool
  | none => false
  | some b => (line P b).all (isOn st)
def under (P : Pl) (k : Nat) : Option Nat → Bool
  | none => false
  | some b => decide (k ∈ line P b)
def ldGet (ld : List (Str × Nat)) (x : Str) : Nat := ((ld.find? fun p => decide (p.1 = x)).map (·.2)).getD 0
def curr (P : Pl) (wi : List (Option Nat)) (st : List Bool) (ld : List (Str × Nat)) (k : Nat) : Nat := ((P.pts.zip wi).map fun q => if pow P st q.2 && under P k q.2 then ldGet ld q.1.1 else 0).sum
def currs (P : Pl) (wi : List (Option Nat)) (st : List Bool) (ld : List (Str × Nat)) : List Nat := (List.range P.n).map (curr P wi st ld)
def rate (P : Pl) (k : Nat) : Nat := P.rates[k]?.getD 0
def overs (P : Pl) (wi : List (Option Nat)) (st : List Bool) (ld : List (Str × Nat)) : List Nat := (List.range P.n).filter fun k => decide (rate P k < curr P wi st ld k)
def pairOf (P : Pl) (k : Nat) : Int × Int := ((rate P k : Nat), 0 - (k : Int))
def pmin (p : Int × Int) (ps : List (Int × Int)) : Int × Int := ps.foldl (fun a y => if ltP2 y a then y else a) p
def firstOf (P : Pl) : List Nat → Option Nat
  | [] => none
  | k :: ks => some (0 - (pmin (pairOf P k) (ks.map (pairOf P))).2).toNat
def trF (P : Pl) (wi : List (Option Nat)) (ld : List (Str × Nat)) : Nat → List Bool → List Nat → List Bool × List Nat
  | 0, st, ns => (st, ns)
  | f + 1, st, ns => match firstOf P (overs P wi st ld) with
    | none => (st, ns)
    | some k => trF P wi ld f (st.set k false) (ns ++ [k])
def trips (P : Pl) (wi : List (Option Nat)) (st : List Bool) (ld : List (Str × Nat)) : List Bool × List Nat := trF P wi ld 9 st []
def lives (P : Pl) (wi : List (Option Nat)) (st : List Bool) : List Str := ((P.pts.zip wi).filter fun q => pow P st q.2).map (·.1.1)
structure Wok (P : Pl) (wi : List (Option Nat)) : Prop where
  len : wi.length = P.pts.length
  lt : ∀ (i b : Nat), wi[i]? = some (some b) → b < P.n
  fo : P.rule = ("free" : Str) ∨ ∀ (i j : Nat) p q, P.pts[i]? = some p → P.pts[j]? = some q → p.2.1 = ("lamp" : Str) → q.2.1 = ("lamp" : Str) → p.2.2 = q.2.2 → wi[i]? = wi[j]?
/-! lines -/
section
variable {P : Pl}
theorem lineF_enough (h : P.Ok) : ∀ (f g b : Nat), b ≤ f → b ≤ g → lineF P.above f b = lineF P.above g b
  | 0, 0, b, _, _ => rfl
  | 0, g + 1, b, h1, _ => by
    have e : b = 0 := by omega
    subst e
    unfold lineF
    cases q : P.above[0]? with
    | none => rfl
    | some o =>
      cases o with
      | none => rfl
      | some o =>
        have := h.ab 0 o q
        omega
  | f + 1, 0, b, _, h2 => by
    have e : b = 0 := by omega
    subst e
    unfold lineF
    cases q : P.above[0]? with
    | none => rfl
    | some o =>
      cases o with
      | none => rfl
      | some o =>
        have := h.ab 0 o q
        omega
  | f + 1, g + 1, b, h1, h2 => by
    unfold lineF
    cases q : P.above[b]? with
    | none => rfl
    | some o =>
      cases o with
      | none => rfl
      | some o =>
        have := h.ab b o q
        show lineF P.above f o ++ [b] = lineF P.above g o ++ [b]
        rw [lineF_enough h f g o (by omega) (by omega)]
theorem line_stop {b : Nat} (h : P.above[b]? = none) : line P b = [b] := by
  unfold line
  cases b with
  | zero => rfl
  | succ b =>
    unfold lineF
    rw [h]
theorem line_top {b : Nat} (h : P.above[b]? = some none) : line P b = [b] := by
  unfold line
  cases b with
  | zero => rfl
  | succ b =>
    unfold lineF
    rw [h]
theorem line_up (h : P.Ok) {b o : Nat} (q : P.above[b]? = some (some o)) : line P b = line P o ++ [b] := by
  have lt := h.ab b o q
  unfold line
  cases b with
  | zero => omega
  | succ b =>
    show (match P.above[b + 1]? with | some (some o) => lineF P.above b o ++ [b + 1] | _ => [b + 1]) = _
    rw [q]
    show lineF P.above b o ++ [b + 1] = _
    rw [lineF_enough h b o o (by omega) (Nat.le_refl _)]
theorem line_lt (h : P.Ok) : ∀ {b k : Nat}, k ∈ line P b → k ≤ b
  | b, k, hk => by
    cases q : P.above[b]? with
    | none =>
      rw [line_stop q] at hk
      simp at hk
      omega
    | some o =>
      cases o with
      | none =>
        rw [line_top q] at hk
        simp at hk
        omega
      | some o =>
        have lt := h.ab b o q
        rw [line_up h q] at hk
        rcases List.mem_append.mp hk with m | m
        · have := line_lt h (b := o) m
          omega
        · simp at m
          omega
termination_by b => b
theorem line_self (b : Nat) : b ∈ line P b := by
  unfold line
  cases b with
  | zero => simp [lineF]
  | succ b =>
    unfold lineF
    split <;> simp
theorem line_nodup (h : P.Ok) : ∀ (b : Nat), (line P b).Nodup
  | b => by
    cases q : P.above[b]? with
    | none =>
      rw [line_stop q]
      simp
    | some o =>
      cases o with
      | none =>
        rw [line_top q]
        simp
      | some o =>
        have lt := h.ab b o q
        rw [line_up h q, List.nodup_append]
        refine ⟨line_nodup h o, by simp, fun x hx y hy => ?_⟩
        have := line_lt h hx
        simp at hy
        omega
termination_by b => b
theorem line_len (h : P.Ok) : ∀ (b : Nat), (line P b).length ≤ b + 1
  | b => by
    cases q : P.above[b]? with
    | none =>
      rw [line_stop q]
      simp
    | some o =>
      cases o with
      | none =>
        rw [line_top q]
        simp
      | some o =>
        have lt := h.ab b o q
        have ih := line_len h o
        rw [line_up h q, List.length_append, List.length_singleton]
        omega
termination_by b => b
end
/-! trips -/
section
variable {P : Pl} {wi : List (Option Nat)} {ld : List (Str × Nat)} {st : List Bool}
theorem pmin_mem : ∀ (ps : List (Int × Int)) (p : Int × Int), pmin p ps ∈ p :: ps
  | [], p => by simp [pmin]
  | q :: ps, p => by
    have ih := pmin_mem ps (if ltP2 q p then q else p)
    show pmin (if ltP2 q p then q else p) ps ∈ p :: q :: ps
    by_cases h : ltP2 q p = true
    · rw [if_pos h] at ih ⊢
      rcases List.mem_cons.mp ih with e | e
      · rw [e]; simp
      · exact List.mem_cons_of_mem _ (List.mem_cons_of_mem _ e)
    · rw [if_neg h] at ih ⊢
      rcases List.mem_cons.mp ih with e | e
      · rw [e]; simp
      · exact List.mem_cons_of_mem _ (List.mem_cons_of_mem _ e)
theorem firstOf_mem {ks : List Nat} {k : Nat} (h : firstOf P ks = some k) : k ∈ ks := by
  cases ks with
  | nil => cases h
  | cons j js =>
    have e : (0 - (pmin (pairOf P j) (js.map (pairOf P))).2).toNat = k := Option.some.inj h
    have m := pmin_mem (js.map (pairOf P)) (pairOf P j)
    have : pmin (pairOf P j) (js.map (pairOf P)) ∈ (j :: js).map (pairOf P) := m
    obtain ⟨i, hi, hp⟩ := List.mem_map.mp this
    have : k = i := by
      rw [← e, ← hp]
      show (0 - (0 - (i : Int))).toNat = i
      omega
    rw [this]
    exact hi
theorem firstOf_none {ks : List Nat} : firstOf P ks = none ↔ ks = [] := by
  cases ks with
  | nil => simp [firstOf]
  | cons a b => simp [firstOf]
theorem sum_zero : ∀ {l : List Nat}, (∀ x ∈ l, x = 0) → l.sum = 0
  | [], _ => rfl
  | a :: l, h => by
    rw [List.sum_cons, h a (List.mem_cons_self), sum_zero fun x hx => h x (List.mem_cons_of_mem _ hx)]
theorem over_on (h : P.Ok) {k : Nat} (hk : k ∈ overs P wi st ld) : k < P.n ∧ isOn st k = true := by
  unfold overs at hk
  obtain ⟨h1, h2⟩ := List.mem_filter.mp hk
  have hn := List.mem_range.mp h1
  refine ⟨hn, ?_⟩
  have h3 := of_decide_eq_true h2
  have : 0 < curr P wi st ld k := by omega
  unfold curr at this
  have ex : ∃ x ∈ (P.pts.zip wi).map (fun q => if pow P st q.2 && under P k q.2 then ldGet ld q.1.1 else 0), x ≠ 0 := by
    refine Classical.byContradiction fun z => ?_
    have all : ∀ x ∈ (P.pts.zip wi).map (fun q => if pow P st q.2 && under P k q.2 then ldGet ld q.1.1 else 0), x = 0 := fun x hx => Classical.byContradiction fun y => z ⟨x, hx, y⟩
    have := sum_zero all
    omega
  obtain ⟨x, hx, hx0⟩ := ex
  obtain ⟨q, hq, e⟩ := List.mem_map.mp hx
  by_cases hc : (pow P st q.2 && under P k q.2) = true
  · rw [Bool.and_eq_true] at hc
    obtain ⟨c1, c2⟩ := hc
    cases hq2 : q.2 with
    | none =>
      rw [hq2] at c1
      cases c1
    | some b =>
      rw [hq2] at c1 c2
      exact List.all_eq_true.mp c1 k (of_decide_eq_true c2)
  · rw [if_neg hc] at e
    exact absurd e.symm hx0
def ons (st : List Bool) : Nat := st.count true
theorem ons_set {k : Nat} (h : isOn st k = true) : ons (st.set k false) + 1 = ons st := by
  unfold isOn at h
  unfold ons
  induction st generalizing k with
  | nil => simp at h
  | cons a st ih =>
    cases k with
    | zero =>
      simp at h
      subst h
      simp
    | succ k =>
      have := ih (k := k) (by simpa using h)
      rw [List.set_cons_succ, List.count_cons, List.count_cons]
      omega
theorem trF_enough (h : P.Ok) : ∀ (f g : Nat) (st : List Bool) (ns : List Nat), ons st < f → ons st < g → trF P wi ld f st ns = trF P wi ld g st ns
  | 0, _, _, _, h1, _ => by omega
  | _, 0, _, _, _, h2 => by omega
  | f + 1, g + 1, st, ns, h1, h2 => by
    unfold trF
    cases q : firstOf P (overs P wi st ld) with
    | none => rfl
    | some k =>
      have hk := over_on h (firstOf_mem q)
      have := ons_set hk.2
      exact trF_enough h f g _ _ (by omega) (by omega)
theorem trF_len (h : P.Ok) : ∀ (f : Nat) (st : List Bool) (ns : List Nat), (trF P wi ld f st ns).1.length = st.length ∧ (trF P wi ld f st ns).2.length + ons (trF P wi ld f st ns).1 = ns.length + ons st
  | 0, _, _ => ⟨rfl, rfl⟩
  | f + 1, st, ns => by
    unfold trF
    cases q : firstOf P (overs P wi st ld) with
    | none => exact ⟨rfl, rfl⟩
    | some k =>
      obtain ⟨h1, h2⟩ := trF_len h f (st.set k false) (ns ++ [k])
      have hk := over_on h (firstOf_mem q)
      have := ons_set hk.2
      refine ⟨h1.trans (by simp), h2.trans ?_⟩
      rw [List.length_append, List.length_singleton]
      omega
theorem ons_le : ons st ≤ st.length := List.count_le_length
end
end Bf
/-! ### frames for lists that are changed in place -/
namespace Bf
open PySem PySem.Spec PyProof.Rows L2
/-- every list of H0 stays as it is; a new list is none of them -/
def FZ (F : Fm) (H0 : Hp) : Fm where
  A := fun p => F.A p ∨ ∃ xs, H0 p = some (.lst xs)
  I := fun H => F.I H ∧ ∀ p xs, H0 p = some (.lst xs) → H p = some (.lst xs)
  tr := fun {H p} i h => by
    rcases h with h | ⟨xs, h⟩
    · exact F.tr i.1 h
    · exact ⟨_, i.2 p xs h, fun z => z⟩
  same := fun i k => ⟨F.same i.1 k, fun p xs h => k _ _ (i.2 p xs h)⟩
  wr := fun {H p o o'} i n e nf => ⟨F.wr i.1 (fun z => n (.inl z)) e nf, fun q xs h => by
    have ne : q ≠ p := fun z => n (.inr ⟨xs, by rw [← z]; exact h⟩)
    rw [upd_ne ne]
    exact i.2 q xs h⟩
section
variable {F F' : Fm} {H0 H H' : Hp} {c : Ca}
theorem FZ.i (h : F.I H) : (FZ F H).I H := ⟨h, fun _ _ e => e⟩
theorem FZ.r (i : (FZ F H0).I H) (r : (FZ F H0).R H H') : F.R H H' := ⟨r.1.1, fun p o e n => by
  by_cases h : ∃ xs, H0 p = some (.lst xs)
  · obtain ⟨xs, h⟩ := h
    have e1 := i.2 p xs h
    rw [e] at e1
    cases e1
    exact r.1.2 p xs h
  · exact r.2 p o e fun z => z.elim n h⟩
/-- a new list is new -/
theorem FZ.fresh {ds : List D} {v : V} (i : F.I H) (r : (FZ F H).R H H') (q : (Ev.l (FZ F H) ds).ok H' v) : ∃ a xs, v = .ref a ∧ H a = none ∧ ¬ F.A a ∧ H' a = some (.lst xs) ∧ Reps H' ds xs := by
  obtain ⟨a, xs, e, n, h, q⟩ := q
  refine ⟨a, xs, e, ?_, fun z => n (.inl z), h, q⟩
  cases e1 : H a with
  | none => rfl
  | some o =>
    have e2 := (FZ.r (FZ.i i) r).2 a o e1 fun z => n (.inl z)
    rw [h] at e2
    cases e2
    exact (n (.inr ⟨xs, e1⟩)).elim
/-- env to env -/
def Cv (H H' : Hp) : Env' F → Env' F' → Prop
  | [], [] => True
  | _ :: Γ, none :: Γ' => Cv H H' Γ Γ'
  | some e :: Γ, some e' :: Γ' => (∀ v, e.ok H v → e'.ok H' v) ∧ Cv H H' Γ Γ'
  | _, _ => False
theorem Cv.len : ∀ {Γ : Env' F} {Γ' : Env' F'}, Cv H H' Γ Γ' → Γ'.length = Γ.length
  | [], [], _ => rfl
  | none :: Γ, none :: Γ', h => by rw [List.length_cons, List.length_cons, Cv.len (show Cv H H' Γ Γ' from h)]
  | some _ :: Γ, none :: Γ', h => by rw [List.length_cons, List.length_cons, Cv.len (show Cv H H' Γ Γ' from h)]
  | some e :: Γ, some e' :: Γ', h => by rw [List.length_cons, List.length_cons, Cv.len h.2]
  | [], none :: _, h => h.elim
  | [], some _ :: _, h => h.elim
  | none :: _, some _ :: _, h => h.elim
  | none :: _, [], h => h.elim
  | some _ :: _, [], h => h.elim
theorem Cv.get : ∀ {Γ : Env' F} {Γ' : Env' F'} {i : Nat} {e' : Ev F'}, Cv H H' Γ Γ' → Γ'[i]? = some (some e') → ∃ e, Γ[i]? = some (some e) ∧ ∀ v, e.ok H v → e'.ok H' v
  | x :: Γ, none :: Γ', 0, e', _, z => by simp at z
  | x :: Γ, none :: Γ', i + 1, e', h, z => by
    have h' : Cv H H' Γ Γ' := by cases x <;> exact h
    simpa using Cv.get (i := i) h' (by simpa using z)
  | some e :: Γ, some e1 :: Γ', 0, e', h, z => by
    simp at z
    subst z
    exact ⟨e, rfl, h.1⟩
  | some e :: Γ, some e1 :: Γ', i + 1, e', h, z => by simpa using Cv.get (i := i) h.2 (by simpa using z)
  | [], [], i, e', _, z => by simp at z
  | [], none :: _, _, _, h, _ => h.elim
  | [], some _ :: _, _, _, h, _ => h.elim
  | none :: _, some _ :: _, _, _, h, _ => h.elim
  | none :: _, [], _, _, h, _ => h.elim
  | some _ :: _, [], _, _, h, _ => h.elim
theorem EnvOk.cv {σ : L2.St} {Γ : Env' F} {Γ' : Env' F'} (h : EnvOk H σ Γ) (k : Cv H H' Γ Γ') : EnvOk H' σ Γ' := ⟨by rw [k.len]; exact h.1, fun i e' z => by
  obtain ⟨e, h1, h2⟩ := k.get z
  obtain ⟨v, h3, h4⟩ := h.2 i e h1
  exact ⟨v, h3, h2 v h4⟩⟩
/-- to the frame that keeps the lists -/
theorem cz_d {d : D} : ∀ v, (Ev.d F d).ok H v → (Ev.d F' d).ok H v := fun _ h => h
theorem cz_pl {P : Pl} (v : V) (h : (Ev.pl F c P).ok H v) : (Ev.pl (FZ F H) c P).ok H v := by
  obtain ⟨a, dx, vs, t, e, n1, n2, h1, h2, h3, h4⟩ := h
  refine ⟨a, dx, vs, t, e, fun z => ?_, fun z => ?_, h1, h2, h3, h4⟩
  · rcases z with z | ⟨xs, q⟩
    · exact n1 z
    · rw [h1] at q
      unfold SlX.SlO at q
      cases q
  · rcases z with z | ⟨xs, q⟩
    · exact n2 z
    · rw [h2] at q
      cases q
theorem uz_pl {P : Pl} : ∀ v, (Ev.pl (FZ F H0) c P).ok H v → (Ev.pl F c P).ok H v := fun v ⟨a, dx, vs, t, e, n1, n2, h1, h2, h3, h4⟩ => ⟨a, dx, vs, t, e, fun z => n1 (.inl z), fun z => n2 (.inl z), h1, h2, h3, h4⟩
/-- past a list that is changed -/
theorem cm_d {d : D} {a : Addr} {xs ys : List V} (h : H a = some (.lst xs)) : ∀ v, (Ev.d F d).ok H v → (Ev.d F d).ok (upd H a (.lst ys)) v := fun _ q => Rep.pr (Pr.mutL h) q
theorem cm_pl {P : Pl} {a : Addr} {xs ys : List V} (h : H a = some (.lst xs)) : ∀ v, (Ev.pl F c P).ok H v → (Ev.pl F c P).ok (upd H a (.lst ys)) v := fun v ⟨b, dx, vs, t, e, n1, n2, h1, h2, h3, h4⟩ => ⟨b, dx, vs, t, e, n1, n2, by
  rw [upd_ne (fun z => by rw [z, h] at h1; unfold SlX.SlO at h1; cases h1)]
  exact h1, by
  rw [upd_ne (fun z => by rw [z, h] at h2; cases h2)]
  exact h2, h3, Rep.pr (Pr.mutL h) h4⟩
theorem cm_l {ds : List D} {a b : Addr} {xs ys : List V} (h : H a = some (.lst xs)) (hb : b ≠ a) : ∀ v, (v = .ref b ∧ (Ev.l F ds).ok H v) → (Ev.l F ds).ok (upd H a (.lst ys)) v := fun v ⟨e, b', zs, e', n, h', q⟩ => by
  rw [e] at e'
  cases e'
  exact ⟨b, zs, e, n, by rw [upd_ne hb]; exact h', Reps.pr (Pr.mutL h) q⟩
/-- above H0, with a list of one's own changed -/
theorem Fm.mutR {a : Addr} {xs ys : List V} (r : F.R H0 H) (n0 : H0 a = none) (nA : ¬ F.A a) (h : H a = some (.lst xs)) : F.R H0 (upd H a (.lst ys)) := ⟨F.wr r.1 nA h (fun _ _ z => nomatch z), fun p o e n => by
  rw [upd_ne (ne_of_none e n0)]
  exact r.2 p o e n⟩
end
end Bf
local macro_rules | `(tactic| walk_at "bf_pr") => `(tactic| first
  | exact Bf.Pr.refl _
  | assumption
  | exact Bf.Same.pr (by assumption)
  | (refine Bf.Pr.trans ?_ (Bf.Same.pr (by assumption)); walk_at "bf_pr")
  | (refine Bf.Pr.trans ?_ (Bf.Pr.new (by assumption)); walk_at "bf_pr")
  | (refine Bf.Pr.trans ?_ (Bf.Pr.mutL (by assumption)); walk_at "bf_pr")
  | (refine Bf.Pr.trans ?_ (by assumption : Bf.Pr _ _); walk_at "bf_pr"))
local macro_rules | `(tactic| walk_at "bf_same") => `(tactic| first
  | exact L2.Same.refl _
  | assumption
  | (refine L2.Same.trans ?_ (by assumption : L2.Same _ _); walk_at "bf_same")
  | (refine L2.Same.trans ?_ (Bf.Same.new (by assumption)); walk_at "bf_same"))
local macro_rules | `(tactic| walk_at "bf_rep") => `(tactic| first
  | exact Bf.Rep.int
  | exact Bf.Rep.str
  | exact Bf.Rep.bl
  | exact Bf.Rep.non
  | assumption
  | (refine Bf.Rep.pr ?_ (by assumption); walk_at "bf_pr"))
local macro_rules | `(tactic| walk_at "bf_reps") => `(tactic| first
  | exact Bf.Reps.nil
  | (refine Bf.Reps.cons (by walk_at "bf_rep") ?_; walk_at "bf_reps"))
local macro_rules | `(tactic| walk_at "p2") => `(tactic| first
  | exact Bf.p2_I0i
  | exact Bf.p2_I0b
  | exact Bf.p2_eqI
  | exact Bf.p2_eqS
  | exact Bf.p2_neI
  | exact Bf.p2_neS
  | exact Bf.p2_neB
  | exact Bf.p2_isN
  | exact Bf.p2_notN
  | exact Bf.p2_ixT rfl rfl
  | exact Bf.p2_ixL rfl
  | exact Bf.p2_ltS
  | exact Bf.p2_inSign
  | exact Bf.p2_neNil
  | exact Bf.p2_eqNil
  | exact Bf.p2_inT rfl
  | exact Bf.p1_U
  | exact Bf.pc_lenT rfl
  | exact Bf.pc_lenL
  | exact Bf.pc_tupL
  | exact Bf.pc_tupZ
  | exact Bf.pc_all
  | exact Bf.pc_sum
  | exact Bf.pc_int
  | exact Bf.pc_isi rfl rfl)
local macro_rules | `(tactic| walk_at "pd") => `(tactic| first
  | exact Bf.pd_var rfl
  | exact Bf.pd_int
  | exact Bf.pd_str
  | exact Bf.pd_bl
  | exact Bf.pd_non
  | exact Bf.pd_ty
  | exact Bf.pd_nil
  | (apply Bf.pd_cons; (walk_at "pd"); (walk_at "pd"))
  | (apply Bf.pd_op'; (walk_at "pd"); (walk_at "pd"); (walk_at "p2"))
  | (apply Bf.pd_un'; (walk_at "pd"); (walk_at "p2"))
  | (apply Bf.pd_call'; (walk_at "pd"); (walk_at "p2"))
  | (apply Bf.pd_tup'; (walk_at "pd"); (exact rfl); (first | decide | assumption))
  | (apply Bf.pd_lst'; (walk_at "pd"); (exact rfl); (first | decide | assumption))
  | (apply Bf.pdt_val; walk_at "pd")
  | (apply Bf.pdt_test; walk_at "pd")
  | (apply Bf.pdt_not; walk_at "pd")
  | exact Bf.pdt_yes
  | (apply Bf.pd_not; walk_at "pd")
  | (apply Bf.pd_slT; (walk_at "pd"); (walk_at "pd"); (walk_at "pd"))
  | (apply Bf.pd_slL; (walk_at "pd"); (walk_at "pd"); (walk_at "pd"))
  | exact Bf.pdo_none
  | (apply Bf.pdo_some; walk_at "pd"))
/-! ### the plain defs of the plan -/
namespace Bf
open PySem PySem.Spec PyProof.Rows L2
inductive R_is_number : (F : Fm) → List (Ev F) → Ev F → Prop
  | mk (F : Fm) (m lo hi : Int) : R_is_number F [Ev.d F (.int m), Ev.d F (.int lo), Ev.d F (.int hi)] (Ev.d F (.bl (decide (lo ≤ m) && decide (m ≤ hi))))
inductive R_is_word : (F : Fm) → List (Ev F) → Ev F → Prop
  | mk (F : Fm) (x : Str) (h : WordOk x) : R_is_word F [Ev.d F (.str x)] (Ev.d F (.bl true))
inductive R_are_rates : (F : Fm) → List (Ev F) → Ev F → Prop
  | mk (F : Fm) (rs : List Nat) (h1 : 1 ≤ rs.length) (h2 : rs.length ≤ 5) (h3 : ∀ r ∈ rs, 1 ≤ r ∧ r ≤ 99) : R_are_rates F [Ev.d F (.tup (rs.map dN))] (Ev.d F (.bl true))
inductive R_are_above : (F : Fm) → List (Ev F) → Ev F → Prop
  | mk (F : Fm) (ab : List (Option Nat)) (h1 : ab.length ≤ 5) (h3 : ∀ (i o : Nat), ab[i]? = some (some o) → o < i) : R_are_above F [Ev.d F (.tup (ab.map dO)), Ev.d F (.int (ab.length : Nat))] (Ev.d F (.bl true))
inductive R_is_point : (F : Fm) → List (Ev F) → Ev F → Prop
  | mk (F : Fm) (p : Str × Str × Nat) (h1 : WordOk p.1) (h2 : p.2.1 = ("lamp" : Str) ∨ p.2.1 = ("plug" : Str)) (h3 : p.2.2 ≤ 9) : R_is_point F [Ev.d F (dPt p)] (Ev.d F (.bl true))
inductive R_are_points : (F : Fm) → List (Ev F) → Ev F → Prop
  | mk (F : Fm) (ps : List (Str × Str × Nat)) (h1 : 1 ≤ ps.length) (h2 : ps.length ≤ 5) (h3 : ∀ p ∈ ps, WordOk p.1 ∧ (p.2.1 = ("lamp" : Str) ∨ p.2.1 = ("plug" : Str)) ∧ p.2.2 ≤ 9)
      (h4 : ∀ (i : Nat) a b, ps[i]? = some a → ps[i + 1]? = some b → a.1.cps.toList < b.1.cps.toList) : R_are_points F [Ev.d F (.tup (ps.map dPt))] (Ev.d F (.bl true))
inductive R_p_rates (c : Ca) : (F : Fm) → List (Ev F) → Ev F → Prop
  | mk (F : Fm) (P : Pl) : R_p_rates c F [Ev.pl F c P] (Ev.d F (dRates P))
inductive R_p_above (c : Ca) : (F : Fm) → List (Ev F) → Ev F → Prop
  | mk (F : Fm) (P : Pl) : R_p_above c F [Ev.pl F c P] (Ev.d F (dAbove P))
inductive R_p_points (c : Ca) : (F : Fm) → List (Ev F) → Ev F → Prop
  | mk (F : Fm) (P : Pl) : R_p_points c F [Ev.pl F c P] (Ev.d F (dPts P))
inductive R_p_rule (c : Ca) : (F : Fm) → List (Ev F) → Ev F → Prop
  | mk (F : Fm) (P : Pl) : R_p_rule c F [Ev.pl F c P] (Ev.d F (.str P.rule))
inductive R_p_names (c : Ca) : (F : Fm) → List (Ev F) → Ev F → Prop
  | mk (F : Fm) (P : Pl) (h : P.Ok) : R_p_names c F [Ev.pl F c P] (Ev.d F (.tupz ((P.pts.map (·.1)).map .str)))
inductive R_p_len (c : Ca) : (F : Fm) → List (Ev F) → Ev F → Prop
  | mk (F : Fm) (P : Pl) : R_p_len c F [Ev.pl F c P] (Ev.d F (.int (P.n : Nat)))
section
variable {P : Program} {w : World} {K : PySem.W.Frag} {mg : Str → Option Value} {base : Heap} {c : Ca}
theorem ok_is_number (T : Tx w K mg c) : Cl P w K mg base 1 "is_number" (SpG R_is_number) := by
  obtain ⟨f, hm, FF⟩ := T.f_is_number
  refine cl_of (fn_pure FF scis_number (fun F es e h => by cases h; rfl) (fun cdv A outer s H E hr => ⟨_, (pss_one (ps_ret (pe_and (pe_callB call_isi (by rfl) T.n_isinstance (by decide +kernel) (pa_cons (pv 0) (pa_cons (pe_bltn (v := .ty "int") (by rfl) T.n_int (by decide +kernel) rfl) pa_nil))) (pe_and (pe_not (pe_callB call_isi (by rfl) T.n_isinstance (by decide +kernel) (pa_cons (pv 0) (pa_cons (pe_bltn (v := .ty "bool") (by rfl) T.n_bool (by decide +kernel) rfl) pa_nil)))) (pe_one (pe_chain op_le op_le (pv 1) (pv 0) (pv 2))))))), fun F es e h => ?_⟩) (fun _ _ _ _ _ _ us hu => by obtain ⟨a, b, c, rfl⟩ := len3 hu; rfl)) hm FF
  cases h with
  | mk m lo hi =>
  refine pds_ret ?_
  exact pd_eq (pd_and (x := true) (by walk_at "pd") fun _ => pd_and (x := !false) (by walk_at "pd") fun _ => pd_chain p2_I0b (fun _ => p2_I0b) (by walk_at "pd") (by walk_at "pd") (by walk_at "pd")) rfl
theorem ok_is_word (T : Tx w K mg c) : Cl P w K mg base 1 "is_word" (SpG R_is_word) := by
  obtain ⟨f, hm, FF⟩ := T.f_is_word
  refine cl_of (fn_pure FF scis_word (fun F es e h => by cases h; rfl) (fun cdv A outer s H E hr => ⟨_, (pss_cons (ps_if (PW.pt (pw_or (pt_not (pt_val (pe_callB call_isi (by rfl) T.n_isinstance (by decide +kernel) (pa_cons (pv 0) (pa_cons (pe_bltn (v := .ty "str") (by rfl) T.n_str (by decide +kernel) rfl) pa_nil))))) (pw_or1 (pt_not (pt_chain op_le op_le pe_int (pe_callB call_len_str (by rfl) T.n_len (by decide +kernel) (pa_cons (pv 0) pa_nil)) (pe_gi (by rfl) T.g_MAX_LETTERS)))))) (pss_one (ps_ret pe_bl)) pss_nil) (pss_one (ps_ret (pe_callB (cr_all rfl) (by rfl) T.n_all (by decide +kernel) (pa_cons (pe_lcD (own := [("letter", 1)]) (by rfl) scis_word.nd (pi_str (pv 0)) (blkOk_by (own := [("letter", 1)]) (N := Nis_word) (sc := defScope sis_word) (by decide +kernel)) (fun _ _ _ _ _ => (pg_name (i := 1) scis_word.nd rfl (Or.inl rfl))) (fun _ _ _ _ _ => pts_nil) (fun _ _ _ _ _ => (pe_cmpR op_in_sign (pv 1) (pe_gs (by rfl) T.g_LETTERS) (by rfl)))) pa_nil))))), fun F es e h => ?_⟩) (fun _ _ _ _ _ _ us hu => by obtain ⟨a, rfl⟩ := len1 hu; rfl)) hm FF
  cases h with
  | mk x hx =>
  obtain ⟨h1, h2, h3⟩ := hx
  have hz : x.length ≤ sizeLine := Nat.le_trans h2 (by decide)
  refine pds_skip (pdt_eq (pdt_or (x := !true) (by walk_at "pd") fun _ => pdt_not (pdt_test (pd_chain (r := _) p2_I0b (fun _ => p2_I0b) (by walk_at "pd") (pd_call' (pd_cons (pd_var rfl) pd_nil) (pc_lenS hz)) (by walk_at "pd")))) ?_) (pds_ret (pd_blt (pd_call' (pd_cons (pd_lc' (pdj_str (pd_var rfl)).i (fun ch hch => lcb1 (List.mem_cons_self) pdt_yes fun _ => pd_op' (pd_var rfl) pd_str p2_inSign) ?_) pd_nil) pc_allM) ?_))
  · have a1 : decide ((1 : Int) ≤ (x.length : Int)) = true := decide_eq_true (by omega)
    have a2 : decide ((x.length : Int) ≤ 8) = true := decide_eq_true (by omega)
    rw [a1, a2]
    rfl
  · have e : x.cps.toList.length = x.length := by simp [Str.length]
    have := sizeLine_eq
    omega
  · exact List.all_eq_true.mpr fun ch hch => decide_eq_true (h3 ch hch)
theorem ok_p_rates (T : Tx w K mg c) : Pp P w K mg base c.plan "rates" 1 (SpG (R_p_rates c)) := by
  obtain ⟨p, g, hp, FF⟩ := T.p_Plan_rates
  refine ⟨p, g, hp, fn_pure FF scPlan_rates (fun F es e h => by cases h; rfl) (fun cdv A outer s H E hr => ⟨_, (pss_one (ps_ret (pe_ix ix_tup (SlX.pe_sl (pv 0)) pe_int (fun _ _ => rfl)))), fun F es e h => ?_⟩) (fun _ _ _ _ _ _ us hu => by obtain ⟨a, rfl⟩ := len1 hu; rfl)⟩
  cases h with
  | mk P => exact pds_ret (pd_op' (pd_parts T (pd_var rfl)) pd_int (p2_ixT rfl rfl))
theorem ok_p_above (T : Tx w K mg c) : Pp P w K mg base c.plan "above" 1 (SpG (R_p_above c)) := by
  obtain ⟨p, g, hp, FF⟩ := T.p_Plan_above
  refine ⟨p, g, hp, fn_pure FF scPlan_above (fun F es e h => by cases h; rfl) (fun cdv A outer s H E hr => ⟨_, (pss_one (ps_ret (pe_ix ix_tup (SlX.pe_sl (pv 0)) pe_int (fun _ _ => rfl)))), fun F es e h => ?_⟩) (fun _ _ _ _ _ _ us hu => by obtain ⟨a, rfl⟩ := len1 hu; rfl)⟩
  cases h with
  | mk P => exact pds_ret (pd_op' (pd_parts T (pd_var rfl)) pd_int (p2_ixT rfl rfl))
theorem ok_p_points (T : Tx w K mg c) : Pp P w K mg base c.plan "points" 1 (SpG (R_p_points c)) := by
  obtain ⟨p, g, hp, FF⟩ := T.p_Plan_points
  refine ⟨p, g, hp, fn_pure FF scPlan_points (fun F es e h => by cases h; rfl) (fun cdv A outer s H E hr => ⟨_, (pss_one (ps_ret (pe_ix ix_tup (SlX.pe_sl (pv 0)) pe_int (fun _ _ => rfl)))), fun F es e h => ?_⟩) (fun _ _ _ _ _ _ us hu => by obtain ⟨a, rfl⟩ := len1 hu; rfl)⟩
  cases h with
  | mk P => exact pds_ret (pd_op' (pd_parts T (pd_var rfl)) pd_int (p2_ixT rfl rfl))
theorem ok_p_rule (T : Tx w K mg c) : Pp P w K mg base c.plan "rule" 1 (SpG (R_p_rule c)) := by
  obtain ⟨p, g, hp, FF⟩ := T.p_Plan_rule
  refine ⟨p, g, hp, fn_pure FF scPlan_rule (fun F es e h => by cases h; rfl) (fun cdv A outer s H E hr => ⟨_, (pss_one (ps_ret (pe_ix ix_tup (SlX.pe_sl (pv 0)) pe_int (fun _ _ => rfl)))), fun F es e h => ?_⟩) (fun _ _ _ _ _ _ us hu => by obtain ⟨a, rfl⟩ := len1 hu; rfl)⟩
  cases h with
  | mk P => exact pds_ret (pd_op' (pd_parts T (pd_var rfl)) pd_int (p2_ixT rfl rfl))
theorem ok_p_names (T : Tx w K mg c) : Pp P w K mg base c.plan "names" 1 (SpG (R_p_names c)) := by
  obtain ⟨p, g, hp, FF⟩ := T.p_Plan_names
  refine ⟨p, g, hp, fn_pure FF scPlan_names (fun F es e h => by cases h; rfl) (fun cdv A outer s H E hr => ⟨_, (pss_one (ps_ret (pe_callTy call_tupleZ (by rfl) T.n_tuple (by decide +kernel) (pa_cons (pe_lcD (own := [("point", 1)]) (by rfl) scPlan_names.nd (pi_tup (pe_ix ix_tup (SlX.pe_sl (pv 0)) pe_int (fun _ _ => rfl))) (blkOk_by (own := [("point", 1)]) (N := NPlan_names) (sc := defScope sPlan_names) (by decide +kernel)) (fun _ _ _ _ _ => (pg_name (i := 1) scPlan_names.nd rfl (Or.inl rfl))) (fun _ _ _ _ _ => pts_nil) (fun _ _ _ _ _ => (pe_ix ix_tup (pv 1) pe_int (fun _ _ => rfl)))) pa_nil)))), fun F es e h => ?_⟩) (fun _ _ _ _ _ _ us hu => by obtain ⟨a, rfl⟩ := len1 hu; rfl)⟩
  cases h with
  | mk P h =>
  rw [List.map_map]
  refine pds_ret (pd_call' (pd_cons (pd_lc' (pdj_tup (pd_op' (pd_parts T (pd_var rfl)) pd_int (p2_ixT rfl rfl)) rfl).i (fun p hp => lcb1 (List.mem_cons_self) pdt_yes fun _ => ?_) ?_) pd_nil) pc_tupZ)
  · walk_at "pd"
  · have := h.p5
    have := sizeLine_eq
    omega
theorem ok_p_len (T : Tx w K mg c) : Ln P w K mg base c.plan 1 (SpG (R_p_len c)) := by
  obtain ⟨g, h1, h2, FF⟩ := T.x_Plan_len
  refine ⟨g, h1, h2, fn_pure FF scPlan_len (fun F es e h => by cases h; rfl) (fun cdv A outer s H E hr => ⟨_, (pss_one (ps_ret (pe_callB call_len_seq (by rfl) T.n_len (by decide +kernel) (pa_cons (pe_ix ix_tup (SlX.pe_sl (pv 0)) pe_int (fun _ _ => rfl)) pa_nil)))), fun F es e h => ?_⟩) (fun _ _ _ _ _ _ us hu => by obtain ⟨a, rfl⟩ := len1 hu; rfl)⟩
  cases h with
  | mk P =>
  refine pds_ret (pd_eq (pd_call' (pd_cons (pd_op' (pd_parts T (pd_var rfl)) pd_int (p2_ixT rfl rfl)) pd_nil) (pc_lenT rfl)) ?_)
  rw [List.length_map]
theorem ok_are_rates (T : Tx w K mg c) : Cl P w K mg base 2 "are_rates" (SpG R_are_rates) := by
  obtain ⟨f, hm, FF⟩ := T.f_are_rates
  refine cl_of (fn_pure FF scare_rates (fun F es e h => by cases h; rfl) (fun cdv A outer s H E hr => ⟨_, (pss_one (ps_ret (pe_and (pe_chain op_le op_le pe_int (pe_callB call_len_seq (by rfl) T.n_len (by decide +kernel) (pa_cons (pv 0) pa_nil)) (pe_gi (by rfl) T.g_MAX_BREAKERS)) (pe_one (pe_callB (cr_all rfl) (by rfl) T.n_all (by decide +kernel) (pa_cons (pe_lcD (own := [("rate", 1)]) (by rfl) scare_rates.nd (pi_tup (pv 0)) (blkOk_by (own := [("rate", 1)]) (N := Nare_rates) (sc := defScope sare_rates) (by decide +kernel)) (fun _ _ _ _ _ => (pg_name (i := 1) scare_rates.nd rfl (Or.inl rfl))) (fun _ _ _ _ _ => pts_nil) (fun _ _ _ _ _ => (pe_cl (ok_is_number T) hr (by decide) (by rfl) (pa_cons (pv 1) (pa_cons pe_int (pa_cons (pe_gi (by rfl) T.g_MAX_RATE) pa_nil)))))) pa_nil)))))), fun F es e h => ?_⟩) (fun _ _ _ _ _ _ us hu => by obtain ⟨a, rfl⟩ := len1 hu; rfl)) hm FF
  cases h with
  | mk rs h1 h2 h3 =>
  refine pds_ret (pd_blt (pd_and (pd_chain p2_I0b (fun _ => p2_I0b) (by walk_at "pd") (by walk_at "pd") (by walk_at "pd")) fun _ => pd_call' (pd_cons (pd_lc' (pdj_tup (pd_var rfl) rfl).i (fun r hr => lcb1 (List.mem_cons_self) pdt_yes fun _ => pd_cl (by walk_at "pd") (.mk _ _ _ _)) ?_) pd_nil) pc_allM) ?_)
  · have := sizeLine_eq
    omega
  · rw [Bool.and_eq_true, Bool.and_eq_true, List.length_map]
    refine ⟨⟨decide_eq_true (by omega), decide_eq_true (by omega)⟩, List.all_eq_true.mpr fun r hr => ?_⟩
    have := h3 r hr
    rw [Bool.and_eq_true]
    exact ⟨decide_eq_true (by omega), decide_eq_true (by omega)⟩
end
end Bf
namespace Bf
open PySem PySem.Spec PyProof.Rows L2
inductive R_is_wiring (c : Ca) : (F : Fm) → List (Ev F) → Ev F → Prop
  | mk (F : Fm) (P : Pl) (wi : List (Option Nat)) (h : P.Ok) (h2 : Wok P wi) : R_is_wiring c F [Ev.pl F c P, Ev.d F (.tup (wi.map dO))] (Ev.d F (.bl true))
inductive R_check_wiring (c : Ca) : (F : Fm) → List (Ev F) → Ev F → Prop
  | mk (F : Fm) (P : Pl) (wi : List (Option Nat)) (h : P.Ok) (h2 : Wok P wi) : R_check_wiring c F [Ev.pl F c P, Ev.d F (.tup (wi.map dO))] (Ev.d F .non)
inductive R_check_name (c : Ca) : (F : Fm) → List (Ev F) → Ev F → Prop
  | mk (F : Fm) (P : Pl) (x : Str) (h : P.Ok) (h2 : x ∈ P.pts.map (·.1)) : R_check_name c F [Ev.pl F c P, Ev.d F (.str x)] (Ev.d F .non)
inductive R_check_breaker (c : Ca) : (F : Fm) → List (Ev F) → Ev F → Prop
  | mk (F : Fm) (P : Pl) (b : Nat) (h : P.Ok) (h2 : b < P.n) : R_check_breaker c F [Ev.pl F c P, Ev.d F (.int (b : Nat))] (Ev.d F .non)
inductive R_all_on (c : Ca) : (F : Fm) → List (Ev F) → Ev F → Prop
  | mk (F : Fm) (P : Pl) (h : P.Ok) : R_all_on c F [Ev.pl F c P] (Ev.d F (.tup ((List.replicate P.n true).map .bl)))
inductive R_has_power (c : Ca) : (F : Fm) → List (Ev F) → Ev F → Prop
  | mk (F : Fm) (P : Pl) (st : List Bool) (o : Option Nat) (h : P.Ok) (h2 : st.length = P.n) (h3 : ∀ b, o = some b → b < P.n) : R_has_power c F [Ev.pl F c P, Ev.d F (.tup (st.map .bl)), Ev.d F (dO o)] (Ev.d F (.bl (pow P st o)))
inductive R_line_up (c : Ca) : (F : Fm) → List (Ev F) → Ev F → Prop
  | mk (F : Fm) (P : Pl) (b : Nat) (h : P.Ok) (h3 : b < P.n) : R_line_up c F [Ev.pl F c P, Ev.d F (.int (b : Nat))] (Ev.d F (.tup ((line P b).map dN)))
inductive R_live_in (c : Ca) : (F : Fm) → List (Ev F) → Ev F → Prop
  | mk (F : Fm) (P : Pl) (wi : List (Option Nat)) (st : List Bool) (h : P.Ok) (h2 : st.length = P.n) (h3 : Wok P wi) : R_live_in c F [Ev.pl F c P, Ev.d F (.tup (wi.map dO)), Ev.d F (.tup (st.map .bl))] (Ev.d F (.tup ((lives P wi st).map .str)))
inductive R_switched : (F : Fm) → List (Ev F) → Ev F → Prop
  | mk (F : Fm) (st : List Bool) (b : Nat) (h : b < st.length) (h2 : st.length ≤ 5) : R_switched F [Ev.d F (.tup (st.map .bl)), Ev.d F (.int (b : Nat))] (Ev.d F (.tup ((st.set b (!isOn st b)).map .bl)))
/-! rules of the plan's properties, for the automation -/
section
variable {F : Fm} {Γ : Env' F} {te : TE} {c : Ca} {P : Pl}
theorem pp_rates (h : Pd Γ te (Ev.pl F c P)) : Pd Γ (SlX.tPropSl c.plan (SpG (R_p_rates c)) E0 te) (Ev.d F (dRates P)) := pd_pp h (.mk _ _)
theorem pp_above (h : Pd Γ te (Ev.pl F c P)) : Pd Γ (SlX.tPropSl c.plan (SpG (R_p_above c)) E0 te) (Ev.d F (dAbove P)) := pd_pp h (.mk _ _)
theorem pp_points (h : Pd Γ te (Ev.pl F c P)) : Pd Γ (SlX.tPropSl c.plan (SpG (R_p_points c)) E0 te) (Ev.d F (dPts P)) := pd_pp h (.mk _ _)
theorem pp_rule (h : Pd Γ te (Ev.pl F c P)) : Pd Γ (SlX.tPropSl c.plan (SpG (R_p_rule c)) E0 te) (Ev.d F (.str P.rule)) := pd_pp h (.mk _ _)
theorem pp_names (h : Pd Γ te (Ev.pl F c P)) (ok : P.Ok) : Pd Γ (SlX.tPropSl c.plan (SpG (R_p_names c)) E0 te) (Ev.d F (.tupz ((P.pts.map (·.1)).map .str))) := pd_pp h (.mk _ _ ok)
theorem pp_len (h : Pd Γ te (Ev.pl F c P)) (ok : P.Ok) : Pd Γ (tCB (rLenO c.plan (SpG (R_p_len c))) (tCons te tNil)) (Ev.d F (.int (P.n : Nat))) := pd_lenO h (.mk _ _) (by have := ok.n5; unfold Pl.n; omega)
end
section
variable {P : Program} {w : World} {K : PySem.W.Frag} {mg : Str → Option Value} {base : Heap} {c : Ca}
theorem ok_are_above (T : Tx w K mg c) : Cl P w K mg base 2 "are_above" (SpG R_are_above) := by
  obtain ⟨f, hm, FF⟩ := T.f_are_above
  refine cl_of (fn_pure FF scare_above (fun F es e h => by cases h; rfl) (fun cdv A outer s H E hr => ⟨_, (pss_cons (ps_if (pt_cmpR op_ne (pe_callB call_len_seq (by rfl) T.n_len (by decide +kernel) (pa_cons (pv 0) pa_nil)) (pv 1) (nomark _)) (pss_one (ps_ret pe_bl)) pss_nil) (pss_one (ps_ret (pe_callB (cr_all rfl) (by rfl) T.n_all (by decide +kernel) (pa_cons (pe_lcD (own := [("breaker", 2), ("other", 3)]) (by rfl) scare_above.nd (pi_enumT (by rfl) T.n_enumerate (pa_cons (pv 0) pa_nil)) (blkOk_by (own := [("breaker", 2), ("other", 3)]) (N := Nare_above) (sc := defScope sare_above) (by decide +kernel)) (fun _ _ _ _ _ => (pg_tup (by rfl) (pgs_cons (pg_name (i := 2) scare_above.nd rfl (Or.inl rfl)) (pgs_cons (pg_name (i := 3) scare_above.nd rfl (Or.inl rfl)) pgs_nil)))) (fun _ _ _ _ _ => pts_nil) (fun _ _ _ _ _ => (pe_or (pe_cmpR op_isN (pv 3) pe_non (nomark _)) (pe_one (pe_cl (ok_is_number T) hr (by decide) (by rfl) (pa_cons (pv 3) (pa_cons pe_int (pa_cons (pe_op op_sub (pv 2) pe_int) pa_nil)))))))) pa_nil))))), fun F es e h => ?_⟩) (fun _ _ _ _ _ _ us hu => by obtain ⟨a, b, rfl⟩ := len2 hu; rfl)) hm FF
  cases h with
  | mk ab h1 h3 =>
  have hz : ab.zipIdx.length < sizeLine := by
    have := sizeLine_eq
    rw [List.length_zipIdx]
    omega
  refine pds_skip (pdt_eq (pdt_test (pd_op' (pd_call' (pd_cons (pd_var rfl) pd_nil) (pc_lenT rfl)) (pd_var rfl) p2_neI)) ?_) (pds_ret (pd_blt (pd_call' (pd_cons (pd_lc' (is := ab.zipIdx) (f := fun p => .tup [.int (p.2 : Nat), dO p.1]) (d := fun _ => .bl true) ?_ (fun p hp => lcb2 (by simp) (by simp) pdt_yes fun _ => ?_) hz) pd_nil) (pc_allM (p := fun _ => true))) ?_))
  · rw [List.length_map]
    simp
  · have h := pdj_enumT (F := F) (K := K) (ta := tVar 0) (Γ := startG Nare_above.length [Ev.d F (.tup (ab.map dO)), Ev.d F (.int (ab.length : Nat))]) (pd_var rfl) (ds := ab.map dO) rfl
    have e : (ab.map dO).zipIdx.map (fun p => D.tup [.int (p.2 : Nat), p.1]) = ab.zipIdx.map fun p => D.tup [.int (p.2 : Nat), dO p.1] := by
      rw [List.zipIdx_map, List.map_map]
      rfl
    rw [e] at h
    exact h.i
  · obtain ⟨o, i⟩ := p
    have hi := List.mem_zipIdx_iff_getElem?.mp hp
    cases o with
    | none => exact pd_blt (pd_or (x := isNon .non) (y := true) (pd_op' (pd_var rfl) pd_non p2_isN) fun z => nomatch z) rfl
    | some o =>
      have lt := h3 i o hi
      refine pd_blt (pd_or (x := isNon (dO (some o))) (pd_op' (pd_var rfl) pd_non p2_isN) fun _ => pd_cl (es := [Ev.d F (.int (o : Nat)), Ev.d F (.int 0), Ev.d F (.int ((i : Int) - 1))]) ?_ (.mk _ _ _ _)) ?_
      · walk_at "pd"
      · show (false || _) = true
        rw [Bool.false_or, Bool.and_eq_true]
        exact ⟨decide_eq_true (by omega), decide_eq_true (by omega)⟩
  · exact List.all_eq_true.mpr fun _ _ => rfl
theorem ok_is_point (T : Tx w K mg c) : Cl P w K mg base 2 "is_point" (SpG R_is_point) := by
  obtain ⟨f, hm, FF⟩ := T.f_is_point
  refine cl_of (fn_pure FF scis_point (fun F es e h => by cases h; rfl) (fun cdv A outer s H E hr => ⟨_, (pss_cons (ps_if (PW.pt (pw_or (pt_not (pt_val (pe_callB call_isi (by rfl) T.n_isinstance (by decide +kernel) (pa_cons (pv 0) (pa_cons (pe_bltn (v := .ty "tuple") (by rfl) T.n_tuple (by decide +kernel) rfl) pa_nil))))) (pw_or1 (pt_cmpR op_ne (pe_callB call_len_seq (by rfl) T.n_len (by decide +kernel) (pa_cons (pv 0) pa_nil)) pe_int (nomark _))))) (pss_one (ps_ret pe_bl)) pss_nil) (pss_one (ps_ret (pe_and (pe_cl (ok_is_word T) hr (by decide) (by rfl) (pa_cons (pe_ix ix_tup (pv 0) pe_int (fun _ _ => rfl)) pa_nil)) (pe_and (pe_cmpR op_in_seq (pe_ix ix_tup (pv 0) pe_int (fun _ _ => rfl)) (pe_tup (pa_cons (pe_gs (by rfl) T.g_LAMP) (pa_cons (pe_gs (by rfl) T.g_PLUG) pa_nil))) (by rfl)) (pe_one (pe_cl (ok_is_number T) hr (by decide) (by rfl) (pa_cons (pe_ix ix_tup (pv 0) pe_int (fun _ _ => rfl)) (pa_cons pe_int (pa_cons (pe_gi (by rfl) T.g_MAX_ROOM) pa_nil)))))))))), fun F es e h => ?_⟩) (fun _ _ _ _ _ _ us hu => by obtain ⟨a, rfl⟩ := len1 hu; rfl)) hm FF
  cases h with
  | mk p h1 h2 h3 =>
  obtain ⟨x, k, r⟩ := p
  refine pds_skip (pdt_eq (pdt_or (x := !true) (by walk_at "pd") fun _ => pdt_test (by walk_at "pd")) ?_) (pds_ret (pd_blt (pd_and (pd_cl (pd_cons (by walk_at "pd") pd_nil) (.mk _ _ h1)) fun _ => pd_and (pd_op' (by walk_at "pd") (pd_tup' (by walk_at "pd") rfl (by decide)) (p2_inT (l := [("lamp" : Str), ("plug" : Str)]) rfl)) fun _ => pd_cl (es := [Ev.d F (.int (r : Nat)), Ev.d F (.int 0), Ev.d F (.int 9)]) (by walk_at "pd") (.mk _ _ _ _)) ?_))
  · rfl
  · have e : decide (k ∈ [("lamp" : Str), ("plug" : Str)]) = true := decide_eq_true (by rcases h2 with q | q <;> simp [show k = _ from q])
    rw [Bool.true_and, Bool.and_eq_true, Bool.and_eq_true]
    have : (r : Nat) ≤ 9 := h3
    exact ⟨e, decide_eq_true (by omega), decide_eq_true (by omega)⟩
theorem ok_check_breaker (T : Tx w K mg c) : Cl P w K mg base 3 "check_breaker" (SpG (R_check_breaker c)) := by
  obtain ⟨f, hm, FF⟩ := T.f_check_breaker
  refine cl_of (fn_pure FF sccheck_breaker (fun F es e h => by cases h; rfl) (fun cdv A outer s H E hr => ⟨_, (pss_one (ps_if (pt_not (pt_val (pe_cl (ok_is_number T) hr (by decide) (by rfl) (pa_cons (pv 1) (pa_cons pe_int (pa_cons (pe_op op_sub (pe_callB (call_lenO (ok_p_len T) hr (by decide)) (by rfl) T.n_len (by decide +kernel) (pa_cons (pv 0) pa_nil)) pe_int) pa_nil)))))) pss_never pss_nil)), fun F es e h => ?_⟩) (fun _ _ _ _ _ _ us hu => by obtain ⟨a, b, rfl⟩ := len2 hu; rfl)) hm FF
  cases h with
  | mk P b h h2 =>
  refine pds_if (pdt_eq (y := false) (pdt_not (pdt_val (pd_cl (pd_cons (pd_var rfl) (pd_cons pd_int (pd_cons (pd_op' (pp_len (pd_var rfl) h) pd_int p2_I0i) pd_nil))) (.mk _ _ _ _)))) ?_) (fun z => nomatch z) fun _ => pds_next fun _ => rfl
  rw [decide_eq_true (by omega), decide_eq_true (by omega)]
  rfl
theorem ok_check_name (T : Tx w K mg c) : Cl P w K mg base 3 "check_name" (SpG (R_check_name c)) := by
  obtain ⟨f, hm, FF⟩ := T.f_check_name
  refine cl_of (fn_pure FF sccheck_name (fun F es e h => by cases h; rfl) (fun cdv A outer s H E hr => ⟨_, (pss_one (ps_if (PW.pt (pw_or (pt_not (pt_val (pe_callB call_isi (by rfl) T.n_isinstance (by decide +kernel) (pa_cons (pv 1) (pa_cons (pe_bltn (v := .ty "str") (by rfl) T.n_str (by decide +kernel) rfl) pa_nil))))) (pw_or1 (pt_cmpR op_notIn_seq (pv 1) (pe_pp T.c_Plan (ok_p_names T) hr (by decide) (pv 0)) (by rfl))))) pss_never pss_nil)), fun F es e h => ?_⟩) (fun _ _ _ _ _ _ us hu => by obtain ⟨a, b, rfl⟩ := len2 hu; rfl)) hm FF
  cases h with
  | mk P x h h2 =>
  refine pds_if (pdt_eq (y := false) (pdt_or (x := !true) (by walk_at "pd") fun _ => pdt_test (pd_op' (pd_var rfl) (pp_names (pd_var rfl) h) (p2_inT rfl))) ?_) (fun z => nomatch z) fun _ => pds_next fun _ => rfl
  rw [if_pos rfl, decide_eq_true h2]
  rfl
theorem ok_all_on (T : Tx w K mg c) : Cl P w K mg base 3 "all_on" (SpG (R_all_on c)) := by
  obtain ⟨f, hm, FF⟩ := T.f_all_on
  refine cl_of (fn_pure FF scall_on (fun F es e h => by cases h; rfl) (fun cdv A outer s H E hr => ⟨_, (pss_one (ps_ret (pe_callTy call_tuple_of (by rfl) T.n_tuple (by decide +kernel) (pa_cons (pe_lcD (own := [("rate", 1)]) (by rfl) scall_on.nd (pi_tup (pe_pp T.c_Plan (ok_p_rates T) hr (by decide) (pv 0))) (blkOk_by (own := [("rate", 1)]) (N := Nall_on) (sc := defScope sall_on) (by decide +kernel)) (fun _ _ _ _ _ => (pg_name (i := 1) scall_on.nd rfl (Or.inl rfl))) (fun _ _ _ _ _ => pts_nil) (fun _ _ _ _ _ => pe_bl)) pa_nil)))), fun F es e h => ?_⟩) (fun _ _ _ _ _ _ us hu => by obtain ⟨a, rfl⟩ := len1 hu; rfl)) hm FF
  cases h with
  | mk P h =>
  refine pds_ret (pd_eq (pd_call' (pd_cons (pd_lc' (d := fun _ => .bl true) (pdj_tup (pp_rates (pd_var rfl)) rfl).i (fun r hr => lcb1 (List.mem_cons_self) pdt_yes fun _ => pd_bl) ?_) pd_nil) pc_tupL) ?_)
  · have := sizeLine_eq
    have := h.n5
    omega
  · congr 2
    rw [List.map_replicate, List.eq_replicate_iff]
    refine ⟨by simp, fun b hb => ?_⟩
    obtain ⟨_, _, e⟩ := List.mem_map.mp hb
    exact e.symm
theorem ok_switched (T : Tx w K mg c) : Cl P w K mg base 1 "switched" (SpG R_switched) := by
  obtain ⟨f, hm, FF⟩ := T.f_switched
  refine cl_of (fn_pure FF scswitched (fun F es e h => by cases h; rfl) (fun cdv A outer s H E hr => ⟨_, (pss_one (ps_ret (pe_op op_catA (pe_op op_catA (pe_slice sl_tupA (pv 0) po_none (po_some (pv 1))) (pe_tup (pa_cons (pe_not (pe_ix ix_tup (pv 0) (pv 1) (fun _ _ => rfl))) pa_nil))) (pe_slice sl_tupA (pv 0) (po_some (pe_op op_add (pv 1) pe_int)) po_none)))), fun F es e h => ?_⟩) (fun _ _ _ _ _ _ us hu => by obtain ⟨a, b, rfl⟩ := len2 hu; rfl)) hm FF
  cases h with
  | mk st b h h2 =>
  have hs := sizeLine_eq
  refine pds_ret (pd_eq (pd_op' (pd_op' (pd_slT (pd_var rfl) pdo_none (pdo_some (pd_var rfl))) (pd_tup' (ds := [.bl (!isOn st b)]) (pd_cons (pd_not (pd_op' (pd_var rfl) (pd_var rfl) (p2_ixN (d := .bl (isOn st b)) rfl ?_))) pd_nil) rfl (by show 1 ≤ sizeLine; decide)) (p2_catT ?_)) (pd_slT (pd_var rfl) (pdo_some (pd_op' (pd_var rfl) pd_int p2_I0i)) pdo_none) (p2_catT ?_)) ?_)
  · rw [List.getElem?_map]
    unfold isOn
    rw [List.getElem?_eq_getElem h]
    rfl
  · have := cutD_to (k := b) (xs := st.map D.bl)
    rw [this]
    simp
    omega
  · have e1 := cutD_to (k := b) (xs := st.map D.bl)
    have e2 := cutD_from (k := b + 1) (xs := st.map D.bl)
    have e3 : ((b : Int) + 1) = ((b + 1 : Nat) : Int) := by omega
    rw [e1, e3, e2]
    simp
    omega
  · have e1 := cutD_to (k := b) (xs := st.map D.bl)
    have e2 := cutD_from (k := b + 1) (xs := st.map D.bl)
    have e3 : ((b : Int) + 1) = ((b + 1 : Nat) : Int) := by omega
    rw [e1, e3, e2]
    congr 2
    rw [List.set_eq_take_append_cons_drop, if_pos h]
    simp
end
end Bf
namespace Bf
open PySem PySem.Spec PyProof.Rows L2
/-- like Pr, of tuples alone -/
def PrT (H H' : Hp) : Prop := ∀ a o, H a = some o → (match o with | .tup _ => True | .frz _ _ => True | _ => False) → H' a = some o
theorem PrT.refl (H : Hp) : PrT H H := fun _ _ h _ => h
theorem PrT.trans {H H1 H2 : Hp} (a : PrT H H1) (b : PrT H1 H2) : PrT H H2 := fun x o h i => b x o (a x o h i) i
theorem Pr.t {H H' : Hp} (k : Pr H H') : PrT H H' := fun a o e i => k a o e (by cases o <;> first | trivial | exact i.elim)
theorem PrT.upd {H : Hp} {p : Addr} {o o' : HO} (h : H p = some o) (n : match o with | .tup _ => False | .frz _ _ => False | _ => True) : PrT H (upd H p o') := fun a u e i => by
  have ne : a ≠ p := fun z => by
    rw [z, h] at e
    cases e
    cases o <;> first | exact n.elim | exact i.elim
  rw [upd_ne ne]
  exact e
mutual
/-- no dict in it -/
def ndD : D → Bool
  | .dict _ _ => false
  | .tup l => ndDs l
  | .tupz l => ndDs l
  | _ => true
def ndDs : List D → Bool
  | [] => true
  | d :: l => ndD d && ndDs l
end
mutual
theorem Rep.prT {H H' : Hp} (k : PrT H H') : ∀ {d : D} {v : V}, ndD d = true → Rep H d v → Rep H' d v
  | .non, _, _, h => h
  | .bl _, _, _, h => h
  | .int _, _, _, h => h
  | .str _, _, _, h => h
  | .tup _, _, n, ⟨a, xs, e, h, r⟩ => ⟨a, xs, e, k _ _ h trivial, Reps.prT k n r⟩
  | .dict _ _, _, n, _ => nomatch n
  | .tupz _, _, n, ⟨a, o, xs, e, h, z, r⟩ => ⟨a, o, xs, e, k _ _ h trivial, z, Reps.prT k n r⟩
theorem Reps.prT {H H' : Hp} (k : PrT H H') : ∀ {ds : List D} {xs : List V}, ndDs ds = true → Reps H ds xs → Reps H' ds xs
  | [], _, _, h => h
  | d :: ds, _, n, ⟨x, ys, e, h, r⟩ => by
    have n' : (ndD d && ndDs ds) = true := n
    rw [Bool.and_eq_true] at n'
    exact ⟨x, ys, e, Rep.prT k n'.1 h, Reps.prT k n'.2 r⟩
end
theorem sqT_prT {K : PySem.W.Frag} {H H' : Hp} {a : Addr} {xs : List V} (k : PrT H H') (h : SqT K H a xs) : SqT K H' a xs := by
  rcases h with (h | ⟨o, h⟩) | h
  · exact .inl (.inl (k _ _ h trivial))
  · exact .inl (.inr ⟨o, k _ _ h trivial⟩)
  · exact .inr h
theorem ndDs_map {α : Type} {f : α → D} (h : ∀ x, ndD (f x) = true) : ∀ (l : List α), ndDs (l.map f) = true
  | [] => rfl
  | a :: l => by
    show (ndD (f a) && ndDs (l.map f)) = true
    rw [h a, ndDs_map h l]
    rfl
theorem ndD_dO : ∀ o, ndD (dO o) = true
  | none => rfl
  | some _ => rfl
/-- a slot of which nothing is told -/
theorem EnvOk.setNone {F : Fm} {H : Hp} {σ : L2.St} {Γ : Env' F} {i : Nat} {x : Option V} (h : EnvOk H σ Γ) (n : ∀ e, Γ[i]? ≠ some (some e)) : EnvOk H (σ.set i x) Γ := ⟨by simp [h.1], fun j e z => by
  have hj : i ≠ j := fun q => n e (q ▸ z)
  rw [List.getElem?_set_ne hj]
  exact h.2 j e z⟩
def vO : Option Nat → V
  | none => .non
  | some b => .int (b : Int)
theorem rep_dO {H : Hp} {o : Option Nat} {v : V} (h : Rep H (dO o) v) : v = vO o := by
  cases o with
  | none => exact h
  | some b => exact h
theorem reps_dO {H : Hp} {l : List (Option Nat)} {xs : List V} (h : Reps H (l.map dO) xs) : xs = l.map vO := by
  induction l generalizing xs with
  | nil => exact h
  | cons o l ih =>
    obtain ⟨x, ys, e, q, r⟩ := h
    rw [e, rep_dO q, ih r]
    rfl
theorem vO_inj {a b : Option Nat} : vO a = vO b ↔ a = b := by
  constructor
  · intro h
    cases a with
    | none =>
      cases b with
      | none => rfl
      | some y => exact nomatch h
    | some x =>
      cases b with
      | none => exact nomatch h
      | some y =>
        have e : (x : Int) = (y : Int) := V.int.inj h
        rw [Int.ofNat.inj e]
  · intro h
    rw [h]
theorem scal_vO (a b : Option Nat) : scal (vO a) (vO b) = true := by cases a <;> cases b <;> rfl
theorem isNon_dO (o : Option Nat) : isNon (dO o) = o.isNone := by cases o <;> rfl
theorem reps_of {H : Hp} : ∀ {ds : List D} {zs : List V}, zs.length = ds.length → (∀ (j : Nat) d v, ds[j]? = some d → zs[j]? = some v → Rep H d v) → Reps H ds zs
  | [], zs, hl, _ => List.eq_nil_of_length_eq_zero hl
  | d :: ds, [], hl, _ => by simp at hl
  | d :: ds, z :: zs, hl, h => ⟨z, zs, rfl, h 0 d z rfl rfl, reps_of (by simpa using hl) fun j d' v h1 h2 => h (j + 1) d' v (by simpa using h1) (by simpa using h2)⟩
section
variable {F : Fm} {Γ : Env' F} {K : PySem.W.Frag} {ta tb : TE} {ds es : List D} {d1 d2 : D}
theorem pd_lstZip (h1 : Pd Γ ta (Ev.d F d1)) (h2 : Pd Γ tb (Ev.d F d2)) (t1 : TupOf d1 = some ds) (t2 : TupOf d2 = some es) (hn : min ds.length es.length ≤ 1000) : Pd Γ (tLstZip K (tCons ta (tCons tb tNil))) (Ev.l F ((ds.zip es).map fun p => .tup [p.1, p.2])) :=
  fun σ H Q i g k => h1 σ H _ i g fun v H1 r1 q1 => h2 σ H1 _ r1.1 (g.st i r1) fun v2 H2 r2 q2 => by
  obtain ⟨a, xs, e, hq, q⟩ := Rep.seq ((Ev.d F d1).st r1.1 r2 q1) t1 K
  obtain ⟨b, ys, e2, hq2, q2⟩ := Rep.seq q2 t2 K
  refine ⟨a, b, xs, ys, by rw [e, e2], hq, hq2, by rw [q.length, q2.length]; exact hn, fun p H' zs n0 sm hp hl its => ?_⟩
  have r3 := Fm.ofSame r2.1 sm
  refine k _ H' (Fm.trans r1 (Fm.trans r2 r3)) ⟨p, zs, rfl, Fm.nA r2.1 n0, hp, reps_of (by rw [hl]; simp [q.length, q2.length]) fun j d v hd hv => ?_⟩
  obtain ⟨T, x, y, e5, e6, e7, e8⟩ := its j v hv
  obtain ⟨dx, f1, f2⟩ := (Reps.pr (Fm.toPr r2.1 r3) q).get' e7
  obtain ⟨dy, f3, f4⟩ := (Reps.pr (Fm.toPr r2.1 r3) q2).get' e8
  rw [List.getElem?_map, List.getElem?_zip_eq_some (z := (dx, dy)) |>.mpr ⟨f1, f3⟩] at hd
  obtain rfl := Option.some.inj hd
  rw [e5]
  exact Rep.tup e6 ⟨x, _, rfl, f2, y, _, rfl, f4, rfl⟩
end
section
variable {P : Program} {w : World} {K : PySem.W.Frag} {mg : Str → Option Value} {base : Heap} {c : Ca}
theorem ok_line_up (T : Tx w K mg c) : Cl P w K mg base 3 "line_up" (SpG (R_line_up c)) := by
  obtain ⟨f, hm, FF⟩ := T.f_line_up
  refine cl_of (fn_pure FF scline_up (fun F es e h => by cases h; rfl) (fun cdv A outer s H E hr => ⟨_, (pss_cons (ps_set (i := 2) scline_up.nd rfl (Or.inl rfl) (pe_lst (pa_cons (pv 1) pa_nil))) (pss_cons (ps_while PassesOwn.never (pt_cmpR op_notN (pe_ix ix_tup (pe_pp T.c_Plan (ok_p_above T) hr (by decide) (pv 0)) (pe_ix ix_list (pv 2) pe_int (fun _ _ => rfl)) (fun _ _ => rfl)) pe_non (nomark _)) (pss_one (ps_set (i := 2) scline_up.nd rfl (Or.inl rfl) (pe_lst (pa_cons (pe_ix ix_tup (pe_pp T.c_Plan (ok_p_above T) hr (by decide) (pv 0)) (pe_ix ix_list (pv 2) pe_int (fun _ _ => rfl)) (fun _ _ => rfl)) (StX.pa_star (pv 2) pa_nil)))))) (pss_one (ps_ret (pe_callTy call_tuple_of (by rfl) T.n_tuple (by decide +kernel) (pa_cons (pv 2) pa_nil)))))), fun F es e h => ?_⟩) (fun _ _ _ _ _ _ us hu => by obtain ⟨a, b, rfl⟩ := len2 hu; rfl)) hm FF
  cases h with
  | mk P b h h3 =>
  have hs := sizeLine_eq
  have h5 := h.n5
  refine pds_set (pd_lst' (ds := [b].map dN) (pd_cons (pd_var rfl) pd_nil) rfl (by show 1 ≤ sizeLine; decide)) ?_
  refine pds_while (Γf := fun l : List Nat => [some (Ev.pl F c P), some (Ev.d F (.int (b : Nat))), some (Ev.l F (l.map dN))]) (fun l => ∃ k r, l = k :: r ∧ line P b = line P k ++ r ∧ k < P.n) (fun l => l.headD 0) [b] rfl ⟨b, [], rfl, by simp, h3⟩ fun l ⟨k, r, el, eq, hk⟩ => ?_
  subst el
  have hka : k < P.above.length := by rw [h.al]; exact hk
  have hab : P.above[k]? = some P.above[k] := List.getElem?_eq_getElem hka
  refine ⟨!isNon (dO P.above[k]), pdt_test (pd_op' (pd_op' (pp_above (pd_var rfl)) (pd_op' (pd_var rfl) pd_int (p2_ixL0 (d := dN k))) (p2_ixN rfl (by rw [List.getElem?_map, hab]; rfl))) pd_non p2_notN), fun hb => ?_, fun hb => ?_⟩
  · cases ho : P.above[k] with
    | none =>
      rw [ho] at hb
      cases hb
    | some o =>
      rw [ho] at hab
      have lt := h.ab k o hab
      have eu := line_up h hab
      have hlen := line_len h b
      rw [eq, eu] at hlen
      refine ⟨o :: k :: r, ⟨o, k :: r, rfl, by rw [eq, eu, List.append_assoc]; rfl, by omega⟩, lt, pdb_set (pd_lst' (ds := (o :: k :: r).map dN) (pd_cons (a := Ev.d F (dN o)) (pd_op' (pp_above (pd_var rfl)) (pd_op' (pd_var rfl) pd_int (p2_ixL0 (d := dN k))) (p2_ixN rfl (by rw [List.getElem?_map, hab]; rfl))) (pda_starL (pd_var rfl) pd_nil)) ?_ ?_)⟩
      · simp
      · have hl2 := line_len h b
        rw [eq, eu] at hl2
        have : 1 ≤ (line P o).length := by
          have := line_self (P := P) o
          exact List.length_pos_of_mem this
        simp at hl2 ⊢
        have : b < 5 := by unfold Pl.n at h3; omega
        omega
  · have ho : P.above[k] = none := by
      cases ho : P.above[k] with
      | none => rfl
      | some o =>
        rw [ho] at hb
        cases hb
    rw [ho] at hab
    rw [eq, line_top hab]
    exact pds_ret (pd_call' (pd_cons (pd_var rfl) pd_nil) pc_tupL)
theorem ok_has_power (T : Tx w K mg c) : Cl P w K mg base 4 "has_power" (SpG (R_has_power c)) := by
  obtain ⟨f, hm, FF⟩ := T.f_has_power
  refine cl_of (fn_pure FF schas_power (fun F es e h => by cases h; rfl) (fun cdv A outer s H E hr => ⟨_, (pss_one (ps_ret (pe_and (pe_cmpR op_notN (pv 2) pe_non (nomark _)) (pe_one (pe_callB (cr_all rfl) (by rfl) T.n_all (by decide +kernel) (pa_cons (pe_lcD (own := [("one", 3)]) (by rfl) schas_power.nd (pi_tup (pe_cl (ok_line_up T) hr (by decide) (by rfl) (pa_cons (pv 0) (pa_cons (pv 2) pa_nil)))) (blkOk_by (own := [("one", 3)]) (N := Nhas_power) (sc := defScope shas_power) (by decide +kernel)) (fun _ _ _ _ _ => (pg_name (i := 3) schas_power.nd rfl (Or.inl rfl))) (fun _ _ _ _ _ => pts_nil) (fun _ _ _ _ _ => (pe_ix ix_tup (pv 1) (pv 3) (fun _ _ => rfl)))) pa_nil)))))), fun F es e h => ?_⟩) (fun _ _ _ _ _ _ us hu => by obtain ⟨a, b, c, rfl⟩ := len3 hu; rfl)) hm FF
  cases h with
  | mk P st o h h2 h3 =>
  have hs := sizeLine_eq
  have h5 := h.n5
  cases o with
  | none => exact pds_ret (pd_blt (pd_and (x := !isNon .non) (y := true) (pd_op' (pd_var rfl) pd_non p2_notN) fun z => nomatch z) rfl)
  | some b =>
    have hb := h3 b rfl
    refine pds_ret (pd_blt (pd_and (pd_op' (pd_var rfl) pd_non p2_notN) fun _ => pd_call' (pd_cons (pd_lc' (is := line P b) (f := dN) (d := fun k => .bl (isOn st k)) (pdj_tup (pd_cl (pd_cons (pd_var rfl) (pd_cons (pd_var rfl) pd_nil)) (.mk _ _ b h hb)) rfl).i (fun k hk => lcb1 (List.mem_cons_self) pdt_yes fun _ => pd_op' (pd_var rfl) (pd_var rfl) (p2_ixN (i := k) rfl ?_)) ?_) pd_nil) pc_allM) ?_)
    · have lt := line_lt h hk
      have : k < st.length := by omega
      rw [List.getElem?_map]
      unfold isOn
      rw [List.getElem?_eq_getElem this]
      rfl
    · have := line_len h b
      unfold Pl.n at hb
      omega
    · show (true && _) = _
      rw [Bool.true_and]
      rfl
theorem ok_live_in (T : Tx w K mg c) : Cl P w K mg base 5 "live_in" (SpG (R_live_in c)) := by
  obtain ⟨f, hm, FF⟩ := T.f_live_in
  refine cl_of (fn_pure FF sclive_in (fun F es e h => by cases h; rfl) (fun cdv A outer s H E hr => ⟨_, (pss_cons (ps_set (i := 3) sclive_in.nd rfl (Or.inl rfl) (pe_listZip (by rfl) (by rfl) T.n_list (by rfl) T.n_zip (pa_cons (pe_pp T.c_Plan (ok_p_names T) hr (by decide) (pv 0)) (pa_cons (pv 1) pa_nil)))) (pss_one (ps_ret (pe_callTy call_tuple_of (by rfl) T.n_tuple (by decide +kernel) (pa_cons (pe_lcD (own := [("name", 4), ("breaker", 5)]) (by rfl) sclive_in.nd (pi_list (pv 3)) (blkOk_by (own := [("name", 4), ("breaker", 5)]) (N := Nlive_in) (sc := defScope slive_in) (by decide +kernel)) (fun _ _ _ _ _ => (pg_tup (by rfl) (pgs_cons (pg_name (i := 4) sclive_in.nd rfl (Or.inl rfl)) (pgs_cons (pg_name (i := 5) sclive_in.nd rfl (Or.inl rfl)) pgs_nil)))) (fun _ _ _ _ _ => (pts_one (pt_val (pe_cl (ok_has_power T) hr (by decide) (by rfl) (pa_cons (pv 0) (pa_cons (pv 2) (pa_cons (pv 5) pa_nil))))))) (fun _ _ _ _ _ => (pv 4))) pa_nil))))), fun F es e h => ?_⟩) (fun _ _ _ _ _ _ us hu => by obtain ⟨a, b, c, rfl⟩ := len3 hu; rfl)) hm FF
  cases h with
  | mk P wi st h h2 h3 =>
  have hs := sizeLine_eq
  have h5 := h.p5
  refine pds_set (pd_eq (e' := Ev.l F ((P.pts.zip wi).map fun q => .tup [.str q.1.1, dO q.2])) (pd_lstZip (pp_names (pd_var rfl) h) (pd_var rfl) rfl rfl ?_) ?_) ?_
  · simp
    omega
  · rw [List.map_map, List.zip_map, List.map_map]
    rfl
  · refine pds_ret (pd_eq (pd_call' (pd_cons (pd_lc (is := P.pts.zip wi) (p := fun q => pow P st q.2) (d := fun q => .str q.1.1) (pdi_list (pd_var rfl)) (fun q hq => lcb2 (by simp) (by simp) (pdt_val (pd_cl (pd_cons (pd_var rfl) (pd_cons (pd_var rfl) (pd_cons (pd_var rfl) pd_nil))) (.mk _ _ st q.2 h h2 ?_))) fun _ => pd_var rfl) ?_) pd_nil) pc_tupL) ?_)
    · intro b hb
      obtain ⟨i, hi⟩ := List.mem_iff_getElem?.mp hq
      have := (List.getElem?_zip_eq_some.mp hi).2
      rw [hb] at this
      exact h3.lt i b this
    · simp
      omega
    · unfold lives
      rw [List.map_map]
      rfl
end
end Bf
namespace Bf
open PySem PySem.Spec PyProof.Rows L2
/-- an operation -/
inductive Op where
  | flip (b : Nat) | plug (x : Str) (l : Nat) | rewire (x : Str) (o : Option Nat) | reset | keep (x : Str) | fetch (x : Str)
def Op.ds : Op → List D
  | .flip b => [.str "flip", .int (b : Nat)]
  | .plug x l => [.str "plug", .str x, .int (l : Nat)]
  | .rewire x o => [.str "rewire", .str x, dO o]
  | .reset => [.str "reset"]
  | .keep x => [.str "keep_as", .str x]
  | .fetch x => [.str "fetch", .str x]
abbrev dOp (o : Op) : D := .tup o.ds
def Op.word : Op → Str
  | .flip _ => "flip"
  | .plug _ _ => "plug"
  | .rewire _ _ => "rewire"
  | .reset => "reset"
  | .keep _ => "keep_as"
  | .fetch _ => "fetch"
inductive R_is_operation : (F : Fm) → List (Ev F) → Ev F → Prop
  | mk (F : Fm) (o : Op) : R_is_operation F [Ev.d F (dOp o)] (Ev.d F (.bl true))
inductive R_does_follow (c : Ca) : (F : Fm) → List (Ev F) → Ev F → Prop
  | mk (F : Fm) (P : Pl) (wi : List (Option Nat)) (h : P.Ok) (h2 : Wok P wi) : R_does_follow c F [Ev.pl F c P, Ev.d F (.tup (wi.map dO))] (Ev.d F (.bl true))
section
variable {F : Fm} {Γ : Env' F} {K : PySem.W.Frag} {t : TA}
theorem pd_kget {d : Addr} {z : Str} {n : Int} {tk : Tok} {e0 : Ev F} (h : PdA Γ t [Ev.d F (.str z), e0]) (hn : PySem.W.nsIn K d z = some (some (.int n tk))) : Pd Γ (tKGet K d t) (Ev.d F (.int n)) := fun σ H Q i g k => h σ H _ i g fun vs H1 r1 q => by
  obtain ⟨v, ws, e1, q1, w2, us, e2, q2, e3⟩ := q
  have e3' : us = [] := e3
  have e4 : v = .str z := q1
  subst e3' e2 e4
  exact ⟨z, w2, _, e1, hn, fun u hu => by
    cases hu
    exact ⟨.int n, ⟨_, rfl⟩, k _ H1 r1 rfl⟩, fun z => nomatch z⟩
end
section
variable {P : Program} {w : World} {K : PySem.W.Frag} {mg : Str → Option Value} {base : Heap} {c : Ca}
theorem ok_is_operation (T : Tx w K mg c) : Cl P w K mg base 1 "is_operation" (SpG R_is_operation) := by
  obtain ⟨f, hm, FF⟩ := T.f_is_operation
  obtain ⟨d, hd, gd, ⟨_, s1⟩, ⟨_, s2⟩, ⟨_, s3⟩, ⟨_, s4⟩, ⟨_, s5⟩, ⟨_, s6⟩, ⟨_, s7⟩, ⟨_, s8⟩⟩ := T.sizes
  refine cl_of (fn_pure FF scis_operation (fun F es e h => by cases h; rfl) (fun cdv A outer s H E hr => ⟨_, (pss_cons (ps_if (PW.pt (pw_or (pt_not (pt_val (pe_callB call_isi (by rfl) T.n_isinstance (by decide +kernel) (pa_cons (pv 0) (pa_cons (pe_bltn (v := .ty "tuple") (by rfl) T.n_tuple (by decide +kernel) rfl) pa_nil))))) (pw_or (pt_cmpR (op_eqNil hr.units0) (pv 0) (pe_tup pa_nil) (nomark _)) (pw_or1 (pt_not (pt_val (pe_callB call_isi (by rfl) T.n_isinstance (by decide +kernel) (pa_cons (pe_ix ix_tup (pv 0) pe_int (fun _ _ => rfl)) (pa_cons (pe_bltn (v := .ty "str") (by rfl) T.n_str (by decide +kernel) rfl) pa_nil))))))))) (pss_one (ps_ret pe_bl)) pss_nil) (pss_one (ps_ret (pe_cmpR op_eq (pe_kget gd hd (by rfl) (pa_cons (pe_ix ix_tup (pv 0) pe_int (fun _ _ => rfl)) (pa_cons pe_int pa_nil))) (pe_callB call_len_seq (by rfl) T.n_len (by decide +kernel) (pa_cons (pv 0) pa_nil)) (nomark _))))), fun F es e h => ?_⟩) (fun _ _ _ _ _ _ us hu => by obtain ⟨a, rfl⟩ := len1 hu; rfl)) hm FF
  cases h with
  | mk o =>
  have h0 : o.ds[0]? = some (.str o.word) := by cases o <;> rfl
  have ne : decide (o.ds = []) = false := decide_eq_false (by cases o <;> exact fun z => nomatch z)
  have hx : Pd (F := F) (startG Nis_operation.length [Ev.d F (dOp o)]) (tOp (rIxT K) (tVar 0) (tC (.int 0))) (Ev.d F (.str o.word)) := pd_op' (pd_var rfl) pd_int (p2_ixN (i := 0) rfl h0)
  have hn : ∃ (n : Int) (t : Tok), n = (o.ds.length : Nat) ∧ PySem.W.nsIn K d o.word = some (some (.int n t)) := by
    cases o
    · exact ⟨2, _, rfl, s1⟩
    · exact ⟨3, _, rfl, s2⟩
    · exact ⟨3, _, rfl, s3⟩
    · exact ⟨1, _, rfl, s4⟩
    · exact ⟨2, _, rfl, s5⟩
    · exact ⟨2, _, rfl, s6⟩
  obtain ⟨n, t, en, hn⟩ := hn
  refine pds_skip (pdt_eq (pdt_or (x := !true) (by walk_at "pd") fun _ => pdt_or (x := decide (o.ds = [])) (pdt_test (pd_op' (pd_var rfl) (pd_tup' (ds := []) pd_nil rfl (by decide)) p2_eqNil)) fun _ => pdt_not (x := true) (pdt_val (pd_call' (pd_cons hx (pd_cons pd_ty pd_nil)) (pc_isi rfl rfl)))) ?_) (pds_ret (pd_blt (pd_op' (pd_kget (pd_cons hx (pd_cons pd_int pd_nil)) hn) (pd_call' (pd_cons (pd_var rfl) pd_nil) (pc_lenT rfl)) p2_eqI) ?_))
  · rw [ne]
    rfl
  · exact decide_eq_true en
theorem ok_are_points (T : Tx w K mg c) : Cl P w K mg base 3 "are_points" (SpG R_are_points) := by
  obtain ⟨f, hm, FF⟩ := T.f_are_points
  refine cl_of (fn_pure FF scare_points (fun F es e h => by cases h; rfl) (fun cdv A outer s H E hr => ⟨_, (pss_cons (ps_if (PW.pt (pw_or (pt_not (pt_chain op_le op_le pe_int (pe_callB call_len_seq (by rfl) T.n_len (by decide +kernel) (pa_cons (pv 0) pa_nil)) (pe_gi (by rfl) T.g_MAX_POINTS))) (pw_or1 (pt_not (pt_val (pe_callB (cr_all rfl) (by rfl) T.n_all (by decide +kernel) (pa_cons (pe_lcD (own := [("point", 3)]) (by rfl) scare_points.nd (pi_tup (pv 0)) (blkOk_by (own := [("point", 3)]) (N := Nare_points) (sc := defScope sare_points) (by decide +kernel)) (fun _ _ _ _ _ => (pg_name (i := 3) scare_points.nd rfl (Or.inl rfl))) (fun _ _ _ _ _ => pts_nil) (fun _ _ _ _ _ => (pe_cl (ok_is_point T) hr (by decide) (by rfl) (pa_cons (pv 3) pa_nil)))) pa_nil))))))) (pss_one (ps_ret pe_bl)) pss_nil) (pss_one (ps_ret (pe_callB (cr_all rfl) (by rfl) T.n_all (by decide +kernel) (pa_cons (pe_lcD (own := [("one", 1), ("other", 2)]) (by rfl) scare_points.nd (RZ.pi_zipA (by rfl) T.n_zip (pa_cons (pv 0) (pa_cons (pe_slice sl_tupA (pv 0) (po_some pe_int) po_none) pa_nil))) (blkOk_by (own := [("one", 1), ("other", 2)]) (N := Nare_points) (sc := defScope sare_points) (by decide +kernel)) (fun _ _ _ _ _ => (pg_tup (by rfl) (pgs_cons (pg_name (i := 1) scare_points.nd rfl (Or.inl rfl)) (pgs_cons (pg_name (i := 2) scare_points.nd rfl (Or.inl rfl)) pgs_nil)))) (fun _ _ _ _ _ => pts_nil) (fun _ _ _ _ _ => (pe_cmpR op_lt_str (pe_ix ix_tup (pv 1) pe_int (fun _ _ => rfl)) (pe_ix ix_tup (pv 2) pe_int (fun _ _ => rfl)) (nomark _)))) pa_nil))))), fun F es e h => ?_⟩) (fun _ _ _ _ _ _ us hu => by obtain ⟨a, rfl⟩ := len1 hu; rfl)) hm FF
  cases h with
  | mk ps h1 h2 h3 h4 =>
  have hs := sizeLine_eq
  refine pds_skip (pdt_eq (pdt_or (pdt_not (pdt_test (pd_chain p2_I0b (fun _ => p2_I0b) (by walk_at "pd") (by walk_at "pd") (by walk_at "pd")))) fun _ => pdt_not (pdt_val (pd_call' (pd_cons (pd_lc' (d := fun _ => .bl true) (pdj_tup (pd_var rfl) rfl).i (fun p hp => lcb1 (by simp) pdt_yes fun _ => pd_cl (pd_cons (pd_var rfl) pd_nil) (.mk _ p (h3 p hp).1 (h3 p hp).2.1 (h3 p hp).2.2)) ?_) pd_nil) (pc_allM (p := fun _ => true))))) ?_) (pds_ret (pd_blt (pd_call' (pd_cons (pd_lc' (is := ps.zip (ps.drop 1)) (f := fun q => .tup [dPt q.1, dPt q.2]) (d := fun q => .bl (decide (q.1.1.cps.toList < q.2.1.cps.toList))) ?_ (fun q hq => lcb2 (by simp) (by simp) pdt_yes fun _ => ?_) ?_) pd_nil) pc_allM) ?_))
  · omega
  · rw [List.length_map]
    rw [decide_eq_true (by omega), decide_eq_true (by omega), List.all_eq_true.mpr fun _ _ => rfl]
    rfl
  · have h := pdj_zip (F := F) (K := K) (Γ := startG Nare_points.length [Ev.d F (.tup (ps.map dPt))]) (ta := tVar 0) (d1 := .tup (ps.map dPt)) (pd_var rfl) (pd_slT (K := K) (te := tVar 0) (ds := ps.map dPt) (pd_var rfl) (pdo_some (pd_int (x := 1))) pdo_none) rfl rfl
    have e := cutD_from (k := 1) (xs := ps.map dPt)
    have e1 : (((1 : Nat) : Int)) = 1 := rfl
    rw [e1] at e
    rw [e, ← List.map_drop, List.zip_map, List.map_map] at h
    exact h.i
  · exact pd_op' (pd_op' (pd_var rfl) pd_int (p2_ixT rfl rfl)) (pd_op' (pd_var rfl) pd_int (p2_ixT rfl rfl)) p2_ltS
  · rw [List.length_zip]
    omega
  · refine List.all_eq_true.mpr fun q hq => ?_
    obtain ⟨i, hi⟩ := List.mem_iff_getElem?.mp hq
    obtain ⟨g1, g2⟩ := List.getElem?_zip_eq_some.mp hi
    rw [List.getElem?_drop, Nat.add_comm] at g2
    exact decide_eq_true (h4 i _ _ g1 g2)
theorem ok_does_follow (T : Tx w K mg c) : Cl P w K mg base 3 "does_follow" (SpG (R_does_follow c)) := by
  obtain ⟨f, hm, FF⟩ := T.f_does_follow
  refine cl_of (fn_pure FF scdoes_follow (fun F es e h => by cases h; rfl) (fun cdv A outer s H E hr => ⟨_, (pss_cons (ps_if (pt_cmpR op_eq (pe_pp T.c_Plan (ok_p_rule T) hr (by decide) (pv 0)) (pe_gs (by rfl) T.g_FREE) (nomark _)) (pss_one (ps_ret pe_bl)) pss_nil) (pss_cons (ps_set (i := 2) scdoes_follow.nd rfl (Or.inl rfl) pe_dnewK) (pss_cons (ps_for PassesOwn.never rfl (RZ.pi_zipA (by rfl) T.n_zip (pa_cons (pe_pp T.c_Plan (ok_p_points T) hr (by decide) (pv 0)) (pa_cons (pv 1) pa_nil))) (pg_tup (by rfl) (pgs_cons (pg_name (i := 3) scdoes_follow.nd rfl (Or.inl rfl)) (pgs_cons (pg_name (i := 4) scdoes_follow.nd rfl (Or.inl rfl)) pgs_nil))) (pss_one (ps_if (PW.pt (pw_and (pt_cmpR op_eq (pe_ix ix_tup (pv 3) pe_int (fun _ _ => rfl)) (pe_gs (by rfl) T.g_LAMP) (nomark _)) (pw_and1 (pt_cmpR op_ne (pe_dsetd (pv 2) (pe_ix ix_tup (pv 3) pe_int (fun _ _ => rfl)) (pv 4) ⟨rfl, rfl, rfl, rfl⟩) (pv 4) (nomark _))))) (pss_one (ps_ret pe_bl)) pss_nil))) (pss_one (ps_ret pe_bl))))), fun F es e h => ?_⟩) (fun _ _ _ _ _ _ us hu => by obtain ⟨a, b, rfl⟩ := len2 hu; rfl)) hm FF
  cases h with
  | mk P wi h h2 =>
  refine pds_ifS (pdt_test (pd_op' (pp_rule (pd_var rfl)) pd_str p2_eqS)) (fun _ => pds_retS pd_bl) fun hne => pds_nextS ?_
  have hfo : ∀ (i j : Nat) p q, P.pts[i]? = some p → P.pts[j]? = some q → p.2.1 = ("lamp" : Str) → q.2.1 = ("lamp" : Str) → p.2.2 = q.2.2 → wi[i]? = wi[j]? := h2.fo.resolve_left (of_decide_eq_false hne)
  intro σ H D iH g ff p np
  have sm : Same H (upd H p (.dK [])) := Same.new np
  have r1 := Fm.ofSame iH sm
  have g1 : EnvOk (upd H p (.dK [])) (σ.set 2 (some (.ref p))) (startG Ndoes_follow.length [Ev.pl F c P, Ev.d F (.tup (wi.map dO))]) := EnvOk.setNone (g.st iH r1) (fun e z => by
    have z' : (some none : Option (Option (Ev F))) = some (some e) := z
    cases z')
  have hl1 := g.1
  have s2 : (σ.set 2 (some (V.ref p)))[2]? = some (some (V.ref p)) := List.getElem?_set_self (by rw [hl1]; exact (by decide : 2 < 5))
  refine (pp_points (pd_var rfl)) _ _ _ r1.1 g1 fun va H2 r2 qa => ?_
  have r12 := Fm.trans r1 r2
  have np2 : ¬ F.A p := Fm.nA iH np
  have hp2 : H2 p = some (.dK []) := r2.2 _ _ upd_same np2
  refine (pd_var (F := F) (Γ := startG Ndoes_follow.length [Ev.pl F c P, Ev.d F (.tup (wi.map dO))]) rfl) _ _ _ r2.1 (g1.st r1.1 r2) fun vb H3 r3 qb => ?_
  obtain ⟨a, xs, ea, ha, qx⟩ := Rep.seq ((Ev.d F (dPts P)).st r2.1 r3 qa) rfl K
  obtain ⟨b, ys, eb, hb, qy⟩ := Rep.seq qb rfl K
  have ey := reps_dO qy
  have hp3 : H3 p = some (.dK []) := r3.2 _ _ hp2 np2
  have r123 := Fm.trans r12 r3
  have nd := ndDs_map (f := dPt) (fun _ => rfl) P.pts
  refine ⟨a, b, xs, ys, by rw [ea, eb], .inr ⟨ha, hb, ?_⟩⟩
  refine L2.for_it (walk_zipT (K := K) (a := a) (b := b) (xs := xs) (ys := ys) rfl) (fun i σ' H' => F.R H H' ∧ PrT H3 H' ∧ EnvOk H' σ' (startG Ndoes_follow.length [Ev.pl F c P, Ev.d F (.tup (wi.map dO))]) ∧ σ'[2]? = some (some (.ref p)) ∧
    ∃ kvs : List (Key × V), H' p = some (.dK kvs) ∧ kvs.length ≤ i ∧ ∀ (r : Key) (v : V), valV kvs r = some v → ∃ (j : Nat) (q : Str × Str × Nat) (o : Option Nat), j < i ∧ P.pts[j]? = some q ∧ q.2.1 = ("lamp" : Str) ∧ r = .inl (q.2.2 : Int) ∧ wi[j]? = some o ∧ v = vO o)
    ⟨r123, PrT.refl _, g1.st r1.1 (Fm.trans r2 r3), s2, [], hp3, Nat.le_refl _, fun r v z => by rw [valV_nil] at z; cases z⟩ (fun i σ' H' _ z => ⟨sqT_prT z.2.1 ha, sqT_prT z.2.1 hb⟩) ?_ ?_
  · rintro i x σ' H' H4 hlt ⟨rr, pt, gg, sl, kvs, hk, hkl, hkv⟩ ⟨TT, x1, y1, ex, nT, eH, g1, g2⟩
    subst ex
    subst eH
    have smT : Same H' (upd H' TT (.tup [x1, y1])) := Same.new nT
    have hlx := qx.length
    rw [List.length_map] at hlx
    have hix : i < P.pts.length := by omega
    have hi2 : P.pts[i]? = some P.pts[i] := List.getElem?_eq_getElem hix
    have hwl : i < wi.length := by rw [h2.len]; exact hix
    have hw2 : wi[i]? = some wi[i] := List.getElem?_eq_getElem hwl
    obtain ⟨dx, f1, f2⟩ := (Reps.prT pt nd qx).get' g1
    rw [List.getElem?_map, hi2] at f1
    obtain rfl := Option.some.inj f1
    have g2' : ys[i]? = some y1 := g2
    rw [ey, List.getElem?_map, hw2] at g2'
    obtain rfl : vO wi[i] = y1 := Option.some.inj g2'
    refine ⟨TT, _, rfl, .inl (.inl upd_same), rfl, x1, _, rfl, _, _, rfl, rfl, ?_⟩
    have rT := Fm.ofSame rr.1 smT
    have gT := EnvOk.set (i := 4) (e := Ev.d F (dO wi[i])) (v := vO wi[i]) (EnvOk.set (i := 3) (e := Ev.d F (dPt P.pts[i])) (gg.st rr.1 rT) (Rep.same smT f2)) (by
      cases wi[i] <;> rfl)
    have hkT : upd H' TT (.tup [x1, vO wi[i]]) p = some (.dK kvs) := smT _ _ hk
    have hl' : σ'.length = 5 := gg.1
    have sl4 : ((σ'.set 3 (some x1)).set 4 (some (vO wi[i])))[2]? = some (some (.ref p)) := by
      rw [List.getElem?_set_ne (by decide), List.getElem?_set_ne (by decide)]
      exact sl
    have v4 : ((σ'.set 3 (some x1)).set 4 (some (vO wi[i])))[4]? = some (some (vO wi[i])) := List.getElem?_set_self (by simp [hl'])
    have g0 : EnvOk (upd H' TT (.tup [x1, vO wi[i]])) ((σ'.set 3 (some x1)).set 4 (some (vO wi[i]))) (startG Ndoes_follow.length [Ev.pl F c P, Ev.d F (.tup (wi.map dO))]) :=
      EnvOk.setNone (EnvOk.setNone (gg.st rr.1 rT) fun e z => by
        have z' : (some none : Option (Option (Ev F))) = some (some e) := z
        cases z') fun e z => by
        have z' : (some none : Option (Option (Ev F))) = some (some e) := z
        cases z'
    have ptT : PrT H3 (upd H' TT (.tup [x1, vO wi[i]])) := PrT.trans pt (Pr.t (Same.pr smT))
    have rTT := Fm.trans rr rT
    generalize hσ4 : (σ'.set 3 (some x1)).set 4 (some (vO wi[i])) = σ4 at gT sl4 v4 g0 ⊢
    generalize hH4 : upd H' TT (.tup [x1, vO wi[i]]) = H4 at gT g0 rT rTT hkT ptT ⊢
    -- the end of a turn that goes on
    have fin : ∀ H5 (kvs' : List (Key × V)), F.R H H5 → PrT H3 H5 → EnvOk H5 σ4 (startG Ndoes_follow.length [Ev.pl F c P, Ev.d F (.tup (wi.map dO))]) → H5 p = some (.dK kvs') → kvs'.length ≤ i + 1 →
        (∀ (r : Key) (v : V), valV kvs' r = some v → valV kvs r = some v ∨ (P.pts[i].2.1 = ("lamp" : Str) ∧ r = .inl (P.pts[i].2.2 : Int) ∧ v = vO wi[i])) →
        (fun i σ' H' => F.R H H' ∧ PrT H3 H' ∧ EnvOk H' σ' (startG Ndoes_follow.length [Ev.pl F c P, Ev.d F (.tup (wi.map dO))]) ∧ σ'[2]? = some (some (.ref p)) ∧
          ∃ kvs : List (Key × V), H' p = some (.dK kvs) ∧ kvs.length ≤ i ∧ ∀ (r : Key) (v : V), valV kvs r = some v → ∃ (j : Nat) (q : Str × Str × Nat) (o : Option Nat), j < i ∧ P.pts[j]? = some q ∧ q.2.1 = ("lamp" : Str) ∧ r = .inl (q.2.2 : Int) ∧ wi[j]? = some o ∧ v = vO o) (i + 1) σ4 H5 := by
      intro H5 kvs' b1 b2 b3 b4 b5 b6
      refine ⟨b1, b2, b3, sl4, kvs', b4, b5, fun r v hv => ?_⟩
      rcases b6 r v hv with z | ⟨z1, z2, z3⟩
      · obtain ⟨j, q, o, c1, c2⟩ := hkv r v z
        exact ⟨j, q, o, by omega, c2⟩
      · exact ⟨i, _, _, by omega, hi2, z1, z2, hw2, z3⟩
    refine (pdt_test (pd_op' (pd_op' (pd_var (i := 3) rfl) pd_int (p2_ixT rfl rfl)) pd_str p2_eqS)) σ4 H4 _ rT.1 gT fun H5 r5 => ?_
    have hk5 := r5.2 _ _ hkT np2
    have pt5 := PrT.trans ptT (Pr.t (Fm.toPr rT.1 r5))
    have g5 := g0.st rT.1 r5
    have gT5 := gT.st rT.1 r5
    have rr5 := Fm.trans rTT r5
    by_cases hlamp : P.pts[i].2.1 = ("lamp" : Str)
    · rw [decide_eq_true hlamp, if_pos rfl]
      refine ⟨.ref p, sl4, p, rfl, .inl ⟨kvs, .inl hk5⟩, ?_⟩
      refine (pd_op' (pd_var (i := 3) rfl) pd_int (p2_ixT (d := .int (P.pts[i].2.2 : Int)) rfl rfl)) σ4 H5 _ rr5.1 gT5 fun y H6 r6 q6 => ?_
      have q6' : y = .int (P.pts[i].2.2 : Int) := q6
      subst q6'
      have hk6 := r6.2 _ _ hk5 np2
      have pt6 := PrT.trans pt5 (Pr.t (Fm.toPr rr5.1 r6))
      have g6 := g5.st rr5.1 r6
      have rr6 := Fm.trans rr5 r6
      have hsz := sizeLine_eq
      have hp5 := h.p5
      refine ⟨_, v4, kvs, .inl (P.pts[i].2.2 : Int), hk6, rfl, by omega, fun v hv => ?_, fun hv => ?_⟩
      · obtain ⟨j, q, o, c1, c2, c3, c4, c5, c6⟩ := hkv _ _ hv
        have e1 : wi[j]? = wi[i]? := hfo j i q _ c2 hi2 c3 hlamp (by
          have := Sum.inl.inj c4
          omega)
        rw [c5, hw2] at e1
        have e2 : v = vO wi[i] := by rw [c6, Option.some.inj e1]
        refine ⟨_, v4, ?_, ?_⟩
        · rw [e2]
          exact scal_vO _ _
        · refine ⟨_, rfl, ?_⟩
          rw [e2]
          show if (!decide (vO wi[i] = vO wi[i])) = true then _ else _
          rw [decide_eq_true rfl, if_neg (by decide)]
          exact fin H6 kvs rr6 pt6 g6 hk6 (by omega) fun r v hv => .inl hv
      · refine ⟨_, v4, scal_vO _ _, _, rfl, ?_⟩
        show if (!decide (vO wi[i] = vO wi[i])) = true then _ else _
        rw [decide_eq_true rfl, if_neg (by decide)]
        have rput : F.R H (upd H6 p (.dK (putK kvs (.inl (P.pts[i].2.2 : Int)) (vO wi[i])))) := ⟨F.wr rr6.1 np2 hk6 (fun _ _ z => nomatch z), fun x o e n => by
          rw [upd_ne (ne_of_none e np)]
          exact rr6.2 x o e n⟩
        refine fin _ _ rput (PrT.trans pt6 (PrT.upd hk6 trivial)) ?_ upd_same (by have := length_putK kvs (.inl (P.pts[i].2.2 : Int)) (vO wi[i]); omega) fun r v hv => ?_
        · have gH : EnvOk H σ (startG Ndoes_follow.length [Ev.pl F c P, Ev.d F (.tup (wi.map dO))]) := g
          refine ⟨g6.1, fun m e z => ?_⟩
          obtain ⟨v6, w1, w2⟩ := g6.2 m e z
          refine ⟨v6, w1, ?_⟩
          have hm : m = 0 ∨ m = 1 := by
            rcases m with _ | _ | _ | _ | _ | m
            · exact .inl rfl
            · exact .inr rfl
            · have z' : (some none : Option (Option (Ev F))) = some (some e) := z
              cases z'
            · have z' : (some none : Option (Option (Ev F))) = some (some e) := z
              cases z'
            · have z' : (some none : Option (Option (Ev F))) = some (some e) := z
              cases z'
            · have z' : (none : Option (Option (Ev F))) = some (some e) := z
              cases z'
          rcases hm with rfl | rfl
          · have z' : (some (some (Ev.pl F c P)) : Option (Option (Ev F))) = some (some e) := z
            cases z'
            obtain ⟨a0, dx0, vs0, t0, u1, u2, u3, u4, u5, u6, u7⟩ := w2
            refine ⟨a0, dx0, vs0, t0, u1, u2, u3, ?_, ?_, u6, Rep.prT (PrT.upd hk6 trivial) (by
              show (ndDs (P.rates.map dN) && (ndDs (P.above.map dO) && (ndDs (P.pts.map dPt) && (true && true)))) = true
              rw [ndDs_map (fun _ => rfl), ndDs_map ndD_dO, ndDs_map (fun _ => rfl)]
              rfl) u7⟩
            · rw [upd_ne (fun z => by rw [z, hk6] at u4; unfold SlX.SlO at u4; cases u4)]
              exact u4
            · rw [upd_ne (fun z => by rw [z, hk6] at u5; cases u5)]
              exact u5
          · have z' : (some (some (Ev.d F (.tup (wi.map dO)))) : Option (Option (Ev F))) = some (some e) := z
            cases z'
            exact Rep.prT (PrT.upd hk6 trivial) (ndDs_map ndD_dO wi) w2
        · rw [valV_put] at hv
          by_cases hr : r = .inl (P.pts[i].2.2 : Int)
          · rw [if_pos hr] at hv
            exact .inr ⟨hlamp, hr, (Option.some.inj hv).symm⟩
          · rw [if_neg hr] at hv
            exact .inl hv
    · rw [decide_eq_false hlamp, if_neg Bool.false_ne_true]
      show if false = true then _ else _
      rw [if_neg Bool.false_ne_true]
      exact fin H5 kvs rr5 pt5 g5 hk5 (by omega) fun r v hv => .inl hv
  · rintro σ' H' ⟨rr, pt, gg, sl, _⟩
    exact (pds_ret pd_bl) σ' H' D rr.1 gg (ff.r rr)
end
end Bf
namespace Bf
open PySem PySem.Spec PyProof.Rows L2
/-- loads -/
abbrev Ld := List (Str × Nat)
abbrev dLd (ld : Ld) : D := .dict (ld.map (·.1)) (ld.map fun p => .int (p.2 : Int))
def kvL (ld : Ld) : List (Key × V) := ld.map fun p => (Sum.inr p.1, V.int (p.2 : Int))
theorem kv_ld {H : Hp} : ∀ {ld : Ld} {kvs : List (Key × V)}, kvs.map (·.1) = (ld.map (·.1)).map Sum.inr → Reps H (ld.map fun p => D.int (p.2 : Int)) (kvs.map (·.2)) → kvs = kvL ld
  | [], [], _, _ => rfl
  | [], _ :: _, h, _ => by simp at h
  | _ :: _, [], h, _ => by simp at h
  | p :: ld, (k, v) :: kvs, h, q => by
    obtain ⟨x, ys, e, q1, q2⟩ := q
    have e' : v :: kvs.map (·.2) = x :: ys := e
    cases e'
    have h' : k :: kvs.map (·.1) = Sum.inr p.1 :: (ld.map (·.1)).map Sum.inr := h
    injection h' with h1 h2
    have e1 : v = .int (p.2 : Int) := q1
    rw [h1, e1, kv_ld h2 q2]
    rfl
theorem rep_ld {H : Hp} {ld : Ld} {v : V} (h : Rep H (dLd ld) v) : ∃ a, v = .ref a ∧ H a = some (.dK (kvL ld)) := by
  obtain ⟨a, kvs, e, h1, h2, h3⟩ := h
  exact ⟨a, e, by rw [h1, kv_ld h2 h3]⟩
theorem rep_ld_of {H : Hp} {ld : Ld} {a : Addr} (h : H a = some (.dK (kvL ld))) : Rep H (dLd ld) (.ref a) := by
  refine ⟨a, kvL ld, rfl, h, by simp [kvL], ?_⟩
  have e : (kvL ld).map (·.2) = (ld.map fun p => (p.2 : Int)).map V.int := by simp [kvL]
  have e2 : (ld.map fun p => D.int (p.2 : Int)) = (ld.map fun p => (p.2 : Int)).map D.int := by simp
  rw [e, e2]
  exact Reps.of_ints
theorem valV_kvL {x : Str} : ∀ {ld : Ld}, valV (kvL ld) (.inr x) = (ld.find? fun p => decide (p.1 = x)).map fun p => V.int (p.2 : Int)
  | [] => rfl
  | p :: ld => by
    have ih := valV_kvL (x := x) (ld := ld)
    by_cases h : p.1 = x
    · have e : (kvL (p :: ld)) = (Sum.inr p.1, V.int (p.2 : Int)) :: kvL ld := rfl
      rw [e, valV_pos (by rw [h]), List.find?_cons, decide_eq_true h]
      rfl
    · have e : (kvL (p :: ld)) = (Sum.inr p.1, V.int (p.2 : Int)) :: kvL ld := rfl
      rw [e, valV_neg (fun z => h (Sum.inr.inj z)), List.find?_cons, decide_eq_false h, ih]
section
variable {F : Fm} {Γ : Env' F} {td ty tx : TE}
theorem pd_ldget {ld : Ld} {x : Str} (h1 : Pd Γ td (Ev.d F (dLd ld))) (h2 : Pd Γ ty (Ev.d F (.str x))) (h3 : Pd Γ tx (Ev.d F (.int 0))) : Pd Γ (tDGet2 td ty tx) (Ev.d F (.int (ldGet ld x : Nat))) := fun σ H Q i g k =>
  h1 σ H _ i g fun v H1 r1 q1 => by
  obtain ⟨a, e, ha⟩ := rep_ld q1
  refine ⟨a, e, .inl ⟨_, .inl ha⟩, h2 σ H1 _ r1.1 (g.st i r1) fun y H2 r2 q2 => h3 σ H2 _ r2.1 (g.st i (Fm.trans r1 r2)) fun z H3 r3 q3 => ?_⟩
  have hy : y = .str x := q2
  have hz : z = .int 0 := q3
  subst hy hz
  obtain ⟨a', e', ha'⟩ := rep_ld ((Ev.d F (dLd ld)).st r1.1 (Fm.trans r2 r3) q1)
  rw [e] at e'
  cases e'
  refine ⟨_, .inl ⟨_, .inr x, .inl ha', rfl, rfl⟩, k _ H3 (Fm.trans r1 (Fm.trans r2 r3)) ?_⟩
  rw [valV_kvL]
  show _ = V.int _
  unfold ldGet
  cases (ld.find? fun p => decide (p.1 = x)) <;> rfl
end
inductive R_currents_in (c : Ca) : (F : Fm) → List (Ev F) → Ev F → Prop
  | mk (F : Fm) (P : Pl) (wi : List (Option Nat)) (st : List Bool) (ld : Ld) (h : P.Ok) (h2 : st.length = P.n) (h3 : Wok P wi) : R_currents_in c F [Ev.pl F c P, Ev.d F (.tup (wi.map dO)), Ev.d F (.tup (st.map .bl)), Ev.d F (dLd ld)] (Ev.d F (.tup ((currs P wi st ld).map dN)))
/-- the content of the list of currents -/
def cont (n : Nat) (g : Nat → Nat) : List V := (List.range n).map fun k => V.int (g k : Nat)
theorem cont_get {n k : Nat} {g : Nat → Nat} (h : k < n) : (cont n g)[k]? = some (.int (g k : Nat)) := by simp [cont, h]
theorem cont_set {n j x : Nat} {g : Nat → Nat} : (cont n g).set j (.int (x : Nat)) = cont n fun k => if k = j then x else g k := by
  refine List.ext_getElem? fun k => ?_
  by_cases hk : k < n
  · by_cases e : j = k
    · subst e
      rw [List.getElem?_set_self (by simp [cont, hk]), cont_get hk, if_pos rfl]
    · rw [List.getElem?_set_ne e, cont_get hk, cont_get hk, if_neg (Ne.symm e)]
  · have l1 : (cont n g).length = n := by simp [cont]
    rw [List.getElem?_eq_none (by rw [List.length_set, l1]; omega), List.getElem?_eq_none (by simp [cont]; omega)]
theorem cont_congr {n : Nat} {g g' : Nat → Nat} (h : ∀ k, k < n → g k = g' k) : cont n g = cont n g' := by
  unfold cont
  exact List.map_congr_left fun k hk => by rw [h k (List.mem_range.mp hk)]
def addOf (P : Pl) (st : List Bool) (ld : Ld) (k : Nat) (q : (Str × Str × Nat) × Option Nat) : Nat := if pow P st q.2 && under P k q.2 then ldGet ld q.1.1 else 0
theorem name_in {i : Nat} {x : V} {σ : L2.St} {H : Hp} {Q : L2.St → Hp → Prop} (h : Q (σ.set i (some x)) H) : gName i x σ H Q := h
theorem augS_in {to ti te : TE} {tget : V → V → Hp → VK → Prop} {tip : TIp} {tset : TSet} {D : Ends} {σ : L2.St} {H : Hp} (h : to σ H fun o H1 => ti σ H1 fun i H2 => tget o i H2 fun x H3 => te σ H3 fun y H4 => tip x y H4 fun z H5 => tset o i z H5 fun H6 => D.nx σ H6) : tAugS to ti te tget tip tset D σ H := h
theorem seq_asg {te : TE} {i : Nat} {u : TS} {D : Ends} {σ : L2.St} {H : Hp} (h : te σ H fun v H1 => u D (σ.set i (some v)) H1) : tSeq (tAsg te (gName i)) u D σ H := h
theorem seq_for {wi : TI} {g : TG} {tb u : TS} {D : Ends} {σ : L2.St} {H : Hp} (h : tFor wi g tb { D with nx := u D } σ H) : tSeq (tFor wi g tb) u D σ H := h
theorem for_in {wi : TI} {g : TG} {tb : TS} {D : Ends} {σ : L2.St} {H : Hp} (h : wi σ H fun J H1 => ∃ W : Nat → Nat → L2.St → Hp → Prop, (∃ m, W 0 m σ H1) ∧ ∀ i m σ H, W i m σ H →
  (J.stop i H ∧ D.nx σ H) ∨ (J.go i H ∧ ∃ N : L2.St → Hp → Prop, (∀ σ' H', N σ' H' → ∃ m', m' < m ∧ W (i + 1) m' σ' H') ∧ ∀ x H', J.yld i H x H' → g x σ H' fun σ2 H2 => tb { D with nx := N, ct := N, bk := D.nx } σ2 H2)) : tFor wi g tb D σ H := h
section
variable {P : Program} {w : World} {K : PySem.W.Frag} {mg : Str → Option Value} {base : Heap} {c : Ca}
theorem ok_is_wiring (T : Tx w K mg c) : Cl P w K mg base 4 "is_wiring" (SpG (R_is_wiring c)) := by
  obtain ⟨f, hm, FF⟩ := T.f_is_wiring
  refine cl_of (fn_pure FF scis_wiring (fun F es e h => by cases h; rfl) (fun cdv A outer s H E hr => ⟨_, (pss_cons (ps_if (PW.pt (pw_or (pt_not (pt_val (pe_callB call_isi (by rfl) T.n_isinstance (by decide +kernel) (pa_cons (pv 1) (pa_cons (pe_bltn (v := .ty "tuple") (by rfl) T.n_tuple (by decide +kernel) rfl) pa_nil))))) (pw_or1 (pt_cmpR op_ne (pe_callB call_len_seq (by rfl) T.n_len (by decide +kernel) (pa_cons (pv 1) pa_nil)) (pe_callB call_len_seq (by rfl) T.n_len (by decide +kernel) (pa_cons (pe_pp T.c_Plan (ok_p_points T) hr (by decide) (pv 0)) pa_nil)) (nomark _))))) (pss_one (ps_ret pe_bl)) pss_nil) (pss_cons (ps_if (pt_not (pt_val (pe_callB (cr_all rfl) (by rfl) T.n_all (by decide +kernel) (pa_cons (pe_lcD (own := [("breaker", 2)]) (by rfl) scis_wiring.nd (pi_tup (pv 1)) (blkOk_by (own := [("breaker", 2)]) (N := Nis_wiring) (sc := defScope sis_wiring) (by decide +kernel)) (fun _ _ _ _ _ => (pg_name (i := 2) scis_wiring.nd rfl (Or.inl rfl))) (fun _ _ _ _ _ => pts_nil) (fun _ _ _ _ _ => (pe_or (pe_cmpR op_isN (pv 2) pe_non (nomark _)) (pe_one (pe_cl (ok_is_number T) hr (by decide) (by rfl) (pa_cons (pv 2) (pa_cons pe_int (pa_cons (pe_op op_sub (pe_callB (call_lenO (ok_p_len T) hr (by decide)) (by rfl) T.n_len (by decide +kernel) (pa_cons (pv 0) pa_nil)) pe_int) pa_nil)))))))) pa_nil)))) (pss_one (ps_ret pe_bl)) pss_nil) (pss_one (ps_ret (pe_cl (ok_does_follow T) hr (by decide) (by rfl) (pa_cons (pv 0) (pa_cons (pv 1) pa_nil))))))), fun F es e h => ?_⟩) (fun _ _ _ _ _ _ us hu => by obtain ⟨a, b, rfl⟩ := len2 hu; rfl)) hm FF
  cases h with
  | mk P wi h h2 =>
  have hs := sizeLine_eq
  have hp5 := h.p5
  refine pds_skip (pdt_eq (pdt_or (x := !true) (by walk_at "pd") fun _ => pdt_test (pd_op' (pd_call' (pd_cons (pd_var rfl) pd_nil) (pc_lenT rfl)) (pd_call' (pd_cons (pp_points (pd_var rfl)) pd_nil) (pc_lenT rfl)) p2_neI)) ?_) (pds_skip (pdt_eq (pdt_not (pdt_val (pd_call' (pd_cons (pd_lc' (is := wi) (f := dO) (d := fun _ => .bl true) (pdj_tup (pd_var rfl) rfl).i (fun o ho => lcb1 (by simp) pdt_yes fun _ => ?_) ?_) pd_nil) (pc_allM (p := fun _ => true))))) ?_) (pds_ret (pd_cl (pd_cons (pd_var rfl) (pd_cons (pd_var rfl) pd_nil)) (.mk _ P wi h h2))))
  · rw [List.length_map, List.length_map, h2.len]
    simp
  · cases o with
    | none => exact pd_blt (pd_or (x := isNon .non) (y := true) (pd_op' (pd_var rfl) pd_non p2_isN) fun z => nomatch z) rfl
    | some b =>
      obtain ⟨i, hi⟩ := List.mem_iff_getElem?.mp ho
      have lt := h2.lt i b hi
      refine pd_blt (pd_or (x := isNon (dO (some b))) (pd_op' (pd_var rfl) pd_non p2_isN) fun _ => pd_cl (es := [Ev.d F (.int (b : Nat)), Ev.d F (.int 0), Ev.d F (.int ((P.n : Nat) - 1))]) (pd_cons (pd_var rfl) (pd_cons pd_int (pd_cons (pd_op' (pp_len (pd_var rfl) h) pd_int p2_I0i) pd_nil))) (.mk _ _ _ _)) ?_
      show (false || _) = true
      rw [Bool.false_or, Bool.and_eq_true]
      exact ⟨decide_eq_true (by omega), decide_eq_true (by omega)⟩
  · rw [h2.len]
    omega
  · rw [List.all_eq_true.mpr fun _ _ => rfl]
    rfl
theorem ok_check_wiring (T : Tx w K mg c) : Cl P w K mg base 5 "check_wiring" (SpG (R_check_wiring c)) := by
  obtain ⟨f, hm, FF⟩ := T.f_check_wiring
  refine cl_of (fn_pure FF sccheck_wiring (fun F es e h => by cases h; rfl) (fun cdv A outer s H E hr => ⟨_, (pss_one (ps_if (pt_not (pt_val (pe_cl (ok_is_wiring T) hr (by decide) (by rfl) (pa_cons (pv 0) (pa_cons (pv 1) pa_nil))))) pss_never pss_nil)), fun F es e h => ?_⟩) (fun _ _ _ _ _ _ us hu => by obtain ⟨a, b, rfl⟩ := len2 hu; rfl)) hm FF
  cases h with
  | mk P wi h h2 => exact pds_if (pdt_eq (y := false) (pdt_not (pdt_val (pd_cl (pd_cons (pd_var rfl) (pd_cons (pd_var rfl) pd_nil)) (.mk _ P wi h h2)))) rfl) (fun z => nomatch z) fun _ => pds_next fun _ => rfl
theorem ok_currents_in (T : Tx w K mg c) : Cl P w K mg base 5 "currents_in" (SpG (R_currents_in c)) := by
  obtain ⟨f, hm, FF⟩ := T.f_currents_in
  refine cl_of (fn_pure FF sccurrents_in (fun F es e h => by cases h; rfl) (fun cdv A outer s H E hr => ⟨_, (pss_cons (ps_setLcD (i := 4) (own := [("rate", 8)]) (by rfl) sccurrents_in.nd rfl rfl (sw_true rfl rfl rfl (by decide +kernel)) (pi_tup (pe_pp T.c_Plan (ok_p_rates T) hr (by decide) (pv 0))) (blkOk_by (own := [("rate", 8)]) (N := Ncurrents_in) (sc := defScope scurrents_in) (by decide +kernel)) (fun _ _ _ _ _ => (pg_name (i := 8) sccurrents_in.nd rfl (Or.inl rfl))) (fun _ _ _ _ _ => pts_nil) (fun _ _ _ _ _ => pe_int)) (pss_cons (ps_for PassesOwn.never rfl (RZ.pi_zipA (by rfl) T.n_zip (pa_cons (pe_pp T.c_Plan (ok_p_names T) hr (by decide) (pv 0)) (pa_cons (pv 1) pa_nil))) (pg_tup (by rfl) (pgs_cons (pg_name (i := 5) sccurrents_in.nd rfl (Or.inl rfl)) (pgs_cons (pg_name (i := 6) sccurrents_in.nd rfl (Or.inl rfl)) pgs_nil))) (pss_one (ps_if (pt_val (pe_cl (ok_has_power T) hr (by decide) (by rfl) (pa_cons (pv 0) (pa_cons (pv 2) (pa_cons (pv 6) pa_nil))))) (pss_one (ps_for PassesOwn.never rfl (pi_tup (pe_cl (ok_line_up T) hr (by decide) (by rfl) (pa_cons (pv 0) (pa_cons (pv 6) pa_nil)))) (pg_name (i := 7) sccurrents_in.nd rfl (Or.inl rfl)) (pss_one (ps_augS (pv 4) (pv 7) pget_list (pe_dget2 (hu_of hr) (pv 3) (pv 5) pe_int ⟨rfl, rfl, rfl, rfl⟩) ip_add set_list)))) pss_nil))) (pss_one (ps_ret (pe_callTy call_tuple_of (by rfl) T.n_tuple (by decide +kernel) (pa_cons (pv 4) pa_nil)))))), fun F es e h => ?_⟩) (fun _ _ _ _ _ _ us hu => by obtain ⟨a, b, c, d, rfl⟩ := len4 hu; rfl)) hm FF
  cases h with
  | mk P wi st ld h h2 h3 =>
  have hs := sizeLine_eq
  have hp5 := h.p5
  have hn5 := h.n5
  intro σ H DE iH g ff
  have gz : EnvOk H σ (startG Ncurrents_in.length [Ev.pl (FZ F H) c P, Ev.d (FZ F H) (.tup (wi.map dO)), Ev.d (FZ F H) (.tup (st.map .bl)), Ev.d (FZ F H) (dLd ld)]) := g.cv ⟨cz_pl, cz_d, cz_d, cz_d, trivial⟩
  refine seq_asg ?_
  refine (pd_lc' (F := FZ F H) (d := fun _ => .int 0) (pdj_tup (pp_rates (P := P) (c := c) (pd_var (i := 0) rfl)) rfl).i (fun r hr => lcb1 (j := 8) (vs := [8]) (List.mem_cons_self) pdt_yes fun _ => pd_int) (Nat.lt_of_le_of_lt hn5 (by omega))) σ H _ (FZ.i iH) gz fun v H1 r1 q1 => ?_
  obtain ⟨a, xs, rfl, n0, nA, ha, qx⟩ := FZ.fresh iH r1 q1
  have rF := FZ.r (FZ.i iH) r1
  have e0 : xs = cont P.n fun _ => 0 := by
    have e1 : (P.rates.map fun _ => D.int 0) = (P.rates.map fun _ => (0 : Int)).map D.int := by simp
    rw [e1] at qx
    rw [Reps.ints qx]
    unfold cont
    rw [List.map_map]
    refine List.ext_getElem? fun k => ?_
    by_cases hk : k < P.rates.length
    · simp [hk]
    · have hnn : P.n = P.rates.length := rfl
      rw [List.getElem?_eq_none (by simp; omega), List.getElem?_eq_none (by simp; omega)]
  subst e0
  have g1 : EnvOk H1 (σ.set 4 (some (.ref a))) [some (Ev.pl F c P), some (Ev.d F (.tup (wi.map dO))), some (Ev.d F (.tup (st.map .bl))), some (Ev.d F (dLd ld)), some (Ev.v F (.ref a)), none, none, none, none] := EnvOk.set (i := 4) (e := Ev.v F (.ref a)) (g.st iH rF) rfl
  refine seq_for (for_in ?_)
  refine (pdj_zip (pp_names (pd_var (i := 0) rfl) h) (pd_var (i := 1) rfl) rfl rfl) _ H1 _ rF.1 g1 fun J H2 r2 w2 => ?_
  have el : ((((P.pts.map (·.1)).map D.str).zip (wi.map dO)).map fun p => D.tup [p.1, p.2]) = (P.pts.zip wi).map fun q => D.tup [.str q.1.1, dO q.2] := by
    rw [List.map_map, List.zip_map, List.map_map]
    rfl
  rw [el] at w2
  have ha2 : H2 a = some (.lst (cont P.n fun _ => 0)) := r2.2 _ _ ha nA
  refine L2.for_it w2 (fun i σ' H' => F.R H H' ∧ Pr H2 H' ∧ EnvOk H' σ' [some (Ev.pl F c P), some (Ev.d F (.tup (wi.map dO))), some (Ev.d F (.tup (st.map .bl))), some (Ev.d F (dLd ld)), some (Ev.v F (.ref a)), none, none, none, none] ∧
      H' a = some (.lst (cont P.n fun k => (((P.pts.zip wi).take i).map (addOf P st ld k)).sum)))
    ⟨Fm.trans rF r2, Pr.refl _, g1.st rF.1 r2, ha2⟩ (fun i σ' H' _ z => z.2.1) (fun i x σ' H' H3 hlt ⟨rr, pp, gg, hc⟩ y => ?_) fun σ' H' ⟨rr, pp, gg, hc⟩ => ?_
  · obtain ⟨sm, d0, hd0, rx⟩ := y
    rw [List.length_map] at hlt
    rw [List.getElem?_map, List.getElem?_eq_getElem hlt] at hd0
    obtain rfl := Option.some.inj hd0
    have tk : (P.pts.zip wi).take (i + 1) = (P.pts.zip wi).take i ++ [(P.pts.zip wi)[i]] := by rw [List.take_succ, List.getElem?_eq_getElem hlt]; rfl
    have hmem : (P.pts.zip wi)[i] ∈ P.pts.zip wi := List.getElem_mem hlt
    generalize (P.pts.zip wi)[i] = q at rx tk hmem
    have r3 := Fm.ofSame rr.1 sm
    have rr3 := Fm.trans rr r3
    have pp3 := Pr.trans pp (Same.pr sm)
    have hc3 := sm _ _ hc
    have gg3 := gg.st rr.1 r3
    obtain ⟨b, ys, e1, hb, qs⟩ := rx
    obtain ⟨y1, y2, e3, q1, q2⟩ := Reps.two qs
    subst e3
    refine ⟨b, _, e1, .inl (.inl hb), rfl, y1, _, rfl, y2, _, rfl, rfl, ?_⟩
    have g5 : EnvOk H3 ((σ'.set 5 (some y1)).set 6 (some y2)) [some (Ev.pl F c P), some (Ev.d F (.tup (wi.map dO))), some (Ev.d F (.tup (st.map .bl))), some (Ev.d F (dLd ld)), some (Ev.v F (.ref a)), some (Ev.d F (.str q.1.1)), some (Ev.d F (dO q.2)), none, none] := EnvOk.set (i := 6) (e := Ev.d F (dO q.2)) (EnvOk.set (i := 5) (e := Ev.d F (.str q.1.1)) gg3 q1) q2
    generalize (σ'.set 5 (some y1)).set 6 (some y2) = σ5 at g5 ⊢
    have hlt2 : ∀ b, q.2 = some b → b < P.n := fun b hb => by
      obtain ⟨m, hm⟩ := List.mem_iff_getElem?.mp hmem
      have := (List.getElem?_zip_eq_some.mp hm).2
      rw [hb] at this
      exact h3.lt m b this
    refine (pdt_val (pd_cl (pd_cons (pd_var (i := 0) rfl) (pd_cons (pd_var (i := 2) rfl) (pd_cons (pd_var (i := 6) rfl) pd_nil))) (.mk _ P st q.2 h h2 hlt2))) σ5 H3 _ rr3.1 g5 fun H4 r4 => ?_
    have rr4 := Fm.trans rr3 r4
    have pp4 := Pr.trans pp3 (Fm.toPr rr3.1 r4)
    have hc4 := r4.2 _ _ hc3 nA
    have g54 := g5.st rr3.1 r4
    cases hpw : pow P st q.2 with
    | false =>
      rw [if_neg Bool.false_ne_true]
      refine ⟨rr4, pp4, g54.cv ⟨fun _ h => h, fun _ h => h, fun _ h => h, fun _ h => h, fun _ h => h, trivial⟩, ?_⟩
      rw [hc4]
      congr 2
      refine cont_congr fun k _ => ?_
      rw [tk, List.map_append, List.sum_append]
      show _ = _ + (addOf P st ld k q + 0)
      unfold addOf
      rw [hpw]
      rfl
    | true =>
      rw [if_pos rfl]
      cases hq2 : q.2 with
      | none =>
        rw [hq2] at hpw
        cases hpw
      | some o =>
      have ho := hlt2 o hq2
      rw [hq2] at g54
      refine for_in ?_
      refine (pdj_tup (pd_cl (pd_cons (pd_var (i := 0) rfl) (pd_cons (pd_var (i := 6) (e := Ev.d F (.int (o : Nat))) rfl) pd_nil)) (.mk _ P o h ho)) rfl) σ5 H4 _ rr4.1 g54 fun J2 H5 r5 w5 => ?_
      have hc5 := r5.2 _ _ hc4 nA
      have nd := line_nodup h o
      refine L2.for_it w5 (fun j σ' H' => F.R H H' ∧ Pr H2 H' ∧ Pr H5 H' ∧ EnvOk H' σ' [some (Ev.pl F c P), some (Ev.d F (.tup (wi.map dO))), some (Ev.d F (.tup (st.map .bl))), some (Ev.d F (dLd ld)), some (Ev.v F (.ref a)), some (Ev.d F (.str q.1.1)), none, none, none] ∧
          H' a = some (.lst (cont P.n fun k => (((P.pts.zip wi).take i).map (addOf P st ld k)).sum + if k ∈ (line P o).take j then ldGet ld q.1.1 else 0)))
        ⟨Fm.trans rr4 r5, Pr.trans pp4 (Fm.toPr rr4.1 r5), Pr.refl _, (g54.st rr4.1 r5).cv ⟨fun _ h => h, fun _ h => h, fun _ h => h, fun _ h => h, fun _ h => h, fun _ h => h, trivial⟩, ?_⟩ (fun j σ' H' _ z => z.2.2.1) (fun j x σ6 H6 H7 hlt2 ⟨rr6, pp6, pq6, g6, hc6⟩ y => ?_) fun σ6 H6 ⟨rr6, pp6, pq6, g6, hc6⟩ => ?_
      · rw [hc5]
        simp
      · obtain ⟨sm2, d1, hd1, rx1⟩ := y
        rw [List.length_map] at hlt2
        rw [List.getElem?_map, List.getElem?_eq_getElem hlt2] at hd1
        obtain rfl := Option.some.inj hd1
        have tk2 : (line P o).take (j + 1) = (line P o).take j ++ [(line P o)[j]] := by rw [List.take_succ, List.getElem?_eq_getElem hlt2]; rfl
        have hm1 : (line P o)[j] ∈ line P o := List.getElem_mem hlt2
        have hnt : (line P o)[j] ∉ (line P o).take j := fun hin => by
          obtain ⟨m, hm, hm2⟩ := List.mem_take_iff_getElem.mp hin
          exact (List.pairwise_iff_getElem.mp nd) m j (by omega) hlt2 (by omega) hm2
        generalize (line P o)[j] = m at tk2 hm1 hnt rx1
        have hmn : m < P.n := by have := line_lt h hm1; omega
        have r7 := Fm.ofSame rr6.1 sm2
        have rr7 := Fm.trans rr6 r7
        have g7 := EnvOk.set (i := 7) (e := Ev.d F (.int (m : Nat))) (g6.st rr6.1 r7) rx1
        have hc7 := sm2 _ _ hc6
        refine name_in (augS_in ?_)
        refine (pd_var (i := 4) (e := Ev.v F (.ref a)) rfl) _ H7 _ rr7.1 g7 fun v8 H8 r8 q8 => ?_
        have e8 : v8 = .ref a := q8
        subst e8
        refine (pd_var (i := 7) (e := Ev.d F (.int (m : Nat))) rfl) _ H8 _ r8.1 (g7.st rr7.1 r8) fun v9 H9 r9 q9 => ?_
        have e9 : v9 = .int (m : Nat) := q9
        subst e9
        have r79 := Fm.trans r8 r9
        have hc9 := r79.2 _ _ hc7 nA
        refine ⟨a, _, m, _, rfl, rfl, hc9, cont_get hmn, ?_⟩
        refine (pd_ldget (pd_var (i := 3) rfl) (pd_var (i := 5) rfl) pd_int) _ H9 _ r9.1 (g7.st rr7.1 r79) fun v10 H10 r10 q10 => ?_
        have e10 : v10 = .int (ldGet ld q.1.1 : Nat) := q10
        subst e10
        have r710 := Fm.trans r79 r10
        have hc10 := r10.2 _ _ hc9 nA
        have rr10 := Fm.trans rr7 r710
        refine ⟨_, _, rfl, rfl, a, _, (m : Int), m, rfl, rfl, hc10, ?_, ?_⟩
        · unfold ixN
          have l1 : (cont P.n fun k => (((P.pts.zip wi).take i).map (addOf P st ld k)).sum + if k ∈ (line P o).take j then ldGet ld q.1.1 else 0).length = P.n := by simp [cont]
          rw [l1, if_pos (by omega), if_pos (by omega)]
          simp
        · have e11 : ((((((P.pts.zip wi).take i).map (addOf P st ld m)).sum + if m ∈ (line P o).take j then ldGet ld q.1.1 else 0 : Nat) : Int) + (ldGet ld q.1.1 : Nat)) = (((((P.pts.zip wi).take i).map (addOf P st ld m)).sum + ldGet ld q.1.1 : Nat) : Int) := by
            rw [if_neg hnt]
            omega
          dsimp only
          rw [e11, cont_set]
          have prm := Pr.mutL (o := .lst (cont P.n fun k => if k = m then (((P.pts.zip wi).take i).map (addOf P st ld m)).sum + ldGet ld q.1.1 else (((P.pts.zip wi).take i).map (addOf P st ld k)).sum + if k ∈ (line P o).take j then ldGet ld q.1.1 else 0)) hc10
          refine ⟨Fm.mutR rr10 n0 nA hc10, Pr.trans (Pr.trans (Pr.trans pp6 (Same.pr sm2)) (Fm.toPr rr7.1 r710)) prm, Pr.trans (Pr.trans (Pr.trans pq6 (Same.pr sm2)) (Fm.toPr rr7.1 r710)) prm, (g7.st rr7.1 r710).cv ⟨cm_pl hc10, cm_d hc10, cm_d hc10, cm_d hc10, fun _ h => h, cm_d hc10, trivial⟩, ?_⟩
          rw [upd_same]
          congr 2
          refine cont_congr fun k _ => ?_
          rw [tk2]
          by_cases hk : k = m
          · subst hk
            rw [if_pos rfl, if_pos (by simp)]
          · rw [if_neg hk]
            congr 1
            by_cases hin : k ∈ (line P o).take j
            · rw [if_pos hin, if_pos (by simp [hin])]
            · rw [if_neg hin, if_neg (by simp [hin, hk])]
      · refine ⟨rr6, pp6, g6.cv ⟨fun _ h => h, fun _ h => h, fun _ h => h, fun _ h => h, fun _ h => h, trivial⟩, ?_⟩
        rw [hc6]
        congr 2
        refine cont_congr fun k _ => ?_
        rw [List.length_map, List.take_of_length_le (Nat.le_refl _), tk, List.map_append, List.sum_append]
        congr 1
        show _ = addOf P st ld k q + 0
        unfold addOf
        rw [hq2]
        rw [hq2] at hpw
        rw [hpw, Bool.true_and]
        show _ = (if decide (k ∈ line P o) = true then _ else _) + 0
        by_cases hin : k ∈ line P o
        · rw [if_pos hin, if_pos (decide_eq_true hin)]
          rfl
        · rw [if_neg hin, if_neg (by rw [decide_eq_false hin]; exact Bool.false_ne_true)]
  · rw [List.length_map, List.take_of_length_le (Nat.le_refl _)] at hc
    have eq : (currs P wi st ld).map dN = (currs P wi st ld).map fun k => D.int (k : Nat) := rfl
    have q : (Ev.l F ((currs P wi st ld).map dN)).ok H' (.ref a) := ⟨a, _, rfl, nA, hc, by
      have e1 : (currs P wi st ld).map dN = ((currs P wi st ld).map fun k : Nat => (k : Int)).map D.int := by rw [List.map_map]; rfl
      have e2 : (cont P.n fun k => ((P.pts.zip wi).map (addOf P st ld k)).sum) = ((currs P wi st ld).map fun k : Nat => (k : Int)).map V.int := by
        unfold cont currs curr
        rw [List.map_map, List.map_map]
        rfl
      rw [e1, e2]
      exact Reps.of_ints⟩
    have g9 : EnvOk H' σ' [some (Ev.pl F c P), some (Ev.d F (.tup (wi.map dO))), some (Ev.d F (.tup (st.map .bl))), some (Ev.d F (dLd ld)), some (Ev.l F ((currs P wi st ld).map dN)), none, none, none, none] := gg.cv ⟨fun _ h => h, fun _ h => h, fun _ h => h, fun _ h => h, fun v hv => by
      have e : v = .ref a := hv
      rw [e]
      exact q, trivial⟩
    exact (pds_ret (pd_call' (pd_cons (pd_var (i := 4) rfl) pd_nil) pc_tupL)) σ' H' DE rr.1 g9 (ff.r rr)
end
end Bf
namespace Bf
open PySem PySem.Spec PyProof.Rows L2
inductive R_trips_in (c : Ca) : (F : Fm) → List (Ev F) → Ev F → Prop
  | mk (F : Fm) (P : Pl) (wi : List (Option Nat)) (st : List Bool) (ld : Ld) (h : P.Ok) (h2 : st.length = P.n) (h3 : Wok P wi) : R_trips_in c F [Ev.pl F c P, Ev.d F (.tup (wi.map dO)), Ev.d F (.tup (st.map .bl)), Ev.d F (dLd ld)]
      (Ev.d F (.tup [.tup ((trips P wi st ld).1.map .bl), .tup ((trips P wi st ld).2.map dN)]))
/-- a pair as min sees it -/
def dPair (p : Int × Int) : D := .tup [.int p.1, .int p.2]
theorem reps_pairs {K : PySem.W.Frag} {H : Hp} : ∀ {ps : List (Int × Int)} {xs : List V}, Reps H (ps.map dPair) xs → DpAll K H xs (ps.map pairD)
  | [], xs, h => by
    have e : xs = [] := h
    rw [e]
    exact .nil
  | p :: ps, xs, h => by
    obtain ⟨x, ys, e, ⟨a, zs, e2, h1, h2⟩, q2⟩ := h
    obtain ⟨y1, y2, e3, q3, q4⟩ := Reps.two h2
    have e4 : y1 = .int p.1 := q3
    have e5 : y2 = .int p.2 := q4
    subst e4 e5 e3 e2 e
    exact .cons (.tup (.inl (.inl h1)) (.cons (.int _) (.cons (.int _) .nil))) (reps_pairs q2)
theorem pc_minP {F : Fm} {K : PySem.W.Frag} {p : Int × Int} {ps : List (Int × Int)} : PdC F (rMinP K) [Ev.l F ((p :: ps).map dPair)] (Ev.d F (dPair (pmin p ps))) := fun vs H Q i g k => by
  obtain ⟨v, ws, e, ⟨a, xs, e3, n, ha, q⟩, h2⟩ := g
  have e2 : ws = [] := h2
  subst e2 e3
  refine ⟨a, xs, p, ps, e, SqL.of ha, reps_pairs q, fun j x hx hp => k x H (F.refl i) ?_⟩
  obtain ⟨d, hd, hr⟩ := q.get' hx
  rw [List.getElem?_map, hp] at hd
  cases hd
  exact hr
theorem drop_in {te : TE} {D : Ends} {σ : L2.St} {H : Hp} (h : te σ H fun _ H1 => D.nx σ H1) : tDrop te D σ H := h
theorem seq_drop {te : TE} {u : TS} {D : Ends} {σ : L2.St} {H : Hp} (h : te σ H fun _ H1 => u D σ H1) : tSeq (tDrop te) u D σ H := h
theorem asg_in {te : TE} {i : Nat} {D : Ends} {σ : L2.St} {H : Hp} (h : te σ H fun v H1 => D.nx (σ.set i (some v)) H1) : tAsg te (gName i) D σ H := h
theorem seq_if {c : TT} {t u w : TS} {D : Ends} {σ : L2.St} {H : Hp} (h : c σ H fun b H1 => if b = true then tSeq t w D σ H1 else tSeq u w D σ H1) : tSeq (tIfS c t u) w D σ H := h
theorem if_in {c : TT} {t u : TS} {D : Ends} {σ : L2.St} {H : Hp} (h : c σ H fun b H1 => if b = true then t D σ H1 else u D σ H1) : tIfS c t u D σ H := h
theorem seq_next {w : TS} {D : Ends} {σ : L2.St} {H : Hp} (h : w D σ H) : tSeq tNext w D σ H := h
theorem next_in {D : Ends} {σ : L2.St} {H : Hp} (h : D.nx σ H) : tNext D σ H := h
/-- xs.append(e) of a list of one's own -/
theorem append_in {K : PySem.W.Frag} {to te : TE} {σ : L2.St} {H : Hp} {Q : VK} (h : to σ H fun x H1 => ∃ a xs, x = .ref a ∧ H1 a = some (.lst xs) ∧ te σ H1 fun y H2 => ∃ zs, H2 a = some (.lst zs) ∧ zs.length < sizeLine ∧ Q .non (upd H2 a (.lst (zs ++ [y]))))
    (mo : ∀ (k k' : V → Hp → Prop), (∀ v H, k v H → k' v H) → to σ H k → to σ H k') (mt : ∀ H (k k' : V → Hp → Prop), (∀ v H, k v H → k' v H) → te σ H k → te σ H k') : tBM K "list" rAppend to (tCons te tNil) σ H Q := by
  refine mo _ _ (fun x H1 ⟨a, xs, e, h1, h2⟩ => ?_) h
  subst e
  refine ⟨.inl ⟨rfl, xs, SqL.of h1⟩, ?_⟩
  refine mt _ _ _ (fun y H2 ⟨zs, h3, h4, h5⟩ => ?_) h2
  exact ⟨a, zs, y, rfl, rfl, h3, h4, h5⟩
section
variable {P : Program} {w : World} {K : PySem.W.Frag} {mg : Str → Option Value} {base : Heap} {c : Ca}
theorem ok_trips_in (T : Tx w K mg c) : Cl P w K mg base 6 "trips_in" (SpG (R_trips_in c)) := by
  obtain ⟨f, hm, FF⟩ := T.f_trips_in
  refine cl_of (fn_pure FF sctrips_in (fun F es e h => by cases h; rfl) (fun cdv A outer s H E hr => ⟨_, (pss_cons (ps_set (i := 4) sctrips_in.nd rfl (Or.inl rfl) (pe_lst pa_nil)) (pss_cons (ps_set (i := 5) sctrips_in.nd rfl (Or.inl rfl) (pe_lst (pa_cons pe_int pa_nil))) (pss_cons (ps_while PassesOwn.never (pt_cmpR (op_neNilL hr.units0) (pv 5) (pe_lst pa_nil) (nomark _)) (pss_cons (ps_set (i := 6) sctrips_in.nd rfl (Or.inr rfl) (pe_cl (ok_currents_in T) hr (by decide) (by rfl) (pa_cons (pv 0) (pa_cons (pv 1) (pa_cons (pv 2) (pa_cons (pv 3) pa_nil)))))) (pss_cons (ps_setLcD (i := 5) (own := [("one", 8)]) (by rfl) sctrips_in.nd rfl rfl (sw_true rfl rfl rfl (by decide +kernel)) (pi_range1 (by rfl) T.n_range (pa_cons (pe_callB (call_lenO (ok_p_len T) hr (by decide)) (by rfl) T.n_len (by decide +kernel) (pa_cons (pv 0) pa_nil)) pa_nil)) (blkOk_by (own := [("one", 8)]) (N := Ntrips_in) (sc := defScope strips_in) (by decide +kernel)) (fun _ _ _ _ _ => (pg_name (i := 8) sctrips_in.nd rfl (Or.inl rfl))) (fun _ _ _ _ _ => (pts_one (pt_cmpR op_gt (pe_ix ix_tup (pv 6) (pv 8) (fun _ _ => rfl)) (pe_ix ix_tup (pe_pp T.c_Plan (ok_p_rates T) hr (by decide) (pv 0)) (pv 8) (fun _ _ => rfl)) (nomark _)))) (fun _ _ _ _ _ => (pe_tup (pa_cons (pe_ix ix_tup (pe_pp T.c_Plan (ok_p_rates T) hr (by decide) (pv 0)) (pv 8) (fun _ _ => rfl)) (pa_cons (pe_op op_sub pe_int (pv 8)) pa_nil))))) (pss_one (ps_if (pt_cmpR (op_neNilL hr.units0) (pv 5) (pe_lst pa_nil) (nomark _)) (pss_cons (ps_set (i := 7) sctrips_in.nd rfl (Or.inl rfl) (pe_op op_sub pe_int (pe_ix ix_tup (pe_callB (cr_minP rfl hr.units) (by rfl) T.n_min (by decide +kernel) (pa_cons (pv 5) pa_nil)) pe_int (fun _ _ => rfl)))) (pss_cons (ps_expr (pe_bm PySem.F.plainAttrs_list PySem.F.slot_list_append PySem.F.type_list_append mt_append (pv 4) (pa_cons (pv 7) pa_nil))) (pss_one (ps_set (i := 2) sctrips_in.nd rfl (Or.inl rfl) (pe_op op_catA (pe_op op_catA (pe_slice sl_tupA (pv 2) po_none (po_some (pv 7))) (pe_tup (pa_cons pe_bl pa_nil))) (pe_slice sl_tupA (pv 2) (po_some (pe_op op_add (pv 7) pe_int)) po_none)))))) pss_nil))))) (pss_one (ps_ret (pe_tup (pa_cons (pv 2) (pa_cons (pe_callTy call_tuple_of (by rfl) T.n_tuple (by decide +kernel) (pa_cons (pv 4) pa_nil)) pa_nil)))))))), fun F es e h => ?_⟩) (fun _ _ _ _ _ _ us hu => by obtain ⟨a, b, c, d, rfl⟩ := len4 hu; rfl)) hm FF
  cases h with
  | mk P wi st ld h h2 h3 =>
  have hs := sizeLine_eq
  have hn5 := h.n5
  have hnn : P.n = P.rates.length := rfl
  intro σ H DE iH g ff
  -- numbers = []
  have gz : EnvOk H σ (startG Ntrips_in.length [Ev.pl (FZ F H) c P, Ev.d (FZ F H) (.tup (wi.map dO)), Ev.d (FZ F H) (.tup (st.map .bl)), Ev.d (FZ F H) (dLd ld)]) := g.cv ⟨cz_pl, cz_d, cz_d, cz_d, trivial⟩
  refine seq_asg ?_
  refine (pd_lst' (F := FZ F H) (ds := []) pd_nil rfl (by decide)) σ H _ (FZ.i iH) gz fun v H1 r1 q1 => ?_
  obtain ⟨a, xs, rfl, n0, nA, ha, qx⟩ := FZ.fresh iH r1 q1
  have e0 : xs = [] := qx
  subst e0
  have rF1 := FZ.r (FZ.i iH) r1
  have g1 : EnvOk H1 (σ.set 4 (some (.ref a))) [some (Ev.pl F c P), some (Ev.d F (.tup (wi.map dO))), some (Ev.d F (.tup (st.map .bl))), some (Ev.d F (dLd ld)), some (Ev.v F (.ref a)), none, none, none, none] := EnvOk.set (i := 4) (e := Ev.v F (.ref a)) (g.st iH rF1) rfl
  -- over = [0]
  have gz1 : EnvOk H1 (σ.set 4 (some (.ref a))) [some (Ev.pl (FZ F H1) c P), none, none, none, none, none, none, none, none] := g1.cv ⟨cz_pl, trivial⟩
  refine seq_asg ?_
  refine (pd_lst' (F := FZ F H1) (ds := [.int 0]) (pd_cons pd_int pd_nil) rfl (by decide)) _ H1 _ (FZ.i rF1.1) gz1 fun v H2 r2 q2 => ?_
  obtain ⟨b, xs, rfl, nb, nB, hb, qb⟩ := FZ.fresh rF1.1 r2 q2
  have rF2 := FZ.r (FZ.i rF1.1) r2
  have hba : b ≠ a := fun z => by
    rw [z, ha] at nb
    cases nb
  have ha2 := rF2.2 _ _ ha nA
  have g2 : EnvOk H2 ((σ.set 4 (some (.ref a))).set 5 (some (.ref b))) [some (Ev.pl F c P), some (Ev.d F (.tup (wi.map dO))), some (Ev.d F (.tup (st.map .bl))), some (Ev.d F (dLd ld)), some (Ev.v F (.ref a)), some (Ev.v F (.ref b)), none, none, none] := EnvOk.set (i := 5) (e := Ev.v F (.ref b)) (g1.st rF1.1 rF2) rfl
  -- the loop
  refine ⟨fun m σ' H' => ∃ (st' : List Bool) (ns : List Nat) (f : Nat) (ov : List D) (b : Addr) (ys : List V), m = (if ov = [] then 0 else ons st' + 1) ∧ F.R H H' ∧ trF P wi ld f st' ns = trips P wi st ld ∧ ons st' < f ∧ st'.length = P.n ∧ ns.length + ons st' ≤ 5 ∧ (ov = [] → firstOf P (overs P wi st' ld) = none) ∧
      H' a = some (.lst (ns.map fun k => V.int (k : Nat))) ∧ b ≠ a ∧ ¬ F.A b ∧ H b = none ∧ H' b = some (.lst ys) ∧ Reps H' ov ys ∧
      EnvOk H' σ' [some (Ev.pl F c P), some (Ev.d F (.tup (wi.map dO))), some (Ev.d F (.tup (st'.map .bl))), some (Ev.d F (dLd ld)), some (Ev.v F (.ref a)), some (Ev.v F (.ref b)), none, none, none],
    ⟨_, st, [], 9, [.int 0], b, xs, rfl, Fm.trans rF1 rF2, rfl, by have := ons_le (st := st); omega, h2, by have := ons_le (st := st); simp; omega, fun z => (nomatch z), ha2, hba, nB, ?_, hb, qb, g2⟩, ?_⟩
  · cases e : H b with
    | none => rfl
    | some o =>
      by_cases hA : F.A b
      · exact (nB hA).elim
      · rw [rF1.2 _ _ e hA] at nb
        cases nb
  rintro m σ' H' ⟨st', ns, f, ov, b, ys, rfl, rr, etr, hf, hl, hns, hov, haa, hba, nB, nbH, hbb, qb, gg⟩
  -- over != []
  have gl : EnvOk H' σ' [some (Ev.pl F c P), some (Ev.d F (.tup (wi.map dO))), some (Ev.d F (.tup (st'.map .bl))), some (Ev.d F (dLd ld)), some (Ev.v F (.ref a)), some (Ev.l F ov), none, none, none] := gg.cv ⟨fun _ h => h, fun _ h => h, fun _ h => h, fun _ h => h, fun _ h => h, fun v hv => by
    have e : v = .ref b := hv
    rw [e]
    exact ⟨b, ys, rfl, nB, hbb, qb⟩, trivial⟩
  refine (pdt_test (pd_op' (pd_var (i := 5) rfl) (pd_lst' (ds := []) pd_nil rfl (by decide)) p2_neNil)) σ' H' _ rr.1 gl fun H3 r3 => ?_
  have rr3 := Fm.trans rr r3
  have ha3 := r3.2 _ _ haa nA
  have gg3 := gg.st rr.1 r3
  by_cases hov0 : ov = []
  · rw [decide_eq_true hov0, if_neg (by decide)]
    have fn := hov hov0
    have et : trips P wi st ld = (st', ns) := by
      rw [← etr]
      cases f with
      | zero => rfl
      | succ f =>
        unfold trF
        rw [fn]
    have gl3 : EnvOk H3 σ' [none, none, some (Ev.d F (.tup (st'.map .bl))), none, some (Ev.l F (ns.map dN)), none, none, none, none] := gg3.cv ⟨fun _ h => h, fun v hv => by
      have e : v = .ref a := hv
      rw [e]
      refine ⟨a, _, rfl, nA, ha3, ?_⟩
      have e1 : ns.map dN = (ns.map fun k : Nat => (k : Int)).map D.int := by rw [List.map_map]; rfl
      have e2 : (ns.map fun k : Nat => V.int (k : Nat)) = (ns.map fun k : Nat => (k : Int)).map V.int := by rw [List.map_map]; rfl
      rw [e1, e2]
      exact Reps.of_ints, trivial⟩
    rw [et] at ff
    exact (pds_ret (pd_tup' (ds := [.tup (st'.map .bl), .tup (ns.map dN)]) (pd_cons (pd_var (i := 2) rfl) (pd_cons (pd_call' (pd_cons (pd_var (i := 4) rfl) pd_nil) pc_tupL) pd_nil)) rfl (by show 2 ≤ sizeLine; decide))) σ' H3 DE rr3.1 gl3 (ff.r rr3)
  · rw [decide_eq_false hov0, if_pos (by decide)]
    refine ⟨fun σ' H' => ∃ (st2 : List Bool) (ns : List Nat) (f : Nat) (ov : List D) (b : Addr) (ys : List V), (if ov = [] then 0 else ons st2 + 1) < ons st' + 1 ∧ F.R H H' ∧ trF P wi ld f st2 ns = trips P wi st ld ∧ ons st2 < f ∧ st2.length = P.n ∧ ns.length + ons st2 ≤ 5 ∧ (ov = [] → firstOf P (overs P wi st2 ld) = none) ∧
      H' a = some (.lst (ns.map fun k => V.int (k : Nat))) ∧ b ≠ a ∧ ¬ F.A b ∧ H b = none ∧ H' b = some (.lst ys) ∧ Reps H' ov ys ∧
      EnvOk H' σ' [some (Ev.pl F c P), some (Ev.d F (.tup (wi.map dO))), some (Ev.d F (.tup (st2.map .bl))), some (Ev.d F (dLd ld)), some (Ev.v F (.ref a)), some (Ev.v F (.ref b)), none, none, none], ?_, ?_⟩
    · rintro σ2 H2 ⟨st2, ns2, f2, ov2, b2, ys2, lt, rest⟩
      exact ⟨_, by rw [if_neg hov0]; exact lt, st2, ns2, f2, ov2, b2, ys2, rfl, rest⟩
    -- row = ..
    refine seq_asg ?_
    refine (pd_cl (pd_cons (pd_var (i := 0) rfl) (pd_cons (pd_var (i := 1) rfl) (pd_cons (pd_var (i := 2) rfl) (pd_cons (pd_var (i := 3) rfl) pd_nil)))) (.mk _ P wi st' ld h hl h3)) σ' H3 _ rr3.1 gg3 fun v4 H4 r4 q4 => ?_
    have rr4 := Fm.trans rr3 r4
    have ha4 := r4.2 _ _ ha3 nA
    have g4 : EnvOk H4 (σ'.set 6 (some v4)) [some (Ev.pl F c P), some (Ev.d F (.tup (wi.map dO))), some (Ev.d F (.tup (st'.map .bl))), some (Ev.d F (dLd ld)), some (Ev.v F (.ref a)), some (Ev.v F (.ref b)), some (Ev.d F (.tup ((currs P wi st' ld).map dN))), none, none] := EnvOk.set (i := 6) (e := Ev.d F (.tup ((currs P wi st' ld).map dN))) (gg3.st rr3.1 r4) q4
    -- over = [..]
    have gz4 : EnvOk H4 (σ'.set 6 (some v4)) [some (Ev.pl (FZ F H4) c P), none, none, none, none, none, some (Ev.d (FZ F H4) (.tup ((currs P wi st' ld).map dN))), none, none] := g4.cv ⟨cz_pl, cz_d, trivial⟩
    refine seq_asg ?_
    have hr : ∀ k, k < P.n → P.rates[k]? = some (rate P k) := fun k hk => by
      unfold rate
      rw [List.getElem?_eq_getElem hk]
      rfl
    refine (pd_lc (F := FZ F H4) (is := List.range P.n) (f := fun i => .int (i : Nat)) (p := fun k => decide (rate P k < curr P wi st' ld k)) (d := fun k => dPair (pairOf P k)) (pdj_rng1 (n := P.n) (pp_len (P := P) (c := c) (pd_var (i := 0) rfl) h) (by omega)).i
      (fun k hk => lcb1 (j := 8) (vs := [8]) (List.mem_cons_self) (pdt_eq (pdt_test (pd_op' (pd_op' (pd_var (i := 6) rfl) (pd_var (i := 8) rfl) (p2_ixN (i := k) (d := dN (curr P wi st' ld k)) rfl ?_)) (pd_op' (pp_rates (P := P) (pd_var (i := 0) rfl)) (pd_var (i := 8) rfl) (p2_ixN (i := k) (d := dN (rate P k)) rfl ?_)) p2_I0b)) ?_)
        fun _ => pd_tup' (ds := [.int (rate P k : Nat), .int (0 - (k : Int))]) (pd_cons (pd_op' (pp_rates (P := P) (pd_var (i := 0) rfl)) (pd_var (i := 8) rfl) (p2_ixN (i := k) (d := dN (rate P k)) rfl ?_)) (pd_cons (pd_op' pd_int (pd_var (i := 8) rfl) p2_I0i) pd_nil)) rfl (by show 2 ≤ sizeLine; omega)) (by simp; omega)) _ H4 _ (FZ.i rr4.1) gz4 fun v5 H5 r5 q5 => ?_
    · rw [List.getElem?_map]
      unfold currs
      rw [List.getElem?_map, List.getElem?_range (List.mem_range.mp hk)]
      rfl
    · rw [List.getElem?_map, hr k (List.mem_range.mp hk)]
      rfl
    · exact decide_eq_decide.mpr ⟨fun z => by omega, fun z => by omega⟩
    · rw [List.getElem?_map, hr k (List.mem_range.mp hk)]
      rfl
    obtain ⟨b5, y5, rfl, n5, nB5, hb5, qb5⟩ := FZ.fresh rr4.1 r5 q5
    have rF5 := FZ.r (FZ.i rr4.1) r5
    have rr5 := Fm.trans rr4 rF5
    have hb5a : b5 ≠ a := fun z => by
      rw [z, ha4] at n5
      cases n5
    have ha5 := rF5.2 _ _ ha4 nA
    have nb5H : H b5 = none := by
      cases e : H b5 with
      | none => rfl
      | some o =>
        rw [rr4.2 _ _ e nB5] at n5
        cases n5
    have eov : ((List.range P.n).filter fun k => decide (rate P k < curr P wi st' ld k)).map (fun k => dPair (pairOf P k)) = ((overs P wi st' ld).map (pairOf P)).map dPair := by
      rw [List.map_map]
      rfl
    rw [eov] at qb5
    have g5 : EnvOk H5 ((σ'.set 6 (some v4)).set 5 (some (.ref b5))) [some (Ev.pl F c P), some (Ev.d F (.tup (wi.map dO))), some (Ev.d F (.tup (st'.map .bl))), some (Ev.d F (dLd ld)), some (Ev.v F (.ref a)), some (Ev.v F (.ref b5)), none, none, none] := (EnvOk.set (i := 5) (e := Ev.v F (.ref b5)) (g4.st rr4.1 rF5) rfl).cv ⟨fun _ h => h, fun _ h => h, fun _ h => h, fun _ h => h, fun _ h => h, fun _ h => h, trivial⟩
    generalize (σ'.set 6 (some v4)).set 5 (some (.ref b5)) = σ5 at g5 ⊢
    have gl5 : EnvOk H5 σ5 [some (Ev.pl F c P), some (Ev.d F (.tup (wi.map dO))), some (Ev.d F (.tup (st'.map .bl))), some (Ev.d F (dLd ld)), some (Ev.v F (.ref a)), some (Ev.l F (((overs P wi st' ld).map (pairOf P)).map dPair)), none, none, none] := g5.cv ⟨fun _ h => h, fun _ h => h, fun _ h => h, fun _ h => h, fun _ h => h, fun v hv => by
      have e : v = .ref b5 := hv
      rw [e]
      exact ⟨b5, y5, rfl, nB5, hb5, qb5⟩, trivial⟩
    refine if_in ?_
    refine (pdt_test (pd_op' (pd_var (i := 5) rfl) (pd_lst' (ds := []) pd_nil rfl (by decide)) p2_neNil)) σ5 H5 _ rr5.1 gl5 fun H6 r6 => ?_
    have rr6 := Fm.trans rr5 r6
    have ha6 := r6.2 _ _ ha5 nA
    have hb6 := r6.2 _ _ hb5 nB5
    have qb6 := Reps.pr (Fm.toPr rr5.1 r6) qb5
    have g6 := g5.st rr5.1 r6
    have gl6 := gl5.st rr5.1 r6
    cases hks : overs P wi st' ld with
    | nil =>
      rw [hks] at qb6
      rw [if_neg (by simp)]
      refine next_in ⟨st', ns, f, [], b5, y5, by simp, rr6, etr, hf, hl, hns, fun _ => by rw [hks]; rfl, ha6, hb5a, nB5, nb5H, hb6, qb6, g6⟩
    | cons k0 ks =>
      rw [hks] at qb6 gl6
      rw [if_pos (by simp)]
      have hfo : firstOf P (overs P wi st' ld) = some (0 - (pmin (pairOf P k0) (ks.map (pairOf P))).2).toNat := by rw [hks]; rfl
      generalize hk : (0 - (pmin (pairOf P k0) (ks.map (pairOf P))).2).toNat = k at hfo
      have hkm := over_on h (firstOf_mem hfo)
      have hkI : 0 - (pmin (pairOf P k0) (ks.map (pairOf P))).2 = (k : Int) := by
        have m := pmin_mem (ks.map (pairOf P)) (pairOf P k0)
        have m' : pmin (pairOf P k0) (ks.map (pairOf P)) ∈ (k0 :: ks).map (pairOf P) := m
        obtain ⟨i, _, hp⟩ := List.mem_map.mp m'
        rw [← hk, ← hp]
        show 0 - (0 - (i : Int)) = ((0 - (0 - (i : Int))).toNat : Int)
        omega
      have hcnt := ons_set hkm.2
      -- first = ..
      refine seq_asg ?_
      refine (pd_op' pd_int (pd_op' (pd_call' (pd_cons (pd_var (i := 5) rfl) pd_nil) (pc_minP (p := pairOf P k0) (ps := ks.map (pairOf P)))) pd_int (p2_ixT rfl rfl)) p2_I0i) σ5 H6 _ rr6.1 gl6 fun v7 H7 r7 q7 => ?_
      have e7 : v7 = .int (k : Int) := by
        have q7' : v7 = .int (0 - (pmin (pairOf P k0) (ks.map (pairOf P))).2) := q7
        rw [q7', hkI]
      subst e7
      have rr7 := Fm.trans rr6 r7
      have ha7 := r7.2 _ _ ha6 nA
      have hb7 := r7.2 _ _ hb6 nB5
      have qb7 := Reps.pr (Fm.toPr rr6.1 r7) qb6
      have g7 : EnvOk H7 (σ5.set 7 (some (.int (k : Int)))) [some (Ev.pl F c P), some (Ev.d F (.tup (wi.map dO))), some (Ev.d F (.tup (st'.map .bl))), some (Ev.d F (dLd ld)), some (Ev.v F (.ref a)), some (Ev.v F (.ref b5)), none, some (Ev.d F (.int (k : Nat))), none] := EnvOk.set (i := 7) (e := Ev.d F (.int (k : Nat))) (g6.st rr6.1 r7) rfl
      generalize σ5.set 7 (some (.int (k : Int))) = σ7 at g7 ⊢
      -- numbers.append(first)
      refine seq_drop ?_
      obtain ⟨_, s4, _⟩ := g7.2 4 (Ev.v F (.ref a)) rfl
      obtain ⟨u7, s7, z7⟩ := g7.2 7 (Ev.d F (.int (k : Nat))) rfl
      have ez7 : u7 = .int (k : Nat) := z7
      subst ez7
      rename_i va hva
      have eva : va = .ref a := hva
      subst eva
      refine ⟨.ref a, s4, .inl ⟨rfl, _, SqL.of ha7⟩, .int (k : Nat), s7, a, _, .int (k : Nat), rfl, rfl, ha7, by simp; omega, ?_⟩
      have ha8 : upd H7 a (.lst ((ns.map fun k => V.int (k : Nat)) ++ [V.int (k : Nat)])) a = some (.lst ((ns ++ [k]).map fun k => V.int (k : Nat))) := by rw [upd_same, List.map_append]; rfl
      have rr8 : F.R H (upd H7 a (.lst ((ns.map fun k => V.int (k : Nat)) ++ [V.int (k : Nat)]))) := Fm.mutR rr7 n0 nA ha7
      have hb8 : upd H7 a (.lst ((ns.map fun k => V.int (k : Nat)) ++ [V.int (k : Nat)])) b5 = some (.lst y5) := by rw [upd_ne hb5a]; exact hb7
      have qb8 := Reps.pr (Pr.mutL (o := .lst ((ns.map fun k => V.int (k : Nat)) ++ [V.int (k : Nat)])) ha7) qb7
      have g8 : EnvOk (upd H7 a (.lst ((ns.map fun k => V.int (k : Nat)) ++ [V.int (k : Nat)]))) σ7 [some (Ev.pl F c P), some (Ev.d F (.tup (wi.map dO))), some (Ev.d F (.tup (st'.map .bl))), some (Ev.d F (dLd ld)), some (Ev.v F (.ref a)), some (Ev.v F (.ref b5)), none, some (Ev.d F (.int (k : Nat))), none] := g7.cv ⟨cm_pl ha7, cm_d ha7, cm_d ha7, cm_d ha7, fun _ h => h, fun _ h => h, cm_d ha7, trivial⟩
      generalize upd H7 a (.lst ((ns.map fun k => V.int (k : Nat)) ++ [V.int (k : Nat)])) = H8 at ha8 rr8 hb8 qb8 g8 ⊢
      -- state = ..
      have kl : k < st'.length := by rw [hl]; exact hkm.1
      refine asg_in ?_
      refine (pd_eq (e' := Ev.d F (.tup ((st'.set k false).map .bl))) (pd_op' (pd_op' (pd_slT (ds := st'.map .bl) (pd_var (i := 2) rfl) pdo_none (pdo_some (pd_var (i := 7) rfl))) (pd_tup' (ds := [.bl false]) (pd_cons pd_bl pd_nil) rfl (by decide)) (p2_catT ?_)) (pd_slT (ds := st'.map .bl) (pd_var (i := 2) rfl) (pdo_some (pd_op' (pd_var (i := 7) rfl) pd_int p2_I0i)) pdo_none) (p2_catT ?_)) ?_) σ7 H8 _ rr8.1 g8 fun v9 H9 r9 q9 => ?_
      · have := cutD_to (k := k) (xs := st'.map D.bl)
        rw [this]
        simp
        omega
      · have e1 := cutD_to (k := k) (xs := st'.map D.bl)
        have e2 := cutD_from (k := k + 1) (xs := st'.map D.bl)
        have e3 : ((k : Int) + 1) = ((k + 1 : Nat) : Int) := by omega
        rw [e1, e3, e2]
        simp
        omega
      · have e1 := cutD_to (k := k) (xs := st'.map D.bl)
        have e2 := cutD_from (k := k + 1) (xs := st'.map D.bl)
        have e3 : ((k : Int) + 1) = ((k + 1 : Nat) : Int) := by omega
        rw [e1, e3, e2]
        congr 2
        rw [List.set_eq_take_append_cons_drop, if_pos kl]
        simp
      have rr9 := Fm.trans rr8 r9
      cases f with
      | zero => omega
      | succ f =>
      refine ⟨st'.set k false, ns ++ [k], f, (pairOf P k0 :: ks.map (pairOf P)).map dPair, b5, y5, ?_, rr9, ?_, by omega, by rw [List.length_set]; exact hl, by rw [List.length_append, List.length_singleton]; omega, fun z => (nomatch z), r9.2 _ _ ha8 nA, hb5a, nB5, nb5H, r9.2 _ _ hb8 nB5, Reps.pr (Fm.toPr rr8.1 r9) qb8, ?_⟩
      · show (if _ then _ else _) < _
        rw [if_neg (fun z => nomatch z)]
        omega
      · rw [← etr]
        conv => rhs; unfold trF
        rw [hfo]
      · exact (EnvOk.set (i := 2) (e := Ev.d F (.tup ((st'.set k false).map .bl))) (g8.st rr8.1 r9) q9).cv ⟨fun _ h => h, fun _ h => h, fun _ h => h, fun _ h => h, fun _ h => h, fun _ h => h, trivial⟩
end
end Bf
/-! ### states of a box -/
namespace Bf
open PySem PySem.Spec PyProof.Rows L2
def Ch (s : Addr) (H H' : Hp) : Prop := ∀ a o, H a = some o → a ≠ s → H' a = some o
theorem Ch.ofSame {s : Addr} {H H' : Hp} (k : Same H H') : Ch s H H' := fun a o e _ => k a o e
theorem Ch.trans {s : Addr} {H H1 H2 : Hp} (a : Ch s H H1) (b : Ch s H1 H2) : Ch s H H2 := fun x o e n => b x o (a x o e n) n
theorem Same.ch {s : Addr} {H H1 H2 : Hp} (a : Same H H1) (b : Ch s H1 H2) : Ch s H H2 := fun x o e n => b x o (a x o e) n
theorem Ch.same {s : Addr} {H H1 H2 : Hp} (a : Ch s H H1) (b : Same H1 H2) : Ch s H H2 := fun x o e n => b x o (a x o e n)
/-- a state: its four slots -/
def svE (c : Ca) (s : Addr) (ds : List D) : Ev FS := ⟨fun H v => v = .ref s ∧ ∃ dx vs, H s = some (SlX.SlO s c.state dx vs) ∧ H dx = some (.xd []) ∧ ∀ (i : Nat) d, ds[i]? = some d → ∃ v, vs[pm i]? = some (some v) ∧ Rep H d v,
  fun i r ⟨e, dx, vs, h1, h2, h3⟩ => ⟨e, dx, vs, r.2 _ _ h1 (fun z => z), r.2 _ _ h2 (fun z => z), fun j d hd => by
    obtain ⟨v, h4, h5⟩ := h3 j d hd
    exact ⟨v, h4, Rep.pr (Fm.toPr i r) h5⟩⟩⟩
theorem slO_imm {a C dx : Addr} {vs : List (Option V)} : ¬ Imm (SlX.SlO a C dx vs) := fun z => by unfold SlX.SlO at z; exact z
theorem slH_eq {H : Hp} {a C dx : Addr} {vs : List (Option V)} (h : H dx = some (.xd [])) : SlX.slH H a C dx vs = upd H a (SlX.SlO a C dx vs) := by
  funext b
  unfold SlX.slH
  by_cases h1 : b = a
  · rw [h1, upd_same, upd_same]
  · rw [upd_ne h1, upd_ne h1]
    by_cases h2 : b = dx
    · rw [h2, upd_same, h]
    · rw [upd_ne h2]
section
variable {K : PySem.W.Frag} {Γ : Env' FS} {te ta tv : TE} {c : Ca} {s : Addr} {ds : List D} {d : D} {f : Str} {i : Nat} {w : World} {mg : Str → Option Value}
theorem pd_slotE (T : Tx w K mg c) (hs : ∃ p, SlX.Slot1 K c.state f p (pm i)) (h : Pd Γ te (svE c s ds)) (hd : ds[i]? = some d) : Pd Γ (SlX.tSl K te f) (Ev.d FS d) := fun σ H Q i0 g k => h σ H _ i0 g fun v H1 r1 ⟨e, dx, vs, h1, h2, h3⟩ => by
  obtain ⟨p, hp⟩ := hs
  obtain ⟨v', h4, h5⟩ := h3 i d hd
  exact ⟨s, c.state, dx, p, vs, pm i, v', e, .inr ⟨h1, h2⟩, T.c_State, hp, h4, k v' H1 r1 h5⟩
theorem store_in (T : Tx w K mg c) (hs : ∃ p, SlX.Slot1 K c.state f p (pm i)) (hv : Pd Γ tv (Ev.d FS d)) (ha : Pd Γ ta (svE c s ds)) {σ : L2.St} {H : Hp} {DE : Ends} (g : EnvOk H σ Γ)
    (k : ∀ H', Ch s H H' → Pr H H' → (svE c s (ds.set i d)).ok H' (.ref s) → DE.nx σ H') : SlX.sSl K ta tv f DE σ H := by
  obtain ⟨p, hp⟩ := hs
  refine hv σ H _ trivial g fun y H1 r1 q1 => ha σ H1 _ trivial (g.st trivial r1) fun x H2 r2 ⟨e, dx, vs, h1, h2, h3⟩ => ?_
  refine ⟨s, c.state, dx, p, vs, pm i, e, .inr ⟨h1, h2⟩, T.c_State, hp, ?_⟩
  rw [slH_eq h2]
  have sm := Same.trans (FS_same r1) (FS_same r2)
  have pr2 : Pr H2 (upd H2 s (SlX.SlO s c.state dx (SlX.putS (pm i) y vs))) := fun a o e im => by
    have ne : a ≠ s := fun z => by
      rw [z, h1] at e
      cases e
      exact slO_imm im
    rw [upd_ne ne]
    exact e
  have ne : dx ≠ s := fun z => by
    rw [z, h1] at h2
    exact SlX.slO_not (Option.some.inj h2)
  refine k _ (fun a o e n => by rw [upd_ne n]; exact sm _ _ e) (Pr.trans (Same.pr sm) pr2) ⟨rfl, dx, _, upd_same, by rw [upd_ne ne]; exact h2, fun j d' hd => ?_⟩
  by_cases hj : j = i
  · subst hj
    have hlt : j < ds.length := by
      have := (List.getElem?_eq_some_iff.mp hd).1
      simpa using this
    rw [List.getElem?_set_self hlt] at hd
    cases hd
    exact ⟨y, SlX.putS_get _ _ _, Rep.pr pr2 (Rep.same (FS_same r2) q1)⟩
  · rw [List.getElem?_set_ne (Ne.symm hj)] at hd
    obtain ⟨v', h4, h5⟩ := h3 j d' hd
    exact ⟨v', (SlX.putS_ne (pm_ne hj)).mpr h4, Rep.pr pr2 h5⟩
end
def Sp_go_on (c : Ca) : Sp := fun vs H Q _ => ∃ (s : Addr) (d0 d1 d3 : D) (ps : List D) (o f sh : D) (v1 v2 v3 : V), vs = [.ref s, v1, v2, v3] ∧ (svE c s [d0, d1, .tup ps, d3]).ok H (.ref s) ∧ Rep H o v1 ∧ Rep H f v2 ∧ Rep H sh v3 ∧ ps.length < 1000 ∧
  ∀ H', Ch s H H' → Pr H H' → (svE c s [f, sh, .tup (ps ++ [.tup [o, d0, d1]]), .tup []]).ok H' (.ref s) → Q .non H'
def Sp_go_back (c : Ca) : Sp := fun vs H Q _ => ∃ (s : Addr) (d0 d1 : D) (ps us : List D) (o f sh : D), vs = [.ref s] ∧ (svE c s [d0, d1, .tup (ps ++ [.tup [o, f, sh]]), .tup us]).ok H (.ref s) ∧ us.length < 1000 ∧
  ∀ H', Ch s H H' → Pr H H' → (svE c s [f, sh, .tup ps, .tup (us ++ [.tup [o, d0, d1]])]).ok H' (.ref s) → Q .non H'
def Sp_go_again (c : Ca) : Sp := fun vs H Q _ => ∃ (s : Addr) (d0 d1 : D) (ps us : List D) (o f sh : D), vs = [.ref s] ∧ (svE c s [d0, d1, .tup ps, .tup (us ++ [.tup [o, f, sh]])]).ok H (.ref s) ∧ ps.length < 1000 ∧
  ∀ H', Ch s H H' → Pr H H' → (svE c s [f, sh, .tup (ps ++ [.tup [o, d0, d1]]), .tup us]).ok H' (.ref s) → Q .non H'
def Sp_State_init (c : Ca) : Sp := fun vs H Q _ => ∃ (s dx : Addr) (d0 d1 d2 d3 : D) (v0 v1 v2 v3 : V), vs = [.ref s, v0, v1, v2, v3] ∧ H s = some (.ins c.state dx []) ∧ dx ≠ s ∧ H dx = some (.own s) ∧ Rep H d0 v0 ∧ Rep H d1 v1 ∧ Rep H d2 v2 ∧ Rep H d3 v3 ∧
  ∀ H', (∀ a o, H a = some o → a ≠ s → a ≠ dx → H' a = some o) → (svE c s [d0, d1, d2, d3]).ok H' (.ref s) → Q .non H'
def Sp_copied (c : Ca) : Sp := fun vs H Q _ => ∃ (s : Addr) (d0 d1 d2 d3 : D), vs = [.ref s] ∧ (svE c s [d0, d1, d2, d3]).ok H (.ref s) ∧ ∀ H' s2, H s2 = none → Same H H' → (svE c s2 [d0, d1, d2, d3]).ok H' (.ref s2) → Q (.ref s2) H'
theorem cutD_init {ds : List D} {x : D} {m : Int} (hm : m = -1) : cutD (ds ++ [x]) none (some m) = ds := by
  unfold cutD
  rw [HT.sIx_none, hm]
  have e : HT.sIx (ds ++ [x]).length (ds ++ [x]).length (some (-1)) = ds.length := by
    show (if (-1 : Int) < 0 then ((-1 : Int) + (((ds ++ [x]).length : Nat) : Int)).toNat else min (-1 : Int).toNat (ds ++ [x]).length) = _
    rw [if_pos (by decide), List.length_append, List.length_singleton]
    omega
  rw [e]
  simp
section
variable {P : Program} {w : World} {K : PySem.W.Frag} {mg : Str → Option Value} {base : Heap} {c : Ca}
theorem ok_State_go_on (T : Tx w K mg c) : Md P w K mg base c.state "go_on" 1 (Sp_go_on c) := by
  obtain ⟨g, hm, FF⟩ := T.m_State_go_on
  refine ⟨g, hm, fnr_of FF scState_go_on (fun _ _ _ _ _ _ us hu => by obtain ⟨a, b, c, d, rfl⟩ := len4 hu; rfl) (fun vs H Q E h => ?_) (fun cdv A outer s H vs Q E hr h => ⟨_, (pss_cons (SlX.ps_sl (pv 0) (pe_tup (StX.pa_star (SlX.pe_sl (pv 0)) (pa_cons (pe_tup (pa_cons (pv 1) (pa_cons (SlX.pe_sl (pv 0)) (pa_cons (SlX.pe_sl (pv 0)) pa_nil)))) pa_nil)))) (pss_cons (SlX.ps_sl (pv 0) (pe_tup pa_nil)) (pss_cons (SlX.ps_sl (pv 0) (pv 2)) (pss_one (SlX.ps_sl (pv 0) (pv 3)))))), ?_⟩)⟩
  · obtain ⟨s, d0, d1, d3, ps, o, f, sh, v1, v2, v3, e, _⟩ := h
    rw [e]
    rfl
  · obtain ⟨s, d0, d1, d3, ps, o, f, sh, v1, v2, v3, e, hs, q1, q2, q3, hl, k⟩ := h
    subst e
    have hz := sizeLine_eq
    have g0 : EnvOk H (start NState_go_on [.ref s, v1, v2, v3]) [some (svE c s [d0, d1, .tup ps, d3]), some (Ev.d FS o), some (Ev.d FS f), some (Ev.d FS sh)] := envOk_some hs (envOk_some q1 (envOk_some q2 (envOk_some q3 envOk_nil)))
    refine store_in (i := 2) (s := s) (ds := [d0, d1, .tup ps, d3]) (d := .tup (ps ++ [.tup [o, d0, d1]])) T T.sl_past (pd_tup' (ds := ps ++ [.tup [o, d0, d1]]) (pda_starT (ds := ps) (dt := .tup ps) (pd_slotE T T.sl_past (pd_var (i := 0) rfl) rfl) rfl (pd_cons (pd_tup' (ds := [o, d0, d1]) (pd_cons (pd_var (i := 1) rfl) (pd_cons (pd_slotE T T.sl_facts (pd_var (i := 0) rfl) rfl) (pd_cons (pd_slotE T T.sl_shelf (pd_var (i := 0) rfl) rfl) pd_nil))) rfl (by show 3 ≤ sizeLine; omega)) pd_nil)) (by simp) (by simp; omega)) (pd_var (i := 0) rfl) g0 fun H1 c1 p1 s1 => ?_
    have g1 : EnvOk H1 (start NState_go_on [.ref s, v1, v2, v3]) [some (svE c s [d0, d1, .tup (ps ++ [.tup [o, d0, d1]]), d3]), some (Ev.d FS o), some (Ev.d FS f), some (Ev.d FS sh)] := envOk_some s1 (envOk_some (Rep.pr p1 q1) (envOk_some (Rep.pr p1 q2) (envOk_some (Rep.pr p1 q3) envOk_nil)))
    refine store_in (i := 3) (s := s) (ds := [d0, d1, .tup (ps ++ [.tup [o, d0, d1]]), d3]) (d := .tup []) T T.sl_undone (pd_tup' (ds := []) pd_nil rfl (by decide)) (pd_var (i := 0) rfl) g1 fun H2 c2 p2 s2 => ?_
    have p12 := Pr.trans p1 p2
    have g2 : EnvOk H2 (start NState_go_on [.ref s, v1, v2, v3]) [some (svE c s [d0, d1, .tup (ps ++ [.tup [o, d0, d1]]), .tup []]), some (Ev.d FS o), some (Ev.d FS f), some (Ev.d FS sh)] := envOk_some s2 (envOk_some (Rep.pr p12 q1) (envOk_some (Rep.pr p12 q2) (envOk_some (Rep.pr p12 q3) envOk_nil)))
    refine store_in (i := 0) (s := s) (ds := [d0, d1, .tup (ps ++ [.tup [o, d0, d1]]), .tup []]) (d := f) T T.sl_facts (pd_var (i := 2) rfl) (pd_var (i := 0) rfl) g2 fun H3 c3 p3 s3 => ?_
    have p13 := Pr.trans p12 p3
    have g3 : EnvOk H3 (start NState_go_on [.ref s, v1, v2, v3]) [some (svE c s [f, d1, .tup (ps ++ [.tup [o, d0, d1]]), .tup []]), some (Ev.d FS o), some (Ev.d FS f), some (Ev.d FS sh)] := envOk_some s3 (envOk_some (Rep.pr p13 q1) (envOk_some (Rep.pr p13 q2) (envOk_some (Rep.pr p13 q3) envOk_nil)))
    refine store_in (i := 1) (s := s) (ds := [f, d1, .tup (ps ++ [.tup [o, d0, d1]]), .tup []]) (d := sh) T T.sl_shelf (pd_var (i := 3) rfl) (pd_var (i := 0) rfl) g3 fun H4 c4 p4 s4 => ?_
    exact k H4 (Ch.trans c1 (Ch.trans c2 (Ch.trans c3 c4))) (Pr.trans p13 p4) s4
theorem ok_State_go_back (T : Tx w K mg c) : Md P w K mg base c.state "go_back" 1 (Sp_go_back c) := by
  obtain ⟨g, hm, FF⟩ := T.m_State_go_back
  refine ⟨g, hm, fnr_of FF scState_go_back (fun _ _ _ _ _ _ us hu => by obtain ⟨a, rfl⟩ := len1 hu; rfl) (fun vs H Q E h => ?_) (fun cdv A outer s H vs Q E hr h => ⟨_, (pss_cons (ps_asg (pe_ix ix_tup (SlX.pe_sl (pv 0)) (pe_un un_neg pe_int) (fun _ _ => rfl)) (pg_tup (by rfl) (pgs_cons (pg_name (i := 1) scState_go_back.nd rfl (Or.inl rfl)) (pgs_cons (pg_name (i := 2) scState_go_back.nd rfl (Or.inl rfl)) (pgs_cons (pg_name (i := 3) scState_go_back.nd rfl (Or.inl rfl)) pgs_nil))))) (pss_cons (SlX.ps_sl (pv 0) (pe_tup (StX.pa_star (SlX.pe_sl (pv 0)) (pa_cons (pe_tup (pa_cons (pv 1) (pa_cons (SlX.pe_sl (pv 0)) (pa_cons (SlX.pe_sl (pv 0)) pa_nil)))) pa_nil)))) (pss_cons (SlX.ps_sl (pv 0) (pe_slice sl_tupA (SlX.pe_sl (pv 0)) po_none (po_some (pe_un un_neg pe_int)))) (pss_cons (SlX.ps_sl (pv 0) (pv 2)) (pss_one (SlX.ps_sl (pv 0) (pv 3))))))), ?_⟩)⟩
  · obtain ⟨s, d0, d1, ps, us, o, f, sh, e, _⟩ := h
    rw [e]
    rfl
  · obtain ⟨s, d0, d1, ps, us, o, f, sh, e, hs, hl, k⟩ := h
    subst e
    have hz := sizeLine_eq
    have g0 : EnvOk H (start NState_go_back [.ref s]) [some (svE c s [d0, d1, .tup (ps ++ [.tup [o, f, sh]]), .tup us]), none, none, none] := envOk_some hs (envOk_none (envOk_none (envOk_none envOk_nil)))
    refine (pd_op' (pd_slotE (d := .tup (ps ++ [.tup [o, f, sh]])) T T.sl_past (pd_var (i := 0) rfl) rfl) (pd_un' (pd_int (x := 1)) p1_U) (p2_ixTL (d := .tup [o, f, sh]) rfl rfl)) _ H _ trivial g0 fun v H1 r1 q1 => ?_
    have sm1 := FS_same r1
    obtain ⟨a, xs, ev, ha, qx⟩ := q1
    obtain ⟨x1, x2, x3, e3, qo, qf, qs⟩ := Reps.three qx
    subst e3
    refine ⟨a, _, ev, .inl (.inl ha), rfl, x1, _, rfl, x2, _, rfl, x3, _, rfl, rfl, ?_⟩
    have s1 := (svE c s _).st trivial r1 hs
    have g1 : EnvOk H1 [some (V.ref s), some x1, some x2, some x3] [some (svE c s [d0, d1, .tup (ps ++ [.tup [o, f, sh]]), .tup us]), some (Ev.d FS o), some (Ev.d FS f), some (Ev.d FS sh)] := envOk_some s1 (envOk_some qo (envOk_some qf (envOk_some qs envOk_nil)))
    refine store_in (i := 3) (s := s) (ds := [d0, d1, .tup (ps ++ [.tup [o, f, sh]]), .tup us]) (d := .tup (us ++ [.tup [o, d0, d1]])) T T.sl_undone (pd_tup' (ds := us ++ [.tup [o, d0, d1]]) (pda_starT (ds := us) (dt := .tup us) (pd_slotE T T.sl_undone (pd_var (i := 0) rfl) rfl) rfl (pd_cons (pd_tup' (ds := [o, d0, d1]) (pd_cons (pd_var (i := 1) rfl) (pd_cons (pd_slotE T T.sl_facts (pd_var (i := 0) rfl) rfl) (pd_cons (pd_slotE T T.sl_shelf (pd_var (i := 0) rfl) rfl) pd_nil))) rfl (by show 3 ≤ sizeLine; omega)) pd_nil)) (by simp) (by simp; omega)) (pd_var (i := 0) rfl) g1 fun H2 c2 p2 s2 => ?_
    have g2 : EnvOk H2 [some (V.ref s), some x1, some x2, some x3] [some (svE c s [d0, d1, .tup (ps ++ [.tup [o, f, sh]]), .tup (us ++ [.tup [o, d0, d1]])]), some (Ev.d FS o), some (Ev.d FS f), some (Ev.d FS sh)] := envOk_some s2 (envOk_some (Rep.pr p2 qo) (envOk_some (Rep.pr p2 qf) (envOk_some (Rep.pr p2 qs) envOk_nil)))
    refine store_in (i := 2) (s := s) (ds := [d0, d1, .tup (ps ++ [.tup [o, f, sh]]), .tup (us ++ [.tup [o, d0, d1]])]) (d := .tup ps) T T.sl_past (pd_eq (pd_slT (ds := ps ++ [.tup [o, f, sh]]) (pd_slotE T T.sl_past (pd_var (i := 0) rfl) rfl) pdo_none (pdo_some (pd_un' (pd_int (x := 1)) p1_U))) (by rw [cutD_init rfl])) (pd_var (i := 0) rfl) g2 fun H3 c3 p3 s3 => ?_
    have p23 := Pr.trans p2 p3
    have g3 : EnvOk H3 [some (V.ref s), some x1, some x2, some x3] [some (svE c s [d0, d1, .tup ps, .tup (us ++ [.tup [o, d0, d1]])]), some (Ev.d FS o), some (Ev.d FS f), some (Ev.d FS sh)] := envOk_some s3 (envOk_some (Rep.pr p23 qo) (envOk_some (Rep.pr p23 qf) (envOk_some (Rep.pr p23 qs) envOk_nil)))
    refine store_in (i := 0) (s := s) (ds := [d0, d1, .tup ps, .tup (us ++ [.tup [o, d0, d1]])]) (d := f) T T.sl_facts (pd_var (i := 2) rfl) (pd_var (i := 0) rfl) g3 fun H4 c4 p4 s4 => ?_
    have p24 := Pr.trans p23 p4
    have g4 : EnvOk H4 [some (V.ref s), some x1, some x2, some x3] [some (svE c s [f, d1, .tup ps, .tup (us ++ [.tup [o, d0, d1]])]), some (Ev.d FS o), some (Ev.d FS f), some (Ev.d FS sh)] := envOk_some s4 (envOk_some (Rep.pr p24 qo) (envOk_some (Rep.pr p24 qf) (envOk_some (Rep.pr p24 qs) envOk_nil)))
    refine store_in (i := 1) (s := s) (ds := [f, d1, .tup ps, .tup (us ++ [.tup [o, d0, d1]])]) (d := sh) T T.sl_shelf (pd_var (i := 3) rfl) (pd_var (i := 0) rfl) g4 fun H5 c5 p5 s5 => ?_
    exact k H5 (Same.ch sm1 (Ch.trans c2 (Ch.trans c3 (Ch.trans c4 c5)))) (Pr.trans (Same.pr sm1) (Pr.trans p24 p5)) s5
theorem ok_State_go_again (T : Tx w K mg c) : Md P w K mg base c.state "go_again" 1 (Sp_go_again c) := by
  obtain ⟨g, hm, FF⟩ := T.m_State_go_again
  refine ⟨g, hm, fnr_of FF scState_go_again (fun _ _ _ _ _ _ us hu => by obtain ⟨a, rfl⟩ := len1 hu; rfl) (fun vs H Q E h => ?_) (fun cdv A outer s H vs Q E hr h => ⟨_, (pss_cons (ps_asg (pe_ix ix_tup (SlX.pe_sl (pv 0)) (pe_un un_neg pe_int) (fun _ _ => rfl)) (pg_tup (by rfl) (pgs_cons (pg_name (i := 1) scState_go_again.nd rfl (Or.inl rfl)) (pgs_cons (pg_name (i := 2) scState_go_again.nd rfl (Or.inl rfl)) (pgs_cons (pg_name (i := 3) scState_go_again.nd rfl (Or.inl rfl)) pgs_nil))))) (pss_cons (SlX.ps_sl (pv 0) (pe_tup (StX.pa_star (SlX.pe_sl (pv 0)) (pa_cons (pe_tup (pa_cons (pv 1) (pa_cons (SlX.pe_sl (pv 0)) (pa_cons (SlX.pe_sl (pv 0)) pa_nil)))) pa_nil)))) (pss_cons (SlX.ps_sl (pv 0) (pe_slice sl_tupA (SlX.pe_sl (pv 0)) po_none (po_some (pe_un un_neg pe_int)))) (pss_cons (SlX.ps_sl (pv 0) (pv 2)) (pss_one (SlX.ps_sl (pv 0) (pv 3))))))), ?_⟩)⟩
  · obtain ⟨s, d0, d1, ps, us, o, f, sh, e, _⟩ := h
    rw [e]
    rfl
  · obtain ⟨s, d0, d1, ps, us, o, f, sh, e, hs, hl, k⟩ := h
    subst e
    have hz := sizeLine_eq
    have g0 : EnvOk H (start NState_go_again [.ref s]) [some (svE c s [d0, d1, .tup ps, .tup (us ++ [.tup [o, f, sh]])]), none, none, none] := envOk_some hs (envOk_none (envOk_none (envOk_none envOk_nil)))
    refine (pd_op' (pd_slotE (d := .tup (us ++ [.tup [o, f, sh]])) T T.sl_undone (pd_var (i := 0) rfl) rfl) (pd_un' (pd_int (x := 1)) p1_U) (p2_ixTL (d := .tup [o, f, sh]) rfl rfl)) _ H _ trivial g0 fun v H1 r1 q1 => ?_
    have sm1 := FS_same r1
    obtain ⟨a, xs, ev, ha, qx⟩ := q1
    obtain ⟨x1, x2, x3, e3, qo, qf, qs⟩ := Reps.three qx
    subst e3
    refine ⟨a, _, ev, .inl (.inl ha), rfl, x1, _, rfl, x2, _, rfl, x3, _, rfl, rfl, ?_⟩
    have s1 := (svE c s _).st trivial r1 hs
    have g1 : EnvOk H1 [some (V.ref s), some x1, some x2, some x3] [some (svE c s [d0, d1, .tup ps, .tup (us ++ [.tup [o, f, sh]])]), some (Ev.d FS o), some (Ev.d FS f), some (Ev.d FS sh)] := envOk_some s1 (envOk_some qo (envOk_some qf (envOk_some qs envOk_nil)))
    refine store_in (i := 2) (s := s) (ds := [d0, d1, .tup ps, .tup (us ++ [.tup [o, f, sh]])]) (d := .tup (ps ++ [.tup [o, d0, d1]])) T T.sl_past (pd_tup' (ds := ps ++ [.tup [o, d0, d1]]) (pda_starT (ds := ps) (dt := .tup ps) (pd_slotE T T.sl_past (pd_var (i := 0) rfl) rfl) rfl (pd_cons (pd_tup' (ds := [o, d0, d1]) (pd_cons (pd_var (i := 1) rfl) (pd_cons (pd_slotE T T.sl_facts (pd_var (i := 0) rfl) rfl) (pd_cons (pd_slotE T T.sl_shelf (pd_var (i := 0) rfl) rfl) pd_nil))) rfl (by show 3 ≤ sizeLine; omega)) pd_nil)) (by simp) (by simp; omega)) (pd_var (i := 0) rfl) g1 fun H2 c2 p2 s2 => ?_
    have g2 : EnvOk H2 [some (V.ref s), some x1, some x2, some x3] [some (svE c s [d0, d1, .tup (ps ++ [.tup [o, d0, d1]]), .tup (us ++ [.tup [o, f, sh]])]), some (Ev.d FS o), some (Ev.d FS f), some (Ev.d FS sh)] := envOk_some s2 (envOk_some (Rep.pr p2 qo) (envOk_some (Rep.pr p2 qf) (envOk_some (Rep.pr p2 qs) envOk_nil)))
    refine store_in (i := 3) (s := s) (ds := [d0, d1, .tup (ps ++ [.tup [o, d0, d1]]), .tup (us ++ [.tup [o, f, sh]])]) (d := .tup us) T T.sl_undone (pd_eq (pd_slT (ds := us ++ [.tup [o, f, sh]]) (pd_slotE T T.sl_undone (pd_var (i := 0) rfl) rfl) pdo_none (pdo_some (pd_un' (pd_int (x := 1)) p1_U))) (by rw [cutD_init rfl])) (pd_var (i := 0) rfl) g2 fun H3 c3 p3 s3 => ?_
    have p23 := Pr.trans p2 p3
    have g3 : EnvOk H3 [some (V.ref s), some x1, some x2, some x3] [some (svE c s [d0, d1, .tup (ps ++ [.tup [o, d0, d1]]), .tup us]), some (Ev.d FS o), some (Ev.d FS f), some (Ev.d FS sh)] := envOk_some s3 (envOk_some (Rep.pr p23 qo) (envOk_some (Rep.pr p23 qf) (envOk_some (Rep.pr p23 qs) envOk_nil)))
    refine store_in (i := 0) (s := s) (ds := [d0, d1, .tup (ps ++ [.tup [o, d0, d1]]), .tup us]) (d := f) T T.sl_facts (pd_var (i := 2) rfl) (pd_var (i := 0) rfl) g3 fun H4 c4 p4 s4 => ?_
    have p24 := Pr.trans p23 p4
    have g4 : EnvOk H4 [some (V.ref s), some x1, some x2, some x3] [some (svE c s [f, d1, .tup (ps ++ [.tup [o, d0, d1]]), .tup us]), some (Ev.d FS o), some (Ev.d FS f), some (Ev.d FS sh)] := envOk_some s4 (envOk_some (Rep.pr p24 qo) (envOk_some (Rep.pr p24 qf) (envOk_some (Rep.pr p24 qs) envOk_nil)))
    refine store_in (i := 1) (s := s) (ds := [f, d1, .tup (ps ++ [.tup [o, d0, d1]]), .tup us]) (d := sh) T T.sl_shelf (pd_var (i := 3) rfl) (pd_var (i := 0) rfl) g4 fun H5 c5 p5 s5 => ?_
    exact k H5 (Same.ch sm1 (Ch.trans c2 (Ch.trans c3 (Ch.trans c4 c5)))) (Pr.trans (Same.pr sm1) (Pr.trans p24 p5)) s5
end
end Bf
/-! ### states, plans, boxes: made -/
namespace Bf
open PySem PySem.Spec PyProof.Rows L2
section
variable {P : Program} {w : World} {K : PySem.W.Frag} {mg : Str → Option Value} {base : Heap} {c : Ca}
theorem ok_State_init (T : Tx w K mg c) : Mi P w K mg base c.state "State" 1 (Sp_State_init c) := by
  obtain ⟨g, hk, hm, FF⟩ := T.k_State
  refine ⟨g, hk, hm, fnr_of FF scState_init (fun _ _ _ _ _ _ us hu => by obtain ⟨a, b, c, d, e, rfl⟩ := len5 hu; rfl) (fun vs H Q E h => ?_) (fun cdv A outer s H vs Q E hr h => ⟨_, (pss_cons (SlX.ps_sl (pv 0) (pv 1)) (pss_cons (SlX.ps_sl (pv 0) (pv 2)) (pss_cons (SlX.ps_sl (pv 0) (pv 3)) (pss_one (SlX.ps_sl (pv 0) (pv 4)))))), ?_⟩)⟩
  · obtain ⟨s, dx, d0, d1, d2, d3, v0, v1, v2, v3, e, _⟩ := h
    rw [e]
    rfl
  · obtain ⟨s, dx, d0, d1, d2, d3, v0, v1, v2, v3, e, hs, ne, ni, q0, q1, q2, q3, k⟩ := h
    subst e
    obtain ⟨p0, hp0⟩ := T.sl_facts
    obtain ⟨p1, hp1⟩ := T.sl_shelf
    obtain ⟨p2, hp2⟩ := T.sl_past
    obtain ⟨p3, hp3⟩ := T.sl_undone
    refine ⟨v0, rfl, .ref s, rfl, s, c.state, dx, p0, [], 0, rfl, .inl ⟨hs, rfl⟩, T.c_State, hp0, ?_⟩
    refine ⟨v1, rfl, .ref s, rfl, s, c.state, dx, p1, _, 2, rfl, SlX.slH_slt ne, T.c_State, hp1, ?_⟩
    rw [SlX.slH_twice ne]
    refine ⟨v2, rfl, .ref s, rfl, s, c.state, dx, p2, _, 1, rfl, SlX.slH_slt ne, T.c_State, hp2, ?_⟩
    rw [SlX.slH_twice ne]
    refine ⟨v3, rfl, .ref s, rfl, s, c.state, dx, p3, _, 3, rfl, SlX.slH_slt ne, T.c_State, hp3, ?_⟩
    rw [SlX.slH_twice ne]
    have e4 : SlX.putS 3 v3 (SlX.putS 1 v2 (SlX.putS 2 v1 (SlX.putS 0 v0 []))) = [some v0, some v2, some v1, some v3] := rfl
    rw [e4]
    have pr : Pr H (SlX.slH H s c.state dx [some v0, some v2, some v1, some v3]) := fun a o e im => by
      have n1 : a ≠ s := fun z => by
        rw [z, hs] at e
        cases e
        exact im
      have n2 : a ≠ dx := fun z => by
        rw [z, ni] at e
        cases e
        exact im
      rw [SlX.slH_ne n1 n2]
      exact e
    refine k _ (fun a o e n1 n2 => by rw [SlX.slH_ne n1 n2]; exact e) ⟨rfl, dx, _, upd_same, by unfold SlX.slH; rw [upd_ne ne, upd_same], fun i d hd => ?_⟩
    match i, hd with
    | 0, hd => cases hd; exact ⟨v0, rfl, Rep.pr pr q0⟩
    | 1, hd => cases hd; exact ⟨v1, rfl, Rep.pr pr q1⟩
    | 2, hd => cases hd; exact ⟨v2, rfl, Rep.pr pr q2⟩
    | 3, hd => cases hd; exact ⟨v3, rfl, Rep.pr pr q3⟩
    | n + 4, hd => simp at hd
theorem mk_state {F : Fm} {Γ : Env' F} {t : TA} {σ : L2.St} {H : Hp} {Q : VK} {d0 d1 d2 d3 : D} (h : PdA Γ t [Ev.d F d0, Ev.d F d1, Ev.d F d2, Ev.d F d3]) (i : F.I H) (g : EnvOk H σ Γ)
    (k : ∀ H1 H' s2, F.R H H1 → H1 s2 = none → Same H1 H' → (svE c s2 [d0, d1, d2, d3]).ok H' (.ref s2) → Q (.ref s2) H') : StX.tMakeR c.state (Sp_State_init c) E0 t σ H Q :=
  h σ H _ i g fun vs H1 r1 ⟨v0, w1, e0, q0, v1, w2, e1, q1, v2, w3, e2, q2, v3, w4, e3, q3, e4⟩ x dx nx nd ne => by
  have e4' : w4 = [] := e4
  subst e4' e3 e2 e1 e0
  have s1 : Same H1 (upd (upd H1 dx (.own x)) x (.ins c.state dx [])) := fun a o e => by
    rw [upd_ne (ne_of_none e nx), upd_ne (ne_of_none e nd)]
    exact e
  refine ⟨x, dx, d0, d1, d2, d3, v0, v1, v2, v3, rfl, upd_same, ne, by rw [upd_ne ne, upd_same], Rep.same s1 q0, Rep.same s1 q1, Rep.same s1 q2, Rep.same s1 q3, fun H' ch sv => ⟨rfl, k H1 H' x r1 nx (fun a o e => ch a o (s1 a o e) (ne_of_none e nx) (ne_of_none e nd)) sv⟩⟩
theorem ok_State_copied (T : Tx w K mg c) : Md P w K mg base c.state "copied" 3 (Sp_copied c) := by
  obtain ⟨g, hm, FF⟩ := T.m_State_copied
  have ok_mk_State := fun T : Tx w K mg c => ok_State_init (P := P) (base := base) T
  refine ⟨g, hm, fnr_of FF scState_copied (fun _ _ _ _ _ _ us hu => by obtain ⟨a, rfl⟩ := len1 hu; rfl) (fun vs H Q E h => ?_) (fun cdv A outer s H vs Q E hr h => ⟨_, (pss_one (ps_ret (pe_mk (ok_mk_State T) hr (by decide) (by rfl) (pa_cons (SlX.pe_sl (pv 0)) (pa_cons (SlX.pe_sl (pv 0)) (pa_cons (SlX.pe_sl (pv 0)) (pa_cons (SlX.pe_sl (pv 0)) pa_nil))))))), ?_⟩)⟩
  · obtain ⟨s, d0, d1, d2, d3, e, _⟩ := h
    rw [e]
    rfl
  · obtain ⟨s, d0, d1, d2, d3, e, hs, k⟩ := h
    subst e
    have g0 : EnvOk H (start NState_copied [.ref s]) [some (svE c s [d0, d1, d2, d3])] := envOk_some hs envOk_nil
    exact mk_state (F := FS) (pd_cons (pd_slotE T T.sl_facts (pd_var (i := 0) rfl) rfl) (pd_cons (pd_slotE T T.sl_shelf (pd_var (i := 0) rfl) rfl) (pd_cons (pd_slotE T T.sl_past (pd_var (i := 0) rfl) rfl) (pd_cons (pd_slotE T T.sl_undone (pd_var (i := 0) rfl) rfl) pd_nil)))) trivial g0 fun H1 H' s2 r1 n sm sv => by
      have sm1 := FS_same r1
      refine k H' s2 ?_ (Same.trans sm1 sm) sv
      cases e : H s2 with
      | none => rfl
      | some o =>
        rw [sm1 _ _ e] at n
        cases n
end
/-- a plan is made -/
def Sp_Plan_init (c : Ca) : Sp := fun vs H Q _ => ∃ (x dx : Addr) (Pp : Pl) (v0 v1 v2 v3 : V), vs = [.ref x, v0, v1, v2, v3] ∧ Pp.Ok ∧ H x = some (.ins c.plan dx []) ∧ dx ≠ x ∧ H dx = some (.own x) ∧ Rep H (dRates Pp) v0 ∧ Rep H (dAbove Pp) v1 ∧ Rep H (dPts Pp) v2 ∧ Rep H (.str Pp.rule) v3 ∧
  ∀ H' vs t, (∀ a o, H a = some o → a ≠ x → a ≠ dx → H' a = some o) → H' x = some (SlX.SlO x c.plan dx vs) → H' dx = some (.xd []) → vs[0]? = some (some t) → Rep H' (dParts Pp) t → Q .non H'
section
variable {P : Program} {w : World} {K : PySem.W.Frag} {mg : Str → Option Value} {base : Heap} {c : Ca}
/-- a def with defaults, all its values written -/
theorem fnr_ofd {x qual : Str} {st : Stmt} {f : Addr} {N ps : List Str} {k : Nat} {sp : Sp} {dv : V} (F : FDd K x qual st [dv] f) (S : FnScope N ps (defScope st))
    (hb : ∀ (T : Addr) (kV doc pm : Value) (an : Option Addr) (cdv ct : Value) (us its : List Value), us.length = ps.length → its.length = 1 → ∃ k, bindArgs (PySem.W.fnOf x qual (defArgs st) (defBody st) (defScope st) (.ref T) kV doc pm an cdv ct) ⟨us, []⟩ = seqItems? (.ref T) >>= k ∧ k (some its.toArray) = pure (ps.zip (us ++ its.drop 1)))
    (len : ∀ vs H Q E, sp vs H Q E → vs.length = ps.length)
    (hbody : ∀ (cdv : Value) (A : Around) (outer : List Env) (s : Shared) (H : Hp) (vs : List V) (Q : VK) (E : XK), Room k (A.deeper (envOfC qual (defScope st) s.heap.objs.size f cdv)) → sp vs H Q E →
      ∃ t, PSs (cxOf CX0 P w K mg base N qual (defScope st) f cdv A outer s H E).nox (defBody st) t ∧ t { nx := fun _ H' => Q .non H', rt := Q } (start N vs) H) :
    FnR P w K mg base CX0 (k + 1) f sp := by
  obtain ⟨fd, F⟩ := F
  have G : FnOk P w K mg base CX0 (k + 1) f fd ps sp := F.ok S len fun cdv A outer s H vs Q E hr h => by
    obtain ⟨t, h1, h2⟩ := hbody cdv A outer s H vs Q E hr h
    exact ⟨t, h1.nox, h2⟩
  obtain ⟨ds, hv, hB⟩ := F.binds1 (ps := ps) ps.length 1 (fun z => nomatch z) (by simp) hb
  refine FnR.imp (FnOk.raw G hB hv) fun vs H Q E h => ?_
  show sp (vs ++ []) H Q E
  rw [List.append_nil]
  exact h
theorem ok_Plan_init (T : Tx w K mg c) : Mi P w K mg base c.plan "Plan" 4 (Sp_Plan_init c) := by
  obtain ⟨g, hk, hm, FF⟩ := T.k_Plan
  refine ⟨g, hk, hm, fnr_ofd FF scPlan_init (fun _ _ _ _ _ _ _ us its hu hi => by
    obtain ⟨a, b, c, d, e, rfl⟩ := len5 hu
    obtain ⟨i, rfl⟩ := len1 hi
    exact ⟨_, rfl, rfl⟩) (fun vs H Q E h => ?_) (fun cdv A outer s H vs Q E hr h => ⟨_, (pss_cons (ps_if (pt_not (pt_val (pe_cl (ok_are_rates T) hr (by decide) (by rfl) (pa_cons (pv 1) pa_nil)))) pss_never pss_nil) (pss_cons (ps_if (pt_not (pt_val (pe_cl (ok_are_above T) hr (by decide) (by rfl) (pa_cons (pv 2) (pa_cons (pe_callB call_len_seq (by rfl) T.n_len (by decide +kernel) (pa_cons (pv 1) pa_nil)) pa_nil))))) pss_never pss_nil) (pss_cons (ps_if (pt_not (pt_val (pe_cl (ok_are_points T) hr (by decide) (by rfl) (pa_cons (pv 3) pa_nil)))) pss_never pss_nil) (pss_cons (ps_if (pt_cmpR op_notIn_seq (pv 4) (pe_tup (pa_cons (pe_gs (by rfl) T.g_FREE) (pa_cons (pe_gs (by rfl) T.g_ROOMS) pa_nil))) (by rfl)) pss_never pss_nil) (pss_one (SlX.ps_sl (pv 0) (pe_tup (pa_cons (pv 1) (pa_cons (pv 2) (pa_cons (pv 3) (pa_cons (pv 4) pa_nil))))))))))), ?_⟩)⟩
  · obtain ⟨x, dx, Pp, v0, v1, v2, v3, e, _⟩ := h
    rw [e]
    rfl
  · obtain ⟨x, dx, Pp, v0, v1, v2, v3, e, ok, hx, ne, ni, q0, q1, q2, q3, k⟩ := h
    subst e
    have hz := sizeLine_eq
    have g0 : EnvOk (F := FS) H (start NPlan_init [.ref x, v0, v1, v2, v3]) [some (Ev.v FS (.ref x)), some (Ev.d FS (dRates Pp)), some (Ev.d FS (dAbove Pp)), some (Ev.d FS (dPts Pp)), some (Ev.d FS (.str Pp.rule))] := envOk_some rfl (envOk_some q0 (envOk_some q1 (envOk_some q2 (envOk_some q3 envOk_nil))))
    have p1 : PdT (F := FS) [some (Ev.v FS (.ref x)), some (Ev.d FS (dRates Pp)), some (Ev.d FS (dAbove Pp)), some (Ev.d FS (dPts Pp)), some (Ev.d FS (.str Pp.rule))] (tNot (tB (tCl (SpG R_are_rates) (tCons (tVar 1) tNil)))) (!true) := pdt_not (pdt_val (pd_cl (pd_cons (pd_var rfl) pd_nil) (.mk _ _ ok.n1 ok.n5 ok.r)))
    refine seq_if (p1 _ H _ trivial g0 fun H1 r1 => ?_)
    rw [if_neg (by decide)]
    refine seq_next ?_
    have g1 := g0.st trivial r1
    refine seq_if ((pdt_not (x := true) (pdt_val (pd_cl (pd_cons (pd_var (i := 2) rfl) (pd_cons (pd_eq (e' := Ev.d FS (.int (Pp.above.length : Nat))) (pd_call' (pd_cons (pd_var (i := 1) rfl) pd_nil) (pc_lenT rfl)) (by rw [List.length_map, ok.al])) pd_nil)) (.mk _ Pp.above (by rw [ok.al]; exact ok.n5) ok.ab)))) _ H1 _ trivial g1 fun H2 r2 => ?_)
    rw [if_neg (by decide)]
    refine seq_next ?_
    have g2 := g1.st trivial r2
    refine seq_if ((pdt_not (x := true) (pdt_val (pd_cl (pd_cons (pd_var (i := 3) rfl) pd_nil) (.mk _ Pp.pts ok.p1 ok.p5 ok.pw ok.ps)))) _ H2 _ trivial g2 fun H3 r3 => ?_)
    rw [if_neg (by decide)]
    refine seq_next ?_
    have g3 := g2.st trivial r3
    refine seq_if ((pdt_eq (y := false) (pdt_test (pd_op' (pd_var (i := 4) rfl) (pd_tup' (ds := [.str "free", .str "rooms"]) (pd_cons pd_str (pd_cons pd_str pd_nil)) rfl (by decide)) (p2_inT (l := [("free" : Str), ("rooms" : Str)]) rfl))) ?_) _ H3 _ trivial g3 fun H4 r4 => ?_)
    · have e : decide (Pp.rule ∈ [("free" : Str), ("rooms" : Str)]) = true := decide_eq_true (by rcases ok.ru with q | q <;> simp [q])
      rw [e]
      rfl
    rw [if_neg (by decide)]
    refine seq_next ?_
    have g4 := g3.st trivial r4
    refine (pd_tup' (ds := [dRates Pp, dAbove Pp, dPts Pp, .str Pp.rule]) (pd_cons (pd_var (i := 1) rfl) (pd_cons (pd_var (i := 2) rfl) (pd_cons (pd_var (i := 3) rfl) (pd_cons (pd_var (i := 4) rfl) pd_nil)))) rfl (by show 4 ≤ sizeLine; omega)) _ H4 _ trivial g4 fun y H5 r5 q5 => ?_
    have sm : Same H H5 := Same.trans (FS_same r1) (Same.trans (FS_same r2) (Same.trans (FS_same r3) (Same.trans (FS_same r4) (FS_same r5))))
    obtain ⟨p, hp⟩ := T.sl_parts
    refine ⟨.ref x, rfl, x, c.plan, dx, p, [], 0, rfl, .inl ⟨sm _ _ hx, rfl⟩, T.c_Plan, hp, ?_⟩
    refine k _ [some y] y (fun a o e n1 n2 => by rw [SlX.slH_ne n1 n2]; exact sm _ _ e) upd_same (by unfold SlX.slH; rw [upd_ne ne, upd_same]) rfl ?_
    refine Rep.prT (H := H5) (fun a o e im => ?_) ?_ q5
    · have n1 : a ≠ x := fun z => by
        rw [z, sm _ _ hx] at e
        cases e
        exact im
      have n2 : a ≠ dx := fun z => by
        rw [z, sm _ _ ni] at e
        cases e
        exact im
      rw [SlX.slH_ne n1 n2]
      exact e
    · show (ndDs (Pp.rates.map dN) && (ndDs (Pp.above.map dO) && (ndDs (Pp.pts.map dPt) && (true && true)))) = true
      rw [ndDs_map (fun _ => rfl), ndDs_map ndD_dO, ndDs_map (fun _ => rfl)]
      rfl
end
end Bf
/-! ### dicts by text keys; boxes: their data -/
namespace Bf
open PySem PySem.Spec PyProof.Rows L2
section
variable {α : Type} (enc : α → D)
abbrev dG (l : List (Str × α)) : D := .dict (l.map (·.1)) (l.map fun p => enc p.2)
def putG (l : List (Str × α)) (x : Str) (a : α) : List (Str × α) := if (l.any fun p => decide (p.1 = x)) = true then l.map (fun p => if p.1 = x then (p.1, a) else p) else l ++ [(x, a)]
def getG (l : List (Str × α)) (x : Str) : Option α := (l.find? fun p => decide (p.1 = x)).map (·.2)
def KvR (H : Hp) : List (Str × α) → List (Key × V) → Prop
  | [], kvs => kvs = []
  | p :: l, kvs => ∃ v r, kvs = (.inr p.1, v) :: r ∧ Rep H (enc p.2) v ∧ KvR H l r
end
section
variable {α : Type} {enc : α → D} {H H' : Hp}
theorem KvR.pr (k : Pr H H') : ∀ {l : List (Str × α)} {kvs : List (Key × V)}, KvR enc H l kvs → KvR enc H' l kvs
  | [], _, h => h
  | _ :: _, _, ⟨v, r, e, q, t⟩ => ⟨v, r, e, Rep.pr k q, KvR.pr k t⟩
theorem kvR_of : ∀ {l : List (Str × α)} {kvs : List (Key × V)}, kvs.map (·.1) = (l.map (·.1)).map Sum.inr → Reps H (l.map fun p => enc p.2) (kvs.map (·.2)) → KvR enc H l kvs
  | [], [], _, _ => rfl
  | [], _ :: _, h, _ => by simp at h
  | _ :: _, [], h, _ => by simp at h
  | p :: l, (k, v) :: kvs, h, q => by
    obtain ⟨x, ys, e, q1, q2⟩ := q
    have e' : v :: kvs.map (·.2) = x :: ys := e
    cases e'
    have h' : k :: kvs.map (·.1) = Sum.inr p.1 :: (l.map (·.1)).map Sum.inr := h
    injection h' with h1 h2
    exact ⟨v, kvs, by rw [h1], q1, kvR_of h2 q2⟩
theorem KvR.to : ∀ {l : List (Str × α)} {kvs : List (Key × V)}, KvR enc H l kvs → kvs.map (·.1) = (l.map (·.1)).map Sum.inr ∧ Reps H (l.map fun p => enc p.2) (kvs.map (·.2))
  | [], kvs, h => by
    have e : kvs = [] := h
    rw [e]
    exact ⟨rfl, rfl⟩
  | p :: l, kvs, ⟨v, r, e, q, t⟩ => by
    obtain ⟨h1, h2⟩ := KvR.to t
    rw [e]
    exact ⟨by rw [List.map_cons, h1]; rfl, v, _, rfl, q, h2⟩
theorem rep_g {l : List (Str × α)} {v : V} (h : Rep H (dG enc l) v) : ∃ a kvs, v = .ref a ∧ H a = some (.dK kvs) ∧ KvR enc H l kvs := by
  obtain ⟨a, kvs, e, h1, h2, h3⟩ := h
  exact ⟨a, kvs, e, h1, kvR_of h2 h3⟩
theorem rep_gof {l : List (Str × α)} {a : Addr} {kvs : List (Key × V)} (h : H a = some (.dK kvs)) (q : KvR enc H l kvs) : Rep H (dG enc l) (.ref a) := ⟨a, kvs, rfl, h, q.to.1, q.to.2⟩
theorem KvR.len : ∀ {l : List (Str × α)} {kvs : List (Key × V)}, KvR enc H l kvs → kvs.length = l.length
  | [], kvs, h => by
    have e : kvs = [] := h
    rw [e]
    rfl
  | p :: l, kvs, ⟨v, r, e, q, t⟩ => by rw [e, List.length_cons, List.length_cons, t.len]
theorem KvR.get {x : Str} : ∀ {l : List (Str × α)} {kvs : List (Key × V)}, KvR enc H l kvs → (valV kvs (.inr x) = none ∧ getG l x = none) ∨ ∃ v a, valV kvs (.inr x) = some v ∧ getG l x = some a ∧ Rep H (enc a) v
  | [], kvs, h => by
    have e : kvs = [] := h
    rw [e]
    exact .inl ⟨rfl, rfl⟩
  | p :: l, kvs, ⟨v, r, e, q, t⟩ => by
    rw [e]
    by_cases hx : p.1 = x
    · refine .inr ⟨v, p.2, valV_pos (by rw [hx]), ?_, q⟩
      unfold getG
      rw [List.find?_cons, decide_eq_true hx]
      rfl
    · rw [valV_neg (fun z => hx (Sum.inr.inj z))]
      have e2 : getG (p :: l) x = getG l x := by
        unfold getG
        rw [List.find?_cons, decide_eq_false hx]
      rw [e2]
      exact KvR.get t
theorem KvR.any {x : Str} : ∀ {l : List (Str × α)} {kvs : List (Key × V)}, KvR enc H l kvs → (kvs.any fun kv => decide (kv.1 = .inr x)) = l.any fun p => decide (p.1 = x)
  | [], kvs, h => by
    have e : kvs = [] := h
    rw [e]
    rfl
  | p :: l, kvs, ⟨v, r, e, q, t⟩ => by
    rw [e, List.any_cons, List.any_cons, KvR.any t]
    congr 1
    exact decide_eq_decide.mpr ⟨fun z => Sum.inr.inj z, fun z => by rw [z]⟩
theorem KvR.app : ∀ {l m : List (Str × α)} {kvs ks : List (Key × V)}, KvR enc H l kvs → KvR enc H m ks → KvR enc H (l ++ m) (kvs ++ ks)
  | [], _, kvs, _, h, h2 => by
    have e : kvs = [] := h
    rw [e]
    exact h2
  | p :: l, _, kvs, _, ⟨v, r, e, q, t⟩, h2 => by
    rw [e]
    exact ⟨v, _, rfl, q, KvR.app t h2⟩
theorem KvR.put {x : Str} {a : α} {v : V} {l : List (Str × α)} {kvs : List (Key × V)} (h : KvR enc H l kvs) (q : Rep H (enc a) v) : KvR enc H (putG l x a) (putK kvs (.inr x) v) := by
  unfold putG putK
  rw [h.any]
  by_cases hx : (l.any fun p => decide (p.1 = x)) = true
  · rw [if_pos hx, if_pos hx]
    clear hx
    induction l generalizing kvs with
    | nil =>
      have e : kvs = [] := h
      rw [e]
      rfl
    | cons p l ih =>
      obtain ⟨v0, r, e, q0, t⟩ := h
      rw [e]
      by_cases hp : p.1 = x
      · refine ⟨v, _, ?_, ?_, ih t⟩
        · rw [List.map_cons]
          congr 1
          show (if (Sum.inr p.1 : Key) = .inr x then _ else _) = _
          rw [if_pos (by rw [hp])]
          dsimp only
          rw [if_pos hp]
        · dsimp only
          rw [if_pos hp]
          exact q
      · refine ⟨v0, _, ?_, ?_, ih t⟩
        · rw [List.map_cons]
          congr 1
          show (if (Sum.inr p.1 : Key) = .inr x then _ else _) = _
          rw [if_neg (fun z => hp (Sum.inr.inj z))]
          dsimp only
          rw [if_neg hp]
        · dsimp only
          rw [if_neg hp]
          exact q0
  · rw [if_neg hx, if_neg hx]
    exact KvR.app h ⟨v, [], rfl, q, rfl⟩
theorem ldGet_getG {ld : Ld} {x : Str} : ldGet ld x = (getG ld x).getD 0 := rfl
end
section
variable {F : Fm} {Γ : Env' F} {td ty : TE} {α : Type} {enc : α → D} {l : List (Str × α)} {x : Str} {a : α}
theorem pd_din (h2 : Pd Γ ty (Ev.d F (.str x))) (h1 : Pd Γ td (Ev.d F (dG enc l))) : Pd Γ (tDIn ty td) (Ev.d F (.bl (getG l x).isSome)) := fun σ H Q i g k => h2 σ H _ i g fun y H1 r1 q1 => h1 σ H1 _ r1.1 (g.st i r1) fun v H2 r2 q2 => by
  obtain ⟨b, kvs, e, hb, kr⟩ := rep_g q2
  have ey : y = .str x := q1
  subst ey
  refine ⟨b, _, e, .inl ⟨kvs, .inr x, .inl hb, rfl, rfl⟩, k _ H2 (Fm.trans r1 r2) ?_⟩
  rcases kr.get (x := x) with ⟨z1, z2⟩ | ⟨v, a, z1, z2, _⟩
  · rw [z1, z2]
    rfl
  · rw [z1, z2]
    rfl
theorem pd_dnotin (h2 : Pd Γ ty (Ev.d F (.str x))) (h1 : Pd Γ td (Ev.d F (dG enc l))) : Pd Γ (tDNotIn ty td) (Ev.d F (.bl (!(getG l x).isSome))) := fun σ H Q i g k => h2 σ H _ i g fun y H1 r1 q1 => h1 σ H1 _ r1.1 (g.st i r1) fun v H2 r2 q2 => by
  obtain ⟨b, kvs, e, hb, kr⟩ := rep_g q2
  have ey : y = .str x := q1
  subst ey
  refine ⟨b, _, e, .inl ⟨kvs, .inr x, .inl hb, rfl, rfl⟩, k _ H2 (Fm.trans r1 r2) ?_⟩
  rcases kr.get (x := x) with ⟨z1, z2⟩ | ⟨v, a, z1, z2, _⟩
  · rw [z1, z2]
    rfl
  · rw [z1, z2]
    rfl
theorem pd_dget (h1 : Pd Γ td (Ev.d F (dG enc l))) (h2 : Pd Γ ty (Ev.d F (.str x))) (hg : getG l x = some a) : Pd Γ (tDGet td ty) (Ev.d F (enc a)) := fun σ H Q i g k => h1 σ H _ i g fun v H1 r1 q1 => h2 σ H1 _ r1.1 (g.st i r1) fun y H2 r2 q2 => by
  obtain ⟨b, kvs, e, hb, kr⟩ := rep_g ((Ev.d F (dG enc l)).st r1.1 r2 q1)
  have ey : y = .str x := q2
  subst ey
  rcases kr.get (x := x) with ⟨z1, z2⟩ | ⟨v', a', z1, z2, q⟩
  · rw [hg] at z2
    cases z2
  · rw [hg] at z2
    cases z2
    exact ⟨b, v', e, .inl ⟨kvs, .inr x, .inl hb, rfl, z1.symm⟩, k _ H2 (Fm.trans r1 r2) q⟩
theorem pd_dnew : Pd Γ tDNewK (Ev.d F (.dict [] [])) := fun σ H Q i g k p n => k _ _ (Fm.ofSame i (Same.new n)) ⟨p, [], rfl, upd_same, rfl, rfl⟩
/-- {x: v}, v a scalar -/
theorem pd_disp1 {tk tv : TE} {d : D} {v0 : V} (h1 : Pd Γ tk (Ev.d F (.str x))) (h2 : Pd Γ tv (Ev.d F d)) (hs : sv d = some v0) : Pd Γ (tDisp [(tk, tv)]) (Ev.d F (.dict [x] [d])) := fun σ H Q i g k p n => by
  have s1 : Same H (upd H p (.dK [])) := Same.new n
  have r1 := Fm.ofSame i s1
  refine h1 σ _ _ r1.1 (g.st i r1) fun y H1 r2 q1 => h2 σ H1 _ r2.1 (g.st i (Fm.trans r1 r2)) fun z H2 r3 q2 => ?_
  have ey : y = .str x := q1
  have ez := sv_ok hs q2
  subst ey ez
  have nA := Fm.nA i n
  have hp : H2 p = some (.dK []) := r3.2 _ _ (r2.2 _ _ upd_same nA) nA
  have rr := Fm.trans r1 (Fm.trans r2 r3)
  refine ⟨hp, [(.inr x, z)], rfl, Nat.le_of_ble_eq_true rfl, k _ _ ⟨F.wr rr.1 nA hp (fun _ _ z => nomatch z), fun a o e na => by
    rw [upd_ne (ne_of_none e n)]
    exact rr.2 a o e na⟩ ?_⟩
  refine ⟨p, _, rfl, upd_same, rfl, z, [], rfl, ?_, rfl⟩
  cases d <;> simp only [sv, Option.some.injEq, reduceCtorEq] at hs <;> first | exact hs.symm | exact nomatch hs
theorem p2_dor {e1 : D} (he : e1 = enc a) (hl : l.length < 1000) : Pd2 F rDor (Ev.d F (dG enc l)) (Ev.d F (.dict [x] [e1])) (Ev.d F (dG enc (putG l x a))) := fun u y H Q i r1 r2 k => by
  subst he
  obtain ⟨b, kvs, e, hb, kr⟩ := rep_g r1
  obtain ⟨b2, ks2, e2, hb2, kr2⟩ := rep_g (enc := enc) (l := [(x, a)]) r2
  obtain ⟨v, r, e3, q, t⟩ := kr2
  have e4 : r = [] := t
  subst e4 e3
  have hs := sizeLine_eq
  have := kr.len
  refine ⟨b, b2, kvs, _, e, e2, hb, hb2, by show kvs.length + 1 ≤ sizeLine; omega, fun p n => ?_⟩
  have sm : Same H (upd H p (.dK (mergeK kvs [(.inr x, v)]))) := Same.new n
  exact k _ _ (Fm.ofSame i sm) (rep_gof upd_same (KvR.pr (Same.pr sm) (kr.put q)))
theorem p2_dor0 (hl : l.length < 1000) : Pd2 F rDor (Ev.d F (dG enc l)) (Ev.d F (.dict [] [])) (Ev.d F (dG enc l)) := fun u y H Q i r1 r2 k => by
  obtain ⟨b, kvs, e, hb, kr⟩ := rep_g r1
  obtain ⟨b2, ks2, e2, hb2, h3, h4⟩ := r2
  have e4 : ks2 = [] := by simpa using h3
  subst e4
  have hs := sizeLine_eq
  have := kr.len
  refine ⟨b, b2, kvs, _, e, e2, hb, hb2, by show kvs.length + 0 ≤ sizeLine; omega, fun p n => ?_⟩
  have sm : Same H (upd H p (.dK (mergeK kvs []))) := Same.new n
  exact k _ _ (Fm.ofSame i sm) (rep_gof upd_same (KvR.pr (Same.pr sm) kr))
end
/-! boxes -/
structure Fa where
  st : List Bool
  ld : Ld
  wi : List (Option Nat)
  ct : Nat
abbrev Shelf := List (Str × Fa)
abbrev dFa (f : Fa) : D := .tup [.tup (f.st.map .bl), dLd f.ld, .tup (f.wi.map dO), .int (f.ct : Int)]
abbrev dSh (sh : Shelf) : D := dG dFa sh
abbrev En := Op × Fa × Shelf
abbrev dEn (e : En) : D := .tup [dOp e.1, dFa e.2.1, dSh e.2.2]
structure Sc where
  fa : Fa
  sh : Shelf
  past : List En
  undone : List En
abbrev dSc (S : Sc) : List D := [dFa S.fa, dSh S.sh, .tup (S.past.map dEn), .tup (S.undone.map dEn)]
def Sc.on (S : Sc) (o : Op) (f : Fa) (sh : Shelf) : Sc := ⟨f, sh, S.past ++ [(o, S.fa, S.sh)], []⟩
/-- a box -/
def bxE (c : Ca) (b s : Addr) (P : Pl) (ds : List D) : Ev FS := ⟨fun H v => v = .ref b ∧ ∃ dxb pa, H b = some (.ins c.box dxb [("plan", .ref pa), ("held", .ref s)]) ∧ pa ≠ s ∧ (Ev.pl FS c P).ok H (.ref pa) ∧ (svE c s ds).ok H (.ref s),
  fun i r ⟨e, dxb, pa, h1, ne, h2, h3⟩ => ⟨e, dxb, pa, r.2 _ _ h1 (fun z => z), ne, (Ev.pl FS c P).st i r h2, (svE c s ds).st i r h3⟩⟩
theorem pl_ch {c : Ca} {P : Pl} {s pa : Addr} {H H' : Hp} {o : HO} (k : Ch s H H') (p : Pr H H') (hs : H s = some o) (nx : o ≠ .xd []) (ne : pa ≠ s) (h : (Ev.pl FS c P).ok H (.ref pa)) : (Ev.pl FS c P).ok H' (.ref pa) := by
  obtain ⟨a, dx', vs', t, e, n1, n2, h1, h2, h3, h4⟩ := h
  cases e
  exact ⟨pa, dx', vs', t, rfl, n1, n2, k _ _ h1 ne, k _ _ h2 (fun z => by
    rw [z, hs] at h2
    exact nx (Option.some.inj h2)), h3, Rep.pr p h4⟩
theorem bx_ch {c : Ca} {b s : Addr} {P : Pl} {ds ds' : List D} {H H' : Hp} (k : Ch s H H') (p : Pr H H') (h : (bxE c b s P ds).ok H (.ref b)) (h' : (svE c s ds').ok H' (.ref s)) : (bxE c b s P ds').ok H' (.ref b) := by
  obtain ⟨_, dxb, pa, h1, ne, h2, h3⟩ := h
  obtain ⟨_, dx, vs, h4, _⟩ := id h3
  refine ⟨rfl, dxb, pa, k _ _ h1 (fun z => ?_), ne, pl_ch k p h4 SlX.slO_not ne h2, h'⟩
  rw [z, h4] at h1
  unfold SlX.SlO at h1
  cases h1
section
variable {K : PySem.W.Frag} {Γ : Env' FS} {te ta tv : TE} {t : TA} {c : Ca} {b s : Addr} {P : Pl} {ds : List D} {d : D} {w : World} {mg : Str → Option Value}
theorem pd_plan (T : Tx w K mg c) (h : Pd Γ te (bxE c b s P ds)) : Pd Γ (tFld K te "plan") (Ev.pl FS c P) := fun σ H Q i g k => h σ H _ i g fun v H1 r1 ⟨e, dxb, pa, h1, _, h2, h3⟩ => ⟨b, c.box, dxb, _, .ref pa, e, h1, T.c_Box, T.na_plan, rfl, k _ H1 r1 h2⟩
theorem pd_held (T : Tx w K mg c) (h : Pd Γ te (bxE c b s P ds)) : Pd Γ (tFld K te "held") (svE c s ds) := fun σ H Q i g k => h σ H _ i g fun v H1 r1 ⟨e, dxb, pa, h1, _, h2, h3⟩ => ⟨b, c.box, dxb, _, .ref s, e, h1, T.c_Box, T.na_held, rfl, k _ H1 r1 h3⟩
end
/-- a method of the box that changes its state -/
def SpBox (c : Ca) (R : Pl → Sc → List D → Sc → D → Prop) : Sp := fun vs H Q _ => ∃ (b s : Addr) (P : Pl) (S : Sc) (as : List D) (S' : Sc) (d : D) (ws : List V), vs = .ref b :: ws ∧ R P S as S' d ∧ (bxE c b s P (dSc S)).ok H (.ref b) ∧ Reps H as ws ∧
  ∀ v H', Ch s H H' → Pr H H' → (bxE c b s P (dSc S')).ok H' (.ref b) → Rep H' d v → Q v H'
section
variable {K : PySem.W.Frag} {Γ : Env' FS} {te ta tv : TE} {t : TA} {c : Ca} {b s : Addr} {P : Pl} {S S' : Sc} {as : List D} {d : D} {w : World} {mg : Str → Option Value} {R : Pl → Sc → List D → Sc → D → Prop} {m : Str} {σ : L2.St} {H : Hp} {Q : VK} {u : TS} {DE : Ends} {a : Ev FS}
theorem m_call (ha : Pd Γ ta (bxE c b s P (dSc S))) (h : PdA Γ t (as.map (Ev.d FS))) (hl : ∀ x y : V, List.lookup m [(("plan" : Str), x), (("held" : Str), y)] = none) (r : R P S as S' d) (g : EnvOk H σ Γ)
    (k : ∀ v H', Ch s H H' → Pr H H' → (bxE c b s P (dSc S')).ok H' (.ref b) → Rep H' d v → Q v H') : tMethR c.box m (SpBox c R) E0 ta t σ H Q := by
  refine ha σ H _ trivial g fun x H1 r1 q1 => ?_
  obtain ⟨e, dxb, pa, h1, _⟩ := id q1
  refine ⟨b, dxb, _, e, h1, hl _ _, h σ H1 _ trivial (g.st trivial r1) fun vs H2 r2 q2 => ?_⟩
  subst e
  have sm := Same.trans (FS_same r1) (FS_same r2)
  exact ⟨b, s, P, S, as, S', d, vs, rfl, r, (bxE c b s P (dSc S)).st trivial r2 q1, EvsOk.ds q2, fun v H' c1 p1 b1 q => k v H' (Same.ch sm c1) (Pr.trans (Same.pr sm) p1) b1 q⟩
theorem m_drop (h : Pd Γ te a) (g : EnvOk H σ Γ) (k : ∀ H1, Same H H1 → EnvOk H1 σ Γ → u DE σ H1) : tSeq (tDrop te) u DE σ H := h σ H _ trivial g fun _ H1 r _ => k H1 (FS_same r) (g.st trivial r)
theorem m_set {i : Nat} (h : Pd Γ te a) (g : EnvOk H σ Γ) (k : ∀ v H1, Same H H1 → EnvOk H1 (σ.set i (some v)) (Γ.set i (some a)) → u DE (σ.set i (some v)) H1) : tSeq (tAsg te (gName i)) u DE σ H := h σ H _ trivial g fun v H1 r q => k v H1 (FS_same r) (EnvOk.set (g.st trivial r) q)
theorem m_four {i j l m : Nat} {dt d1 d2 d3 d4 : D} (h : Pd Γ te (Ev.d FS dt)) (ht : TupOf dt = some [d1, d2, d3, d4]) (g : EnvOk H σ Γ) (k : ∀ v1 v2 v3 v4 H1, Same H H1 → EnvOk H1 ((((σ.set i (some v1)).set j (some v2)).set l (some v3)).set m (some v4)) ((((Γ.set i (some (Ev.d FS d1))).set j (some (Ev.d FS d2))).set l (some (Ev.d FS d3))).set m (some (Ev.d FS d4))) → u DE ((((σ.set i (some v1)).set j (some v2)).set l (some v3)).set m (some v4)) H1) :
    tSeq (tAsg te (gTup K 4 (gCons (gName i) (gCons (gName j) (gCons (gName l) (gCons (gName m) gNil)))))) u DE σ H := h σ H _ trivial g fun v H1 r q => by
  obtain ⟨a, xs, e1, ha, q⟩ := Rep.seq q ht K
  obtain ⟨y1, y2, y3, y4, e3, q1, q2, q3, q4⟩ := Reps.four q
  subst e3
  exact ⟨a, _, e1, ha, rfl, y1, _, rfl, y2, _, rfl, y3, _, rfl, y4, _, rfl, rfl, k _ _ _ _ H1 (FS_same r) (EnvOk.set (EnvOk.set (EnvOk.set (EnvOk.set (g.st trivial r) q1) q2) q3) q4)⟩
theorem m_two {i j : Nat} {dt d1 d2 : D} (h : Pd Γ te (Ev.d FS dt)) (ht : TupOf dt = some [d1, d2]) (g : EnvOk H σ Γ) (k : ∀ v1 v2 H1, Same H H1 → EnvOk H1 ((σ.set i (some v1)).set j (some v2)) ((Γ.set i (some (Ev.d FS d1))).set j (some (Ev.d FS d2))) → u DE ((σ.set i (some v1)).set j (some v2)) H1) :
    tSeq (tAsg te (gTup K 2 (gCons (gName i) (gCons (gName j) gNil)))) u DE σ H := h σ H _ trivial g fun v H1 r q => by
  obtain ⟨a, xs, e1, ha, q⟩ := Rep.seq q ht K
  obtain ⟨y1, y2, e3, q1, q2⟩ := Reps.two q
  subst e3
  exact ⟨a, _, e1, ha, rfl, y1, _, rfl, y2, _, rfl, rfl, k _ _ H1 (FS_same r) (EnvOk.set (EnvOk.set (g.st trivial r) q1) q2)⟩
theorem m_skip {cc : TT} {t1 : TS} (h : PdT Γ cc false) (g : EnvOk H σ Γ) (k : ∀ H1, Same H H1 → EnvOk H1 σ Γ → u DE σ H1) : tSeq (tIfS cc t1 tNext) u DE σ H := h σ H _ trivial g fun H1 r => k H1 (FS_same r) (g.st trivial r)
/-- self.held.go_on(o, f, sh) -/
theorem m_go_on {o f sh : D} {d0 d1 d3 : D} {ps : List D} (T : Tx w K mg c) (ha : Pd Γ ta (svE c s [d0, d1, .tup ps, d3])) (h : PdA Γ t [Ev.d FS o, Ev.d FS f, Ev.d FS sh]) (hp : ps.length < 1000) (g : EnvOk H σ Γ)
    (k : ∀ H', Ch s H H' → Pr H H' → (svE c s [f, sh, .tup (ps ++ [.tup [o, d0, d1]]), .tup []]).ok H' (.ref s) → Q .non H') : SlX.tMethSl c.state (Sp_go_on c) E0 ta t σ H Q := by
  refine ha σ H _ trivial g fun x H1 r1 q1 => ?_
  obtain ⟨e, dx, vs, h1, h2, _⟩ := id q1
  refine ⟨s, dx, vs, e, .inr ⟨h1, h2⟩, h σ H1 _ trivial (g.st trivial r1) fun ws H2 r2 ⟨v1, w1, e1, z1, v2, w2, e2, z2, v3, w3, e3, z3, e4⟩ => ?_⟩
  have e4' : w3 = [] := e4
  subst e4' e3 e2 e1 e
  have sm := Same.trans (FS_same r1) (FS_same r2)
  exact ⟨s, d0, d1, d3, ps, o, f, sh, v1, v2, v3, rfl, (svE c s _).st trivial r2 q1, z1, z2, z3, hp, fun H' c1 p1 s1 => k H' (Same.ch sm c1) (Pr.trans (Same.pr sm) p1) s1⟩
end
end Bf
namespace Bf
open PySem PySem.Spec PyProof.Rows L2
theorem dSc_on {S : Sc} {o : Op} {f : Fa} {sh : Shelf} : dSc (S.on o f sh) = [dFa f, dSh sh, .tup (S.past.map dEn ++ [.tup [dOp o, dFa S.fa, dSh S.sh]]), .tup []] := by
  unfold Sc.on
  show [dFa f, dSh sh, D.tup ((S.past ++ [(o, S.fa, S.sh)]).map dEn), D.tup []] = _
  rw [List.map_append]
  rfl
theorem evs_reps {F : Fm} {H : Hp} : ∀ {as : List D} {ws : List V}, Reps H as ws → EvsOk H (as.map (Ev.d F)) ws
  | [], _, h => h
  | _ :: _, _, ⟨v, r, e, q, t⟩ => ⟨v, r, e, q, evs_reps t⟩
def plugLd (ld : Ld) (x : Str) (l : Nat) : Ld := ld.filter (fun p => decide (p.1 ≠ x)) ++ if 0 < l then [(x, l)] else []
def idxOf (P : Pl) (x : Str) : Nat := (P.pts.map (·.1)).idxOf x
/-- one turn of reset -/
def rst1 (P : Pl) (wi : List (Option Nat)) (ld : Ld) (a : List Bool × Nat) (k : Nat) : List Bool × Nat := if isOn a.1 k = true then a else let t := trips P wi (a.1.set k true) ld; (t.1, a.2 + t.2.length)
def resetF (P : Pl) (f : Fa) : Fa := let r := ((List.range P.n).map fun i => P.n - 1 - i).foldl (rst1 P f.wi f.ld) (f.st, f.ct); ⟨r.1, f.ld, f.wi, r.2⟩
/-- what must hold of facts -/
structure FaOk (P : Pl) (f : Fa) : Prop where
  st : f.st.length = P.n
  wi : Wok P f.wi
  ldn : (f.ld.map (·.1)).Nodup
  ldk : ∀ x ∈ f.ld.map (·.1), x ∈ P.pts.map (·.1)
structure ScOk (P : Pl) (S : Sc) : Prop where
  fa : FaOk P S.fa
  sh : ∀ x f, getG S.sh x = some f → FaOk P f
  shl : S.sh.length < 900
  pl : S.past.length < 900
  ul : S.undone.length < 900
/-- what an operation does: the facts, the shelf, the answer -/
def stepO (P : Pl) (f : Fa) (sh : Shelf) : Op → Fa × Shelf × D
  | .flip b => let t := trips P f.wi (f.st.set b (!isOn f.st b)) f.ld; (⟨t.1, f.ld, f.wi, f.ct + t.2.length⟩, sh, .tup (t.2.map dN))
  | .plug x l => let ld := plugLd f.ld x l; let t := trips P f.wi f.st ld; (⟨t.1, ld, f.wi, f.ct + t.2.length⟩, sh, .tup (t.2.map dN))
  | .rewire x o => (⟨f.st, f.ld, f.wi.set (idxOf P x) o, f.ct⟩, sh, dO ((f.wi[idxOf P x]?).getD none))
  | .reset => (resetF P f, sh, .int (ons (resetF P f).st : Nat))
  | .keep x => (f, putG sh x f, .bl (getG sh x).isSome)
  | .fetch x => let g := (getG sh x).getD f; (g, sh, .tup ((lives P g.wi g.st).map .str))
/-- what must hold of an operation -/
def OpOk (P : Pl) (f : Fa) (sh : Shelf) : Op → Prop
  | .flip b => b < P.n
  | .plug x l => x ∈ P.pts.map (·.1) ∧ l ≤ 99
  | .rewire x o => x ∈ P.pts.map (·.1) ∧ (∀ b, o = some b → b < P.n) ∧ Wok P (f.wi.set (idxOf P x) o)
  | .reset => True
  | .keep x => WordOk x
  | .fetch x => (getG sh x).isSome = true
def Sc.step (P : Pl) (S : Sc) (o : Op) : Sc := S.on o (stepO P S.fa S.sh o).1 (stepO P S.fa S.sh o).2.1
inductive R_settle : Pl → Sc → List D → Sc → D → Prop
  | mk (P : Pl) (S : Sc) (o : Op) (st : List Bool) (ld : Ld) (h : P.Ok) (h2 : st.length = P.n) (h3 : Wok P S.fa.wi) (h4 : S.past.length < 900) : R_settle P S [dOp o, .tup (st.map .bl), dLd ld]
      (S.on o ⟨(trips P S.fa.wi st ld).1, ld, S.fa.wi, S.fa.ct + (trips P S.fa.wi st ld).2.length⟩ S.sh) (.tup ((trips P S.fa.wi st ld).2.map dN))
inductive R_flip : Pl → Sc → List D → Sc → D → Prop
  | mk (P : Pl) (S : Sc) (br : Nat) (h : P.Ok) (h2 : ScOk P S) (h3 : OpOk P S.fa S.sh (.flip br)) : R_flip P S [.int (br : Nat)] (S.step P (.flip br)) (stepO P S.fa S.sh (.flip br)).2.2
inductive R_plug : Pl → Sc → List D → Sc → D → Prop
  | mk (P : Pl) (S : Sc) (x : Str) (l : Nat) (h : P.Ok) (h2 : ScOk P S) (h3 : OpOk P S.fa S.sh (.plug x l)) : R_plug P S [.str x, .int (l : Nat)] (S.step P (.plug x l)) (stepO P S.fa S.sh (.plug x l)).2.2
inductive R_rewire : Pl → Sc → List D → Sc → D → Prop
  | mk (P : Pl) (S : Sc) (x : Str) (o : Option Nat) (h : P.Ok) (h2 : ScOk P S) (h3 : OpOk P S.fa S.sh (.rewire x o)) : R_rewire P S [.str x, dO o] (S.step P (.rewire x o)) (stepO P S.fa S.sh (.rewire x o)).2.2
inductive R_reset : Pl → Sc → List D → Sc → D → Prop
  | mk (P : Pl) (S : Sc)  (h : P.Ok) (h2 : ScOk P S) (h3 : OpOk P S.fa S.sh .reset) : R_reset P S [] (S.step P .reset) (stepO P S.fa S.sh .reset).2.2
inductive R_keep_as : Pl → Sc → List D → Sc → D → Prop
  | mk (P : Pl) (S : Sc) (x : Str) (h : P.Ok) (h2 : ScOk P S) (h3 : OpOk P S.fa S.sh (.keep x)) : R_keep_as P S [.str x] (S.step P (.keep x)) (stepO P S.fa S.sh (.keep x)).2.2
inductive R_fetch : Pl → Sc → List D → Sc → D → Prop
  | mk (P : Pl) (S : Sc) (x : Str) (h : P.Ok) (h2 : ScOk P S) (h3 : OpOk P S.fa S.sh (.fetch x)) : R_fetch P S [.str x] (S.step P (.fetch x)) (stepO P S.fa S.sh (.fetch x)).2.2
inductive R_execute : Pl → Sc → List D → Sc → D → Prop
  | mk (P : Pl) (S : Sc) (o : Op) (h : P.Ok) (h2 : ScOk P S) (h3 : OpOk P S.fa S.sh o) : R_execute P S [dOp o] (S.step P o) (stepO P S.fa S.sh o).2.2
section
variable {P : Program} {w : World} {K : PySem.W.Frag} {mg : Str → Option Value} {base : Heap} {c : Ca}
theorem ok_Box_settle (T : Tx w K mg c) : Md P w K mg base c.box "settle" 7 (SpBox c R_settle) := by
  obtain ⟨g, hm, FF⟩ := T.m_Box_settle
  refine ⟨g, hm, fnr_of FF scBox_settle (fun _ _ _ _ _ _ us hu => by obtain ⟨a, b, c, d, rfl⟩ := len4 hu; rfl) (fun vs H Q E h => ?_) (fun cdv A outer s H vs Q E hr h => ⟨_, (pss_cons (ps_asg (SlX.pe_sl (pe_fld (pv 0) rfl)) (pg_tup (by rfl) (pgs_cons (pg_name (i := 4) scBox_settle.nd rfl (Or.inl rfl)) (pgs_cons (pg_name (i := 5) scBox_settle.nd rfl (Or.inl rfl)) (pgs_cons (pg_name (i := 6) scBox_settle.nd rfl (Or.inl rfl)) (pgs_cons (pg_name (i := 7) scBox_settle.nd rfl (Or.inl rfl)) pgs_nil)))))) (pss_cons (ps_asg (pe_cl (ok_trips_in T) hr (by decide) (by rfl) (pa_cons (pe_fld (pv 0) rfl) (pa_cons (pv 6) (pa_cons (pv 2) (pa_cons (pv 3) pa_nil))))) (pg_tup (by rfl) (pgs_cons (pg_name (i := 8) scBox_settle.nd rfl (Or.inl rfl)) (pgs_cons (pg_name (i := 9) scBox_settle.nd rfl (Or.inl rfl)) pgs_nil)))) (pss_cons (ps_expr (pe_ms T.c_State (ok_State_go_on T) hr (by decide) (pe_fld (pv 0) rfl) (pa_cons (pv 1) (pa_cons (pe_tup (pa_cons (pv 8) (pa_cons (pv 3) (pa_cons (pv 6) (pa_cons (pe_op op_add (pv 7) (pe_callB call_len_seq (by rfl) T.n_len (by decide +kernel) (pa_cons (pv 9) pa_nil))) pa_nil))))) (pa_cons (SlX.pe_sl (pe_fld (pv 0) rfl)) pa_nil))))) (pss_one (ps_ret (pv 9)))))), ?_⟩)⟩
  · obtain ⟨b, s, Pl, S, as, S', d, ws, e, r, hb, q, _⟩ := h
    cases r
    rw [e, List.length_cons, q.length]
    rfl
  · obtain ⟨b, s, Pl, S, as, S', d, ws, e, r, hb, q, k⟩ := h
    cases r with
    | mk o st ld h h2 h3 h4 =>
    subst e
    have hz := sizeLine_eq
    have g0 := EnvOk.start (N := NBox_settle) (es := bxE c b s Pl (dSc S) :: [dOp o, .tup (st.map .bl), dLd ld].map (Ev.d FS)) ⟨_, _, rfl, hb, evs_reps q⟩
    refine m_four (pd_slotE (d := dFa S.fa) T T.sl_facts (pd_held T (pd_var (i := 0) rfl)) rfl) rfl g0 fun v1 v2 v3 v4 H1 sm1 g1 => ?_
    refine m_two (pd_cl (pd_cons (pd_plan T (pd_var (i := 0) rfl)) (pd_cons (pd_var (i := 6) rfl) (pd_cons (pd_var (i := 2) rfl) (pd_cons (pd_var (i := 3) rfl) pd_nil)))) (.mk _ Pl S.fa.wi st ld h h2 h3)) rfl g1 fun v5 v6 H2 sm2 g2 => ?_
    obtain ⟨v0, s0, b2⟩ := g2.2 0 (bxE c b s Pl (dSc S)) rfl
    obtain ⟨v9, s9, q9⟩ := g2.2 9 (Ev.d FS (.tup ((trips Pl S.fa.wi st ld).2.map dN))) rfl
    have e0 : v0 = .ref b := b2.1
    subst e0
    refine seq_drop (m_go_on (o := dOp o) (f := dFa ⟨(trips Pl S.fa.wi st ld).1, ld, S.fa.wi, S.fa.ct + (trips Pl S.fa.wi st ld).2.length⟩) (sh := dSh S.sh) (s := s) (d0 := dFa S.fa) (d1 := dSh S.sh) (d3 := .tup (S.undone.map dEn)) (ps := S.past.map dEn) T (pd_held T (pd_var (i := 0) rfl))
      (pd_cons (pd_var (i := 1) rfl) (pd_cons (pd_tup' (ds := [.tup ((trips Pl S.fa.wi st ld).1.map .bl), dLd ld, .tup (S.fa.wi.map dO), .int ((S.fa.ct + (trips Pl S.fa.wi st ld).2.length : Nat) : Int)]) (pd_cons (pd_var (i := 8) rfl) (pd_cons (pd_var (i := 3) rfl) (pd_cons (pd_var (i := 6) rfl) (pd_cons (pd_op' (pd_var (i := 7) rfl) (pd_call' (pd_cons (pd_var (i := 9) rfl) pd_nil) (pc_lenT rfl)) p2_I0i) pd_nil)))) ?_ (by show 4 ≤ sizeLine; omega)) (pd_cons (pd_slotE (d := dSh S.sh) T T.sl_shelf (pd_held T (pd_var (i := 0) rfl)) rfl) pd_nil))) (by simp; omega) g2 fun H3 c3 p3 s3 => ?_)
    · show [Ev.d FS (.tup ((trips Pl S.fa.wi st ld).1.map .bl)), Ev.d FS (dLd ld), Ev.d FS (.tup (S.fa.wi.map dO)), Ev.d FS (.int ((S.fa.ct : Int) + (((trips Pl S.fa.wi st ld).2.map dN).length : Nat)))] = _
      rw [List.length_map]
      simp
    · refine ⟨v9, s9, ?_⟩
      have sm := Same.trans sm1 sm2
      refine k v9 H3 (Same.ch sm c3) (Pr.trans (Same.pr sm) p3) (bx_ch c3 p3 b2 ?_) (Rep.pr p3 q9)
      rw [dSc_on]
      exact s3
theorem ok_Box_flip (T : Tx w K mg c) : Md P w K mg base c.box "flip" 8 (SpBox c R_flip) := by
  obtain ⟨g, hm, FF⟩ := T.m_Box_flip
  refine ⟨g, hm, fnr_of FF scBox_flip (fun _ _ _ _ _ _ us hu => by obtain ⟨a, b, rfl⟩ := len2 hu; rfl) (fun vs H Q E h => ?_) (fun cdv A outer s H vs Q E hr h => ⟨_, (pss_cons (ps_expr (pe_cl (ok_check_breaker T) hr (by decide) (by rfl) (pa_cons (pe_fld (pv 0) rfl) (pa_cons (pv 1) pa_nil)))) (pss_cons (ps_asg (SlX.pe_sl (pe_fld (pv 0) rfl)) (pg_tup (by rfl) (pgs_cons (pg_name (i := 2) scBox_flip.nd rfl (Or.inl rfl)) (pgs_cons (pg_name (i := 3) scBox_flip.nd rfl (Or.inl rfl)) (pgs_cons (pg_name (i := 4) scBox_flip.nd rfl (Or.inl rfl)) (pgs_cons (pg_name (i := 5) scBox_flip.nd rfl (Or.inl rfl)) pgs_nil)))))) (pss_one (ps_ret (pe_mdm T.c_Box (ok_Box_settle T) hr (by decide) (pv 0) (pa_cons (pe_tup (pa_cons pe_str (pa_cons (pv 1) pa_nil))) (pa_cons (pe_cl (ok_switched T) hr (by decide) (by rfl) (pa_cons (pv 2) (pa_cons (pv 1) pa_nil))) (pa_cons (pv 3) pa_nil)))))))), ?_⟩)⟩
  · obtain ⟨b, s, Pl, S, as, S', d, ws, e, r, hb, q, _⟩ := h
    cases r
    rw [e, List.length_cons, q.length]
    rfl
  · obtain ⟨b, s, Pl, S, as, S', d, ws, e, r, hb, q, k⟩ := h
    cases r with
    | mk br h h2 h3 =>
    subst e
    have hlt : br < Pl.n := h3
    have g0 := EnvOk.start (N := NBox_flip) (es := bxE c b s Pl (dSc S) :: [D.int (br : Nat)].map (Ev.d FS)) ⟨_, _, rfl, hb, evs_reps q⟩
    refine m_drop (pd_cl (pd_cons (pd_plan T (pd_var (i := 0) rfl)) (pd_cons (pd_var (i := 1) rfl) pd_nil)) (.mk _ Pl br h hlt)) g0 fun H1 sm1 g1 => ?_
    refine m_four (pd_slotE (d := dFa S.fa) T T.sl_facts (pd_held T (pd_var (i := 0) rfl)) rfl) rfl g1 fun v1 v2 v3 v4 H2 sm2 g2 => ?_
    have hst := h2.fa.st
    have hn5 := h.n5
    have hnn : Pl.n = Pl.rates.length := rfl
    refine m_call (as := [dOp (.flip br), .tup ((S.fa.st.set br (!isOn S.fa.st br)).map .bl), dLd S.fa.ld]) (pd_var (i := 0) rfl) (pd_cons (pd_tup' (ds := [.str "flip", .int (br : Nat)]) (pd_cons pd_str (pd_cons (pd_var (i := 1) rfl) pd_nil)) rfl (by show 2 ≤ sizeLine; decide)) (pd_cons (pd_cl (pd_cons (pd_var (i := 2) rfl) (pd_cons (pd_var (i := 1) rfl) pd_nil)) (.mk _ S.fa.st br (by omega) (by omega))) (pd_cons (pd_var (i := 3) rfl) pd_nil))) (fun _ _ => rfl) (.mk Pl S (.flip br) _ _ h (by rw [List.length_set]; exact hst) h2.fa.wi h2.pl) g2 fun v H' c1 p1 b1 q1 => ?_
    have sm := Same.trans sm1 sm2
    exact k v H' (Same.ch sm c1) (Pr.trans (Same.pr sm) p1) b1 q1
end
end Bf
namespace Bf
open PySem PySem.Spec PyProof.Rows L2
theorem kvL_take {ld : Ld} {i : Nat} (h : i < ld.length) : (kvL ld)[i]? = some (.inr ld[i].1, .int (ld[i].2 : Int)) := by simp [kvL, h]
/-- r = {k: d[k] for k in d if k != x} -/
theorem lock_filter {σ : L2.St} {H : Hp} {DE : Ends} {jl jo jr jn : Nat} {ld : Ld} {d : Addr} {x : Str} (hs : σ[jl]? = some (some (.ref d))) (hd : H d = some (.dK (kvL ld))) (hx : σ[jn]? = some (some (.str x))) (hnd : (ld.map (·.1)).Nodup) (hl : ld.length < 1000)
    (n1 : jl ≠ jo) (n2 : jn ≠ jo) (hjo : jo < σ.length) (k : ∀ p, H p = none → DE.nx (σ.set jr (some (.ref p))) (upd H p (.dK (kvL (ld.filter fun q => decide (q.1 ≠ x)))))) :
    tLock (tAsg (tDc (iKeys (tVar jl)) (gName jo) (tTest (tOp rNe (tVar jo) (tVar jn))) (tVar jo) (tDGet (tVar jl) (tVar jo)) [jo]) (gName jr)) DE σ H := by
  have hz := sizeLine_eq
  refine ⟨d, .dK (kvL ld), hd, trivial, fun od => ?_⟩
  refine ⟨.ref d, hs, d, od, rfl, .inl ⟨kvL ld, upd_same, fun D0 n0 => ?_⟩⟩
  have neD : D0 ≠ d := fun z => by
    rw [z, upd_same] at n0
    cases n0
  have nH : H D0 = none := by
    rw [upd_ne neD] at n0
    exact n0
  have lk : (kvL ld).length = ld.length := by simp [kvL]
  refine ⟨fun i m H' => m = ld.length - i ∧ i ≤ ld.length ∧ H' = upd (upd H d (.frz od (.dK (kvL ld)))) D0 (.dK (kvL ((ld.take i).filter fun q => decide (q.1 ≠ x)))), ⟨_, rfl, Nat.zero_le _, rfl⟩, ?_⟩
  rintro i m H' ⟨rfl, hi, rfl⟩
  have hfr : upd (upd H d (.frz od (.dK (kvL ld)))) D0 (.dK (kvL ((ld.take i).filter fun q => decide (q.1 ≠ x)))) d = some (.frz od (.dK (kvL ld))) := by rw [upd_ne (Ne.symm neD), upd_same]
  by_cases hlt : i < ld.length
  · refine .inr ⟨⟨hfr, by rw [lk]; exact hlt⟩, fun H' => H' = upd (upd H d (.frz od (.dK (kvL ld)))) D0 (.dK (kvL ((ld.take (i + 1)).filter fun q => decide (q.1 ≠ x)))), fun H' e => ⟨ld.length - (i + 1), by omega, rfl, hlt, e⟩, ?_⟩
    rintro y H'' ⟨e, kk, v, hkv, ey⟩
    subst e
    rw [kvL_take hlt] at hkv
    cases hkv
    have tk : ld.take (i + 1) = ld.take i ++ [ld[i]] := by rw [List.take_succ, List.getElem?_eq_getElem hlt]; rfl
    have hwl : (L2.wipe σ [jo]).length = σ.length := by simp [L2.wipe]
    have v1 : ((L2.wipe σ [jo]).set jo (some y))[jo]? = some (some y) := List.getElem?_set_self (by rw [hwl]; exact hjo)
    have v2 : ((L2.wipe σ [jo]).set jo (some y))[jn]? = some (some (.str x)) := by
      rw [List.getElem?_set_ne (Ne.symm n2)]
      show (σ.set jo none)[jn]? = _
      rw [List.getElem?_set_ne (Ne.symm n2)]
      exact hx
    have v3 : ((L2.wipe σ [jo]).set jo (some y))[jl]? = some (some (.ref d)) := by
      rw [List.getElem?_set_ne (Ne.symm n1)]
      show (σ.set jo none)[jl]? = _
      rw [List.getElem?_set_ne (Ne.symm n1)]
      exact hs
    have ey' : y = .str ld[i].1 := ey
    refine ⟨(wipe_set (List.mem_cons_self)).trans wipe_wipe, ?_⟩
    refine ⟨y, v1, .str x, v2, ?_, ?_⟩
    · rw [ey']
      rfl
    · refine ⟨_, rfl, ?_⟩
      by_cases hq : ld[i].1 = x
      · have e1 : (!decide (y = V.str x)) = false := by rw [ey', hq]; simp
        rw [e1]
        dsimp only
        rw [if_neg Bool.false_ne_true, tk, List.filter_append]
        have e2 : [ld[i]].filter (fun q => decide (q.1 ≠ x)) = [] := by simp [hq]
        rw [e2, List.append_nil]
      · have e1 : (!decide (y = V.str x)) = true := by
          rw [ey']
          have : ¬ V.str ld[i].1 = V.str x := fun z => hq (V.str.inj z)
          rw [decide_eq_false this]
          rfl
        rw [e1]
        dsimp only
        rw [if_pos rfl]
        refine ⟨y, v1, .ref d, v3, y, v1, d, .int (ld[i].2 : Int), rfl, .inl ⟨kvL ld, .inr ld[i].1, .inr ⟨od, hfr⟩, ey', ?_⟩, ?_⟩
        · rw [valV_kvL]
          have : ld.find? (fun p => decide (p.1 = ld[i].1)) = some ld[i] := by
            cases hf : ld.find? (fun p => decide (p.1 = ld[i].1)) with
            | none =>
              have := List.find?_eq_none.mp hf ld[i] (List.getElem_mem hlt)
              simp at this
            | some q =>
              have h1 := List.find?_some hf
              have h2 := List.mem_of_find?_eq_some hf
              obtain ⟨j, hj, hq2⟩ := List.getElem_of_mem h2
              have h1' : q.1 = ld[i].1 := of_decide_eq_true h1
              have hij : j = i := by
                have np := List.pairwise_iff_getElem.mp hnd
                rcases Nat.lt_trichotomy j i with z | z | z
                · have := np j i (by simpa using hj) (by simpa using hlt) z
                  simp only [List.getElem_map] at this
                  rw [hq2] at this
                  exact absurd h1' this
                · exact z
                · have := np i j (by simpa using hlt) (by simpa using hj) z
                  simp only [List.getElem_map] at this
                  rw [hq2] at this
                  exact absurd h1'.symm this
              subst hij
              rw [hq2]
          rw [this]
          rfl
        · refine ⟨kvL ((ld.take i).filter fun q => decide (q.1 ≠ x)), .inr ld[i].1, ey', upd_same, ?_, ?_⟩
          · have : (kvL ((ld.take i).filter fun q => decide (q.1 ≠ x))).length ≤ ld.length := by
              unfold kvL
              rw [List.length_map]
              exact Nat.le_trans (List.length_filter_le _ _) (by rw [List.length_take]; exact Nat.min_le_right _ _)
            omega
          · rw [upd_upd, tk, List.filter_append]
            have e2 : [ld[i]].filter (fun q => decide (q.1 ≠ x)) = [ld[i]] := by simp [hq]
            rw [e2]
            have e3 : putK (kvL ((ld.take i).filter fun q => decide (q.1 ≠ x))) (.inr ld[i].1) (.int (ld[i].2 : Int)) = kvL ((ld.take i).filter (fun q => decide (q.1 ≠ x)) ++ [ld[i]]) := by
              unfold putK
              rw [if_neg]
              · unfold kvL
                rw [List.map_append]
                rfl
              · intro z
                obtain ⟨kv, hm, hk⟩ := List.any_eq_true.mp z
                have hk' := of_decide_eq_true hk
                obtain ⟨q, hq2, eq⟩ := List.mem_map.mp hm
                have hq3 := (List.mem_filter.mp hq2).1
                obtain ⟨j, hj, hq4⟩ := List.mem_take_iff_getElem.mp hq3
                rw [← eq] at hk'
                have hk2 : q.1 = ld[i].1 := Sum.inr.inj hk'
                have np := List.pairwise_iff_getElem.mp hnd
                have := np j i (by simp; omega) (by simpa using hlt) (by omega)
                simp only [List.getElem_map] at this
                rw [hq4] at this
                exact this hk2
            rw [e3]
  · have e : i = ld.length := by omega
    subst e
    refine .inl ⟨⟨hfr, by rw [lk]; exact Nat.le_refl _⟩, hfr, ?_⟩
    rw [List.take_of_length_le (Nat.le_refl _)]
    have eh : upd (upd (upd H d (.frz od (.dK (kvL ld)))) D0 (.dK (kvL (ld.filter fun q => decide (q.1 ≠ x))))) d (.dK (kvL ld)) = upd H D0 (.dK (kvL (ld.filter fun q => decide (q.1 ≠ x)))) := by
      funext a
      by_cases h1 : a = d
      · rw [h1, upd_same, upd_ne (Ne.symm neD), hd]
      · rw [upd_ne h1]
        by_cases h2 : a = D0
        · rw [h2, upd_same, upd_same]
        · rw [upd_ne h2, upd_ne h1, upd_ne h2]
    rw [eh]
    exact k D0 nH
end Bf
namespace Bf
open PySem PySem.Spec PyProof.Rows L2
theorem putG_new {α : Type} {l : List (Str × α)} {x : Str} {a : α} (h : x ∉ l.map (·.1)) : putG l x a = l ++ [(x, a)] := by
  unfold putG
  rw [if_neg]
  intro z
  obtain ⟨p, hp, e⟩ := List.any_eq_true.mp z
  exact h (List.mem_map.mpr ⟨p, hp, of_decide_eq_true e⟩)
theorem not_mem_filter {ld : Ld} {x : Str} : x ∉ (ld.filter fun q => decide (q.1 ≠ x)).map (·.1) := fun h => by
  obtain ⟨p, hp, e⟩ := List.mem_map.mp h
  have := of_decide_eq_true (List.mem_filter.mp hp).2
  exact this e
/-- an answer that never comes -/
def Ev.no (F : Fm) : Ev F := ⟨fun _ _ => False, fun _ _ h => h⟩
section
variable {F : Fm} {K : PySem.W.Frag} {Γ Γ' : Env' F} {to te : TE} {ys : List Str} {z : Str} {e a : Ev F}
theorem pd_index (h1 : Pd Γ to (Ev.d F (.tupz (ys.map .str)))) (h2 : Pd Γ te (Ev.d F (.str z))) (hz : z ∈ ys) :
    Pd Γ (tTM (fun x xs H Q => ∃ p, ∃ ys : List Str, ∃ z j, x = .ref p ∧ xs = [.str z] ∧ SqT K H p (ys.map V.str) ∧ ys[j]? = some z ∧ (∀ m, m < j → ys[m]? ≠ some z) ∧ Q (.int (j : Nat)) H) to (tCons te tNil)) (Ev.d F (.int (ys.idxOf z : Nat))) :=
  fun σ H Q i g k => h1 σ H _ i g fun x H1 r1 q1 => by
    obtain ⟨b, o, xs, e, hb, fz, q⟩ := id q1
    refine ⟨⟨b, o, xs, e, hb, fz⟩, h2 σ H1 _ r1.1 (g.st i r1) fun y H2 r2 q2 => ?_⟩
    obtain ⟨b', o', xs', e', hb', fz', q'⟩ := (Ev.d F (.tupz (ys.map .str))).st r1.1 r2 q1
    rw [e] at e'
    cases e'
    have ey : y = .str z := q2
    subst ey
    cases Reps.strs q'
    have hlt := List.idxOf_lt_length_of_mem hz
    refine ⟨b, ys, z, ys.idxOf z, e, rfl, .inl (.inr ⟨o', hb'⟩), ?_, fun m hm hmz => ?_, k _ H2 (Fm.trans r1 r2) rfl⟩
    · rw [List.getElem?_eq_getElem hlt, List.getElem_idxOf]
    · obtain ⟨hm2, hm3⟩ := List.getElem?_eq_some_iff.mp hmz
      have := List.not_of_lt_findIdx (p := fun y => y == z) (xs := ys) (i := m) (by
        have : ys.idxOf z = ys.findIdx (fun y => y == z) := rfl
        rw [← this]
        exact hm)
      rw [hm3] at this
      simp at this
theorem pdb_aug {i : Nat} {m n : Int} (h0 : Γ[i]? = some (some (Ev.d F (.int m)))) (h : Pd Γ te (Ev.d F (.int n))) : Pdb Γ (tAug i te (rI0 fun i j => .int (i + j))) (Γ.set i (some (Ev.d F (.int (m + n))))) e := fun σ H DE i0 g k1 k2 => by
  obtain ⟨x, hx, qx⟩ := g.2 i _ h0
  refine ⟨x, hx, h σ H _ i0 g fun y H1 r1 q1 => ?_⟩
  have ex : x = .int m := qx
  have ey : y = .int n := q1
  subst ex ey
  exact ⟨m, n, rfl, rfl, k2 _ H1 r1 (EnvOk.set (g.st i0 r1) rfl)⟩
end
section
variable {Γ : Env' FS} {σ : L2.St} {H : Hp} {DE : Ends} {tb u : TS} {wi : TI} {ds : List D} {cc : TT} {t1 : TS}
/-- a loop over data, then the rest -/
theorem m_for {S : Type} {Γf : S → Env' FS} {j : Nat} (hi : PdI FS Γ wi ds) (Inv : Nat → S → Prop) (s0 : S) (e0 : Γ = Γf s0) (i0 : Inv 0 s0) (g : EnvOk H σ Γ)
    (hs : ∀ i s d, ds[i]? = some d → Inv i s → ∃ s', Inv (i + 1) s' ∧ Pdb ((Γf s).set j (some (Ev.d FS d))) tb (Γf s') (Ev.no FS))
    (hd : ∀ σ' H' s, Same H H' → EnvOk H' σ' (Γf s) → Inv ds.length s → u DE σ' H') : tSeq (tFor wi (gName j) tb) u DE σ H := by
  refine hi σ H _ trivial g fun J H1 r1 w => ?_
  have g1 := g.st trivial r1
  subst e0
  refine L2.for_it w (fun i σ' H' => FS.R H1 H' ∧ ∃ s, Inv i s ∧ EnvOk H' σ' (Γf s)) ⟨FS.refl trivial, s0, i0, g1⟩ (fun i σ' H' _ z => z.1) (fun i x σ' H' H2 hlt ⟨rr, s, is, gg⟩ y => ?_) fun σ' H' ⟨rr, s, is, gg⟩ => ?_
  · obtain ⟨sm, d, hd0, rx⟩ := y
    have r2 : FS.R H' H2 := Fm.ofSame trivial sm
    have g2 := EnvOk.set (i := j) (e := Ev.d FS d) (gg.st trivial r2) rx
    obtain ⟨s', is', hb⟩ := hs i s d hd0 is
    exact hb _ H2 _ trivial g2 (fun v H' r3 z => z.elim) fun σ3 H3 r3 z => ⟨Fm.trans rr (Fm.trans r2 r3), s', is', z⟩
  · exact hd σ' H' s (Same.trans (FS_same r1) (FS_same rr)) gg is
theorem m_if {x : Bool} {t2 : TS} (h : PdT Γ cc x) (g : EnvOk H σ Γ) (k1 : ∀ H1, x = true → Same H H1 → EnvOk H1 σ Γ → tSeq t1 u DE σ H1) (k2 : ∀ H1, x = false → Same H H1 → EnvOk H1 σ Γ → tSeq t2 u DE σ H1) : tSeq (tIfS cc t1 t2) u DE σ H := h σ H _ trivial g fun H1 r => by
  cases x with
  | true => exact k1 H1 rfl (FS_same r) (g.st trivial r)
  | false => exact k2 H1 rfl (FS_same r) (g.st trivial r)
end
section
variable {P : Program} {w : World} {K : PySem.W.Frag} {mg : Str → Option Value} {base : Heap} {c : Ca}
theorem ok_Box_plug (T : Tx w K mg c) : Md P w K mg base c.box "plug" 8 (SpBox c R_plug) := by
  obtain ⟨g, hm, FF⟩ := T.m_Box_plug
  refine ⟨g, hm, fnr_of FF scBox_plug (fun _ _ _ _ _ _ us hu => by obtain ⟨a, b, c, rfl⟩ := len3 hu; rfl) (fun vs H Q E h => ?_) (fun cdv A outer s H vs Q E hr h => ⟨_, (pss_cons (ps_expr (pe_cl (ok_check_name T) hr (by decide) (by rfl) (pa_cons (pe_fld (pv 0) rfl) (pa_cons (pv 1) pa_nil)))) (pss_cons (ps_if (pt_not (pt_val (pe_cl (ok_is_number T) hr (by decide) (by rfl) (pa_cons (pv 2) (pa_cons pe_int (pa_cons (pe_gi (by rfl) T.g_MAX_LOAD) pa_nil)))))) pss_never pss_nil) (pss_cons (ps_asg (SlX.pe_sl (pe_fld (pv 0) rfl)) (pg_tup (by rfl) (pgs_cons (pg_name (i := 3) scBox_plug.nd rfl (Or.inl rfl)) (pgs_cons (pg_name (i := 4) scBox_plug.nd rfl (Or.inr rfl)) (pgs_cons (pg_name (i := 5) scBox_plug.nd rfl (Or.inl rfl)) (pgs_cons (pg_name (i := 6) scBox_plug.nd rfl (Or.inl rfl)) pgs_nil)))))) (pss_cons (ps_lock (ps_setDcD (i := 7) (own := [("other", 8)]) (by rfl) scBox_plug.nd rfl rfl (sw_trueD rfl rfl rfl (by decide +kernel)) (pi_keys (pv 4)) (blkOk_by (own := [("other", 8)]) (N := NBox_plug) (sc := defScope sBox_plug) (by decide +kernel)) (fun _ _ _ _ _ => (pg_name (i := 8) scBox_plug.nd rfl (Or.inl rfl))) (fun _ _ _ _ _ => (pts_one (pt_cmpR op_ne (pv 8) (pv 1) (nomark _)))) (fun _ _ _ _ _ => (pv 8)) (fun _ _ _ _ _ => (pe_dget (hu_of hr) (pv 4) (pv 8) (fun _ _ => rfl))))) (pss_one (ps_ret (pe_mdm T.c_Box (ok_Box_settle T) hr (by decide) (pv 0) (pa_cons (pe_tup (pa_cons pe_str (pa_cons (pv 1) (pa_cons (pv 2) pa_nil)))) (pa_cons (pv 3) (pa_cons (pe_op op_dor (pv 7) (pe_ifExp (pt_cmpR op_gt (pv 2) pe_int (nomark _)) (pe_disp (pps_cons (pv 1) (pv 2) pps_nil) (by rfl) (by rfl) (fun z => by cases z) (by decide)) pe_dnewK)) pa_nil)))))))))), ?_⟩)⟩
  · obtain ⟨b, s, Pl, S, as, S', d, ws, e, r, hb, q, _⟩ := h
    cases r
    rw [e, List.length_cons, q.length]
    rfl
  · obtain ⟨b, s, Pl, S, as, S', d, ws, e, r, hb, q, k⟩ := h
    cases r with
    | mk x l h h2 h3 =>
    subst e
    obtain ⟨hx, hl⟩ := h3
    have g0 := EnvOk.start (N := NBox_plug) (es := bxE c b s Pl (dSc S) :: [D.str x, D.int (l : Nat)].map (Ev.d FS)) ⟨_, _, rfl, hb, evs_reps q⟩
    refine m_drop (pd_cl (pd_cons (pd_plan T (pd_var (i := 0) rfl)) (pd_cons (pd_var (i := 1) rfl) pd_nil)) (.mk _ Pl x h hx)) g0 fun H1 sm1 g1 => ?_
    refine m_skip (pdt_eq (pdt_not (pdt_val (pd_cl (pd_cons (pd_var (i := 2) rfl) (pd_cons pd_int (pd_cons pd_int pd_nil))) (.mk _ _ _ _)))) ?_) g1 fun H2 sm2 g2 => ?_
    · rw [decide_eq_true (by omega), decide_eq_true (by omega)]
      rfl
    refine m_four (pd_slotE (d := dFa S.fa) T T.sl_facts (pd_held T (pd_var (i := 0) rfl)) rfl) rfl g2 fun v1 v2 v3 v4 H3 sm3 g3 => ?_
    obtain ⟨u4, s4, q4⟩ := g3.2 4 (Ev.d FS (dLd S.fa.ld)) rfl
    obtain ⟨u1, s1, q1⟩ := g3.2 1 (Ev.d FS (.str x)) rfl
    obtain ⟨dd, e4, hd⟩ := rep_ld q4
    have e1 : u1 = .str x := q1
    subst e4 e1
    have hp5 := h.p5
    have hll : S.fa.ld.length < 1000 := by
      have nd := h2.fa.ldn
      have sub := h2.fa.ldk
      have : S.fa.ld.length ≤ Pl.pts.length := by
        have := List.Nodup.length_le_of_subset nd (show S.fa.ld.map (·.1) ⊆ Pl.pts.map (·.1) from sub)
        simpa using this
      omega
    refine lock_filter (jo := 8) (ld := S.fa.ld) (d := dd) (x := x) s4 hd s1 h2.fa.ldn hll (by decide) (by decide) (by have := g3.1; rw [this]; exact (by decide : 8 < 9)) fun p np => ?_
    have sm4 : Same H3 (upd H3 p (.dK (kvL (S.fa.ld.filter fun q => decide (q.1 ≠ x))))) := Same.new np
    have g4 := EnvOk.set (i := 7) (e := Ev.d FS (dLd (S.fa.ld.filter fun q => decide (q.1 ≠ x)))) (g3.st trivial (Fm.ofSame trivial sm4)) (rep_ld_of upd_same)
    generalize upd H3 p (.dK (kvL (S.fa.ld.filter fun q => decide (q.1 ≠ x)))) = H4 at sm4 g4 ⊢
    have hfl : (S.fa.ld.filter fun q => decide (q.1 ≠ x)).length < 1000 := Nat.lt_of_le_of_lt (List.length_filter_le _ _) hll
    refine m_call (as := [dOp (.plug x l), .tup (S.fa.st.map .bl), dLd (plugLd S.fa.ld x l)]) (pd_var (i := 0) rfl) (pd_cons (pd_tup' (ds := [.str "plug", .str x, .int (l : Nat)]) (pd_cons pd_str (pd_cons (pd_var (i := 1) rfl) (pd_cons (pd_var (i := 2) rfl) pd_nil))) rfl (by show 3 ≤ sizeLine; decide)) (pd_cons (pd_var (i := 3) rfl) (pd_cons ?_ pd_nil))) (fun _ _ => rfl) (.mk Pl S (.plug x l) _ _ h h2.fa.st h2.fa.wi h2.pl) g4 fun v H' c1 p1 b1 q1 => ?_
    · by_cases hl0 : 0 < l
      · have e : plugLd S.fa.ld x l = putG (S.fa.ld.filter fun q => decide (q.1 ≠ x)) x l := by
          rw [putG_new not_mem_filter]
          unfold plugLd
          rw [if_pos hl0]
        rw [e]
        exact pd_op' (pd_var (i := 7) rfl) (pd_if (x := decide ((l : Int) > 0)) (pdt_test (pd_op' (pd_var (i := 2) rfl) pd_int p2_I0b)) (fun _ => pd_disp1 (d := .int (l : Nat)) (pd_var (i := 1) rfl) (pd_var (i := 2) rfl) rfl) (fun z => by
          rw [decide_eq_true (by omega)] at z
          cases z)) (p2_dor (enc := fun n : Nat => D.int (n : Int)) rfl hfl)
      · have e : plugLd S.fa.ld x l = S.fa.ld.filter fun q => decide (q.1 ≠ x) := by
          unfold plugLd
          rw [if_neg hl0, List.append_nil]
        rw [e]
        exact pd_op' (pd_var (i := 7) rfl) (pd_if (x := decide ((l : Int) > 0)) (pdt_test (pd_op' (pd_var (i := 2) rfl) pd_int p2_I0b)) (fun z => by
          rw [decide_eq_false (by omega)] at z
          cases z) (fun _ => pd_dnew)) (p2_dor0 (enc := fun n : Nat => D.int (n : Int)) hfl)
    · have sm := Same.trans sm1 (Same.trans sm2 (Same.trans sm3 sm4))
      exact k v H' (Same.ch sm c1) (Pr.trans (Same.pr sm) p1) b1 q1
end
end Bf
namespace Bf
open PySem PySem.Spec PyProof.Rows L2
theorem names_get {P : Pl} (h : P.Ok) {x : Str} (hx : x ∈ P.pts.map (·.1)) : idxOf P x < P.pts.length := by
  have := List.idxOf_lt_length_of_mem hx
  unfold idxOf
  simpa using this
theorem m_ifd {Γ : Env' FS} {σ : L2.St} {H : Hp} {DE : Ends} {u : TS} {cc : TT} {te : TE} {a : Ev FS} {x : Bool} (h : PdT Γ cc x) (ht : x = true → Pd Γ te a) (g : EnvOk H σ Γ) (k : ∀ H1, Same H H1 → EnvOk H1 σ Γ → u DE σ H1) : tSeq (tIfS cc (tDrop te) tNext) u DE σ H := h σ H _ trivial g fun H1 r => by
  cases x with
  | true => exact ht rfl σ H1 _ trivial (g.st trivial r) fun _ H2 r2 _ => k H2 (Same.trans (FS_same r) (FS_same r2)) (g.st trivial (Fm.trans r r2))
  | false => exact k H1 (FS_same r) (g.st trivial r)
theorem m_ret {Γ : Env' FS} {σ : L2.St} {H : Hp} {DE : Ends} {te : TE} {a : Ev FS} (h : Pd Γ te a) (g : EnvOk H σ Γ) (k : ∀ v H1, Same H H1 → a.ok H1 v → DE.rt v H1) : tRet te DE σ H := h σ H _ trivial g fun v H1 r q => k v H1 (FS_same r) q
/-- the data of an environment past a change of the state -/
theorem cp_d {H H' : Hp} {d : D} (p : Pr H H') : ∀ v, (Ev.d FS d).ok H v → (Ev.d FS d).ok H' v := fun _ h => Rep.pr p h
/-- a property of a box -/
def SpProp (c : Ca) (R : Pl → List D → Ev FS → Prop) : Sp := fun vs H Q _ => ∃ (b s : Addr) (P : Pl) (ds : List D) (e : Ev FS), vs = [.ref b] ∧ R P ds e ∧ (bxE c b s P ds).ok H (.ref b) ∧ ∀ v H', Same H H' → e.ok H' v → Q v H'
inductive Rp_state : Pl → List D → Ev FS → Prop
  | mk (P : Pl) (f : Fa) (d1 d2 d3 : D) : Rp_state P [dFa f, d1, d2, d3] (Ev.d FS (.tup (f.st.map .bl)))
inductive Rp_fed : Pl → List D → Ev FS → Prop
  | mk (P : Pl) (f : Fa) (d1 d2 d3 : D) : Rp_fed P [dFa f, d1, d2, d3] (Ev.d FS (.tup (f.wi.map dO)))
inductive Rp_trip : Pl → List D → Ev FS → Prop
  | mk (P : Pl) (f : Fa) (d1 d2 d3 : D) : Rp_trip P [dFa f, d1, d2, d3] (Ev.d FS (.int (f.ct : Int)))
section
variable {Γ : Env' FS} {te : TE} {c : Ca} {b s : Addr} {P : Pl} {ds : List D} {e : Ev FS} {R : Pl → List D → Ev FS → Prop}
theorem pd_prop (h : Pd Γ te (bxE c b s P ds)) (r : R P ds e) : Pd Γ (tProp c.box (SpProp c R) [] E0 te) e := fun σ H Q i g k => h σ H _ i g fun v H1 r1 q1 => by
  obtain ⟨e1, dxb, pa, h1, _⟩ := id q1
  subst e1
  exact ⟨b, dxb, _, rfl, h1, b, s, P, ds, e, rfl, r, q1, fun v H' sm q => k v H' (Fm.trans r1 (Fm.ofSame trivial sm)) q⟩
end
section
variable {P : Program} {w : World} {K : PySem.W.Frag} {mg : Str → Option Value} {base : Heap} {c : Ca}
theorem ok_b_state_now (T : Tx w K mg c) : Pp P w K mg base c.box "state_now" 1 (SpProp c Rp_state) := by
  obtain ⟨p, g, hp, FF⟩ := T.p_Box_state_now
  refine ⟨p, g, hp, fnr_of FF scBox_state_now (fun _ _ _ _ _ _ us hu => by obtain ⟨a, rfl⟩ := len1 hu; rfl) (fun vs H Q E h => ?_) (fun cdv A outer s H vs Q E hr h => ⟨_, (pss_one (ps_ret (pe_ix ix_tup (SlX.pe_sl (pe_fld (pv 0) rfl)) pe_int (fun _ _ => rfl)))), ?_⟩)⟩
  · obtain ⟨b, s, Pl, ds, e, ev, r, hb, k⟩ := h
    rw [ev]
    rfl
  · obtain ⟨b, s, Pl, ds, e, ev, r, hb, k⟩ := h
    cases r with
    | mk f d1 d2 d3 =>
    subst ev
    exact (pd_op' (pd_slotE (d := dFa f) T T.sl_facts (pd_held T (pd_var (i := 0) rfl)) rfl) pd_int (p2_ixT rfl rfl)) _ H _ trivial (envOk_some hb envOk_nil) fun v H' r q => k v H' (FS_same r) q
theorem ok_b_fed_now (T : Tx w K mg c) : Pp P w K mg base c.box "fed_now" 1 (SpProp c Rp_fed) := by
  obtain ⟨p, g, hp, FF⟩ := T.p_Box_fed_now
  refine ⟨p, g, hp, fnr_of FF scBox_fed_now (fun _ _ _ _ _ _ us hu => by obtain ⟨a, rfl⟩ := len1 hu; rfl) (fun vs H Q E h => ?_) (fun cdv A outer s H vs Q E hr h => ⟨_, (pss_one (ps_ret (pe_ix ix_tup (SlX.pe_sl (pe_fld (pv 0) rfl)) pe_int (fun _ _ => rfl)))), ?_⟩)⟩
  · obtain ⟨b, s, Pl, ds, e, ev, r, hb, k⟩ := h
    rw [ev]
    rfl
  · obtain ⟨b, s, Pl, ds, e, ev, r, hb, k⟩ := h
    cases r with
    | mk f d1 d2 d3 =>
    subst ev
    exact (pd_op' (pd_slotE (d := dFa f) T T.sl_facts (pd_held T (pd_var (i := 0) rfl)) rfl) pd_int (p2_ixT rfl rfl)) _ H _ trivial (envOk_some hb envOk_nil) fun v H' r q => k v H' (FS_same r) q
theorem ok_b_trip_count (T : Tx w K mg c) : Pp P w K mg base c.box "trip_count" 1 (SpProp c Rp_trip) := by
  obtain ⟨p, g, hp, FF⟩ := T.p_Box_trip_count
  refine ⟨p, g, hp, fnr_of FF scBox_trip_count (fun _ _ _ _ _ _ us hu => by obtain ⟨a, rfl⟩ := len1 hu; rfl) (fun vs H Q E h => ?_) (fun cdv A outer s H vs Q E hr h => ⟨_, (pss_one (ps_ret (pe_ix ix_tup (SlX.pe_sl (pe_fld (pv 0) rfl)) pe_int (fun _ _ => rfl)))), ?_⟩)⟩
  · obtain ⟨b, s, Pl, ds, e, ev, r, hb, k⟩ := h
    rw [ev]
    rfl
  · obtain ⟨b, s, Pl, ds, e, ev, r, hb, k⟩ := h
    cases r with
    | mk f d1 d2 d3 =>
    subst ev
    exact (pd_op' (pd_slotE (d := dFa f) T T.sl_facts (pd_held T (pd_var (i := 0) rfl)) rfl) pd_int (p2_ixT rfl rfl)) _ H _ trivial (envOk_some hb envOk_nil) fun v H' r q => k v H' (FS_same r) q
theorem ok_Box_rewire (T : Tx w K mg c) : Md P w K mg base c.box "rewire" 7 (SpBox c R_rewire) := by
  obtain ⟨g, hm, FF⟩ := T.m_Box_rewire
  refine ⟨g, hm, fnr_of FF scBox_rewire (fun _ _ _ _ _ _ us hu => by obtain ⟨a, b, c, rfl⟩ := len3 hu; rfl) (fun vs H Q E h => ?_) (fun cdv A outer s H vs Q E hr h => ⟨_, (pss_cons (ps_expr (pe_cl (ok_check_name T) hr (by decide) (by rfl) (pa_cons (pe_fld (pv 0) rfl) (pa_cons (pv 1) pa_nil)))) (pss_cons (ps_if (pt_cmpR op_notN (pv 2) pe_non (nomark _)) (pss_one (ps_expr (pe_cl (ok_check_breaker T) hr (by decide) (by rfl) (pa_cons (pe_fld (pv 0) rfl) (pa_cons (pv 2) pa_nil))))) pss_nil) (pss_cons (ps_asg (SlX.pe_sl (pe_fld (pv 0) rfl)) (pg_tup (by rfl) (pgs_cons (pg_name (i := 3) scBox_rewire.nd rfl (Or.inl rfl)) (pgs_cons (pg_name (i := 4) scBox_rewire.nd rfl (Or.inl rfl)) (pgs_cons (pg_name (i := 5) scBox_rewire.nd rfl (Or.inl rfl)) (pgs_cons (pg_name (i := 6) scBox_rewire.nd rfl (Or.inl rfl)) pgs_nil)))))) (pss_cons (ps_set (i := 7) scBox_rewire.nd rfl (Or.inl rfl) (pe_tmeth PySem.F.slot_tuple_index PySem.F.type_tuple_index mt_tup_index (pe_pp T.c_Plan (ok_p_names T) hr (by decide) (pe_fld (pv 0) rfl)) (pa_cons (pv 1) pa_nil))) (pss_cons (ps_set (i := 8) scBox_rewire.nd rfl (Or.inl rfl) (pe_op op_catA (pe_op op_catA (pe_slice sl_tupA (pv 5) po_none (po_some (pv 7))) (pe_tup (pa_cons (pv 2) pa_nil))) (pe_slice sl_tupA (pv 5) (po_some (pe_op op_add (pv 7) pe_int)) po_none))) (pss_cons (ps_expr (pe_cl (ok_check_wiring T) hr (by decide) (by rfl) (pa_cons (pe_fld (pv 0) rfl) (pa_cons (pv 8) pa_nil)))) (pss_cons (ps_expr (pe_ms T.c_State (ok_State_go_on T) hr (by decide) (pe_fld (pv 0) rfl) (pa_cons (pe_tup (pa_cons pe_str (pa_cons (pv 1) (pa_cons (pv 2) pa_nil)))) (pa_cons (pe_tup (pa_cons (pv 3) (pa_cons (pv 4) (pa_cons (pv 8) (pa_cons (pv 6) pa_nil))))) (pa_cons (SlX.pe_sl (pe_fld (pv 0) rfl)) pa_nil))))) (pss_one (ps_ret (pe_ix ix_tup (pv 5) (pv 7) (fun _ _ => rfl))))))))))), ?_⟩)⟩
  · obtain ⟨b, s, Pl, S, as, S', d, ws, e, r, hb, q, _⟩ := h
    cases r
    rw [e, List.length_cons, q.length]
    rfl
  · obtain ⟨b, s, Pl, S, as, S', d, ws, e, r, hb, q, k⟩ := h
    cases r with
    | mk x o h h2 h3 =>
    subst e
    obtain ⟨hx, ho, hw⟩ := h3
    have hz := sizeLine_eq
    have hp5 := h.p5
    have hi := names_get h hx
    have hwl := h2.fa.wi.len
    have g0 := EnvOk.start (N := NBox_rewire) (es := bxE c b s Pl (dSc S) :: [D.str x, dO o].map (Ev.d FS)) ⟨_, _, rfl, hb, evs_reps q⟩
    refine m_drop (pd_cl (pd_cons (pd_plan T (pd_var (i := 0) rfl)) (pd_cons (pd_var (i := 1) rfl) pd_nil)) (.mk _ Pl x h hx)) g0 fun H1 sm1 g1 => ?_
    refine m_ifd (a := Ev.d FS .non) (pdt_test (pd_op' (pd_var (i := 2) rfl) pd_non p2_notN)) (fun hx2 => ?_) g1 fun H2 sm2 g2 => ?_
    · cases o with
      | none => cases hx2
      | some br => exact pd_cl (pd_cons (pd_plan T (pd_var (i := 0) rfl)) (pd_cons (pd_var (i := 2) (e := Ev.d FS (.int (br : Nat))) rfl) pd_nil)) (.mk _ Pl br h (ho br rfl))
    refine m_four (pd_slotE (d := dFa S.fa) T T.sl_facts (pd_held T (pd_var (i := 0) rfl)) rfl) rfl g2 fun v1 v2 v3 v4 H3 sm3 g3 => ?_
    refine m_set (pd_index (pp_names (pd_plan T (pd_var (i := 0) rfl)) h) (pd_var (i := 1) rfl) hx) g3 fun v5 H4 sm4 g4 => ?_
    have ei : (Pl.pts.map (·.1)).idxOf x = idxOf Pl x := rfl
    rw [ei] at g4
    refine m_set (a := Ev.d FS (.tup ((S.fa.wi.set (idxOf Pl x) o).map dO))) (pd_eq (pd_op' (pd_op' (pd_slT (ds := S.fa.wi.map dO) (pd_var (i := 5) rfl) pdo_none (pdo_some (pd_var (i := 7) rfl))) (pd_tup' (ds := [dO o]) (pd_cons (pd_var (i := 2) rfl) pd_nil) rfl (by show 1 ≤ sizeLine; decide)) (p2_catT ?_)) (pd_slT (ds := S.fa.wi.map dO) (pd_var (i := 5) rfl) (pdo_some (pd_op' (pd_var (i := 7) rfl) pd_int p2_I0i)) pdo_none) (p2_catT ?_)) ?_) g4 fun v6 H5 sm5 g5 => ?_
    · have := cutD_to (k := idxOf Pl x) (xs := S.fa.wi.map dO)
      rw [this]
      simp
      omega
    · have e1 := cutD_to (k := idxOf Pl x) (xs := S.fa.wi.map dO)
      have e2 := cutD_from (k := idxOf Pl x + 1) (xs := S.fa.wi.map dO)
      have e3 : ((idxOf Pl x : Int) + 1) = ((idxOf Pl x + 1 : Nat) : Int) := by omega
      rw [e1, e3, e2]
      simp
      omega
    · have e1 := cutD_to (k := idxOf Pl x) (xs := S.fa.wi.map dO)
      have e2 := cutD_from (k := idxOf Pl x + 1) (xs := S.fa.wi.map dO)
      have e3 : ((idxOf Pl x : Int) + 1) = ((idxOf Pl x + 1 : Nat) : Int) := by omega
      rw [e1, e3, e2]
      congr 2
      rw [List.set_eq_take_append_cons_drop, if_pos (by omega)]
      simp
    refine m_drop (pd_cl (pd_cons (pd_plan T (pd_var (i := 0) rfl)) (pd_cons (pd_var (i := 8) rfl) pd_nil)) (.mk _ Pl _ h hw)) g5 fun H6 sm6 g6 => ?_
    obtain ⟨v0, s0, b0⟩ := g6.2 0 (bxE c b s Pl (dSc S)) rfl
    have e0 : v0 = .ref b := b0.1
    subst e0
    refine seq_drop (m_go_on (o := dOp (.rewire x o)) (f := dFa ⟨S.fa.st, S.fa.ld, S.fa.wi.set (idxOf Pl x) o, S.fa.ct⟩) (sh := dSh S.sh) (s := s) (d0 := dFa S.fa) (d1 := dSh S.sh) (d3 := .tup (S.undone.map dEn)) (ps := S.past.map dEn) T (pd_held T (pd_var (i := 0) rfl))
      (pd_cons (pd_tup' (ds := [.str "rewire", .str x, dO o]) (pd_cons pd_str (pd_cons (pd_var (i := 1) rfl) (pd_cons (pd_var (i := 2) rfl) pd_nil))) rfl (by show 3 ≤ sizeLine; omega)) (pd_cons (pd_tup' (ds := [.tup (S.fa.st.map .bl), dLd S.fa.ld, .tup ((S.fa.wi.set (idxOf Pl x) o).map dO), .int (S.fa.ct : Int)]) (pd_cons (pd_var (i := 3) rfl) (pd_cons (pd_var (i := 4) rfl) (pd_cons (pd_var (i := 8) rfl) (pd_cons (pd_var (i := 6) rfl) pd_nil)))) rfl (by show 4 ≤ sizeLine; omega)) (pd_cons (pd_slotE (d := dSh S.sh) T T.sl_shelf (pd_held T (pd_var (i := 0) rfl)) rfl) pd_nil))) (by have := h2.pl; simp; omega) g6 fun H7 c7 p7 s7 => ?_)
    have g7 : EnvOk (F := FS) H7 _ [none, none, none, none, none, some (Ev.d FS (.tup (S.fa.wi.map dO))), none, some (Ev.d FS (.int (idxOf Pl x : Nat))), none] := g6.cv ⟨cp_d p7, cp_d p7, trivial⟩
    refine m_ret (a := Ev.d FS (dO ((S.fa.wi[idxOf Pl x]?).getD none))) (pd_op' (pd_var (i := 5) rfl) (pd_var (i := 7) rfl) (p2_ixN (i := idxOf Pl x) rfl ?_)) g7 fun v H8 sm8 q8 => ?_
    · rw [List.getElem?_map, List.getElem?_eq_getElem (by omega)]
      rfl
    · have sm := Same.trans sm1 (Same.trans sm2 (Same.trans sm3 (Same.trans sm4 (Same.trans sm5 sm6))))
      refine k v H8 (Ch.same (Same.ch sm c7) sm8) (Pr.trans (Same.pr sm) (Pr.trans p7 (Same.pr sm8))) ((bxE c b s Pl _).st trivial (Fm.ofSame trivial sm8) (bx_ch c7 p7 b0 ?_)) q8
      unfold Sc.step
      rw [dSc_on]
      exact s7
theorem ok_Box_keep_as (T : Tx w K mg c) : Md P w K mg base c.box "keep_as" 2 (SpBox c R_keep_as) := by
  obtain ⟨g, hm, FF⟩ := T.m_Box_keep_as
  refine ⟨g, hm, fnr_of FF scBox_keep_as (fun _ _ _ _ _ _ us hu => by obtain ⟨a, b, rfl⟩ := len2 hu; rfl) (fun vs H Q E h => ?_) (fun cdv A outer s H vs Q E hr h => ⟨_, (pss_cons (ps_if (pt_not (pt_val (pe_cl (ok_is_word T) hr (by decide) (by rfl) (pa_cons (pv 1) pa_nil)))) pss_never pss_nil) (pss_cons (ps_set (i := 2) scBox_keep_as.nd rfl (Or.inl rfl) (pe_fld (pv 0) rfl)) (pss_cons (ps_set (i := 3) scBox_keep_as.nd rfl (Or.inl rfl) (pe_cmp (pc_din (hu_of hr) (pv 1) (SlX.pe_sl (pv 2))) (by rfl))) (pss_cons (ps_expr (pe_ms T.c_State (ok_State_go_on T) hr (by decide) (pv 2) (pa_cons (pe_tup (pa_cons pe_str (pa_cons (pv 1) pa_nil))) (pa_cons (SlX.pe_sl (pv 2)) (pa_cons (pe_op op_dor (SlX.pe_sl (pv 2)) (pe_disp (pps_cons (pv 1) (SlX.pe_sl (pv 2)) pps_nil) (by rfl) (by rfl) (fun z => by cases z) (by decide))) pa_nil))))) (pss_one (ps_ret (pv 3))))))), ?_⟩)⟩
  · obtain ⟨b, s, Pl, S, as, S', d, ws, e, r, hb, q, _⟩ := h
    cases r
    rw [e, List.length_cons, q.length]
    rfl
  · obtain ⟨b, s, Pl, S, as, S', d, ws, e, r, hb, q, k⟩ := h
    cases r with
    | mk x h h2 h3 =>
    subst e
    have hz := sizeLine_eq
    have hw : WordOk x := h3
    have hshl := h2.shl
    have g0 := EnvOk.start (N := NBox_keep_as) (es := bxE c b s Pl (dSc S) :: [D.str x].map (Ev.d FS)) ⟨_, _, rfl, hb, evs_reps q⟩
    refine m_skip (pdt_not (x := true) (pdt_val (pd_cl (pd_cons (pd_var (i := 1) rfl) pd_nil) (.mk _ x hw)))) g0 fun H1 sm1 g1 => ?_
    refine m_set (pd_held T (pd_var (i := 0) rfl)) g1 fun v2 H2 sm2 g2 => ?_
    refine m_set (pd_din (enc := dFa) (l := S.sh) (pd_var (i := 1) rfl) (pd_slotE (d := dSh S.sh) T T.sl_shelf (pd_var (i := 2) rfl) rfl)) g2 fun v3 H3 sm3 g3 => ?_
    obtain ⟨v0, s0, b0⟩ := g3.2 0 (bxE c b s Pl (dSc S)) rfl
    obtain ⟨u3, s3, q3⟩ := g3.2 3 (Ev.d FS (.bl (getG S.sh x).isSome)) rfl
    have e0 : v0 = .ref b := b0.1
    subst e0
    -- held.shelf | {name: held.facts}
    have hdor : Pd (F := FS) [some (bxE c b s Pl (dSc S)), some (Ev.d FS (.str x)), some (svE c s (dSc S)), some (Ev.d FS (.bl (getG S.sh x).isSome))] (tOp rDor (SlX.tSl K (tVar 2) "shelf") (tDisp [(tVar 1, SlX.tSl K (tVar 2) "facts")])) (Ev.d FS (dSh (putG S.sh x S.fa))) := by
      intro σ H Q i g k
      refine (pd_slotE (d := dSh S.sh) T T.sl_shelf (pd_var (i := 2) rfl) rfl) σ H _ i g fun u H1 r1 q1 p np => ?_
      have s1 : Same H1 (upd H1 p (.dK [])) := Same.new np
      have g1 := (g.st i r1)
      have g2 := g1.st trivial (Fm.ofSame (F := FS) trivial s1)
      obtain ⟨y, sy, qy⟩ := g2.2 1 _ rfl
      have ey : y = .str x := qy
      subst ey
      obtain ⟨z, sz, ez, dx, vs, hz1, hz2, hz3⟩ := g1.2 2 _ rfl
      obtain ⟨vf, hvf, qf⟩ := hz3 0 (dFa S.fa) rfl
      obtain ⟨pp, hpp⟩ := T.sl_facts
      have r2 := Fm.ofSame (F := FS) (H := H1) (H' := upd H1 p (.dK (mergeK [] [(Sum.inr x, vf)]))) trivial (Same.new np)
      refine ⟨.str x, sy, z, sz, s, c.state, dx, pp, vs, 0, vf, ez, .inr ⟨s1 _ _ hz1, s1 _ _ hz2⟩, T.c_State, hpp, hvf, upd_same, [(.inr x, vf)], rfl, Nat.le_of_ble_eq_true rfl, ?_⟩
      rw [upd_upd]
      refine p2_dor (enc := dFa) (l := S.sh) (x := x) (a := S.fa) rfl (by omega) u (.ref p) _ Q trivial ((Ev.d FS _).st trivial r2 q1) ?_ fun v H' r3 q3 => k v H' (Fm.trans r1 (Fm.trans r2 r3)) q3
      exact ⟨p, _, rfl, upd_same, rfl, vf, [], rfl, Rep.same (FS_same r2) qf, rfl⟩
    refine seq_drop (m_go_on (o := dOp (.keep x)) (f := dFa S.fa) (sh := dSh (putG S.sh x S.fa)) (s := s) (d0 := dFa S.fa) (d1 := dSh S.sh) (d3 := .tup (S.undone.map dEn)) (ps := S.past.map dEn) T (pd_var (i := 2) rfl)
      (pd_cons (pd_tup' (ds := [.str "keep_as", .str x]) (pd_cons pd_str (pd_cons (pd_var (i := 1) rfl) pd_nil)) rfl (by show 2 ≤ sizeLine; omega)) (pd_cons (pd_slotE (d := dFa S.fa) T T.sl_facts (pd_var (i := 2) rfl) rfl) (pd_cons hdor pd_nil))) (by have := h2.pl; simp; omega) g3 fun H7 c7 p7 s7 => ?_)
    refine ⟨u3, s3, k u3 H7 (Same.ch (Same.trans sm1 (Same.trans sm2 sm3)) c7) (Pr.trans (Same.pr (Same.trans sm1 (Same.trans sm2 sm3))) p7) (bx_ch c7 p7 b0 ?_) (Rep.pr p7 q3)⟩
    unfold Sc.step
    rw [dSc_on]
    exact s7
theorem ok_Box_fetch (T : Tx w K mg c) : Md P w K mg base c.box "fetch" 6 (SpBox c R_fetch) := by
  obtain ⟨g, hm, FF⟩ := T.m_Box_fetch
  refine ⟨g, hm, fnr_of FF scBox_fetch (fun _ _ _ _ _ _ us hu => by obtain ⟨a, b, rfl⟩ := len2 hu; rfl) (fun vs H Q E h => ?_) (fun cdv A outer s H vs Q E hr h => ⟨_, (pss_cons (ps_set (i := 2) scBox_fetch.nd rfl (Or.inl rfl) (pe_fld (pv 0) rfl)) (pss_cons (ps_if (PW.pt (pw_or (pt_not (pt_val (pe_callB call_isi (by rfl) T.n_isinstance (by decide +kernel) (pa_cons (pv 1) (pa_cons (pe_bltn (v := .ty "str") (by rfl) T.n_str (by decide +kernel) rfl) pa_nil))))) (pw_or1 (pt_cmp (pc_dnotin (hu_of hr) (pv 1) (SlX.pe_sl (pv 2))) (by rfl))))) pss_never pss_nil) (pss_cons (ps_expr (pe_ms T.c_State (ok_State_go_on T) hr (by decide) (pv 2) (pa_cons (pe_tup (pa_cons pe_str (pa_cons (pv 1) pa_nil))) (pa_cons (pe_dget (hu_of hr) (SlX.pe_sl (pv 2)) (pv 1) (fun _ _ => rfl)) (pa_cons (SlX.pe_sl (pv 2)) pa_nil))))) (pss_one (ps_ret (pe_cl (ok_live_in T) hr (by decide) (by rfl) (pa_cons (pe_fld (pv 0) rfl) (pa_cons (pe_bp T.c_Box (ok_b_fed_now T) hr (by decide) (pv 0)) (pa_cons (pe_bp T.c_Box (ok_b_state_now T) hr (by decide) (pv 0)) pa_nil))))))))), ?_⟩)⟩
  · obtain ⟨b, s, Pl, S, as, S', d, ws, e, r, hb, q, _⟩ := h
    cases r
    rw [e, List.length_cons, q.length]
    rfl
  · obtain ⟨b, s, Pl, S, as, S', d, ws, e, r, hb, q, k⟩ := h
    cases r with
    | mk x h h2 h3 =>
    subst e
    have hz := sizeLine_eq
    obtain ⟨f, hf⟩ := Option.isSome_iff_exists.mp (show (getG S.sh x).isSome = true from h3)
    have fok := h2.sh x f hf
    have g0 := EnvOk.start (N := NBox_fetch) (es := bxE c b s Pl (dSc S) :: [D.str x].map (Ev.d FS)) ⟨_, _, rfl, hb, evs_reps q⟩
    refine m_set (pd_held T (pd_var (i := 0) rfl)) g0 fun v2 H1 sm1 g1 => ?_
    refine m_skip (pdt_eq (pdt_or (x := !true) (pdt_not (pdt_val (pd_call' (pd_cons (pd_var (i := 1) rfl) (pd_cons pd_ty pd_nil)) (pc_isi rfl rfl)))) fun _ => pdt_val (pd_dnotin (enc := dFa) (l := S.sh) (pd_var (i := 1) rfl) (pd_slotE (d := dSh S.sh) T T.sl_shelf (pd_var (i := 2) rfl) rfl))) ?_) g1 fun H2 sm2 g2 => ?_
    · rw [hf]
      rfl
    obtain ⟨v0, s0, b0⟩ := g2.2 0 (bxE c b s Pl (dSc S)) rfl
    have e0 : v0 = .ref b := b0.1
    subst e0
    refine seq_drop (m_go_on (o := dOp (.fetch x)) (f := dFa f) (sh := dSh S.sh) (s := s) (d0 := dFa S.fa) (d1 := dSh S.sh) (d3 := .tup (S.undone.map dEn)) (ps := S.past.map dEn) T (pd_var (i := 2) rfl)
      (pd_cons (pd_tup' (ds := [.str "fetch", .str x]) (pd_cons pd_str (pd_cons (pd_var (i := 1) rfl) pd_nil)) rfl (by show 2 ≤ sizeLine; omega)) (pd_cons (pd_dget (enc := dFa) (l := S.sh) (pd_slotE (d := dSh S.sh) T T.sl_shelf (pd_var (i := 2) rfl) rfl) (pd_var (i := 1) rfl) hf) (pd_cons (pd_slotE (d := dSh S.sh) T T.sl_shelf (pd_var (i := 2) rfl) rfl) pd_nil))) (by have := h2.pl; simp; omega) g2 fun H7 c7 p7 s7 => ?_)
    have b7 := bx_ch c7 p7 b0 s7
    have g7 : EnvOk (F := FS) H7 _ [some (bxE c b s Pl [dFa f, dSh S.sh, .tup (S.past.map dEn ++ [.tup [dOp (.fetch x), dFa S.fa, dSh S.sh]]), .tup []]), none, none] := g2.cv ⟨fun v hv => by
      have e : v = .ref b := hv.1
      rw [e]
      exact b7, trivial⟩
    refine m_ret (pd_cl (pd_cons (pd_plan T (pd_var (i := 0) rfl)) (pd_cons (pd_prop (pd_var (i := 0) rfl) (.mk _ f _ _ _)) (pd_cons (pd_prop (pd_var (i := 0) rfl) (.mk _ f _ _ _)) pd_nil))) (.mk _ Pl f.wi f.st h fok.st fok.wi)) g7 fun v H8 sm8 q8 => ?_
    have sm := Same.trans sm1 sm2
    have ef : (getG S.sh x).getD S.fa = f := by rw [hf]; rfl
    refine k v H8 (Ch.same (Same.ch sm c7) sm8) (Pr.trans (Same.pr sm) (Pr.trans p7 (Same.pr sm8))) ?_ ?_
    · unfold Sc.step
      rw [dSc_on]
      show (bxE c b s Pl [dFa ((getG S.sh x).getD S.fa), _, _, _]).ok H8 (.ref b)
      rw [ef]
      exact (bxE c b s Pl _).st trivial (Fm.ofSame trivial sm8) b7
    · show Rep H8 (.tup ((lives Pl ((getG S.sh x).getD S.fa).wi ((getG S.sh x).getD S.fa).st).map .str)) v
      rw [ef]
      exact q8
end
end Bf
namespace Bf
open PySem PySem.Spec PyProof.Rows L2
theorem ons_filter : ∀ (st : List Bool), (st.filter id).length = ons st
  | [] => rfl
  | b :: st => by
    have ih := ons_filter st
    unfold ons at ih ⊢
    cases b
    · simpa using ih
    · simpa using ih
inductive R_undo : Pl → Sc → List D → Sc → D → Prop
  | none (P : Pl) (f : Fa) (sh : Shelf) (us : List En) : R_undo P ⟨f, sh, [], us⟩ [] ⟨f, sh, [], us⟩ (.bl false)
  | some (P : Pl) (f0 f : Fa) (sh0 sh : Shelf) (ps us : List En) (o : Op) (h : us.length < 900) : R_undo P ⟨f0, sh0, ps ++ [(o, f, sh)], us⟩ [] ⟨f, sh, ps, us ++ [(o, f0, sh0)]⟩ (.bl true)
inductive R_redo : Pl → Sc → List D → Sc → D → Prop
  | none (P : Pl) (f : Fa) (sh : Shelf) (ps : List En) : R_redo P ⟨f, sh, ps, []⟩ [] ⟨f, sh, ps, []⟩ (.bl false)
  | some (P : Pl) (f0 f : Fa) (sh0 sh : Shelf) (ps us : List En) (o : Op) (h : ps.length < 900) : R_redo P ⟨f0, sh0, ps, us ++ [(o, f, sh)]⟩ [] ⟨f, sh, ps ++ [(o, f0, sh0)], us⟩ (.bl true)
theorem trips_len {P : Pl} (h : P.Ok) {wi : List (Option Nat)} {st : List Bool} {ld : Ld} : (trips P wi st ld).1.length = st.length := (trF_len h 9 st []).1
theorem rst1_len {P : Pl} (h : P.Ok) {wi : List (Option Nat)} {ld : Ld} {a : List Bool × Nat} {k : Nat} : (rst1 P wi ld a k).1.length = a.1.length := by
  unfold rst1
  split
  · rfl
  · exact (trips_len h).trans (by simp)
section
variable {P : Program} {w : World} {K : PySem.W.Frag} {mg : Str → Option Value} {base : Heap} {c : Ca}
theorem ok_Box_reset (T : Tx w K mg c) : Md P w K mg base c.box "reset" 7 (SpBox c R_reset) := by
  obtain ⟨g, hm, FF⟩ := T.m_Box_reset
  refine ⟨g, hm, fnr_of FF scBox_reset (fun _ _ _ _ _ _ us hu => by obtain ⟨a, rfl⟩ := len1 hu; rfl) (fun vs H Q E h => ?_) (fun cdv A outer s H vs Q E hr h => ⟨_, (pss_cons (ps_asg (SlX.pe_sl (pe_fld (pv 0) rfl)) (pg_tup (by rfl) (pgs_cons (pg_name (i := 1) scBox_reset.nd rfl (Or.inl rfl)) (pgs_cons (pg_name (i := 2) scBox_reset.nd rfl (Or.inl rfl)) (pgs_cons (pg_name (i := 3) scBox_reset.nd rfl (Or.inl rfl)) (pgs_cons (pg_name (i := 4) scBox_reset.nd rfl (Or.inl rfl)) pgs_nil)))))) (pss_cons (ps_for PassesOwn.never rfl (pi_range3 (by rfl) T.n_range (pa_cons (pe_op op_sub (pe_callB (call_lenO (ok_p_len T) hr (by decide)) (by rfl) T.n_len (by decide +kernel) (pa_cons (pe_fld (pv 0) rfl) pa_nil)) pe_int) (pa_cons (pe_un un_neg pe_int) (pa_cons (pe_un un_neg pe_int) pa_nil)))) (pg_name (i := 5) scBox_reset.nd rfl (Or.inl rfl)) (pss_one (ps_if (pt_not (pt_val (pe_ix ix_tup (pv 1) (pv 5) (fun _ _ => rfl)))) (pss_cons (ps_asg (pe_cl (ok_trips_in T) hr (by decide) (by rfl) (pa_cons (pe_fld (pv 0) rfl) (pa_cons (pv 3) (pa_cons (pe_cl (ok_switched T) hr (by decide) (by rfl) (pa_cons (pv 1) (pa_cons (pv 5) pa_nil))) (pa_cons (pv 2) pa_nil))))) (pg_tup (by rfl) (pgs_cons (pg_name (i := 1) scBox_reset.nd rfl (Or.inl rfl)) (pgs_cons (pg_name (i := 6) scBox_reset.nd rfl (Or.inl rfl)) pgs_nil)))) (pss_one (ps_aug (i := 4) scBox_reset.nd rfl (Or.inl rfl) (pe_callB call_len_seq (by rfl) T.n_len (by decide +kernel) (pa_cons (pv 6) pa_nil)) ip_add))) pss_nil))) (pss_cons (ps_expr (pe_ms T.c_State (ok_State_go_on T) hr (by decide) (pe_fld (pv 0) rfl) (pa_cons (pe_tup (pa_cons pe_str pa_nil)) (pa_cons (pe_tup (pa_cons (pv 1) (pa_cons (pv 2) (pa_cons (pv 3) (pa_cons (pv 4) pa_nil))))) (pa_cons (SlX.pe_sl (pe_fld (pv 0) rfl)) pa_nil))))) (pss_one (ps_ret (pe_callB call_len_seq (by rfl) T.n_len (by decide +kernel) (pa_cons (pe_lcD (own := [("one", 7)]) (by rfl) scBox_reset.nd (pi_tup (pv 1)) (blkOk_by (own := [("one", 7)]) (N := NBox_reset) (sc := defScope sBox_reset) (by decide +kernel)) (fun _ _ _ _ _ => (pg_name (i := 7) scBox_reset.nd rfl (Or.inl rfl))) (fun _ _ _ _ _ => (pts_one (pt_val (pv 7)))) (fun _ _ _ _ _ => (pv 7))) pa_nil))))))), ?_⟩)⟩
  · obtain ⟨b, s, Pl, S, as, S', d, ws, e, r, hb, q, _⟩ := h
    cases r
    rw [e, List.length_cons, q.length]
    rfl
  · obtain ⟨b, s, Pl, S, as, S', d, ws, e, r, hb, q, k⟩ := h
    cases r with
    | mk h h2 h3 =>
    subst e
    have hz := sizeLine_eq
    have hn5 := h.n5
    have hnn : Pl.n = Pl.rates.length := rfl
    have g0 := EnvOk.start (N := NBox_reset) (es := [bxE c b s Pl (dSc S)]) ⟨_, _, rfl, hb, evs_reps q⟩
    refine m_four (pd_slotE (d := dFa S.fa) T T.sl_facts (pd_held T (pd_var (i := 0) rfl)) rfl) rfl g0 fun v1 v2 v3 v4 H1 sm1 g1 => ?_
    refine m_for (S := List Bool × Nat) (Γf := fun a => [some (bxE c b s Pl (dSc S)), some (Ev.d FS (.tup (a.1.map .bl))), some (Ev.d FS (dLd S.fa.ld)), some (Ev.d FS (.tup (S.fa.wi.map dO))), some (Ev.d FS (.int (a.2 : Int))), none, none, none]) (pdj_down (n := Pl.n) (pd_op' (pp_len (pd_plan T (pd_var (i := 0) rfl)) h) pd_int p2_I0i) (pd_un' pd_int p1_U) (pd_un' pd_int p1_U) (by omega)).i
      (fun i a => a = (((List.range Pl.n).map fun i => Pl.n - 1 - i).take i).foldl (rst1 Pl S.fa.wi S.fa.ld) (S.fa.st, S.fa.ct) ∧ a.1.length = Pl.n) (S.fa.st, S.fa.ct) rfl ⟨rfl, h2.fa.st⟩ g1 (fun i a d hd ⟨ea, hal⟩ => ?_) fun σ' H' a sm2 g2 ⟨ea, hal⟩ => ?_
    · rw [List.getElem?_map] at hd
      obtain ⟨i', hi', ed⟩ := Option.map_eq_some_iff.mp hd
      obtain ⟨hlt, hi2⟩ := List.getElem?_eq_some_iff.mp hi'
      rw [List.getElem_range] at hi2
      subst hi2
      rw [List.length_range] at hlt
      subst ed
      have hk : Pl.n - 1 - i < Pl.n := by omega
      have stp : (((List.range Pl.n).map fun i => Pl.n - 1 - i).take (i + 1)).foldl (rst1 Pl S.fa.wi S.fa.ld) (S.fa.st, S.fa.ct) = rst1 Pl S.fa.wi S.fa.ld a (Pl.n - 1 - i) := by
        rw [List.take_succ, List.getElem?_map, List.getElem?_range hlt, List.foldl_append, ← ea]
        rfl
      refine ⟨rst1 Pl S.fa.wi S.fa.ld a (Pl.n - 1 - i), ⟨stp.symm, (rst1_len h).trans hal⟩, ?_⟩
      generalize Pl.n - 1 - i = kk at hk
      refine pdb_if (pdt_not (pdt_val (pd_op' (pd_var (i := 1) rfl) (pd_var (i := 5) rfl) (p2_ixN (i := kk) (d := .bl (isOn a.1 kk)) rfl ?_)))) (fun hx => ?_) (fun hx => ?_)
      · rw [List.getElem?_map, List.getElem?_eq_getElem (by omega)]
        unfold isOn
        rw [List.getElem?_eq_getElem (by omega)]
        rfl
      · have hoff : isOn a.1 kk = false := by simpa using hx
        have er : rst1 Pl S.fa.wi S.fa.ld a kk = ((trips Pl S.fa.wi (a.1.set kk true) S.fa.ld).1, a.2 + (trips Pl S.fa.wi (a.1.set kk true) S.fa.ld).2.length) := by
          unfold rst1
          rw [if_neg (by rw [hoff]; exact Bool.false_ne_true)]
        rw [er]
        refine pdb_two (pd_cl (pd_cons (pd_plan T (pd_var (i := 0) rfl)) (pd_cons (pd_var (i := 3) rfl) (pd_cons (pd_eq (e' := Ev.d FS (.tup ((a.1.set kk true).map .bl))) (pd_cl (pd_cons (pd_var (i := 1) rfl) (pd_cons (pd_var (i := 5) rfl) pd_nil)) (.mk _ a.1 kk (by omega) (by omega))) (by rw [hoff]; rfl)) (pd_cons (pd_var (i := 2) rfl) pd_nil)))) (.mk _ Pl S.fa.wi (a.1.set kk true) S.fa.ld h (by rw [List.length_set]; exact hal) h2.fa.wi)) rfl ?_
        refine pdb_weak (pdb_aug (m := (a.2 : Int)) rfl (pd_call' (pd_cons (pd_var (i := 6) rfl) pd_nil) (pc_lenT rfl))) rfl fun j e hj => ?_
        rw [List.length_map] 
        rcases j with _ | _ | _ | _ | _ | _ | _ | _ | j
        · exact hj
        · exact hj
        · exact hj
        · exact hj
        · have hj' : some (some (Ev.d FS (.int ((a.2 + (trips Pl S.fa.wi (a.1.set kk true) S.fa.ld).2.length : Nat) : Int)))) = some (some e) := hj
          have ec : ((a.2 + (trips Pl S.fa.wi (a.1.set kk true) S.fa.ld).2.length : Nat) : Int) = (a.2 : Int) + ((trips Pl S.fa.wi (a.1.set kk true) S.fa.ld).2.length : Nat) := by omega
          rw [ec] at hj'
          exact hj'
        · cases (show some (none : Option (Ev FS)) = some (some e) from hj)
        · cases (show some (none : Option (Ev FS)) = some (some e) from hj)
        · cases (show some (none : Option (Ev FS)) = some (some e) from hj)
        · cases (show (none : Option (Option (Ev FS))) = some (some e) from hj)
      · have hon : isOn a.1 kk = true := by simpa using hx
        have er : rst1 Pl S.fa.wi S.fa.ld a kk = a := by
          unfold rst1
          rw [if_pos hon]
        rw [er]
        refine pdb_weak pdb_next rfl fun j e hj => ?_
        rcases j with _ | _ | _ | _ | _ | _ | _ | _ | j
        · exact hj
        · exact hj
        · exact hj
        · exact hj
        · exact hj
        · cases (show some (none : Option (Ev FS)) = some (some e) from hj)
        · cases (show some (none : Option (Ev FS)) = some (some e) from hj)
        · cases (show some (none : Option (Ev FS)) = some (some e) from hj)
        · cases (show (none : Option (Option (Ev FS))) = some (some e) from hj)
    · have e2 : a = ((resetF Pl S.fa).st, (resetF Pl S.fa).ct) := by
        rw [ea, List.length_map, List.length_range, List.take_of_length_le (by simp)]
        rfl
      have hal' : (resetF Pl S.fa).st.length = Pl.n := by
        rw [e2] at hal
        exact hal
      subst e2
      obtain ⟨v0, s0, b0⟩ := g2.2 0 (bxE c b s Pl (dSc S)) rfl
      have e0 : v0 = .ref b := b0.1
      subst e0
      refine seq_drop (m_go_on (o := dOp .reset) (f := dFa (resetF Pl S.fa)) (sh := dSh S.sh) (s := s) (d0 := dFa S.fa) (d1 := dSh S.sh) (d3 := .tup (S.undone.map dEn)) (ps := S.past.map dEn) T (pd_held T (pd_var (i := 0) rfl))
        (pd_cons (pd_tup' (ds := [.str "reset"]) (pd_cons pd_str pd_nil) rfl (by show 1 ≤ sizeLine; omega)) (pd_cons (pd_tup' (ds := [.tup ((resetF Pl S.fa).st.map .bl), dLd S.fa.ld, .tup (S.fa.wi.map dO), .int ((resetF Pl S.fa).ct : Int)]) (pd_cons (pd_var (i := 1) rfl) (pd_cons (pd_var (i := 2) rfl) (pd_cons (pd_var (i := 3) rfl) (pd_cons (pd_var (i := 4) rfl) pd_nil)))) rfl (by show 4 ≤ sizeLine; omega)) (pd_cons (pd_slotE (d := dSh S.sh) T T.sl_shelf (pd_held T (pd_var (i := 0) rfl)) rfl) pd_nil))) (by have := h2.pl; simp; omega) g2 fun H7 c7 p7 s7 => ?_)
      have g7 : EnvOk (F := FS) H7 _ [none, some (Ev.d FS (.tup ((resetF Pl S.fa).st.map .bl))), none, none, none, none, none, none] := g2.cv ⟨cp_d p7, trivial⟩
      refine m_ret (a := Ev.d FS (.int (ons (resetF Pl S.fa).st : Nat))) (pd_eq (pd_call' (pd_cons (pd_lc (is := (resetF Pl S.fa).st) (f := .bl) (p := id) (d := .bl) (pdj_tup (pd_var (i := 1) rfl) rfl).i (fun x hx => lcb1 (List.mem_cons_self) (pdt_val (pd_var rfl)) fun _ => pd_var rfl) (by omega)) pd_nil) pc_lenL) ?_) g7 fun v H8 sm8 q8 => ?_
      · rw [List.length_map, ons_filter]
      · have sm := Same.trans sm1 sm2
        refine k v H8 (Ch.same (Same.ch sm c7) sm8) (Pr.trans (Same.pr sm) (Pr.trans p7 (Same.pr sm8))) ((bxE c b s Pl _).st trivial (Fm.ofSame trivial sm8) (bx_ch c7 p7 b0 ?_)) q8
        unfold Sc.step
        rw [dSc_on]
        exact s7
theorem ok_Box_undo (T : Tx w K mg c) : Md P w K mg base c.box "undo" 2 (SpBox c R_undo) := by
  obtain ⟨g, hm, FF⟩ := T.m_Box_undo
  refine ⟨g, hm, fnr_of FF scBox_undo (fun _ _ _ _ _ _ us hu => by obtain ⟨a, rfl⟩ := len1 hu; rfl) (fun vs H Q E h => ?_) (fun cdv A outer s H vs Q E hr h => ⟨_, (pss_cons (ps_if (pt_cmpR (op_eqNil hr.units0) (SlX.pe_sl (pe_fld (pv 0) rfl)) (pe_tup pa_nil) (nomark _)) (pss_one (ps_ret pe_bl)) pss_nil) (pss_cons (ps_expr (pe_ms0 T.c_State (ok_State_go_back T) hr (by decide) (pe_fld (pv 0) rfl))) (pss_one (ps_ret pe_bl)))), ?_⟩)⟩
  · obtain ⟨b, s, Pl, S, as, S', d, ws, e, r, hb, q, _⟩ := h
    cases r <;> (rw [e, List.length_cons, q.length]; rfl)
  · obtain ⟨b, s, Pl, S, as, S', d, ws, e, r, hb, q, k⟩ := h
    subst e
    cases r with
    | none f sh us =>
      have e : ws = [] := q
      subst e
      have g0 : EnvOk H (start NBox_undo [.ref b]) [some (bxE c b s Pl (dSc ⟨f, sh, [], us⟩))] := envOk_some hb envOk_nil
      refine m_if (pdt_test (pd_op' (pd_slotE (d := .tup []) T T.sl_past (pd_held T (pd_var (i := 0) rfl)) rfl) (pd_tup' (ds := []) pd_nil rfl (by decide)) p2_eqNil)) g0 (fun H1 _ sm1 g1 => ?_) (fun H1 hx _ _ => by cases hx)
      obtain ⟨v0, s0, b0⟩ := g1.2 0 _ rfl
      have e0 : v0 = .ref b := b0.1
      subst e0
      exact k _ H1 (Ch.ofSame sm1) (Same.pr sm1) b0 rfl
    | some f0 f sh0 sh ps us o hl =>
      have e : ws = [] := q
      subst e
      have g0 : EnvOk H (start NBox_undo [.ref b]) [some (bxE c b s Pl (dSc ⟨f0, sh0, ps ++ [(o, f, sh)], us⟩))] := envOk_some hb envOk_nil
      refine m_skip (pdt_eq (pdt_test (pd_op' (pd_slotE (d := .tup ((ps ++ [(o, f, sh)]).map dEn)) T T.sl_past (pd_held T (pd_var (i := 0) rfl)) rfl) (pd_tup' (ds := []) pd_nil rfl (by decide)) p2_eqNil)) ?_) g0 fun H1 sm1 g1 => ?_
      · exact decide_eq_false (by simp)
      obtain ⟨v0, s0, b0⟩ := g1.2 0 _ rfl
      have e0 : v0 = .ref b := b0.1
      subst e0
      refine seq_drop ((pd_held T (pd_var (i := 0) rfl)) _ H1 _ trivial g1 fun x H2 r2 q2 => ?_)
      obtain ⟨ex, dx, vs, h1, h2, h3⟩ := id q2
      subst ex
      refine ⟨s, dx, vs, rfl, .inr ⟨h1, h2⟩, s, dFa f0, dSh sh0, ps.map dEn, us.map dEn, dOp o, dFa f, dSh sh, rfl, ?_, by simp; omega, fun H3 c3 p3 s3 => ?_⟩
      · have : dSc ⟨f0, sh0, ps ++ [(o, f, sh)], us⟩ = [dFa f0, dSh sh0, .tup (ps.map dEn ++ [.tup [dOp o, dFa f, dSh sh]]), .tup (us.map dEn)] := by
          show [dFa f0, dSh sh0, D.tup ((ps ++ [(o, f, sh)]).map dEn), D.tup (us.map dEn)] = _
          rw [List.map_append]
          rfl
        rw [← this]
        exact q2
      · have sm := Same.trans sm1 (FS_same r2)
        refine k _ H3 (Same.ch sm c3) (Pr.trans (Same.pr sm) p3) (bx_ch c3 p3 ((bxE c b s Pl _).st trivial r2 b0) ?_) rfl
        have : dSc ⟨f, sh, ps, us ++ [(o, f0, sh0)]⟩ = [dFa f, dSh sh, .tup (ps.map dEn), .tup (us.map dEn ++ [.tup [dOp o, dFa f0, dSh sh0]])] := by
          show [dFa f, dSh sh, D.tup (ps.map dEn), D.tup ((us ++ [(o, f0, sh0)]).map dEn)] = _
          rw [List.map_append]
          rfl
        rw [this]
        exact s3
theorem ok_Box_redo (T : Tx w K mg c) : Md P w K mg base c.box "redo" 2 (SpBox c R_redo) := by
  obtain ⟨g, hm, FF⟩ := T.m_Box_redo
  refine ⟨g, hm, fnr_of FF scBox_redo (fun _ _ _ _ _ _ us hu => by obtain ⟨a, rfl⟩ := len1 hu; rfl) (fun vs H Q E h => ?_) (fun cdv A outer s H vs Q E hr h => ⟨_, (pss_cons (ps_if (pt_cmpR (op_eqNil hr.units0) (SlX.pe_sl (pe_fld (pv 0) rfl)) (pe_tup pa_nil) (nomark _)) (pss_one (ps_ret pe_bl)) pss_nil) (pss_cons (ps_expr (pe_ms0 T.c_State (ok_State_go_again T) hr (by decide) (pe_fld (pv 0) rfl))) (pss_one (ps_ret pe_bl)))), ?_⟩)⟩
  · obtain ⟨b, s, Pl, S, as, S', d, ws, e, r, hb, q, _⟩ := h
    cases r <;> (rw [e, List.length_cons, q.length]; rfl)
  · obtain ⟨b, s, Pl, S, as, S', d, ws, e, r, hb, q, k⟩ := h
    subst e
    cases r with
    | none f sh ps =>
      have e : ws = [] := q
      subst e
      have g0 : EnvOk H (start NBox_redo [.ref b]) [some (bxE c b s Pl (dSc ⟨f, sh, ps, []⟩))] := envOk_some hb envOk_nil
      refine m_if (pdt_test (pd_op' (pd_slotE (d := .tup []) T T.sl_undone (pd_held T (pd_var (i := 0) rfl)) rfl) (pd_tup' (ds := []) pd_nil rfl (by decide)) p2_eqNil)) g0 (fun H1 _ sm1 g1 => ?_) (fun H1 hx _ _ => by cases hx)
      obtain ⟨v0, s0, b0⟩ := g1.2 0 _ rfl
      have e0 : v0 = .ref b := b0.1
      subst e0
      exact k _ H1 (Ch.ofSame sm1) (Same.pr sm1) b0 rfl
    | some f0 f sh0 sh ps us o hl =>
      have e : ws = [] := q
      subst e
      have g0 : EnvOk H (start NBox_redo [.ref b]) [some (bxE c b s Pl (dSc ⟨f0, sh0, ps, us ++ [(o, f, sh)]⟩))] := envOk_some hb envOk_nil
      refine m_skip (pdt_eq (pdt_test (pd_op' (pd_slotE (d := .tup ((us ++ [(o, f, sh)]).map dEn)) T T.sl_undone (pd_held T (pd_var (i := 0) rfl)) rfl) (pd_tup' (ds := []) pd_nil rfl (by decide)) p2_eqNil)) ?_) g0 fun H1 sm1 g1 => ?_
      · exact decide_eq_false (by simp)
      obtain ⟨v0, s0, b0⟩ := g1.2 0 _ rfl
      have e0 : v0 = .ref b := b0.1
      subst e0
      refine seq_drop ((pd_held T (pd_var (i := 0) rfl)) _ H1 _ trivial g1 fun x H2 r2 q2 => ?_)
      obtain ⟨ex, dx, vs, h1, h2, h3⟩ := id q2
      subst ex
      refine ⟨s, dx, vs, rfl, .inr ⟨h1, h2⟩, s, dFa f0, dSh sh0, ps.map dEn, us.map dEn, dOp o, dFa f, dSh sh, rfl, ?_, by simp; omega, fun H3 c3 p3 s3 => ?_⟩
      · have : dSc ⟨f0, sh0, ps, us ++ [(o, f, sh)]⟩ = [dFa f0, dSh sh0, .tup (ps.map dEn), .tup (us.map dEn ++ [.tup [dOp o, dFa f, dSh sh]])] := by
          show [dFa f0, dSh sh0, D.tup (ps.map dEn), D.tup ((us ++ [(o, f, sh)]).map dEn)] = _
          rw [List.map_append]
          rfl
        rw [← this]
        exact q2
      · have sm := Same.trans sm1 (FS_same r2)
        refine k _ H3 (Same.ch sm c3) (Pr.trans (Same.pr sm) p3) (bx_ch c3 p3 ((bxE c b s Pl _).st trivial r2 b0) ?_) rfl
        have : dSc ⟨f, sh, ps ++ [(o, f0, sh0)], us⟩ = [dFa f, dSh sh, .tup (ps.map dEn ++ [.tup [dOp o, dFa f0, dSh sh0]]), .tup (us.map dEn)] := by
          show [dFa f, dSh sh, D.tup ((ps ++ [(o, f0, sh0)]).map dEn), D.tup (us.map dEn)] = _
          rw [List.map_append]
          rfl
        rw [this]
        exact s3
end
end Bf
namespace Bf
open PySem PySem.Spec PyProof.Rows L2
section
variable {Γ : Env' FS} {σ : L2.St} {H : Hp} {DE : Ends} {u : TS} {cc : TT} {t1 t2 : TS} {te : TE} {ta : TA} {a1 a2 : Ev FS}
theorem m_par {i j : Nat} (h : PdA Γ ta [a1, a2]) (g : EnvOk H σ Γ) (k : ∀ v1 v2 H1, Same H H1 → EnvOk H1 ((σ.set i (some v1)).set j (some v2)) ((Γ.set i (some a1)).set j (some a2)) → u DE ((σ.set i (some v1)).set j (some v2)) H1) : tSeq (tPar i j ta) u DE σ H := h σ H _ trivial g fun vs H1 r q => by
  obtain ⟨v, ws, e1, q1, w2, us, e2, q2, e3⟩ := q
  have e3' : us = [] := e3
  subst e3' e2
  exact ⟨v, w2, e1, k v w2 H1 (FS_same r) (EnvOk.set (EnvOk.set (g.st trivial r) q1) q2)⟩
theorem m_take (h : PdT Γ cc true) (g : EnvOk H σ Γ) (k : ∀ H1, Same H H1 → EnvOk H1 σ Γ → tSeq t1 u DE σ H1) : tSeq (tIfS cc t1 t2) u DE σ H := h σ H _ trivial g fun H1 r => k H1 (FS_same r) (g.st trivial r)
theorem seq_ret (h : te σ H DE.rt) : tSeq (tRet te) u DE σ H := h
end
section
variable {P : Program} {w : World} {K : PySem.W.Frag} {mg : Str → Option Value} {base : Heap} {c : Ca}
theorem ok_Box_execute (T : Tx w K mg c) : Md P w K mg base c.box "execute" 9 (SpBox c R_execute) := by
  obtain ⟨g, hm, FF⟩ := T.m_Box_execute
  refine ⟨g, hm, fnr_of FF scBox_execute (fun _ _ _ _ _ _ us hu => by obtain ⟨a, b, rfl⟩ := len2 hu; rfl) (fun vs H Q E h => ?_) (fun cdv A outer s H vs Q E hr h => ⟨_, (pss_cons (ps_par (i := 2) (j := 3) (by rfl) scBox_execute.nd rfl rfl (by decide) rfl rfl (pa_cons (pe_ix ix_tup (pv 1) pe_int (fun _ _ => rfl)) (pa_cons (pe_slice sl_tupA (pv 1) (po_some pe_int) po_none) pa_nil)) (by rfl)) (pss_cons (ps_if (pt_cmpR op_eq (pv 2) pe_str (nomark _)) (pss_one (ps_ret (pe_mdm T.c_Box (ok_Box_flip T) hr (by decide) (pv 0) (pa_cons (pe_ix ix_tup (pv 3) pe_int (fun _ _ => rfl)) pa_nil)))) pss_nil) (pss_cons (ps_if (pt_cmpR op_eq (pv 2) pe_str (nomark _)) (pss_one (ps_ret (pe_mdm T.c_Box (ok_Box_plug T) hr (by decide) (pv 0) (pa_cons (pe_ix ix_tup (pv 3) pe_int (fun _ _ => rfl)) (pa_cons (pe_ix ix_tup (pv 3) pe_int (fun _ _ => rfl)) pa_nil))))) pss_nil) (pss_cons (ps_if (pt_cmpR op_eq (pv 2) pe_str (nomark _)) (pss_one (ps_ret (pe_mdm T.c_Box (ok_Box_rewire T) hr (by decide) (pv 0) (pa_cons (pe_ix ix_tup (pv 3) pe_int (fun _ _ => rfl)) (pa_cons (pe_ix ix_tup (pv 3) pe_int (fun _ _ => rfl)) pa_nil))))) pss_nil) (pss_cons (ps_if (pt_cmpR op_eq (pv 2) pe_str (nomark _)) (pss_one (ps_ret (pe_md0 T.c_Box (ok_Box_reset T) hr (by decide) (pv 0)))) pss_nil) (pss_cons (ps_if (pt_cmpR op_eq (pv 2) pe_str (nomark _)) (pss_one (ps_ret (pe_mdm T.c_Box (ok_Box_keep_as T) hr (by decide) (pv 0) (pa_cons (pe_ix ix_tup (pv 3) pe_int (fun _ _ => rfl)) pa_nil)))) pss_nil) (pss_cons (ps_if (pt_cmpR op_eq (pv 2) pe_str (nomark _)) (pss_one (ps_ret (pe_mdm T.c_Box (ok_Box_fetch T) hr (by decide) (pv 0) (pa_cons (pe_ix ix_tup (pv 3) pe_int (fun _ _ => rfl)) pa_nil)))) pss_nil) (pss_one (ps_ret (pe_ifExp (pt_cmpR op_eq (pv 2) pe_str (nomark _)) (pe_md0 T.c_Box (ok_Box_undo T) hr (by decide) (pv 0)) (pe_md0 T.c_Box (ok_Box_redo T) hr (by decide) (pv 0)))))))))))), ?_⟩)⟩
  · obtain ⟨b, s, Pl, S, as, S', d, ws, e, r, hb, q, _⟩ := h
    cases r
    rw [e, List.length_cons, q.length]
    rfl
  · obtain ⟨b, s, Pl, S, as, S', d, ws, e, r, hb, q, k⟩ := h
    cases r with
    | mk o h h2 h3 =>
    subst e
    have h0 : o.ds[0]? = some (.str o.word) := by cases o <;> rfl
    have g0 := EnvOk.start (N := NBox_execute) (es := bxE c b s Pl (dSc S) :: [dOp o].map (Ev.d FS)) ⟨_, _, rfl, hb, evs_reps q⟩
    refine m_par (a1 := Ev.d FS (.str o.word)) (a2 := Ev.d FS (.tup (o.ds.drop 1))) (pd_cons (pd_op' (pd_var (i := 1) rfl) pd_int (p2_ixN (i := 0) rfl h0)) (pd_cons (pd_eq (pd_slT (ds := o.ds) (pd_var (i := 1) rfl) (pdo_some pd_int) pdo_none) (by
      have := cutD_from (k := 1) (xs := o.ds)
      have e1 : ((1 : Nat) : Int) = 1 := rfl
      rw [e1] at this
      rw [this])) pd_nil)) g0 fun v1 v2 H1 sm1 g1 => ?_
    have kk : ∀ H2, Same H H2 → ∀ v H', Ch s H2 H' → Pr H2 H' → (bxE c b s Pl (dSc (S.step Pl o))).ok H' (.ref b) → Rep H' (stepO Pl S.fa S.sh o).2.2 v → Q v H' := fun H2 sm v H' c1 p1 b1 q1 => k v H' (Same.ch sm c1) (Pr.trans (Same.pr sm) p1) b1 q1
    cases o with
    | flip br =>
      refine m_take (pdt_eq (pdt_test (pd_op' (pd_var (i := 2) rfl) pd_str p2_eqS)) (by first | exact decide_eq_true rfl | exact decide_eq_false (by dsimp only [Op.word]; decide +kernel))) g1 fun H2 sm2 g2 => ?_
      exact m_call (as := [.int (br : Nat)]) (pd_var (i := 0) rfl) (pd_cons (pd_op' (pd_var (i := 3) rfl) pd_int (p2_ixT rfl rfl)) pd_nil) (fun _ _ => rfl) (.mk Pl S br h h2 h3) g2 (kk H2 (Same.trans sm1 sm2))
    | plug x l =>
      refine m_skip (pdt_eq (pdt_test (pd_op' (pd_var (i := 2) rfl) pd_str p2_eqS)) (by first | exact decide_eq_true rfl | exact decide_eq_false (by dsimp only [Op.word]; decide +kernel))) g1 fun H2 sm2 g2 => ?_
      refine m_take (pdt_eq (pdt_test (pd_op' (pd_var (i := 2) rfl) pd_str p2_eqS)) (by first | exact decide_eq_true rfl | exact decide_eq_false (by dsimp only [Op.word]; decide +kernel))) g2 fun H3 sm3 g3 => ?_
      exact m_call (as := [.str x, .int (l : Nat)]) (pd_var (i := 0) rfl) (pd_cons (pd_op' (pd_var (i := 3) rfl) pd_int (p2_ixT rfl rfl)) (pd_cons (pd_op' (pd_var (i := 3) rfl) pd_int (p2_ixT rfl rfl)) pd_nil)) (fun _ _ => rfl) (.mk Pl S x l h h2 h3) g3 (kk H3 (Same.trans sm1 (Same.trans sm2 sm3)))
    | rewire x o =>
      refine m_skip (pdt_eq (pdt_test (pd_op' (pd_var (i := 2) rfl) pd_str p2_eqS)) (by first | exact decide_eq_true rfl | exact decide_eq_false (by dsimp only [Op.word]; decide +kernel))) g1 fun H2 sm2 g2 => ?_
      refine m_skip (pdt_eq (pdt_test (pd_op' (pd_var (i := 2) rfl) pd_str p2_eqS)) (by first | exact decide_eq_true rfl | exact decide_eq_false (by dsimp only [Op.word]; decide +kernel))) g2 fun H3 sm3 g3 => ?_
      refine m_take (pdt_eq (pdt_test (pd_op' (pd_var (i := 2) rfl) pd_str p2_eqS)) (by first | exact decide_eq_true rfl | exact decide_eq_false (by dsimp only [Op.word]; decide +kernel))) g3 fun H4 sm4 g4 => ?_
      exact m_call (as := [.str x, dO o]) (pd_var (i := 0) rfl) (pd_cons (pd_op' (pd_var (i := 3) rfl) pd_int (p2_ixT rfl rfl)) (pd_cons (pd_op' (pd_var (i := 3) rfl) pd_int (p2_ixT rfl rfl)) pd_nil)) (fun _ _ => rfl) (.mk Pl S x o h h2 h3) g4 (kk H4 (Same.trans sm1 (Same.trans sm2 (Same.trans sm3 sm4))))
    | reset =>
      refine m_skip (pdt_eq (pdt_test (pd_op' (pd_var (i := 2) rfl) pd_str p2_eqS)) (by first | exact decide_eq_true rfl | exact decide_eq_false (by dsimp only [Op.word]; decide +kernel))) g1 fun H2 sm2 g2 => ?_
      refine m_skip (pdt_eq (pdt_test (pd_op' (pd_var (i := 2) rfl) pd_str p2_eqS)) (by first | exact decide_eq_true rfl | exact decide_eq_false (by dsimp only [Op.word]; decide +kernel))) g2 fun H3 sm3 g3 => ?_
      refine m_skip (pdt_eq (pdt_test (pd_op' (pd_var (i := 2) rfl) pd_str p2_eqS)) (by first | exact decide_eq_true rfl | exact decide_eq_false (by dsimp only [Op.word]; decide +kernel))) g3 fun H4 sm4 g4 => ?_
      refine m_take (pdt_eq (pdt_test (pd_op' (pd_var (i := 2) rfl) pd_str p2_eqS)) (by first | exact decide_eq_true rfl | exact decide_eq_false (by dsimp only [Op.word]; decide +kernel))) g4 fun H5 sm5 g5 => ?_
      exact m_call (as := []) (pd_var (i := 0) rfl) pd_nil (fun _ _ => rfl) (.mk Pl S h h2 h3) g5 (kk H5 (Same.trans sm1 (Same.trans sm2 (Same.trans sm3 (Same.trans sm4 sm5)))))
    | keep x =>
      refine m_skip (pdt_eq (pdt_test (pd_op' (pd_var (i := 2) rfl) pd_str p2_eqS)) (by first | exact decide_eq_true rfl | exact decide_eq_false (by dsimp only [Op.word]; decide +kernel))) g1 fun H2 sm2 g2 => ?_
      refine m_skip (pdt_eq (pdt_test (pd_op' (pd_var (i := 2) rfl) pd_str p2_eqS)) (by first | exact decide_eq_true rfl | exact decide_eq_false (by dsimp only [Op.word]; decide +kernel))) g2 fun H3 sm3 g3 => ?_
      refine m_skip (pdt_eq (pdt_test (pd_op' (pd_var (i := 2) rfl) pd_str p2_eqS)) (by first | exact decide_eq_true rfl | exact decide_eq_false (by dsimp only [Op.word]; decide +kernel))) g3 fun H4 sm4 g4 => ?_
      refine m_skip (pdt_eq (pdt_test (pd_op' (pd_var (i := 2) rfl) pd_str p2_eqS)) (by first | exact decide_eq_true rfl | exact decide_eq_false (by dsimp only [Op.word]; decide +kernel))) g4 fun H5 sm5 g5 => ?_
      refine m_take (pdt_eq (pdt_test (pd_op' (pd_var (i := 2) rfl) pd_str p2_eqS)) (by first | exact decide_eq_true rfl | exact decide_eq_false (by dsimp only [Op.word]; decide +kernel))) g5 fun H6 sm6 g6 => ?_
      exact m_call (as := [.str x]) (pd_var (i := 0) rfl) (pd_cons (pd_op' (pd_var (i := 3) rfl) pd_int (p2_ixT rfl rfl)) pd_nil) (fun _ _ => rfl) (.mk Pl S x h h2 h3) g6 (kk H6 (Same.trans sm1 (Same.trans sm2 (Same.trans sm3 (Same.trans sm4 (Same.trans sm5 sm6))))))
    | fetch x =>
      refine m_skip (pdt_eq (pdt_test (pd_op' (pd_var (i := 2) rfl) pd_str p2_eqS)) (by first | exact decide_eq_true rfl | exact decide_eq_false (by dsimp only [Op.word]; decide +kernel))) g1 fun H2 sm2 g2 => ?_
      refine m_skip (pdt_eq (pdt_test (pd_op' (pd_var (i := 2) rfl) pd_str p2_eqS)) (by first | exact decide_eq_true rfl | exact decide_eq_false (by dsimp only [Op.word]; decide +kernel))) g2 fun H3 sm3 g3 => ?_
      refine m_skip (pdt_eq (pdt_test (pd_op' (pd_var (i := 2) rfl) pd_str p2_eqS)) (by first | exact decide_eq_true rfl | exact decide_eq_false (by dsimp only [Op.word]; decide +kernel))) g3 fun H4 sm4 g4 => ?_
      refine m_skip (pdt_eq (pdt_test (pd_op' (pd_var (i := 2) rfl) pd_str p2_eqS)) (by first | exact decide_eq_true rfl | exact decide_eq_false (by dsimp only [Op.word]; decide +kernel))) g4 fun H5 sm5 g5 => ?_
      refine m_skip (pdt_eq (pdt_test (pd_op' (pd_var (i := 2) rfl) pd_str p2_eqS)) (by first | exact decide_eq_true rfl | exact decide_eq_false (by dsimp only [Op.word]; decide +kernel))) g5 fun H6 sm6 g6 => ?_
      refine m_take (pdt_eq (pdt_test (pd_op' (pd_var (i := 2) rfl) pd_str p2_eqS)) (by first | exact decide_eq_true rfl | exact decide_eq_false (by dsimp only [Op.word]; decide +kernel))) g6 fun H7 sm7 g7 => ?_
      exact m_call (as := [.str x]) (pd_var (i := 0) rfl) (pd_cons (pd_op' (pd_var (i := 3) rfl) pd_int (p2_ixT rfl rfl)) pd_nil) (fun _ _ => rfl) (.mk Pl S x h h2 h3) g7 (kk H7 (Same.trans sm1 (Same.trans sm2 (Same.trans sm3 (Same.trans sm4 (Same.trans sm5 (Same.trans sm6 sm7)))))))
end
end Bf
namespace Bf
open PySem PySem.Spec PyProof.Rows L2
section
variable {F : Fm} {K : PySem.W.Frag} {Γ : Env' F} {tk tv : TE} {tt : TT} {g : TG} {vs : List Nat} {wi : TI}
def DcB (F : Fm) (Γ : Env' F) (vs : List Nat) (g : TG) (tt : TT) (tk tv : TE) (e : D) (x : Bool) (k : Str) (n : Nat) : Prop := ∀ (σ : L2.St) (H : Hp) (u : V) (Qy : V → V → Hp → Prop) (Qn : Hp → Prop), F.I H → EnvOk H (L2.wipe σ vs) (wipeG Γ vs) → Rep H e u →
  (∀ H', F.R H H' → x = true → Qy (.str k) (.int (n : Int)) H') → (∀ H', F.R H H' → x = false → Qn H') →
  g u (L2.wipe σ vs) H fun σ2 H2 => L2.wipe σ2 vs = L2.wipe σ vs ∧ tt σ2 H2 fun b H3 => if b = true then tk σ2 H3 fun y H4 => tv σ2 H4 fun z H5 => Qy y z H5 else Qn H3
theorem dcb1 {j : Nat} {e : D} {x : Bool} {k : Str} {n : Nat} (hj : j ∈ vs) (h1 : PdT ((wipeG Γ vs).set j (some (Ev.d F e))) tt x) (h2 : x = true → Pd ((wipeG Γ vs).set j (some (Ev.d F e))) tk (Ev.d F (.str k))) (h3 : x = true → Pd ((wipeG Γ vs).set j (some (Ev.d F e))) tv (Ev.d F (.int (n : Int)))) : DcB F Γ vs (gName j) tt tk tv e x k n := fun σ H u Qy Qn i g r k1 k2 => by
  refine ⟨(wipe_set hj).trans wipe_wipe, ?_⟩
  have g1 := EnvOk.set (i := j) (e := Ev.d F e) g r
  refine h1 _ H _ i g1 fun H1 r1 => ?_
  cases x with
  | true =>
    refine h2 rfl _ H1 _ r1.1 (g1.st i r1) fun y H2 r2 q2 => h3 rfl _ H2 _ r2.1 (g1.st i (Fm.trans r1 r2)) fun z H3 r3 q3 => ?_
    have ey : y = .str k := q2
    have ez : z = .int (n : Int) := q3
    subst ey ez
    exact k1 H3 (Fm.trans r1 (Fm.trans r2 r3)) rfl
  | false => exact k2 H1 r1 rfl
theorem kvL_put {ld : Ld} {x : Str} {n : Nat} (h : x ∉ ld.map (·.1)) : putK (kvL ld) (.inr x) (.int (n : Int)) = kvL (ld ++ [(x, n)]) := by
  unfold putK
  rw [if_neg]
  · unfold kvL
    rw [List.map_append]
    rfl
  · intro z
    obtain ⟨kv, hm, hk⟩ := List.any_eq_true.mp z
    obtain ⟨q, hq, e⟩ := List.mem_map.mp hm
    have hk' := of_decide_eq_true hk
    rw [← e] at hk'
    exact h (List.mem_map.mpr ⟨q, hq, Sum.inr.inj hk'⟩)
theorem pd_dcN {ι : Type} {is : List ι} {f : ι → D} {p : ι → Bool} {kx : ι → Str} {n : ι → Nat} (hi : PdI F Γ wi (is.map f)) (hb : ∀ i ∈ is, DcB F Γ vs g tt tk tv (f i) (p i) (kx i) (n i)) (hnd : (is.map kx).Nodup) (hl : is.length < sizeLine) :
    Pd Γ (tDc wi g tt tk tv vs) (Ev.d F (dLd ((is.filter p).map fun i => (kx i, n i)))) := fun σ H Q i0 g0 k => by
  refine hi σ H _ i0 g0 fun J H1 r1 w => fun D0 n0 => ?_
  have nA0 : ¬ F.A D0 := Fm.nA r1.1 n0
  have s1 : Same H1 (upd H1 D0 (.dK [])) := Same.new n0
  have g1 := (g0.st i0 r1).wipe vs
  refine ⟨fun i m H' => m = is.length - i ∧ i ≤ is.length ∧ F.R H1 H' ∧ H' D0 = some (.dK (kvL (((is.take i).filter p).map fun i => (kx i, n i)))), ⟨_, rfl, Nat.zero_le _, Fm.ofSame r1.1 s1, upd_same⟩, ?_⟩
  rintro i m H' ⟨rfl, hi, rr, hD⟩
  by_cases hlt : i < is.length
  · refine .inr ⟨w.goes i H' (by rw [List.length_map]; exact hlt) rr, fun H' => F.R H1 H' ∧ H' D0 = some (.dK (kvL (((is.take (i + 1)).filter p).map fun i => (kx i, n i)))), fun H2 ⟨a1, a2⟩ => ⟨is.length - (i + 1), by omega, rfl, hlt, a1, a2⟩, fun x H2 y => ?_⟩
    obtain ⟨sm, d0, hd0, rx⟩ := w.yields i H' x H2 (by rw [List.length_map]; exact hlt) rr y
    rw [List.getElem?_map, List.getElem?_eq_getElem hlt] at hd0
    obtain rfl : f is[i] = d0 := Option.some.inj hd0
    have r2 : F.R H1 H2 := Fm.trans rr (Fm.ofSame rr.1 sm)
    have hD2 := sm _ _ hD
    have tk' : is.take (i + 1) = is.take i ++ [is[i]] := by rw [List.take_succ, List.getElem?_eq_getElem hlt]; rfl
    refine hb is[i] (List.getElem_mem hlt) σ H2 x (fun y z H5 => ∃ kvs k, y = kV k ∧ H5 D0 = some (.dK kvs) ∧ kvs.length < sizeLine ∧ (F.R H1 (upd H5 D0 (.dK (putK kvs k z))) ∧ upd H5 D0 (.dK (putK kvs k z)) D0 = some (.dK (kvL (((is.take (i + 1)).filter p).map fun i => (kx i, n i)))))) _ r2.1 (g1.st r1.1 r2) rx (fun H3 r3 hp => ?_) fun H3 r3 hp => ?_
    · have hD3 := r3.2 _ _ hD2 nA0
      refine ⟨_, .inr (kx is[i]), rfl, hD3, ?_, ⟨F.wr r3.1 nA0 hD3 (fun _ _ z => nomatch z), fun a o e na => by
        rw [upd_ne (ne_of_none e n0)]
        exact (Fm.trans r2 r3).2 a o e na⟩, ?_⟩
      · have : (((is.take i).filter p).map fun i => (kx i, n i)).length ≤ is.length := by
          rw [List.length_map]
          exact Nat.le_trans (List.length_filter_le _ _) (by rw [List.length_take]; exact Nat.min_le_right _ _)
        unfold kvL
        rw [List.length_map]
        omega
      · rw [upd_same, kvL_put]
        · rw [tk', List.filter_append, List.map_append]
          have e1 : [is[i]].filter p = [is[i]] := by simp [hp]
          rw [e1]
          rfl
        · intro z
          rw [List.map_map] at z
          obtain ⟨j, hj, ej⟩ := List.mem_map.mp z
          have hj2 := (List.mem_filter.mp hj).1
          obtain ⟨m, hm, em⟩ := List.mem_take_iff_getElem.mp hj2
          have np := List.pairwise_iff_getElem.mp hnd
          have := np m i (by simp; omega) (by simpa using hlt) (by omega)
          simp only [List.getElem_map] at this
          rw [em] at this
          exact this ej
    · have hD3 := r3.2 _ _ hD2 nA0
      refine ⟨Fm.trans r2 r3, ?_⟩
      rw [hD3, tk', List.filter_append]
      have e1 : [is[i]].filter p = [] := by simp [hp]
      rw [e1, List.append_nil]
  · have e : i = is.length := by omega
    subst e
    rw [List.take_of_length_le (Nat.le_refl _)] at hD
    refine .inl ⟨?_, k _ H' (Fm.trans r1 rr) (rep_ld_of hD)⟩
    have := w.stops H' rr
    rw [List.length_map] at this
    exact this
/-- a sorted list of keys -/
def Ev.srt (F : Fm) (ks : List Str) : Ev F := ⟨fun H v => ∃ ys : List Str, ys.Perm ks ∧ sortedS ys = true ∧ (Ev.l F (ys.map .str)).ok H v, fun i r ⟨ys, h1, h2, h3⟩ => ⟨ys, h1, h2, (Ev.l F _).st i r h3⟩⟩
theorem pc_sortedD {α : Type} {enc : α → D} {l : List (Str × α)} (hl : l.length < 64) : PdC F (fun xs H Q => ∃ (a : Addr) (kvs : List (Key × V)) (ks : List Str), xs = [.ref a] ∧ Rd H a (.dK kvs) ∧ kvs.map (·.1) = ks.map Sum.inr ∧ ks.length < 64 ∧
    ∀ ys p, ys.Perm ks → sortedS ys = true → H p = none → Q (.ref p) (upd H p (.lst (ys.map V.str)))) [Ev.d F (dG enc l)] (Ev.srt F (l.map (·.1))) := fun vs H Q i g k => by
  obtain ⟨v, ws, e, h1, h2⟩ := g
  have e2 : ws = [] := h2
  subst e2
  obtain ⟨a, kvs, e3, ha, kr⟩ := rep_g h1
  subst e3
  refine ⟨a, kvs, l.map (·.1), e, .inl ha, kr.to.1, by simpa using hl, fun ys p h1 h2 n => ?_⟩
  have sm : Same H (upd H p (.lst (ys.map V.str))) := Same.new n
  exact k _ _ (Fm.ofSame i sm) ⟨ys, h1, h2, p, _, rfl, Fm.nA i n, upd_same, Reps.of_strs⟩
end
def ldNow (P : Pl) (ld : Ld) : Ld := ((P.pts.map (·.1)).filter fun x => (getG ld x).isSome).map fun x => (x, ldGet ld x)
inductive Rp_loads : Pl → List D → Ev FS → Prop
  | mk (P : Pl) (h : P.Ok) (f : Fa) (d1 d2 d3 : D) : Rp_loads P [dFa f, d1, d2, d3] (Ev.d FS (dLd (ldNow P f.ld)))
inductive Rp_kept : Pl → List D → Ev FS → Prop
  | mk (P : Pl) (sh : Shelf) (h : sh.length < 64) (d1 d2 d3 : D) : Rp_kept P [d1, dSh sh, d2, d3] (Ev.srt FS (sh.map (·.1)))
inductive Rp_history : Pl → List D → Ev FS → Prop
  | mk (P : Pl) (ps : List En) (h : ps.length < 1000) (d1 d2 d3 : D) : Rp_history P [d1, d2, .tup (ps.map dEn), d3] (Ev.l FS (ps.map fun e => dOp e.1))
section
variable {P : Program} {w : World} {K : PySem.W.Frag} {mg : Str → Option Value} {base : Heap} {c : Ca}
theorem ok_b_loads_now (T : Tx w K mg c) : Pp P w K mg base c.box "loads_now" 3 (SpProp c Rp_loads) := by
  obtain ⟨p, g, hp, FF⟩ := T.p_Box_loads_now
  refine ⟨p, g, hp, fnr_of FF scBox_loads_now (fun _ _ _ _ _ _ us hu => by obtain ⟨a, rfl⟩ := len1 hu; rfl) (fun vs H Q E h => ?_) (fun cdv A outer s H vs Q E hr h => ⟨_, (pss_one (ps_ret (pe_dcD (own := [("name", 1)]) (by rfl) scBox_loads_now.nd (pi_tup (pe_pp T.c_Plan (ok_p_names T) hr (by decide) (pe_fld (pv 0) rfl))) (blkOk_by (own := [("name", 1)]) (N := NBox_loads_now) (sc := defScope sBox_loads_now) (by decide +kernel)) (fun _ _ _ _ _ => (pg_name (i := 1) scBox_loads_now.nd rfl (Or.inl rfl))) (fun _ _ _ _ _ => (pts_one (pt_cmp (pc_din (hu_of hr) (pv 1) (pe_ix ix_tup (SlX.pe_sl (pe_fld (pv 0) rfl)) pe_int (fun _ _ => rfl))) (by rfl)))) (fun _ _ _ _ _ => (pv 1)) (fun _ _ _ _ _ => (pe_dget (hu_of hr) (pe_ix ix_tup (SlX.pe_sl (pe_fld (pv 0) rfl)) pe_int (fun _ _ => rfl)) (pv 1) (fun _ _ => rfl)))))), ?_⟩)⟩
  · obtain ⟨b, s, Pl, ds, e, ev, r, hb, k⟩ := h
    rw [ev]
    rfl
  · obtain ⟨b, s, Pl, ds, e, ev, r, hb, k⟩ := h
    cases r with
    | mk h f d1 d2 d3 =>
    subst ev
    have hp5 := h.p5
    have hz := sizeLine_eq
    have hld : ∀ {Γ : Env' FS}, Γ[0]? = some (some (bxE c b s Pl [dFa f, d1, d2, d3])) → Pd Γ (tOp (rIxT K) (SlX.tSl K (tFld K (tVar 0) "held") "facts") (tC (.int 1))) (Ev.d FS (dLd f.ld)) := fun hg => pd_op' (pd_slotE (d := dFa f) T T.sl_facts (pd_held T (pd_var (i := 0) hg)) rfl) pd_int (p2_ixT rfl rfl)
    refine (pd_dcN (F := FS) (is := (Pl.pts.map fun p : Str × Str × Nat => p.1)) (f := .str) (p := fun x => (getG f.ld x).isSome) (kx := fun x => x) (n := fun x => ldGet f.ld x) (pdj_tup (pp_names (pd_plan T (pd_var (i := 0) rfl)) h) rfl).i (fun x hx => dcb1 (j := 1) (vs := [1]) (List.mem_cons_self) (pdt_val (pd_din (enc := fun n : Nat => D.int (n : Int)) (l := f.ld) (pd_var (i := 1) rfl) (hld rfl))) (fun _ => pd_var rfl) (fun hg => ?_)) (by rw [List.map_id']; exact h.nd) (by simp; omega)) _ H _ trivial (envOk_some (e := bxE c b s Pl [dFa f, d1, d2, d3]) hb (envOk_none envOk_nil)) fun v H' r q => k v H' (FS_same r) q
    obtain ⟨a, ha⟩ := Option.isSome_iff_exists.mp hg
    have e : ldGet f.ld x = a := by rw [ldGet_getG, ha]; rfl
    rw [e]
    exact pd_dget (enc := fun n : Nat => D.int (n : Int)) (l := f.ld) (hld rfl) (pd_var (i := 1) rfl) ha
theorem ok_b_kept_under (T : Tx w K mg c) : Pp P w K mg base c.box "kept_under" 1 (SpProp c Rp_kept) := by
  obtain ⟨p, g, hp, FF⟩ := T.p_Box_kept_under
  refine ⟨p, g, hp, fnr_of FF scBox_kept_under (fun _ _ _ _ _ _ us hu => by obtain ⟨a, rfl⟩ := len1 hu; rfl) (fun vs H Q E h => ?_) (fun cdv A outer s H vs Q E hr h => ⟨_, (pss_one (ps_ret (pe_callB (call_sortedD (by rfl)) (by rfl) T.n_sorted (by decide +kernel) (pa_cons (SlX.pe_sl (pe_fld (pv 0) rfl)) pa_nil)))), ?_⟩)⟩
  · obtain ⟨b, s, Pl, ds, e, ev, r, hb, k⟩ := h
    rw [ev]
    rfl
  · obtain ⟨b, s, Pl, ds, e, ev, r, hb, k⟩ := h
    cases r with
    | mk sh hl d1 d2 d3 =>
    subst ev
    exact (pd_call' (pd_cons (pd_slotE (d := dSh sh) T T.sl_shelf (pd_held T (pd_var (i := 0) rfl)) rfl) pd_nil) (pc_sortedD hl)) _ H _ trivial (envOk_some (e := bxE c b s Pl [d1, dSh sh, d2, d3]) hb envOk_nil) fun v H' r q => k v H' (FS_same r) q
theorem ok_b_history (T : Tx w K mg c) : Pp P w K mg base c.box "history" 1 (SpProp c Rp_history) := by
  obtain ⟨p, g, hp, FF⟩ := T.p_Box_history
  refine ⟨p, g, hp, fnr_of FF scBox_history (fun _ _ _ _ _ _ us hu => by obtain ⟨a, rfl⟩ := len1 hu; rfl) (fun vs H Q E h => ?_) (fun cdv A outer s H vs Q E hr h => ⟨_, (pss_one (ps_ret (pe_lcD (own := [("operation", 1), ("facts", 2), ("shelf", 3)]) (by rfl) scBox_history.nd (pi_tup (SlX.pe_sl (pe_fld (pv 0) rfl))) (blkOk_by (own := [("operation", 1), ("facts", 2), ("shelf", 3)]) (N := NBox_history) (sc := defScope sBox_history) (by decide +kernel)) (fun _ _ _ _ _ => (pg_tup (by rfl) (pgs_cons (pg_name (i := 1) scBox_history.nd rfl (Or.inl rfl)) (pgs_cons (pg_name (i := 2) scBox_history.nd rfl (Or.inl rfl)) (pgs_cons (pg_name (i := 3) scBox_history.nd rfl (Or.inl rfl)) pgs_nil))))) (fun _ _ _ _ _ => pts_nil) (fun _ _ _ _ _ => (pv 1))))), ?_⟩)⟩
  · obtain ⟨b, s, Pl, ds, e, ev, r, hb, k⟩ := h
    rw [ev]
    rfl
  · obtain ⟨b, s, Pl, ds, e, ev, r, hb, k⟩ := h
    cases r with
    | mk ps hl d1 d2 d3 =>
    subst ev
    have hz := sizeLine_eq
    exact (pd_lc' (F := FS) (is := ps) (f := dEn) (d := fun e => dOp e.1) (pdj_tup (pd_slotE (d := .tup (ps.map dEn)) T T.sl_past (pd_held T (pd_var (i := 0) rfl)) rfl) rfl).i (fun e he => lcb3 (j := 1) (l := 2) (m := 3) (vs := [1, 2, 3]) (by simp) (by simp) (by simp) pdt_yes fun _ => pd_var rfl) (by omega)) _ H _ trivial (envOk_some (e := bxE c b s Pl [d1, d2, .tup (ps.map dEn), d3]) hb (envOk_none (envOk_none (envOk_none envOk_nil)))) fun v H' r q => k v H' (FS_same r) q
end
end Bf
/-! ### a box made; a trial -/
namespace Bf
open PySem PySem.Spec PyProof.Rows L2
section
variable {c : Ca} {P : Pl} {s f a C dx : Addr} {fs : List (Str × V)} {H H' : Hp} {o : HO} {ds : List D} {v : V}
theorem pl_updI (h : H a = some (.ins C dx fs)) (q : (Ev.pl FS c P).ok H v) : (Ev.pl FS c P).ok (upd H a o) v := by
  obtain ⟨b, dx', vs', t, e, n1, n2, h1, h2, h3, h4⟩ := q
  refine ⟨b, dx', vs', t, e, n1, n2, ?_, ?_, h3, Rep.pr (Pr.mutI h) h4⟩
  · rw [upd_ne (fun z => by rw [z, h] at h1; unfold SlX.SlO at h1; cases h1)]
    exact h1
  · rw [upd_ne (fun z => by rw [z, h] at h2; cases h2)]
    exact h2
theorem sv_updI (h : H a = some (.ins C dx fs)) (q : (svE c s ds).ok H v) : (svE c s ds).ok (upd H a o) v := by
  obtain ⟨e, dx', vs', h1, h2, h3⟩ := q
  refine ⟨e, dx', vs', ?_, ?_, fun i d hd => ?_⟩
  · rw [upd_ne (fun z => by rw [z, h] at h1; unfold SlX.SlO at h1; cases h1)]
    exact h1
  · rw [upd_ne (fun z => by rw [z, h] at h2; cases h2)]
    exact h2
  · obtain ⟨x, h4, h5⟩ := h3 i d hd
    exact ⟨x, h4, Rep.pr (Pr.mutI h) h5⟩
theorem sv_ch (k : Ch s H H') (p : Pr H H') (hs : ∃ dx vs, H s = some (SlX.SlO s c.state dx vs)) (ne : f ≠ s) (q : (svE c f ds).ok H v) : (svE c f ds).ok H' v := by
  obtain ⟨e, dx', vs', h1, h2, h3⟩ := q
  obtain ⟨dx, vs, hs⟩ := hs
  refine ⟨e, dx', vs', k _ _ h1 ne, k _ _ h2 (fun z => by
    rw [z, hs] at h2
    exact SlX.slO_not (Option.some.inj h2)), fun i d hd => ?_⟩
  obtain ⟨x, h4, h5⟩ := h3 i d hd
  exact ⟨x, h4, Rep.pr p h5⟩
end
/-- a box, its addresses told -/
def BxP (H : Hp) (c : Ca) (b s : Addr) (P : Pl) (dxb pa : Addr) (ds : List D) : Prop := H b = some (.ins c.box dxb [("plan", .ref pa), ("held", .ref s)]) ∧ pa ≠ s ∧ (Ev.pl FS c P).ok H (.ref pa) ∧ (svE c s ds).ok H (.ref s)
def S0 (P : Pl) (wi : List (Option Nat)) : Sc := ⟨⟨List.replicate P.n true, [], wi, 0⟩, [], [], []⟩
def Sp_Box_init (c : Ca) : Sp := fun vs H Q _ => ∃ (b dx : Addr) (P : Pl) (wi : List (Option Nat)) (v1 v2 : V), vs = [.ref b, v1, v2] ∧ P.Ok ∧ Wok P wi ∧ H b = some (.ins c.box dx []) ∧ (Ev.pl FS c P).ok H v1 ∧ Rep H (.tup (wi.map dO)) v2 ∧
  ∀ H' s, H s = none → (∀ a o, H a = some o → a ≠ b → H' a = some o) → (bxE c b s P (dSc (S0 P wi))).ok H' (.ref b) → Q .non H'
abbrev trF' (b s : Addr) (vf vc : V) : List (Str × V) := [("tested_box", .ref b), ("origin", .ref s), ("fresh", vf), ("chosen", vc)]
def Sp_Trial_init (c : Ca) : Sp := fun vs H Q _ => ∃ (t b s dxt dxb : Addr) (vp : V), vs = [.ref t, .ref b] ∧ H t = some (.ins c.trial dxt []) ∧ H b = some (.ins c.box dxb [("plan", vp), ("held", .ref s)]) ∧ b ≠ t ∧
  ∀ H', (∀ a o, H a = some o → a ≠ t → H' a = some o) → H' t = some (.ins c.trial dxt (trF' b s (.ref s) (.ref s))) → Q .non H'
def Sp_enter (c : Ca) : Sp := fun vs H Q _ => ∃ (t b s dxt dxb pa : Addr) (P : Pl) (d0 d1 d2 d3 : D) (v1 v2 : V), vs = [.ref t] ∧ H t = some (.ins c.trial dxt (trF' b s v1 v2)) ∧ BxP H c b s P dxb pa [d0, d1, d2, d3] ∧ b ≠ t ∧
  ∀ H' f g, H f = none → (∀ a o, H a = some o → a ≠ t → a ≠ b → H' a = some o) → H' t = some (.ins c.trial dxt (trF' b s (.ref f) (.ref g))) → BxP H' c b f P dxb pa [d0, d1, d2, d3] → (svE c s [d0, d1, d2, d3]).ok H' (.ref s) → Q (.ref t) H'
def Sp_hold (c : Ca) : Sp := fun vs H Q _ => ∃ (t b s dxt : Addr) (v1 v2 : V), vs = [.ref t] ∧ H t = some (.ins c.trial dxt (trF' b s v1 v2)) ∧ Q .non (upd H t (.ins c.trial dxt (trF' b s v1 v1)))
def Sp_exit (c : Ca) : Sp := fun vs H Q _ => ∃ (t b s f dxt dxb pa : Addr) (P : Pl) (d0 d1 d2 d3 e0 e1 e2 e3 : D) (v1 : V), vs = [.ref t, .non, .non, .non] ∧ H t = some (.ins c.trial dxt (trF' b s v1 (.ref f))) ∧ BxP H c b f P dxb pa [d0, d1, d2, d3] ∧ (svE c s [e0, e1, e2, e3]).ok H (.ref s) ∧ s ≠ f ∧ pa ≠ s ∧ b ≠ t ∧
  ∀ H', (∀ a o, H a = some o → a ≠ b → a ≠ s → H' a = some o) → Pr H H' → BxP H' c b s P dxb pa [d0, d1, d2, d3] → Q .non H'
section
variable {P : Program} {w : World} {K : PySem.W.Frag} {mg : Str → Option Value} {base : Heap} {c : Ca}
theorem ok_Box_init (T : Tx w K mg c) : Mi P w K mg base c.box "Box" 6 (Sp_Box_init c) := by
  obtain ⟨g, hk, hm, FF⟩ := T.k_Box
  have ok_mk_State := fun T : Tx w K mg c => ok_State_init (P := P) (base := base) T
  refine ⟨g, hk, hm, fnr_of FF scBox_init (fun _ _ _ _ _ _ us hu => by obtain ⟨a, b, c, rfl⟩ := len3 hu; rfl) (fun vs H Q E h => ?_) (fun cdv A outer s H vs Q E hr h => ⟨_, (pss_cons (ps_expr (pe_cl (ok_check_wiring T) hr (by decide) (by rfl) (pa_cons (pv 1) (pa_cons (pv 2) pa_nil)))) (pss_cons (ps_fld (pv 0) (pv 1) rfl) (pss_one (ps_fld (pv 0) (pe_mk (ok_mk_State T) hr (by decide) (by rfl) (pa_cons (pe_tup (pa_cons (pe_cl (ok_all_on T) hr (by decide) (by rfl) (pa_cons (pv 1) pa_nil)) (pa_cons pe_dnewK (pa_cons (pv 2) (pa_cons pe_int pa_nil))))) (pa_cons pe_dnewK (pa_cons (pe_tup pa_nil) (pa_cons (pe_tup pa_nil) pa_nil))))) rfl)))), ?_⟩)⟩
  · obtain ⟨b, dx, Pl, wi, v1, v2, e, _⟩ := h
    rw [e]
    rfl
  · obtain ⟨b, dx, Pl, wi, v1, v2, e, ok, hw, hb, hp, q2, k⟩ := h
    subst e
    have hz := sizeLine_eq
    have g0 : EnvOk (F := FS) H (start NBox_init [.ref b, v1, v2]) [some (Ev.v FS (.ref b)), some (Ev.pl FS c Pl), some (Ev.d FS (.tup (wi.map dO)))] := envOk_some rfl (envOk_some hp (envOk_some q2 envOk_nil))
    refine m_drop (pd_cl (pd_cons (pd_var (i := 1) rfl) (pd_cons (pd_var (i := 2) rfl) pd_nil)) (.mk _ Pl wi ok hw)) g0 fun H1 sm1 g1 => ?_
    have hb1 := sm1 _ _ hb
    have hp1 := (Ev.pl FS c Pl).st trivial (Fm.ofSame (F := FS) trivial sm1) hp
    refine ⟨v1, rfl, .ref b, rfl, b, c.box, dx, [], rfl, hb1, T.c_Box, T.na_plan, by decide, ?_⟩
    obtain ⟨pa, hpa⟩ : ∃ pa, v1 = .ref pa := by
      obtain ⟨a, _, _, _, e, _⟩ := hp
      exact ⟨a, e⟩
    subst hpa
    have g2 : EnvOk (F := FS) (upd H1 b (.ins c.box dx [("plan", V.ref pa)])) (start NBox_init [.ref b, .ref pa, v2]) [some (Ev.v FS (.ref b)), some (Ev.pl FS c Pl), some (Ev.d FS (.tup (wi.map dO)))] := envOk_some rfl (envOk_some (pl_updI hb1 hp1) (envOk_some (Rep.pr (Pr.mutI hb1) (Rep.same sm1 q2)) envOk_nil))
    have hb2 : upd H1 b (.ins c.box dx [("plan", V.ref pa)]) b = some (.ins c.box dx [("plan", V.ref pa)]) := upd_same
    have e1 : putF "plan" (V.ref pa) [] = [(("plan" : Str), V.ref pa)] := rfl
    rw [e1]
    have ch2 : ∀ a o, H a = some o → a ≠ b → upd H1 b (.ins c.box dx [("plan", V.ref pa)]) a = some o := fun a o e n => by
      rw [upd_ne n]
      exact sm1 _ _ e
    have hp2 := pl_updI (o := .ins c.box dx [("plan", V.ref pa)]) hb1 hp1
    generalize upd H1 b (.ins c.box dx [("plan", V.ref pa)]) = H2 at g2 hb2 ch2 hp2
    dsimp only [sFld]
    refine mk_state (F := FS) (d0 := dFa ⟨List.replicate Pl.n true, [], wi, 0⟩) (d1 := dSh []) (d2 := .tup []) (d3 := .tup []) (pd_cons (pd_tup' (ds := [.tup ((List.replicate Pl.n true).map .bl), dLd [], .tup (wi.map dO), .int 0]) (pd_cons (pd_cl (pd_cons (pd_var (i := 1) rfl) pd_nil) (R_all_on.mk _ Pl ok)) (pd_cons pd_dnew (pd_cons (pd_var (i := 2) rfl) (pd_cons pd_int pd_nil)))) rfl (by show 4 ≤ sizeLine; omega)) (pd_cons pd_dnew (pd_cons (pd_tup' (ds := []) pd_nil rfl (by decide)) (pd_cons (pd_tup' (ds := []) pd_nil rfl (by decide)) pd_nil)))) trivial g2 fun H3 H4 s2 r3 n2 sm4 sv => ?_
    have sm3 := FS_same r3
    have hb3 := sm3 _ _ hb2
    have hb4 := sm4 _ _ hb3
    have hp4 := (Ev.pl FS c Pl).st trivial (Fm.ofSame (F := FS) trivial sm4) ((Ev.pl FS c Pl).st trivial r3 hp2)
    refine ⟨.ref b, rfl, b, c.box, dx, _, rfl, hb4, T.c_Box, T.na_held, by show 1 < 1000; decide, ?_⟩
    have ns2 : H s2 = none := by
      cases e : H s2 with
      | none => rfl
      | some o =>
        by_cases hsb : s2 = b
        · rw [hsb, hb3] at n2
          cases n2
        · rw [sm3 _ _ (ch2 _ _ e hsb)] at n2
          cases n2
    refine k _ s2 ns2 (fun a o e n => by
      rw [upd_ne n]
      exact sm4 _ _ (sm3 _ _ (ch2 a o e n))) ⟨rfl, dx, pa, upd_same, ?_, pl_updI hb4 hp4, sv_updI hb4 sv⟩
    intro z
    obtain ⟨a, _, _, _, e, _, _, h1, _⟩ := (Ev.pl FS c Pl).st trivial r3 hp2
    cases e
    rw [z, n2] at h1
    cases h1
theorem mk_box {Γ : Env' FS} {t : TA} {σ : L2.St} {H : Hp} {Q : VK} {Pl : Pl} {wi : List (Option Nat)} (h : PdA Γ t [Ev.pl FS c Pl, Ev.d FS (.tup (wi.map dO))]) (ok : Pl.Ok) (hw : Wok Pl wi) (g : EnvOk H σ Γ)
    (k : ∀ H' b s, H b = none → H s = none → Same H H' → (bxE c b s Pl (dSc (S0 Pl wi))).ok H' (.ref b) → Q (.ref b) H') : StX.tMakeR c.box (Sp_Box_init c) E0 t σ H Q :=
  h σ H _ trivial g fun vs H1 r1 ⟨v0, w1, e0, q0, v1, w2, e1, q1, e4⟩ x dx nx nd ne => by
  have e4' : w2 = [] := e4
  subst e4' e1 e0
  have s1 : Same H1 (upd (upd H1 dx (.own x)) x (.ins c.box dx [])) := fun a o e => by
    rw [upd_ne (ne_of_none e nx), upd_ne (ne_of_none e nd)]
    exact e
  have sm := FS_same r1
  refine ⟨x, dx, Pl, wi, v0, v1, rfl, ok, hw, upd_same, (Ev.pl FS c Pl).st trivial (Fm.ofSame (F := FS) trivial s1) q0, Rep.same s1 q1, fun H' s ns ch bx => ⟨rfl, k H' x s ?_ ?_ (fun a o e => ch a o (s1 a o (sm a o e)) (ne_of_none (sm a o e) nx)) bx⟩⟩
  cases e : H x with
  | none => rfl
  | some o =>
    rw [sm _ _ e] at nx
    cases nx
  cases e : H s with
  | none => rfl
  | some o =>
    rw [s1 _ _ (sm _ _ e)] at ns
    cases ns
theorem ok_Trial_init (T : Tx w K mg c) : Mi P w K mg base c.trial "Trial" 1 (Sp_Trial_init c) := by
  obtain ⟨g, hk, hm, FF⟩ := T.k_Trial
  refine ⟨g, hk, hm, fnr_of FF scTrial_init (fun _ _ _ _ _ _ us hu => by obtain ⟨a, b, rfl⟩ := len2 hu; rfl) (fun vs H Q E h => ?_) (fun cdv A outer s H vs Q E hr h => ⟨_, (pss_cons (ps_fld (pv 0) (pv 1) rfl) (pss_cons (ps_fld (pv 0) (pe_fld (pv 1) rfl) rfl) (pss_cons (ps_fld (pv 0) (pe_fld (pv 1) rfl) rfl) (pss_one (ps_fld (pv 0) (pe_fld (pv 1) rfl) rfl))))), ?_⟩)⟩
  · obtain ⟨t, b, s, dxt, dxb, vp, e, _⟩ := h
    rw [e]
    rfl
  · obtain ⟨t, b, s, dxt, dxb, vp, e, ht, hb, ne, k⟩ := h
    subst e
    refine ⟨.ref b, rfl, .ref t, rfl, t, c.trial, dxt, [], rfl, ht, T.c_Trial, T.na_tested_box, by decide, ?_⟩
    have hb1 : upd H t (.ins c.trial dxt [("tested_box", V.ref b)]) b = some (.ins c.box dxb [("plan", vp), ("held", .ref s)]) := by rw [upd_ne ne]; exact hb
    refine ⟨.ref b, rfl, b, c.box, dxb, _, .ref s, rfl, hb1, T.c_Box, T.na_held, rfl, .ref t, rfl, t, c.trial, dxt, _, rfl, upd_same, T.c_Trial, T.na_origin, by show 1 < 1000; decide, ?_⟩
    rw [upd_upd]
    have hb2 : upd H t (.ins c.trial dxt [("tested_box", V.ref b), ("origin", .ref s)]) b = some (.ins c.box dxb [("plan", vp), ("held", .ref s)]) := by rw [upd_ne ne]; exact hb
    refine ⟨.ref b, rfl, b, c.box, dxb, _, .ref s, rfl, hb2, T.c_Box, T.na_held, rfl, .ref t, rfl, t, c.trial, dxt, _, rfl, upd_same, T.c_Trial, T.na_fresh, by show 2 < 1000; decide, ?_⟩
    rw [upd_upd]
    have hb3 : upd H t (.ins c.trial dxt [("tested_box", V.ref b), ("origin", .ref s), ("fresh", .ref s)]) b = some (.ins c.box dxb [("plan", vp), ("held", .ref s)]) := by rw [upd_ne ne]; exact hb
    refine ⟨.ref b, rfl, b, c.box, dxb, _, .ref s, rfl, hb3, T.c_Box, T.na_held, rfl, .ref t, rfl, t, c.trial, dxt, _, rfl, upd_same, T.c_Trial, T.na_chosen, by show 3 < 1000; decide, ?_⟩
    rw [upd_upd]
    exact k _ (fun a o e n => by rw [upd_ne n]; exact e) upd_same
theorem ok_Trial_hold (T : Tx w K mg c) : Md P w K mg base c.trial "hold" 1 (Sp_hold c) := by
  obtain ⟨g, hm, FF⟩ := T.m_Trial_hold
  refine ⟨g, hm, fnr_of FF scTrial_hold (fun _ _ _ _ _ _ us hu => by obtain ⟨a, rfl⟩ := len1 hu; rfl) (fun vs H Q E h => ?_) (fun cdv A outer s H vs Q E hr h => ⟨_, (pss_one (ps_fld (pv 0) (pe_fld (pv 0) rfl) rfl)), ?_⟩)⟩
  · obtain ⟨t, b, s, dxt, v1, v2, e, _⟩ := h
    rw [e]
    rfl
  · obtain ⟨t, b, s, dxt, v1, v2, e, ht, k⟩ := h
    subst e
    exact ⟨.ref t, rfl, t, c.trial, dxt, _, v1, rfl, ht, T.c_Trial, T.na_fresh, rfl, .ref t, rfl, t, c.trial, dxt, _, rfl, ht, T.c_Trial, T.na_chosen, by show 4 < 1000; decide, k⟩
theorem ok_Trial_enter (T : Tx w K mg c) : ∃ g, PySem.W.findIn K (.ref c.trial) "__enter__" = some (some (.ref g)) ∧ PySem.W.isFn K (.ref g) = true ∧ FnR P w K mg base CX0 4 g (Sp_enter c) := by
  obtain ⟨g, h1, h2, FF⟩ := T.x_Trial_enter
  refine ⟨g, h1, h2, fnr_of FF scTrial_enter (fun _ _ _ _ _ _ us hu => by obtain ⟨a, rfl⟩ := len1 hu; rfl) (fun vs H Q E h => ?_) (fun cdv A outer s H vs Q E hr h => ⟨_, (pss_cons (ps_fld (pv 0) (pe_fld (pe_fld (pv 0) rfl) rfl) rfl) (pss_cons (ps_fld (pv 0) (pe_ms0 T.c_State (ok_State_copied T) hr (by decide) (pe_fld (pv 0) rfl)) rfl) (pss_cons (ps_fld (pv 0) (pe_ms0 T.c_State (ok_State_copied T) hr (by decide) (pe_fld (pv 0) rfl)) rfl) (pss_cons (ps_fld (pe_fld (pv 0) rfl) (pe_fld (pv 0) rfl) rfl) (pss_one (ps_ret (pv 0))))))), ?_⟩)⟩
  · obtain ⟨t, b, s, dxt, dxb, pa, Pl, d0, d1, d2, d3, v1, v2, e, _⟩ := h
    rw [e]
    rfl
  · obtain ⟨t, b, s, dxt, dxb, pa, Pl, d0, d1, d2, d3, v1, v2, e, ht, ⟨hb, nps, hpl, hs⟩, ne, k⟩ := h
    subst e
    -- origin
    refine ⟨.ref t, rfl, t, c.trial, dxt, _, .ref b, rfl, ht, T.c_Trial, T.na_tested_box, rfl, b, c.box, dxb, _, .ref s, rfl, hb, T.c_Box, T.na_held, rfl, .ref t, rfl, t, c.trial, dxt, _, rfl, ht, T.c_Trial, T.na_origin, by show 4 < 1000; decide, ?_⟩
    have e1 : putF "origin" (V.ref s) (trF' b s v1 v2) = trF' b s v1 v2 := rfl
    rw [e1]
    have eH : upd H t (.ins c.trial dxt (trF' b s v1 v2)) = H := by
      funext a
      by_cases h : a = t
      · rw [h, upd_same, ht]
      · rw [upd_ne h]
    rw [eH]
    -- chosen
    have hs' := hs
    obtain ⟨_, dxs, vss, hs1, hs2, _⟩ := hs'
    refine ⟨.ref t, rfl, t, c.trial, dxt, _, .ref s, rfl, ht, T.c_Trial, T.na_origin, rfl, s, dxs, vss, rfl, .inr ⟨hs1, hs2⟩, s, d0, d1, d2, d3, rfl, hs, fun H1 g ng sm1 svg => ?_⟩
    have ht1 := sm1 _ _ ht
    refine ⟨.ref t, rfl, t, c.trial, dxt, _, rfl, ht1, T.c_Trial, T.na_chosen, by show 4 < 1000; decide, ?_⟩
    have e2 : putF "chosen" (V.ref g) (trF' b s v1 v2) = trF' b s v1 (.ref g) := rfl
    rw [e2]
    have ht2 : upd H1 t (.ins c.trial dxt (trF' b s v1 (.ref g))) t = some (.ins c.trial dxt (trF' b s v1 (.ref g))) := upd_same
    have hs2' := sv_updI (o := .ins c.trial dxt (trF' b s v1 (.ref g))) ht1 ((svE c s _).st trivial (Fm.ofSame (F := FS) trivial sm1) hs)
    have hpl2 := pl_updI (o := .ins c.trial dxt (trF' b s v1 (.ref g))) ht1 ((Ev.pl FS c Pl).st trivial (Fm.ofSame (F := FS) trivial sm1) hpl)
    have ch2 : ∀ a o, H a = some o → a ≠ t → upd H1 t (.ins c.trial dxt (trF' b s v1 (.ref g))) a = some o := fun a o e n => by
      rw [upd_ne n]
      exact sm1 _ _ e
    generalize upd H1 t (.ins c.trial dxt (trF' b s v1 (.ref g))) = H2 at ht2 hs2' hpl2 ch2
    -- fresh
    have hs3 := hs2'
    obtain ⟨_, dxs2, vss2, hs4, hs5, _⟩ := hs3
    refine ⟨.ref t, rfl, t, c.trial, dxt, _, .ref s, rfl, ht2, T.c_Trial, T.na_origin, rfl, s, dxs2, vss2, rfl, .inr ⟨hs4, hs5⟩, s, d0, d1, d2, d3, rfl, hs2', fun H3 f nf sm3 svf => ?_⟩
    have ht3 := sm3 _ _ ht2
    refine ⟨.ref t, rfl, t, c.trial, dxt, _, rfl, ht3, T.c_Trial, T.na_fresh, by show 4 < 1000; decide, ?_⟩
    have e3 : putF "fresh" (V.ref f) (trF' b s v1 (.ref g)) = trF' b s (.ref f) (.ref g) := rfl
    rw [e3]
    have ht4 : upd H3 t (.ins c.trial dxt (trF' b s (.ref f) (.ref g))) t = some (.ins c.trial dxt (trF' b s (.ref f) (.ref g))) := upd_same
    have hs6 := sv_updI (o := .ins c.trial dxt (trF' b s (.ref f) (.ref g))) ht3 ((svE c s _).st trivial (Fm.ofSame (F := FS) trivial sm3) hs2')
    have svf4 := sv_updI (o := .ins c.trial dxt (trF' b s (.ref f) (.ref g))) ht3 svf
    have hpl4 := pl_updI (o := .ins c.trial dxt (trF' b s (.ref f) (.ref g))) ht3 ((Ev.pl FS c Pl).st trivial (Fm.ofSame (F := FS) trivial sm3) hpl2)
    have ch4 : ∀ a o, H a = some o → a ≠ t → upd H3 t (.ins c.trial dxt (trF' b s (.ref f) (.ref g))) a = some o := fun a o e n => by
      rw [upd_ne n]
      exact sm3 _ _ (ch2 a o e n)
    have nfH : H f = none := by
      cases e : H f with
      | none => rfl
      | some o =>
        by_cases hft : f = t
        · rw [hft, ht2] at nf
          cases nf
        · rw [ch2 f o e hft] at nf
          cases nf
    have npf : pa ≠ f := fun z => by
      obtain ⟨a, _, _, _, e, _, _, h1, _⟩ := hpl2
      cases e
      rw [z, nf] at h1
      cases h1
    generalize upd H3 t (.ins c.trial dxt (trF' b s (.ref f) (.ref g))) = H4 at ht4 hs6 svf4 hpl4 ch4
    have hb4 := ch4 _ _ hb ne
    -- tested_box.held
    refine ⟨.ref t, rfl, t, c.trial, dxt, _, .ref f, rfl, ht4, T.c_Trial, T.na_fresh, rfl, .ref t, rfl, t, c.trial, dxt, _, .ref b, rfl, ht4, T.c_Trial, T.na_tested_box, rfl, b, c.box, dxb, _, rfl, hb4, T.c_Box, T.na_held, by show 2 < 1000; decide, ?_⟩
    have e5 : putF "held" (V.ref f) [(("plan" : Str), V.ref pa), (("held" : Str), V.ref s)] = [(("plan" : Str), V.ref pa), (("held" : Str), V.ref f)] := rfl
    rw [e5]
    refine ⟨.ref t, rfl, ?_⟩
    exact k _ f g nfH (fun a o e n1 n2 => by rw [upd_ne n2]; exact ch4 a o e n1) (by rw [upd_ne (Ne.symm ne)]; exact ht4) ⟨upd_same, npf, pl_updI hb4 hpl4, sv_updI hb4 svf4⟩ (sv_updI hb4 hs6)
/-- a trial, with what it keeps and what it takes over -/
def trE (c : Ca) (t b s f dxt : Addr) (v1 : V) (es ds : List D) : Ev FS := ⟨fun H v => v = .ref t ∧ H t = some (.ins c.trial dxt (trF' b s v1 (.ref f))) ∧ (svE c s es).ok H (.ref s) ∧ (svE c f ds).ok H (.ref f),
  fun i r ⟨e, h1, h2, h3⟩ => ⟨e, r.2 _ _ h1 (fun z => z), (svE c s es).st i r h2, (svE c f ds).st i r h3⟩⟩
section
variable {Γ : Env' FS} {te : TE} {t b s f dxt : Addr} {v1 : V} {es ds : List D}
theorem pd_origin (T : Tx w K mg c) (h : Pd Γ te (trE c t b s f dxt v1 es ds)) : Pd Γ (tFld K te "origin") (svE c s es) := fun σ H Q i0 g k => h σ H _ i0 g fun v H1 r1 ⟨e, h1, h2, h3⟩ =>
  ⟨t, c.trial, dxt, _, .ref s, e, h1, T.c_Trial, T.na_origin, rfl, k _ H1 r1 h2⟩
theorem pd_chosen (T : Tx w K mg c) (h : Pd Γ te (trE c t b s f dxt v1 es ds)) : Pd Γ (tFld K te "chosen") (svE c f ds) := fun σ H Q i0 g k => h σ H _ i0 g fun v H1 r1 ⟨e, h1, h2, h3⟩ =>
  ⟨t, c.trial, dxt, _, .ref f, e, h1, T.c_Trial, T.na_chosen, rfl, k _ H1 r1 h3⟩
theorem trE_ch {H H' : Hp} {v : V} {es' : List D} (ne : s ≠ f) (h : (trE c t b s f dxt v1 es ds).ok H v) (k : Ch s H H') (p : Pr H H') (q : (svE c s es').ok H' (.ref s)) : (trE c t b s f dxt v1 es' ds).ok H' v := by
  obtain ⟨e, h1, h2, h3⟩ := h
  obtain ⟨_, dx, vs, h4, _⟩ := h2
  refine ⟨e, k _ _ h1 (fun z => ?_), q, sv_ch k p ⟨dx, vs, h4⟩ (Ne.symm ne) h3⟩
  rw [z, h4] at h1
  unfold SlX.SlO at h1
  cases h1
end
theorem ok_Trial_exit (T : Tx w K mg c) : ∃ g, PySem.W.findIn K (.ref c.trial) "__exit__" = some (some (.ref g)) ∧ PySem.W.isFn K (.ref g) = true ∧ FnR P w K mg base CX0 1 g (Sp_exit c) := by
  obtain ⟨g, h1, h2, FF⟩ := T.x_Trial_exit
  refine ⟨g, h1, h2, fnr_of FF scTrial_exit (fun _ _ _ _ _ _ us hu => by obtain ⟨a, b, c, d, rfl⟩ := len4 hu; rfl) (fun vs H Q E h => ?_) (fun cdv A outer s H vs Q E hr h => ⟨_, (pss_cons (SlX.ps_sl (pe_fld (pv 0) rfl) (SlX.pe_sl (pe_fld (pv 0) rfl))) (pss_cons (SlX.ps_sl (pe_fld (pv 0) rfl) (SlX.pe_sl (pe_fld (pv 0) rfl))) (pss_cons (SlX.ps_sl (pe_fld (pv 0) rfl) (SlX.pe_sl (pe_fld (pv 0) rfl))) (pss_cons (SlX.ps_sl (pe_fld (pv 0) rfl) (SlX.pe_sl (pe_fld (pv 0) rfl))) (pss_one (ps_fld (pe_fld (pv 0) rfl) (pe_fld (pv 0) rfl) rfl)))))), ?_⟩)⟩
  · obtain ⟨t, b, s, f, dxt, dxb, pa, Pl, d0, d1, d2, d3, e0, e1, e2, e3, v1, e, _⟩ := h
    rw [e]
    rfl
  · obtain ⟨t, b, s, f, dxt, dxb, pa, Pl, d0, d1, d2, d3, e0, e1, e2, e3, v1, e, ht, ⟨hb, npf, hpl, hf⟩, hs, nsf, nps, nbt, k⟩ := h
    subst e
    have q0 : (trE c t b s f dxt v1 [e0, e1, e2, e3] [d0, d1, d2, d3]).ok H (.ref t) := ⟨rfl, ht, hs, hf⟩
    have en : ∀ {H : Hp} {es}, (trE c t b s f dxt v1 es [d0, d1, d2, d3]).ok H (.ref t) → EnvOk (F := FS) H (start NTrial_exit [.ref t, .non, .non, .non]) [some (trE c t b s f dxt v1 es [d0, d1, d2, d3]), some (Ev.v FS .non), some (Ev.v FS .non), some (Ev.v FS .non)] := fun q => envOk_some q (envOk_some rfl (envOk_some rfl (envOk_some rfl envOk_nil)))
    refine store_in (i := 0) (s := s) (ds := [e0, e1, e2, e3]) (d := d0) T T.sl_facts (pd_slotE T T.sl_facts (pd_chosen T (pd_var (i := 0) rfl)) rfl) (pd_origin T (pd_var (i := 0) rfl)) (en q0) fun H1 c1 p1 s1 => ?_
    have q1 := trE_ch nsf q0 c1 p1 s1
    refine store_in (i := 1) (s := s) (ds := [d0, e1, e2, e3]) (d := d1) T T.sl_shelf (pd_slotE T T.sl_shelf (pd_chosen T (pd_var (i := 0) rfl)) rfl) (pd_origin T (pd_var (i := 0) rfl)) (en q1) fun H2 c2 p2 s2 => ?_
    have q2 := trE_ch nsf q1 c2 p2 s2
    refine store_in (i := 2) (s := s) (ds := [d0, d1, e2, e3]) (d := d2) T T.sl_past (pd_slotE T T.sl_past (pd_chosen T (pd_var (i := 0) rfl)) rfl) (pd_origin T (pd_var (i := 0) rfl)) (en q2) fun H3 c3 p3 s3 => ?_
    have q3 := trE_ch nsf q2 c3 p3 s3
    refine store_in (i := 3) (s := s) (ds := [d0, d1, d2, e3]) (d := d3) T T.sl_undone (pd_slotE T T.sl_undone (pd_chosen T (pd_var (i := 0) rfl)) rfl) (pd_origin T (pd_var (i := 0) rfl)) (en q3) fun H4 c4 p4 s4 => ?_
    have q4 := trE_ch nsf q3 c4 p4 s4
    have ch := Ch.trans c1 (Ch.trans c2 (Ch.trans c3 c4))
    have pr := Pr.trans p1 (Pr.trans p2 (Pr.trans p3 p4))
    have nbs : b ≠ s := fun z => by
      obtain ⟨_, dx, vs, h4, _⟩ := hs
      rw [z, h4] at hb
      unfold SlX.SlO at hb
      cases hb
    have hb4 := ch _ _ hb nbs
    obtain ⟨_, ht4, hs4, hf4⟩ := q4
    refine ⟨.ref t, rfl, t, c.trial, dxt, _, .ref s, rfl, ht4, T.c_Trial, T.na_origin, rfl, .ref t, rfl, t, c.trial, dxt, _, .ref b, rfl, ht4, T.c_Trial, T.na_tested_box, rfl, b, c.box, dxb, _, rfl, hb4, T.c_Box, T.na_held, by show 2 < 1000; decide, ?_⟩
    have e5 : putF "held" (V.ref s) [(("plan" : Str), V.ref pa), (("held" : Str), V.ref f)] = [(("plan" : Str), V.ref pa), (("held" : Str), V.ref s)] := rfl
    rw [e5]
    refine k _ (fun a o e n1 n2 => by rw [upd_ne n1]; exact ch a o e n2) (Pr.trans pr (Pr.mutI hb4)) ⟨upd_same, nps, pl_updI hb4 ?_, sv_updI hb4 hs4⟩
    obtain ⟨b', dx', vs', t', e, n1, n2, g1, g2, g3, g4⟩ := hpl
    cases e
    obtain ⟨_, dxs, vss, h4, h5, _⟩ := hs
    refine ⟨pa, dx', vs', t', rfl, n1, n2, ch _ _ g1 nps, ch _ _ g2 (fun z => ?_), g3, Rep.pr pr g4⟩
    rw [z, h4] at g2
    exact SlX.slO_not (Option.some.inj g2)
theorem ok_Trial (T : Tx w K mg c) : Wi P w K mg base c.trial 4 (Sp_enter c) (Sp_exit c) := by
  refine ⟨T.c_Trial, ok_Trial_enter T, ?_⟩
  obtain ⟨g, h1, h2, h3⟩ := ok_Trial_exit (P := P) (base := base) T
  exact ⟨g, h1, h2, FnR.mono h3 (by decide)⟩
end
end Bf
/-! ### operations one after another; a box made anew by them -/
namespace Bf
open PySem PySem.Spec PyProof.Rows L2
def runs (P : Pl) (S : Sc) : List Op → Sc × List D
  | [] => (S, [])
  | o :: os => let r := runs P (S.step P o) os; (r.1, (stepO P S.fa S.sh o).2.2 :: r.2)
def OpsOk (P : Pl) (S : Sc) : List Op → Prop
  | [] => True
  | o :: os => ScOk P S ∧ OpOk P S.fa S.sh o ∧ OpsOk P (S.step P o) os
theorem runs_app {P : Pl} {os : List Op} {o : Op} : ∀ {S : Sc} {l : List Op}, runs P S (l ++ [o]) = ((runs P S l).1.step P o, (runs P S l).2 ++ [(stepO P (runs P S l).1.fa (runs P S l).1.sh o).2.2])
  | _, [] => rfl
  | S, a :: l => by
    show ((runs P (S.step P a) (l ++ [o])).1, _ :: (runs P (S.step P a) (l ++ [o])).2) = _
    rw [runs_app (os := os)]
    rfl
theorem OpsOk.at {P : Pl} : ∀ {S : Sc} {l : List Op} {i : Nat} {o : Op}, OpsOk P S l → l[i]? = some o → ScOk P (runs P S (l.take i)).1 ∧ OpOk P (runs P S (l.take i)).1.fa (runs P S (l.take i)).1.sh o
  | _, [], i, o, _, h => by simp at h
  | S, a :: l, 0, o, h, e => by
    simp at e
    subst e
    exact ⟨h.1, h.2.1⟩
  | S, a :: l, i + 1, o, h, e => OpsOk.at (l := l) h.2.2 (by simpa using e)
/-- a list, its address told -/
def Ev.la (l : Addr) (ds : List D) : Ev FS := ⟨fun H v => v = .ref l ∧ ∃ xs, H l = some (.lst xs) ∧ Reps H ds xs, fun i r ⟨e, xs, h1, h2⟩ => ⟨e, xs, r.2 _ _ h1 (fun z => z), Reps.pr (Fm.toPr i r) h2⟩⟩
section
variable {Γ : Env' FS} {te : TE} {l : Addr} {ds : List D} {K : PySem.W.Frag}
theorem pd_la (h : Pd Γ te (Ev.la l ds)) : Pd Γ te (Ev.l FS ds) := fun σ H Q i g k => h σ H Q i g fun v H1 r1 ⟨e, xs, h1, h2⟩ => k v H1 r1 ⟨l, xs, e, fun z => z, h1, h2⟩
theorem pdi_enumL (h : Pd Γ te (Ev.l FS ds)) : PdI FS Γ (L2.iEnum K (tCons te tNil)) (ds.zipIdx.map fun p => .tup [.int (p.2 : Nat), p.1]) := fun σ H R i g k => h σ H _ i g fun v H1 r1 q1 => by
  obtain ⟨a, xs, e, hn, hq, q⟩ := q1
  refine ⟨a, xs, by rw [e], SqL.of hq, k _ H1 r1 ?_⟩
  have el : (ds.zipIdx.map fun p => D.tup [.int (p.2 : Nat), p.1]).length = xs.length := by simp [q.length]
  rw [el]
  refine (L2.walk_enum (K := K) (a := a) (xs := xs)).mono (fun H' z => SqL.of (z.2 _ _ hq hn)) fun i H x H' hi z y => ?_
  obtain ⟨T, x1, y1, e5, n, e6, g1, g2⟩ := y
  subst e5
  subst e6
  cases g1
  obtain ⟨dy, f3, f4⟩ := (Reps.pr (Fm.toPr r1.1 z) q).get' g2
  have sm : Same H (upd H T (.tup [.int (i : Nat), y1])) := Same.new n
  refine ⟨sm, .tup [.int (i : Nat), dy], ?_, Rep.tup upd_same ⟨.int (i : Nat), _, rfl, rfl, y1, _, rfl, Rep.same sm f4, rfl⟩⟩
  rw [List.getElem?_map, List.getElem?_zipIdx, f3]
  simp
end
section
variable {c : Ca} {P : Pl} {b s a : Addr} {xs ys : List V} {H : Hp} {ds : List D} {v : V}
theorem pl_updL (h : H a = some (.lst xs)) (q : (Ev.pl FS c P).ok H v) : (Ev.pl FS c P).ok (upd H a (.lst ys)) v := cm_pl h v q
theorem sv_updL (h : H a = some (.lst xs)) (q : (svE c s ds).ok H v) : (svE c s ds).ok (upd H a (.lst ys)) v := by
  obtain ⟨e, dx', vs', h1, h2, h3⟩ := q
  refine ⟨e, dx', vs', ?_, ?_, fun i d hd => ?_⟩
  · rw [upd_ne (fun z => by rw [z, h] at h1; unfold SlX.SlO at h1; cases h1)]
    exact h1
  · rw [upd_ne (fun z => by rw [z, h] at h2; cases h2)]
    exact h2
  · obtain ⟨x, h4, h5⟩ := h3 i d hd
    exact ⟨x, h4, Rep.pr (Pr.mutL h) h5⟩
theorem bx_updL (h : H a = some (.lst xs)) (q : (bxE c b s P ds).ok H v) : (bxE c b s P ds).ok (upd H a (.lst ys)) v := by
  obtain ⟨e, dxb, pa, h1, ne, h2, h3⟩ := q
  refine ⟨e, dxb, pa, ?_, ne, pl_updL h h2, sv_updL h h3⟩
  rw [upd_ne (fun z => by rw [z, h] at h1; cases h1)]
  exact h1
end
def Sp_apply_all (c : Ca) : Sp := fun vs H Q _ => ∃ (b s l : Addr) (P : Pl) (S : Sc) (ops : List Op), vs = [.ref b, .ref l] ∧ (bxE c b s P (dSc S)).ok H (.ref b) ∧ (Ev.la l (ops.map dOp)).ok H (.ref l) ∧ P.Ok ∧ OpsOk P S ops ∧ ops.length < 900 ∧
  ∀ H' p ys, (∀ a o, H a = some o → a ≠ b → a ≠ s → H' a = some o) → (bxE c b s P (dSc (runs P S ops).1)).ok H' (.ref b) → H p = none → H' p = some (.lst ys) → Reps H' (runs P S ops).2 ys → Q (.ref p) H'
section
variable {P : Program} {w : World} {K : PySem.W.Frag} {mg : Str → Option Value} {base : Heap} {c : Ca}
theorem seq_with {C : Addr} {spE spX : Sp} {i : Nat} {te : TE} {tb u : TS} {D : Ends} {σ : L2.St} {H : Hp} (h : te σ H fun x H1 => ∃ a dx fs, x = .ref a ∧ H1 a = some (.ins C dx fs) ∧ spE [.ref a] H1 (fun v H2 =>
    tb { nx := fun σ3 H3 => spX [.ref a, .non, .non, .non] H3 (fun _ H4 => u D σ3 H4) E0, rt := fun _ _ => False } (σ.set i (some v)) H2) E0) : tSeq (tWith C spE spX i te tb) u D σ H := h
theorem ok_Box_apply_all (T : Tx w K mg c) : Md P w K mg base c.box "apply_all" 10 (Sp_apply_all c) := by
  obtain ⟨g, hm, FF⟩ := T.m_Box_apply_all
  have ok_mk_Trial := fun T : Tx w K mg c => ok_Trial_init (P := P) (base := base) T
  refine ⟨g, hm, fnr_of FF scBox_apply_all (fun _ _ _ _ _ _ us hu => by obtain ⟨a, b, rfl⟩ := len2 hu; rfl) (fun vs H Q E h => ?_) (fun cdv A outer s H vs Q E hr h => ⟨_, (pss_cons (ps_for PassesOwn.never rfl (pi_enum (by rfl) T.n_enumerate (pa_cons (pv 1) pa_nil)) (pg_tup (by rfl) (pgs_cons (pg_name (i := 2) scBox_apply_all.nd rfl (Or.inl rfl)) (pgs_cons (pg_name (i := 3) scBox_apply_all.nd rfl (Or.inl rfl)) pgs_nil))) (pss_one (ps_if (pt_not (pt_val (pe_cl (ok_is_operation T) hr (by decide) (by rfl) (pa_cons (pv 3) pa_nil)))) pss_never pss_nil))) (pss_cons (ps_with (i := 4) (ok_Trial T) hr (by decide) (pe_mk (ok_mk_Trial T) hr (by decide) (by rfl) (pa_cons (pv 0) pa_nil)) scBox_apply_all.nd rfl (Or.inl rfl) (pss_cons (ps_setLcD (i := 5) (own := [("operation", 3)]) (by rfl) scBox_apply_all.nd rfl rfl (sw_true rfl rfl rfl (by decide +kernel)) (pi_list (pv 1)) (blkOk_by (own := [("operation", 3)]) (N := NBox_apply_all) (sc := defScope sBox_apply_all) (by decide +kernel)) (fun _ _ _ _ _ => (pg_name (i := 3) scBox_apply_all.nd rfl (Or.inl rfl))) (fun _ _ _ _ _ => pts_nil) (fun _ _ _ _ _ => (pe_mdm T.c_Box (ok_Box_execute T) hr (by decide) (pv 0) (pa_cons (pv 3) pa_nil)))) (pss_one (ps_expr (pe_md0 T.c_Trial (ok_Trial_hold T) hr (by decide) (pv 4)))))) (pss_one (ps_ret (pv 5))))), ?_⟩)⟩
  · obtain ⟨b, s, l, Pl, S, ops, e, _⟩ := h
    rw [e]
    rfl
  · obtain ⟨b, s, l, Pl, S, ops, e, hb, hl, ok, ho, hlen, k⟩ := h
    subst e
    have hz := sizeLine_eq
    have g0 : EnvOk (F := FS) H (start NBox_apply_all [.ref b, .ref l]) [some (Ev.v FS (.ref b)), some (Ev.la l (ops.map dOp)), none, none, none, none] := envOk_some rfl (envOk_some hl (envOk_none (envOk_none (envOk_none (envOk_none envOk_nil)))))
    refine seq_for (for_in (pdi_enumL (pd_la (pd_var (i := 1) rfl)) _ H _ trivial g0 fun J H1 r1 wk => ?_))
    have g1 := g0.st trivial r1
    refine L2.for_it wk (fun i σ' H' => FS.R H1 H' ∧ EnvOk H' σ' [some (Ev.v FS (.ref b)), some (Ev.la l (ops.map dOp)), none, none, none, none]) ⟨FS.refl trivial, g1⟩ (fun i σ' H' _ z => z.1) (fun i x σ' H' H2 hlt ⟨rr, gg⟩ y => ?_) fun σ H2 ⟨rr, gg⟩ => ?_
    · obtain ⟨sm, d, hd0, rx⟩ := y
      have r2 : FS.R H' H2 := Fm.ofSame trivial sm
      rw [List.getElem?_map, List.zipIdx_map, List.getElem?_map] at hd0
      cases e1 : ops.zipIdx[i]? with
      | none => rw [e1] at hd0; cases hd0
      | some p =>
        rw [e1] at hd0
        have hd1 : D.tup [.int (p.2 : Nat), dOp p.1] = d := Option.some.inj hd0
        subst hd1
        obtain ⟨a, xs, ex, ha, qx⟩ := rx
        obtain ⟨x1, x2, e3, qi, qo⟩ := Reps.two qx
        subst e3
        refine ⟨a, _, ex, .inl (.inl ha), rfl, x1, _, rfl, x2, _, rfl, rfl, ?_⟩
        have g3 := EnvOk.set (i := 3) (e := Ev.d FS (dOp p.1)) (EnvOk.set (i := 2) (e := Ev.d FS (.int (p.2 : Nat))) (gg.st trivial r2) qi) qo
        refine if_in ((pdt_not (x := true) (pdt_val (pd_cl (pd_cons (pd_var (i := 3) rfl) pd_nil) (R_is_operation.mk _ p.1)))) _ H2 _ trivial g3 fun H3 r3 => ?_)
        rw [if_neg (by decide)]
        refine next_in ⟨Fm.trans rr (Fm.trans r2 r3), ?_⟩
        exact (g3.st trivial r3).cv ⟨fun _ q => q, fun _ q => q, trivial⟩
    · have sm2 : Same H H2 := Same.trans (FS_same r1) (FS_same rr)
      have hb2 := (bxE c b s Pl _).st trivial (Fm.ofSame (F := FS) trivial sm2) hb
      dsimp only
      refine seq_with ?_
      refine (pd_cons (pd_var (i := 0) (e := Ev.v FS (.ref b)) rfl) pd_nil) σ H2 _ trivial gg fun vs H3 r3 q3 => ?_
      obtain ⟨v0, w1, e0, q0, e1⟩ := q3
      intro t dx nt nd ntd
      have e1' : w1 = [] := e1
      have e0' : v0 = .ref b := q0
      subst e1' e0' e0
      have hb3 := (bxE c b s Pl _).st trivial r3 hb2
      have gg3 := gg.st trivial r3
      have sm3 : Same H H3 := Same.trans sm2 (FS_same r3)
      obtain ⟨_, dxb, pa, g1', nps, g2, g3⟩ := hb3
      have nbt : b ≠ t := fun z => by rw [z, nt] at g1'; cases g1'
      have nbd : b ≠ dx := fun z => by rw [z, nd] at g1'; cases g1'
      have s1 : Same H3 (upd (upd H3 dx (.own t)) t (.ins c.trial dx [])) := fun a o e => by
        rw [upd_ne (ne_of_none e nt), upd_ne (ne_of_none e nd)]
        exact e
      refine ⟨t, b, s, dx, dxb, .ref pa, rfl, upd_same, s1 _ _ g1', nbt, fun H4 ch4 ht4 => ⟨rfl, t, dx, _, rfl, ht4, ?_⟩⟩
      have sm4 : Same H3 H4 := fun a o e => ch4 a o (s1 a o e) (ne_of_none e nt)
      have g1'4 := sm4 _ _ g1'
      have r4 : FS.R H3 H4 := Fm.ofSame trivial sm4
      have dS : dSc S = [dFa S.fa, dSh S.sh, .tup (S.past.map dEn), .tup (S.undone.map dEn)] := rfl
      refine ⟨t, b, s, dx, dxb, pa, Pl, dFa S.fa, dSh S.sh, .tup (S.past.map dEn), .tup (S.undone.map dEn), .ref s, .ref s, rfl, ht4, ⟨g1'4, nps, (Ev.pl FS c Pl).st trivial r4 g2, dS ▸ (svE c s _).st trivial r4 g3⟩, nbt, fun H5 f gx nf ch5 ht5 bx5 sv5 => ?_⟩
      have hl2 := (Ev.la l (ops.map dOp)).st trivial (Fm.ofSame (F := FS) trivial (Same.trans sm3 sm4)) hl
      obtain ⟨_, xs, hl4, ql4⟩ := hl2
      have pr5 : Pr H4 H5 := fun a o e im => ch5 a o e (fun z => by
        rw [z, ht4] at e
        cases e
        exact im) (fun z => by
        rw [z, g1'4] at e
        cases e
        exact im)
      have hl5 : (Ev.la l (ops.map dOp)).ok H5 (.ref l) := ⟨rfl, xs, ch5 _ _ hl4 (fun z => by rw [z, ht4] at hl4; cases hl4) (fun z => by rw [z, g1'4] at hl4; cases hl4), Reps.pr pr5 ql4⟩
      have g5 : EnvOk (F := FS) H5 (σ.set 4 (some (.ref t))) [some (Ev.v FS (.ref b)), some (Ev.la l (ops.map dOp)), none, none, some (Ev.v FS (.ref t)), none] := EnvOk.set (i := 4) (e := Ev.v FS (.ref t)) (gg.cv (H' := H5) (Γ' := [some (Ev.v FS (.ref b)), some (Ev.la l (ops.map dOp)), none, none, none, none]) ⟨fun _ q => q, fun v q => by
        have : v = .ref l := q.1
        subst this
        exact hl5, trivial⟩) rfl
      obtain ⟨b5, nps5, pl5, svf5⟩ := bx5
      have bx5 : (bxE c b f Pl (dSc S)).ok H5 (.ref b) := ⟨rfl, dxb, pa, b5, nps5, pl5, dS ▸ svf5⟩
      obtain ⟨_, dxf, vsf, hf5, _⟩ := id svf5
      refine seq_asg ?_
      dsimp only [L2.tLc, L2.iList]
      refine (pd_var (i := 1) (e := Ev.la l (ops.map dOp)) rfl) _ H5 _ trivial g5 fun v6 H6 r6 q6 => ?_
      obtain ⟨e6, xs6, hl6, ql6⟩ := q6
      refine ⟨l, e6, ⟨xs6, SqL.of hl6⟩, fun D0 n0 => ?_⟩
      have sm6 := FS_same r6
      have g6 := (g5.st trivial r6).wipe [3]
      have b6 := (bxE c b f Pl _).st trivial r6 bx5
      have r7 := Fm.ofSame (F := FS) trivial (Same.new (o := .lst []) n0)
      have hf6 := sm6 _ _ hf5
      have nfD : f ≠ D0 := fun z => by rw [z, n0] at hf6; cases hf6
      have nlf : l ≠ f := fun z => by
        rw [z, hf6] at hl6
        unfold SlX.SlO at hl6
        cases hl6
      have hxl : xs6.length = ops.length := by rw [ql6.length, List.length_map]
      have hops : ∀ i o, ops[i]? = some o → ops.take (i + 1) = ops.take i ++ [o] := fun i o e => by rw [List.take_succ, e]; rfl
      refine L2.lc_it (L2.walk_list (xs := xs6)) (Pv := fun i H' => Ch f H6 H' ∧ Pr H6 H' ∧ (bxE c b f Pl (dSc (runs Pl S (ops.take i)).1)).ok H' (.ref b) ∧ ∃ acc, H' D0 = some (.lst acc) ∧ Reps H' (runs Pl S (ops.take i)).2 acc ∧ acc.length ≤ i) ⟨Ch.ofSame (FS_same r7), Fm.toPr trivial r7, (bxE c b f Pl _).st trivial r7 b6, [], upd_same, Reps.nil, Nat.zero_le _⟩ (fun i H' _ z => SqL.of (z.1 _ _ hl6 nlf)) (fun i x H' H2 hlt ⟨c7, p7, b7, acc, hD, qD, ha⟩ y => ?_) fun H7 ⟨c7, p7, b7, acc, hD, qD, ha⟩ => ?_
      · obtain ⟨ey, hx⟩ := y
        subst ey
        obtain ⟨d, hd, qd⟩ := (Reps.pr p7 ql6).get' hx
        rw [List.getElem?_map] at hd
        cases eo : ops[i]? with
        | none => rw [eo] at hd; cases hd
        | some o =>
          rw [eo] at hd
          have hd1 : dOp o = d := Option.some.inj hd
          subst hd1
          obtain ⟨sok, ook⟩ := ho.at eo
          refine ⟨(wipe_set (by decide)).trans wipe_wipe, ?_⟩
          have g7 : EnvOk (F := FS) H2 ((L2.wipe (σ.set 4 (some (.ref t))) [3]).set 3 (some x)) [some (bxE c b f Pl (dSc (runs Pl S (ops.take i)).1)), none, none, some (Ev.d FS (dOp o)), none, none] := EnvOk.set (i := 3) (e := Ev.d FS (dOp o)) (g6.cv (H' := H2) (Γ' := [some (bxE c b f Pl (dSc (runs Pl S (ops.take i)).1)), none, none, none, none, none]) ⟨fun v q => by
            have : v = .ref b := q
            subst this
            exact b7, trivial⟩) qd
          refine pdt_yes _ H2 _ trivial g7 fun H8 r8 => ?_
          rw [if_pos rfl]
          have g8 := g7.st trivial r8
          have sm8 := FS_same r8
          refine m_call (as := [dOp o]) (pd_var (i := 0) rfl) (pd_cons (pd_var (i := 3) rfl) pd_nil) (fun _ _ => rfl) (.mk Pl _ o ok sok ook) g8 fun v H9 c9 p9 b9 q9 => ?_
          have hD9 := c9 _ _ (sm8 _ _ hD) (Ne.symm nfD)
          have e9 := hops i o eo
          have er := runs_app (P := Pl) (os := []) (o := o) (S := S) (l := ops.take i)
          refine ⟨acc, hD9, by omega, ?_⟩
          rw [e9, er]
          refine ⟨fun a o e n => by rw [upd_ne (ne_of_none e n0)]; exact c9 _ _ (sm8 _ _ (c7 _ _ e n)) n, Pr.trans p7 (Pr.trans (Same.pr sm8) (Pr.trans p9 (Pr.mutL hD9))), bx_updL hD9 b9, _, upd_same, ?_, by rw [List.length_append, List.length_singleton]; omega⟩
          exact Reps.append (Reps.pr (Pr.trans (Same.pr sm8) (Pr.trans p9 (Pr.mutL hD9))) qD) ⟨v, [], rfl, Rep.pr (Pr.mutL hD9) q9, rfl⟩
      · have ht6 := sm6 _ _ ht5
        have nft : t ≠ f := fun z => by
          rw [z, hf6] at ht6
          unfold SlX.SlO at ht6
          cases ht6
        have ht7 := c7 _ _ ht6 nft
        rw [hxl, List.take_of_length_le (Nat.le_refl _)] at b7 qD
        obtain ⟨_, dxb7, pa7, b7a, nps7, pl7, svf7⟩ := b7
        obtain ⟨_, dxs, vss, hs5, hs5'⟩ := id sv5
        have nsf : s ≠ f := fun z => by
          obtain ⟨_, dx1, vs1, h1, _⟩ := g3
          rw [← z, sm4 _ _ h1] at nf
          cases nf
        have sv7 := sv_ch c7 p7 ⟨dxf, vsf, hf6⟩ nsf ((svE c s _).st trivial r6 sv5)
        have b6' := sm6 _ _ b5
        have nbf : b ≠ f := fun z => by
          rw [z, hf6] at b6'
          unfold SlX.SlO at b6'
          cases b6'
        have b7' := c7 _ _ b6' nbf
        rw [b7a] at b7'
        cases b7'
        refine drop_in ?_
        have g7 : EnvOk (F := FS) H7 ((σ.set 4 (some (.ref t))).set 5 (some (.ref D0))) [none, none, none, none, some (Ev.v FS (.ref t)), some (Ev.v FS (.ref D0))] := EnvOk.set (i := 5) (e := Ev.v FS (.ref D0)) (g5.cv (H' := H7) (Γ' := [none, none, none, none, some (Ev.v FS (.ref t)), none]) ⟨fun _ q => q, trivial⟩) rfl
        refine (pd_var (i := 4) (e := Ev.v FS (.ref t)) rfl) _ H7 _ trivial g7 fun v8 H8 r8 q8 => ?_
        have e8 : v8 = .ref t := q8
        subst e8
        have sm8 := FS_same r8
        have g8 := g7.st trivial r8
        have ht8 := sm8 _ _ ht7
        refine ⟨t, dx, _, rfl, ht8, rfl, t, b, s, dx, _, _, rfl, ht8, ?_⟩
        have b8 := sm8 _ _ b7a
        have pl8 := (Ev.pl FS c Pl).st trivial r8 pl7
        have svf8 := (svE c f _).st trivial r8 svf7
        have sv8 := (svE c s _).st trivial r8 sv7
        have D8 := sm8 _ _ hD
        have q8 := Reps.pr (Same.pr sm8) qD
        have prt := Pr.mutI (o := .ins c.trial dx (trF' b s (.ref f) (.ref f))) ht8
        have ntD : D0 ≠ t := fun z => by rw [z, ht8] at D8; cases D8
        refine ⟨t, b, s, f, dx, dxb, pa, Pl, _, _, _, _, _, _, _, _, .ref f, rfl, upd_same, ⟨by rw [upd_ne nbt]; exact b8, nps7, pl_updI ht8 pl8, sv_updI ht8 svf8⟩, sv_updI ht8 sv8, nsf, nps, nbt, fun H9 ch9 p9 b9 => ?_⟩
        obtain ⟨v5, s5, e5⟩ := g7.2 5 (Ev.v FS (.ref D0)) rfl
        have e5' : v5 = .ref D0 := e5
        subst e5'
        refine ⟨.ref D0, s5, ?_⟩
        have nDb : D0 ≠ b := fun z => by rw [z, b8] at D8; cases D8
        have nDs : D0 ≠ s := fun z => by
          obtain ⟨_, dx1, vs1, h1, _⟩ := sv8
          rw [z, h1] at D8
          unfold SlX.SlO at D8
          cases D8
        have nH4 : ∀ a, H4 a = none → H a = none := fun a e => by
          cases e1 : H a with
          | none => rfl
          | some o => rw [sm4 _ _ (sm3 _ _ e1)] at e; cases e
        have nH : H D0 = none := by
          cases e1 : H D0 with
          | none => rfl
          | some o =>
            have h4 := sm4 _ _ (sm3 _ _ e1)
            have h6 := sm6 _ _ (ch5 _ _ h4 ntD nDb)
            rw [n0] at h6
            cases h6
        refine k H9 D0 _ (fun a o e n1 n2 => ?_) ?_ nH (ch9 _ _ (by rw [upd_ne ntD]; exact D8) nDb nDs) (Reps.pr (Pr.trans prt p9) q8)
        · have nat : a ≠ t := ne_of_none (sm3 _ _ e) nt
          have naf : a ≠ f := ne_of_none (sm4 _ _ (sm3 _ _ e)) nf
          exact ch9 _ _ (by rw [upd_ne nat]; exact sm8 _ _ (c7 _ _ (sm6 _ _ (ch5 _ _ (sm4 _ _ (sm3 _ _ e)) nat n1)) naf)) n1 n2
        · obtain ⟨b91, b92, b93, b94⟩ := b9
          exact ⟨rfl, dxb, pa, b91, b92, b93, b94⟩
/-- a box, made and used -/
def Sp_replay (c : Ca) : Sp := fun vs H Q _ => ∃ (P : Pl) (wi : List (Option Nat)) (ops : List Op) (l : Addr) (v1 v2 : V), vs = [.ref c.box, v1, v2, .ref l] ∧ P.Ok ∧ Wok P wi ∧ (Ev.pl FS c P).ok H v1 ∧ Rep H (.tup (wi.map dO)) v2 ∧ (Ev.la l (ops.map dOp)).ok H (.ref l) ∧ OpsOk P (S0 P wi) ops ∧ ops.length < 900 ∧
  ∀ H' b s, H b = none → H s = none → Same H H' → (bxE c b s P (dSc (runs P (S0 P wi) ops).1)).ok H' (.ref b) → Q (.ref b) H'
theorem ok_replay (T : Tx w K mg c) : Cmt P w K mg base c.box "Box" "replay" 11 (Sp_replay c) := by
  obtain ⟨mc, p, g, hm, hc, hk, FF⟩ := T.cm_Box_replay
  have ok_mk_Box := fun T : Tx w K mg c => ok_Box_init (P := P) (base := base) T
  refine ⟨mc, p, g, hm, hc, hk, fnr_of FF scBox_replay (fun _ _ _ _ _ _ us hu => by obtain ⟨a, b, c, d, rfl⟩ := len4 hu; rfl) (fun vs H Q E h => ?_) (fun cdv A outer s H vs Q E hr h => ⟨_, (pss_cons (ps_set (i := 4) scBox_replay.nd rfl (Or.inl rfl) (pe_mkL (ok_mk_Box T) hr (by decide) (i := 0) rfl (Or.inl rfl) (pa_cons (pv 1) (pa_cons (pv 2) pa_nil)))) (pss_cons (ps_expr (pe_mdm T.c_Box (ok_Box_apply_all T) hr (by decide) (pv 4) (pa_cons (pv 3) pa_nil))) (pss_one (ps_ret (pv 4))))), ?_⟩)⟩
  · obtain ⟨Pl, wi, ops, l, v1, v2, e, _⟩ := h
    rw [e]
    rfl
  · obtain ⟨Pl, wi, ops, l, v1, v2, e, ok, hw, q1, q2, q3, ho, hlen, k⟩ := h
    subst e
    have g0 : EnvOk (F := FS) H (start NBox_replay [.ref c.box, v1, v2, .ref l]) [some (Ev.v FS (.ref c.box)), some (Ev.pl FS c Pl), some (Ev.d FS (.tup (wi.map dO))), some (Ev.la l (ops.map dOp)), none] := envOk_some rfl (envOk_some q1 (envOk_some q2 (envOk_some q3 (envOk_none envOk_nil))))
    refine seq_asg ⟨rfl, mk_box (pd_cons (pd_var (i := 1) rfl) (pd_cons (pd_var (i := 2) rfl) pd_nil)) ok hw g0 fun H1 b s nb ns sm1 bx1 => ?_⟩
    have g1 : EnvOk (F := FS) H1 ((start NBox_replay [.ref c.box, v1, v2, .ref l]).set 4 (some (.ref b))) [some (Ev.v FS (.ref c.box)), some (Ev.pl FS c Pl), some (Ev.d FS (.tup (wi.map dO))), some (Ev.la l (ops.map dOp)), some (bxE c b s Pl (dSc (S0 Pl wi)))] := EnvOk.set (i := 4) (e := bxE c b s Pl (dSc (S0 Pl wi))) (g0.st trivial (Fm.ofSame trivial sm1)) bx1
    refine seq_drop ((pd_var (i := 4) (e := bxE c b s Pl (dSc (S0 Pl wi))) rfl) _ H1 _ trivial g1 fun v5 H2 r2 q5 => ?_)
    have e5 : v5 = .ref b := q5.1
    subst e5
    obtain ⟨_, dxb, pa, h1, _⟩ := id q5
    refine ⟨b, dxb, _, rfl, h1, rfl, ?_⟩
    refine (pd_cons (pd_var (i := 3) (e := Ev.la l (ops.map dOp)) rfl) pd_nil) _ H2 _ trivial (g1.st trivial r2) fun vs H3 r3 q3 => ?_
    obtain ⟨v0, w1, e0, q6, e1⟩ := q3
    have e1' : w1 = [] := e1
    have e6 : v0 = .ref l := q6.1
    subst e1' e0 e6
    have sm := Same.trans sm1 (Same.trans (FS_same r2) (FS_same r3))
    refine ⟨b, s, l, Pl, S0 Pl wi, ops, rfl, (bxE c b s Pl _).st trivial r3 q5, q6, ok, ho, hlen, fun H4 p ys ch bx n e q => ?_⟩
    refine ⟨.ref b, rfl, k H4 b s nb ns (fun a o e => ch a o (sm a o e) (ne_of_none e nb) (ne_of_none e ns)) bx⟩
end
end Bf
/-! ### the row of draws -/
namespace Bf
open PySem PySem.Spec PyProof.Rows L2
def SqF (K : PySem.W.Frag) (H : Hp) (a : Addr) (us : List V) : Prop := (∃ o, H a = some (.frz o (.lst us))) ∨
  ∃ (o : Obj) (its : Array Value) (n : Nat), K.lookup a = some o ∧ o.cls = .type "list" ∧ o.dict = none ∧ o.data = .seq its n ∧ its.size ≤ sizeLine ∧ Vals us its.toList
theorem SqF.sq {K : PySem.W.Frag} {H : Hp} {a : Addr} {us : List V} (h : SqF K H a us) : SqL K H a us := h.elim (fun ⟨o, e⟩ => .inl (.inr ⟨o, e⟩)) .inr
theorem SqF.to {K : PySem.W.Frag} {H H' : Hp} {a : Addr} {us : List V} (h : SqF K H a us) (k : ∀ o, H a = some (.frz o (.lst us)) → H' a = some (.frz o (.lst us))) : SqF K H' a us := h.elim (fun ⟨o, e⟩ => .inl ⟨o, k o e⟩) .inr
theorem SqF.same {K : PySem.W.Frag} {H H' : Hp} {a : Addr} {us : List V} (h : SqF K H a us) (k : Same H H') : SqF K H' a us := h.to fun _ e => k _ _ e
theorem SqF.upd {K : PySem.W.Frag} {H : Hp} {a p : Addr} {o o' : HO} {us : List V} (h : SqF K H a us) (e : H p = some o) (n : ∀ ob u, o ≠ .frz ob u) : SqF K (upd H p o') a us := h.to fun ob q => by
  rw [upd_ne (fun z => by rw [z, e] at q; exact n _ _ (Option.some.inj q))]
  exact q
/-- the row, its parts told -/
def RwP (K : PySem.W.Frag) (sc row : Addr) (ns : List Int) (H : Hp) (i : Nat) (x y : Int) : Prop := SqF K H sc (ns.map .int) ∧ H row = some (.lst [.ref sc, .int i, .int x, .int y])
def FR (K : PySem.W.Frag) (sc row : Addr) (ns : List Int) : Fm where
  A := fun p => p = row
  I := fun H => ∃ i x y, RwP K sc row ns H i x y
  tr := fun {H p} ⟨i, x, y, _, h⟩ e => ⟨.lst [.ref sc, .int i, .int x, .int y], by
    have e' : p = row := e
    rw [e']
    exact h, fun z => z⟩
  same := fun ⟨i, x, y, h1, h2⟩ k => ⟨i, x, y, h1.same k, k _ _ h2⟩
  wr := fun {H p o o'} ⟨i, x, y, h1, h2⟩ n e nf => ⟨i, x, y, h1.upd e nf, by rw [upd_ne (fun z => n z.symm)]; exact h2⟩
def rwE (K : PySem.W.Frag) (sc row : Addr) (ns : List Int) (i : Nat) (x y : Int) : Ev FS := ⟨fun H v => v = .ref row ∧ RwP K sc row ns H i x y, fun i r ⟨e, h1, h2⟩ => ⟨e, h1.same (FS_same r), FS_same r _ _ h2⟩⟩
def scE (K : PySem.W.Frag) (sc : Addr) (ns : List Int) : Ev FS := ⟨fun H v => v = .ref sc ∧ SqF K H sc (ns.map .int), fun i r ⟨e, h1⟩ => ⟨e, h1.same (FS_same r)⟩⟩
section
variable {K : PySem.W.Frag} {sc row : Addr} {ns : List Int} {i : Nat} {x y : Int}
theorem p2_rw0 : Pd2 FS (rIxL K) (rwE K sc row ns i x y) (Ev.d FS (.int 0)) (scE K sc ns) := fun u v H Q i0 ⟨e, h1, h2⟩ r2 k => ⟨row, _, 0, _, e, r2, SqL.of h2, rfl, k _ H (FS.refl trivial) ⟨rfl, h1⟩⟩
theorem p2_rw1 : Pd2 FS (rIxL K) (rwE K sc row ns i x y) (Ev.d FS (.int 1)) (Ev.d FS (.int (i : Nat))) := fun u v H Q i0 ⟨e, h1, h2⟩ r2 k => ⟨row, _, 1, _, e, r2, SqL.of h2, rfl, k _ H (FS.refl trivial) rfl⟩
theorem p2_rw2 : Pd2 FS (rIxL K) (rwE K sc row ns i x y) (Ev.d FS (.int 2)) (Ev.d FS (.int x)) := fun u v H Q i0 ⟨e, h1, h2⟩ r2 k => ⟨row, _, 2, _, e, r2, SqL.of h2, rfl, k _ H (FS.refl trivial) rfl⟩
theorem p2_rw3 : Pd2 FS (rIxL K) (rwE K sc row ns i x y) (Ev.d FS (.int 3)) (Ev.d FS (.int y)) := fun u v H Q i0 ⟨e, h1, h2⟩ r2 k => ⟨row, _, 3, _, e, r2, SqL.of h2, rfl, k _ H (FS.refl trivial) rfl⟩
theorem p2_sc {j : Nat} {n : Int} (h : ns[j]? = some n) : Pd2 FS (rIxL K) (scE K sc ns) (Ev.d FS (.int (j : Nat))) (Ev.d FS (.int n)) := fun u v H Q i0 ⟨e, h1⟩ r2 k => ⟨sc, _, (j : Int), .int n, e, r2, h1.sq, by rw [atI_nat, List.getElem?_map, h]; rfl, k _ H (FS.refl trivial) rfl⟩
theorem pc_lenSc : PdC FS (fun xs H Q => ∃ p ys, xs = [.ref p] ∧ (SqL K H p ys ∨ SqT K H p ys) ∧ Q (.int ys.length) H) [scE K sc ns] (Ev.d FS (.int ns.length)) := fun vs H Q i0 g k => by
  obtain ⟨v, ws, e, ⟨h1, h2⟩, h3⟩ := g
  have e2 : ws = [] := h3
  subst e2 h1
  refine ⟨sc, _, e, .inl h2.sq, ?_⟩
  rw [List.length_map]
  exact k _ H (FS.refl trivial) rfl
/-- row[j] = n -/
theorem row_set {Γ : Env' FS} {σ : L2.St} {H : Hp} {te : TE} {n : Int} {j : Nat} {u : TS} {DE : Ends} (hv : Pd Γ te (Ev.d FS (.int n))) (hr : Γ[0]? = some (some (rwE K sc row ns i x y))) (hj : j < 4) (g : EnvOk H σ Γ)
    (k : ∀ H1, Same H H1 → H1 row = some (.lst [.ref sc, .int i, .int x, .int y]) → EnvOk H1 σ Γ → u DE σ (upd H1 row (.lst ([.ref sc, .int i, .int x, .int y].set j (.int n))))) : tSeq (tAsg te (gSub (tVar 0) (tC (.int (j : Nat))) rSetL)) u DE σ H := hv σ H _ trivial g fun v H1 r1 q1 => by
  have e : v = .int n := q1
  subst e
  have g1 := g.st trivial r1
  obtain ⟨w, hw, ew, h1, h2⟩ := g1.2 0 _ hr
  subst ew
  refine ⟨.ref row, hw, row, _, (j : Nat), j, rfl, rfl, h2, ?_, k H1 (FS_same r1) h2 g1⟩
  rcases j with _ | _ | _ | _ | j
  · rfl
  · rfl
  · rfl
  · rfl
  · omega
end
inductive R_taken (K : PySem.W.Frag) : (F : Fm) → List (Ev F) → Ev F → Prop
  | mk (sc row : Addr) (ns : List Int) (many : Nat) (h : 0 < many) (h2 : many < 1000) : R_taken K (FR K sc row ns) [Ev.v _ (.ref row), Ev.d _ (.int (many : Nat))] (Ev.ex _ (fun v : Nat => v < many) fun v => .int (v : Nat))
theorem fr_r {K : PySem.W.Frag} {sc row : Addr} {ns : List Int} {H H' : Hp} {i : Nat} {x y : Int} (h : RwP K sc row ns H' i x y) (k : ∀ a o, H a = some o → a ≠ row → H' a = some o) : (FR K sc row ns).R H H' := ⟨(show ∃ i x y, RwP K sc row ns H' i x y from ⟨i, x, y, h⟩), k⟩
theorem ex_mod {F : Fm} {H : Hp} {m : Int} {many : Nat} (h : 0 < many) {v : V} (q : (Ev.d F (.int (m.fmod many))).ok H v) : (Ev.ex F (fun v : Nat => v < many) fun v => .int (v : Nat)).ok H v := by
  have h1 : 0 ≤ m.fmod many := Int.fmod_nonneg_of_pos _ (by omega)
  have h2 : m.fmod many < many := Int.fmod_lt_of_pos _ (by omega)
  refine ⟨(m.fmod many).toNat, by omega, ?_⟩
  have e : (((m.fmod many).toNat : Nat) : Int) = m.fmod many := by omega
  show Rep H (.int (((m.fmod many).toNat : Nat) : Int)) v
  rw [e]
  exact q
theorem fr_i {K : PySem.W.Frag} {sc row : Addr} {ns : List Int} {H : Hp} (h : (FR K sc row ns).I H) : ∃ i x y, RwP K sc row ns H i x y := h
theorem rw_upd {K : PySem.W.Frag} {sc row : Addr} {ns : List Int} {H : Hp} {i i' : Nat} {x y x' y' : Int} (h : RwP K sc row ns H i x y) : RwP K sc row ns (upd H row (.lst [.ref sc, .int i', .int x', .int y'])) i' x' y' := ⟨h.1.upd h.2 (fun _ _ z => nomatch z), upd_same⟩
theorem rw_same {K : PySem.W.Frag} {sc row : Addr} {ns : List Int} {H H' : Hp} {i : Nat} {x y : Int} (h : RwP K sc row ns H i x y) (k : Same H H') : RwP K sc row ns H' i x y := ⟨h.1.same k, k _ _ h.2⟩
section
variable {P : Program} {w : World} {K : PySem.W.Frag} {mg : Str → Option Value} {base : Heap} {c : Ca}
theorem ok_law_taken (T : Tx w K mg c) : Cl P w K mg base 1 "_law_taken" (SpG (R_taken K)) := by
  obtain ⟨f, hm, FF⟩ := T.f_law_taken
  refine cl_of (fn_pure FF sclaw_taken (fun F es e h => by cases h; rfl) (fun cdv A outer s H E hr => ⟨_, (pss_cons (ps_if (pt_cmpR op_gt (pe_ix ix_list (pv 0) pe_int (fun _ _ => rfl)) pe_int (nomark _)) (pss_cons (ps_set (i := 2) sclaw_taken.nd rfl (Or.inl rfl) (pe_op op_modN (pe_callTy call_int1 (by rfl) T.n_int (by decide +kernel) (pa_cons (pe_ix ix_list (pv 0) pe_int (fun _ _ => rfl)) pa_nil)) (pv 1))) (pss_cons (ps_asg (pe_op op_fdivN (pe_ix ix_list (pv 0) pe_int (fun _ _ => rfl)) (pv 1)) (pg_sub (pv 0) pe_int set_list)) (pss_one (ps_ret (pv 2))))) pss_nil) (pss_cons (ps_asg (pe_op op_add (pe_ix ix_list (pv 0) pe_int (fun _ _ => rfl)) pe_int) (pg_sub (pv 0) pe_int set_list)) (pss_cons (ps_if (pt_cmpR op_gt (pe_ix ix_list (pv 0) pe_int (fun _ _ => rfl)) (pe_callB call_len_seq (by rfl) T.n_len (by decide +kernel) (pa_cons (pe_ix ix_list (pv 0) pe_int (fun _ _ => rfl)) pa_nil)) (nomark _)) (pss_cons (ps_asg (pe_op op_modN (pe_callTy call_int1 (by rfl) T.n_int (by decide +kernel) (pa_cons (pe_op op_add (pe_op op_mul (pe_ix ix_list (pv 0) pe_int (fun _ _ => rfl)) pe_int) pe_int) pa_nil)) pe_int) (pg_sub (pv 0) pe_int set_list)) (pss_one (ps_ret (pe_op op_modN (pe_callTy call_int1 (by rfl) T.n_int (by decide +kernel) (pa_cons (pe_op op_fdivN (pe_ix ix_list (pv 0) pe_int (fun _ _ => rfl)) pe_int) pa_nil)) (pv 1))))) pss_nil) (pss_cons (ps_set (i := 3) sclaw_taken.nd rfl (Or.inl rfl) (pe_ix ix_list (pe_ix ix_list (pv 0) pe_int (fun _ _ => rfl)) (pe_op op_sub (pe_ix ix_list (pv 0) pe_int (fun _ _ => rfl)) pe_int) (fun _ _ => rfl))) (pss_cons (ps_asg (pe_op op_modN (pe_callTy call_int1 (by rfl) T.n_int (by decide +kernel) (pa_cons (pe_op op_add (pe_op op_add (pe_op op_mul (pe_ix ix_list (pv 0) pe_int (fun _ _ => rfl)) pe_int) (pv 3)) pe_int) pa_nil)) pe_int) (pg_sub (pv 0) pe_int set_list)) (pss_cons (ps_asg (pe_ifExp (pt_cmpR op_ge (pv 3) (pe_op op_pow pe_int pe_int) (nomark _)) (pe_op op_fdivN (pv 3) (pv 1)) pe_int) (pg_sub (pv 0) pe_int set_list)) (pss_one (ps_ret (pe_op op_modN (pe_callTy call_int1 (by rfl) T.n_int (by decide +kernel) (pa_cons (pv 3) pa_nil)) (pv 1)))))))))), fun F es e h => ?_⟩) (fun _ _ _ _ _ _ us hu => by obtain ⟨a, b, rfl⟩ := len2 hu; rfl)) hm FF
  cases h with
  | mk sc row ns many h h2 =>
  intro σ H DE i g f
  obtain ⟨i, x, y, hR⟩ := fr_i i
  have g0 : EnvOk (F := FS) H σ [some (rwE K sc row ns i x y), some (Ev.d FS (.int (many : Nat))), none, none] := g.cv ⟨fun v q => ⟨q, hR⟩, fun v q => q, trivial⟩
  refine m_if (pdt_test (pd_op' (pd_op' (pd_var (i := 0) rfl) pd_int p2_rw3) pd_int p2_I0b)) g0 (fun H1 _ sm1 g1 => ?_) (fun H1 _ sm1 g1 => ?_)
  · refine m_set (pd_op' (pd_call' (pd_cons (pd_op' (pd_var (i := 0) rfl) pd_int p2_rw3) pd_nil) pc_int) (pd_var (i := 1) rfl) (p2_Ii (by omega))) g1 fun v H2 sm2 g2 => ?_
    have hR1 := rw_same hR (Same.trans sm1 sm2)
    refine row_set (j := 3) (pd_op' (pd_op' (pd_var (i := 0) rfl) pd_int p2_rw3) (pd_var (i := 1) rfl) (p2_Ii ⟨by omega, by omega⟩)) rfl (by decide) g2 fun H3 sm3 hr g3 => ?_
    have hR3 := rw_upd (i' := i) (x' := x) (y' := y.fdiv many) (rw_same hR1 sm3)
    have ck : ∀ a o, H a = some o → a ≠ row → upd H3 row (.lst [.ref sc, .int i, .int x, .int (y.fdiv many)]) a = some o := fun a o e n => by
      rw [upd_ne n]
      exact sm3 _ _ (sm2 _ _ (sm1 _ _ e))
    have e3 : [V.ref sc, .int i, .int x, .int y].set 3 (.int (y.fdiv many)) = [V.ref sc, .int i, .int x, .int (y.fdiv many)] := rfl
    rw [e3]
    obtain ⟨w, hw, qw⟩ := g3.2 2 _ rfl
    exact ⟨w, hw, f.1 w _ (fr_r hR3 ck) (ex_mod h qw)⟩
  · refine seq_next ?_
    have hR1 := rw_same hR sm1
    refine row_set (j := 1) (n := ((i + 1 : Nat) : Int)) (pd_op' (pd_op' (pd_var (i := 0) rfl) pd_int p2_rw1) pd_int p2_I0i) rfl (by decide) g1 fun H2 sm2 hr2 g2 => ?_
    have e3 : [V.ref sc, .int i, .int x, .int y].set 1 (.int ((i + 1 : Nat) : Int)) = [V.ref sc, .int ((i + 1 : Nat) : Int), .int x, .int y] := rfl
    rw [e3]
    have hR2 := rw_upd (i' := i + 1) (x' := x) (y' := y) (rw_same hR1 sm2)
    have ck : ∀ a o, H a = some o → a ≠ row → upd H2 row (.lst [.ref sc, .int ((i + 1 : Nat) : Int), .int x, .int y]) a = some o := fun a o e n => by
      rw [upd_ne n]
      exact sm2 _ _ (sm1 _ _ e)
    have g3 : EnvOk (F := FS) (upd H2 row (.lst [.ref sc, .int ((i + 1 : Nat) : Int), .int x, .int y])) σ [some (rwE K sc row ns (i + 1) x y), some (Ev.d FS (.int (many : Nat))), none, none] := g2.cv ⟨fun v q => ⟨q.1, hR2⟩, cm_d hr2, trivial⟩
    generalize upd H2 row (.lst [.ref sc, .int ((i + 1 : Nat) : Int), .int x, .int y]) = H3 at hR2 ck g3
    refine m_if (pdt_test (pd_op' (pd_op' (pd_var (i := 0) rfl) pd_int p2_rw1) (pd_call' (pd_cons (pd_op' (pd_var (i := 0) rfl) pd_int p2_rw0) pd_nil) pc_lenSc) p2_I0b)) g3 (fun H4 _ sm4 g4 => ?_) (fun H4 hlt sm4 g4 => ?_)
    · refine row_set (j := 2) (pd_op' (pd_call' (pd_cons (pd_op' (pd_op' (pd_op' (pd_var (i := 0) rfl) pd_int p2_rw2) pd_int (p2_Ii (.inr ⟨by decide, by decide⟩))) pd_int p2_I0i) pd_nil) pc_int) pd_int (p2_Ii (by decide))) rfl (by decide) g4 fun H5 sm5 hr5 g5 => ?_
      generalize Int.fmod _ _ = x'
      have hR5 := rw_upd (i' := i + 1) (x' := x') (y' := y) (rw_same hR2 (Same.trans sm4 sm5))
      have e5 : [V.ref sc, .int ((i + 1 : Nat) : Int), .int x, .int y].set 2 (.int x') = [V.ref sc, .int ((i + 1 : Nat) : Int), .int x', .int y] := rfl
      rw [e5]
      have ck5 : ∀ a o, H a = some o → a ≠ row → upd H5 row (.lst [.ref sc, .int ((i + 1 : Nat) : Int), .int x', .int y]) a = some o := fun a o e n => by
        rw [upd_ne n]
        exact sm5 _ _ (sm4 _ _ (ck _ _ e n))
      have g6 : EnvOk (F := FS) (upd H5 row (.lst [.ref sc, .int ((i + 1 : Nat) : Int), .int x', .int y])) σ [some (rwE K sc row ns (i + 1) x' y), some (Ev.d FS (.int (many : Nat))), none, none] := g5.cv ⟨fun v q => ⟨q.1, hR5⟩, cm_d hr5, trivial⟩
      refine m_ret (pd_op' (pd_call' (pd_cons (pd_op' (pd_op' (pd_var (i := 0) rfl) pd_int p2_rw2) pd_int (p2_Ii ⟨by decide, by decide⟩)) pd_nil) pc_int) (pd_var (i := 1) rfl) (p2_Ii (by omega))) g6 fun v H7 sm7 q7 => ?_
      exact f.1 v _ (fr_r (rw_same hR5 sm7) fun a o e n => sm7 _ _ (ck5 a o e n)) (ex_mod h q7)
    · have hlt' : ¬ (ns.length : Int) < ((i + 1 : Nat) : Int) := of_decide_eq_false hlt
      have hi : i < ns.length := by omega
      refine seq_next ?_
      refine m_set (pd_op' (pd_op' (pd_var (i := 0) rfl) pd_int p2_rw0) (pd_eq (e' := Ev.d FS (.int (i : Nat))) (pd_op' (pd_op' (pd_var (i := 0) rfl) pd_int p2_rw1) pd_int p2_I0i) (by
        have : ((i + 1 : Nat) : Int) - 1 = (i : Nat) := by omega
        rw [this])) (p2_sc (List.getElem?_eq_getElem hi))) g4 fun v H5 sm5 g5 => ?_
      generalize ns[i] = cell at g5
      refine row_set (j := 2) (pd_op' (pd_call' (pd_cons (pd_op' (pd_op' (pd_op' (pd_op' (pd_var (i := 0) rfl) pd_int p2_rw2) pd_int (p2_Ii (.inr ⟨by decide, by decide⟩))) (pd_var (i := 3) rfl) p2_I0i) pd_int p2_I0i) pd_nil) pc_int) pd_int (p2_Ii (by decide))) rfl (by decide) g5 fun H6 sm6 hr6 g6 => ?_
      generalize Int.fmod _ _ = x'
      have hR6 := rw_upd (i' := i + 1) (x' := x') (y' := y) (rw_same hR2 (Same.trans sm4 (Same.trans sm5 sm6)))
      have e6 : [V.ref sc, .int ((i + 1 : Nat) : Int), .int x, .int y].set 2 (.int x') = [V.ref sc, .int ((i + 1 : Nat) : Int), .int x', .int y] := rfl
      rw [e6]
      have ck6 : ∀ a o, H a = some o → a ≠ row → upd H6 row (.lst [.ref sc, .int ((i + 1 : Nat) : Int), .int x', .int y]) a = some o := fun a o e n => by
        rw [upd_ne n]
        exact sm6 _ _ (sm5 _ _ (sm4 _ _ (ck _ _ e n)))
      have g7 : EnvOk (F := FS) (upd H6 row (.lst [.ref sc, .int ((i + 1 : Nat) : Int), .int x', .int y])) _ [some (rwE K sc row ns (i + 1) x' y), some (Ev.d FS (.int (many : Nat))), none, some (Ev.d FS (.int cell))] := g6.cv ⟨fun v q => ⟨q.1, hR6⟩, cm_d hr6, cm_d hr6, trivial⟩
      generalize upd H6 row (.lst [.ref sc, .int ((i + 1 : Nat) : Int), .int x', .int y]) = H7 at hR6 ck6 g7
      have hz : ∃ z, Pd (F := FS) [some (rwE K sc row ns (i + 1) x' y), some (Ev.d FS (.int (many : Nat))), none, some (Ev.d FS (.int cell))] (tIf (tTest (tOp (rI0 fun i j => .bl (decide (j ≤ i))) (tVar 3) (tOp (rI CPow fun i j => .int (i ^ j.toNat)) (tC (.int 10)) (tC (.int 18))))) (tOp (rI CDivN fun i j => .int (i.fdiv j)) (tVar 3) (tVar 1)) (tC (.int 0))) (Ev.d FS (.int z)) := by
        refine ⟨if decide ((10 : Int) ^ (18 : Int).toNat ≤ cell) = true then cell.fdiv many else 0, pd_if (pdt_test (pd_op' (pd_var (i := 3) rfl) (pd_op' pd_int pd_int (p2_Ii ⟨by decide, by decide, by decide⟩)) p2_I0b)) (fun hx => ?_) fun hx => ?_⟩
        · rw [if_pos hx]
          exact pd_op' (pd_var (i := 3) rfl) (pd_var (i := 1) rfl) (p2_Ii ⟨by omega, by omega⟩)
        · rw [if_neg (by rw [hx]; decide)]
          exact pd_int
      obtain ⟨z, hz⟩ := hz
      refine row_set (j := 3) hz rfl (by decide) g7 fun H8 sm8 hr8 g8 => ?_
      have e8 : [V.ref sc, .int ((i + 1 : Nat) : Int), .int x', .int y].set 3 (.int z) = [V.ref sc, .int ((i + 1 : Nat) : Int), .int x', .int z] := rfl
      rw [e8]
      have hR8 := rw_upd (i' := i + 1) (x' := x') (y' := z) (rw_same hR6 sm8)
      have ck8 : ∀ a o, H a = some o → a ≠ row → upd H8 row (.lst [.ref sc, .int ((i + 1 : Nat) : Int), .int x', .int z]) a = some o := fun a o e n => by
        rw [upd_ne n]
        exact sm8 _ _ (ck6 _ _ e n)
      have g9 : EnvOk (F := FS) (upd H8 row (.lst [.ref sc, .int ((i + 1 : Nat) : Int), .int x', .int z])) _ [some (rwE K sc row ns (i + 1) x' z), some (Ev.d FS (.int (many : Nat))), none, some (Ev.d FS (.int cell))] := g8.cv ⟨fun v q => ⟨q.1, hR8⟩, cm_d hr8, cm_d hr8, trivial⟩
      refine m_ret (pd_op' (pd_call' (pd_cons (pd_var (i := 3) rfl) pd_nil) pc_int) (pd_var (i := 1) rfl) (p2_Ii (by omega))) g9 fun v H10 sm10 q10 => ?_
      exact f.1 v _ (fr_r (rw_same hR8 sm10) fun a o e n => sm10 _ _ (ck8 a o e n)) (ex_mod h q10)
end
end Bf
/-! ### a list of one's own, filled in a loop -/
namespace Bf
open PySem PySem.Spec PyProof.Rows L2
/-- the frame in which the list may be changed -/
def FA (F : Fm) (a : Addr) : Fm where
  A := fun p => F.A p ∨ p = a
  I := fun H => F.I H ∧ ∃ xs, H a = some (.lst xs)
  tr := fun {H p} i h => by
    rcases h with h | h
    · exact F.tr i.1 h
    · obtain ⟨xs, e⟩ := i.2
      exact ⟨.lst xs, by rw [h]; exact e, fun z => z⟩
  same := fun ⟨i, xs, e⟩ k => ⟨F.same i k, xs, k _ _ e⟩
  wr := fun {H p o o'} ⟨i, xs, q⟩ n e nf => ⟨F.wr i (fun z => n (.inl z)) e nf, xs, by
    rw [upd_ne (fun z => n (.inr z.symm))]
    exact q⟩
/-- since H0 the frame holds; a is new; its content -/
structure Own (F : Fm) (H0 : Hp) (a : Addr) (ds : List D) (H : Hp) : Prop where
  r : F.R H0 H
  n : H0 a = none
  nA : ¬ F.A a
  l : ∃ xs, H a = some (.lst xs) ∧ Reps H ds xs
section
variable {F F' : Fm} {H0 H H1 : Hp} {a : Addr} {ds es : List D} {σ : L2.St} {Q : VK} {te : TE} {tt : TT} {DE : Ends} {u t : TS} {d : D} {c : Ca}
theorem Own.i (o : Own F H0 a ds H) : (FA F a).I H := by
  obtain ⟨xs, h, _⟩ := o.l
  exact ⟨o.r.1, xs, h⟩
theorem fk_fa {xs : List V} (r : (FK F a xs).R H H1) : (FA F a).R H H1 := ⟨⟨r.1.1, xs, r.1.2⟩, r.2⟩
theorem Own.fk {xs : List V} (o : Own F H0 a ds H) (e : H a = some (.lst xs)) (r : (FK F a xs).R H H1) : Own F H0 a ds H1 := by
  obtain ⟨ys, h, q⟩ := o.l
  rw [e] at h
  cases h
  exact ⟨Fm.trans o.r (FK.r o.nA ⟨o.r.1, e⟩ r), o.n, o.nA, xs, r.1.2, Reps.pr (Fm.toPr (F := FK F a xs) ⟨o.r.1, e⟩ r) q⟩
/-- an expression, the list as it is -/
theorem own_ev {Γ : Env' (FA F a)} {Γk : (xs : List V) → Env' (FK F a xs)} {ek : (xs : List V) → Ev (FK F a xs)} (o : Own F H0 a ds H) (g : EnvOk H σ Γ) (cv : ∀ xs, Cv H H Γ (Γk xs)) (h : ∀ xs, Pd (Γk xs) te (ek xs))
    (k : ∀ v H1 xs, Own F H0 a ds H1 → (FA F a).R H H1 → EnvOk H1 σ Γ → (ek xs).ok H1 v → Q v H1) : te σ H Q := by
  obtain ⟨xs, e, q⟩ := id o.l
  exact h xs σ H Q ⟨o.r.1, e⟩ (g.cv (cv xs)) fun v H1 r z => k v H1 xs (o.fk e r) (fk_fa r) (g.st o.i (fk_fa r)) z
theorem own_evT {Γ : Env' (FA F a)} {Γk : (xs : List V) → Env' (FK F a xs)} {b : Bool} {Qb : Bool → Hp → Prop} (o : Own F H0 a ds H) (g : EnvOk H σ Γ) (cv : ∀ xs, Cv H H Γ (Γk xs)) (h : ∀ xs, PdT (Γk xs) tt b)
    (k : ∀ H1, Own F H0 a ds H1 → (FA F a).R H H1 → EnvOk H1 σ Γ → Qb b H1) : tt σ H Qb := by
  obtain ⟨xs, e, q⟩ := id o.l
  exact h xs σ H Qb ⟨o.r.1, e⟩ (g.cv (cv xs)) fun H1 r => k H1 (o.fk e r) (fk_fa r) (g.st o.i (fk_fa r))
/-- xs.append(e) -/
theorem own_app {K : PySem.W.Frag} {j : Nat} {Γ : Env' (FA F a)} {Γk : (xs : List V) → Env' (FK F a xs)} (o : Own F H0 a ds H) (g : EnvOk H σ Γ) (hj : Γ[j]? = some (some (Ev.v _ (.ref a)))) (cv : ∀ xs, Cv H H Γ (Γk xs)) (h : ∀ xs, Pd (Γk xs) te (Ev.d _ d)) (hl : ds.length < sizeLine)
    (k : ∀ H1, Own F H0 a (ds ++ [d]) H1 → (FA F a).R H H1 → EnvOk H1 σ Γ → Q .non H1) : tBM K "list" rAppend (tVar j) (tCons te tNil) σ H Q := by
  obtain ⟨xs, e, q⟩ := id o.l
  obtain ⟨v, hv, ev⟩ := g.2 j _ hj
  have ev' : v = .ref a := ev
  subst ev'
  refine ⟨.ref a, hv, .inl ⟨rfl, xs, SqL.of e⟩, ?_⟩
  refine own_ev o g cv h fun y H1 zs o1 r1 g1 z => ?_
  obtain ⟨ys, e1, q1⟩ := id o1.l
  have hr := Pr.mutL (o := .lst (ys ++ [y])) e1
  have r2 : (FA F a).R H1 (upd H1 a (.lst (ys ++ [y]))) := ⟨⟨F.wr o1.r.1 o1.nA e1 (fun _ _ z => nomatch z), _, upd_same⟩, fun p w e n => by
    rw [upd_ne (fun z => n (.inr z))]
    exact e⟩
  refine ⟨a, ys, y, rfl, rfl, e1, by rw [q1.length]; exact hl, k _ ⟨⟨r2.1.1, fun p w e n => ?_⟩, o1.n, o1.nA, _, upd_same, Reps.append (Reps.pr hr q1) ⟨y, [], rfl, Rep.pr hr z, rfl⟩⟩ (Fm.trans r1 r2) (g1.st o1.i r2)⟩
  rw [upd_ne (ne_of_none e o1.n)]
  exact o1.r.2 _ _ e n
/-- a new list -/
theorem own_new {j : Nat} (i : F.I H) (k : ∀ a H1, Same H H1 → H a = none → Own F H a [] H1 → u DE (σ.set j (some (.ref a))) H1) : tSeq (tAsg (tLst tNil) (gName j)) u DE σ H := by
  refine ⟨Nat.zero_le _, fun a n => ?_⟩
  have sm : Same H (upd H a (.lst [])) := Same.new n
  exact k a _ sm n ⟨Fm.ofSame i sm, n, Fm.nA i n, [], upd_same, Reps.nil⟩
theorem Own.to (o : Own F H0 a ds H) : (Ev.l F ds).ok H (.ref a) := by
  obtain ⟨xs, e, q⟩ := id o.l
  exact ⟨a, xs, rfl, o.nA, e, q⟩
/-- past the making of the list -/
theorem ca_d {d : D} (s : Same H H1) : ∀ v, (Ev.d F d).ok H v → (Ev.d F' d).ok H1 v := fun _ h => Rep.same s h
theorem ca_l {ds : List D} (n : H a = none) (s : Same H H1) (v : V) (w : (Ev.l F ds).ok H v) : (Ev.l (FA F a) ds).ok H1 v := by
  obtain ⟨b, xs, e, nA, h, q⟩ := w
  refine ⟨b, xs, e, fun z => ?_, s _ _ h, Reps.same s q⟩
  rcases z with z | z
  · exact nA z
  · rw [z, n] at h
    cases h
theorem ca_pl {P : Pl} (n : H a = none) (s : Same H H1) (v : V) (w : (Ev.pl F c P).ok H v) : (Ev.pl (FA F a) c P).ok H1 v := by
  obtain ⟨b, dx, vs, t, e, n1, n2, h1, h2, h3, h4⟩ := w
  refine ⟨b, dx, vs, t, e, fun z => ?_, fun z => ?_, s _ _ h1, s _ _ h2, h3, Rep.same s h4⟩
  · rcases z with z | z
    · exact n1 z
    · rw [z, n] at h1
      cases h1
  · rcases z with z | z
    · exact n2 z
    · rw [z, n] at h2
      cases h2
/-- what the loop runs over -/
theorem own_itJ {K : PySem.W.Frag} {wi : TI} {es : List D} {Γ : Env' (FA F a)} {Γk : (xs : List V) → Env' (FK F a xs)} (o : Own F H0 a ds H) (g : EnvOk H σ Γ) (cv : ∀ xs, Cv H H Γ (Γk xs)) (h : ∀ xs, PdJ (FK F a xs) (Γk xs) wi es) (R : It → Hp → Prop)
    (k : ∀ J H1, (FA F a).R H H1 → Own F H0 a ds H1 → L2.Walk J es.length (fun H' => (FA F a).R H1 H') (YD H1 es) → R J H1) : wi σ H R := by
  obtain ⟨xs, e, q⟩ := id o.l
  refine h xs σ H R ⟨o.r.1, e⟩ (g.cv (cv xs)) fun J H1 r w => ?_
  have o1 := o.fk e r
  exact k J H1 (fk_fa r) o1 (w.mono (fun H' z => Fm.toPr o1.i z) fun i H x H' _ _ y => y)
theorem own_itL {K : PySem.W.Frag} {te : TE} {es : List D} {Γ : Env' (FA F a)} {Γk : (xs : List V) → Env' (FK F a xs)} (o : Own F H0 a ds H) (g : EnvOk H σ Γ) (cv : ∀ xs, Cv H H Γ (Γk xs)) (h : ∀ xs, Pd (Γk xs) te (Ev.l (FK F a xs) es)) (R : It → Hp → Prop)
    (k : ∀ J H1, (FA F a).R H H1 → Own F H0 a ds H1 → L2.Walk J es.length (fun H' => (FA F a).R H1 H') (YD H1 es) → R J H1) : iList K te σ H R := by
  refine own_ev o g cv h fun v H1 xs o1 r1 g1 z => ?_
  obtain ⟨b, ys, e, hn, hq, q⟩ := z
  refine ⟨b, e, ⟨ys, SqL.of hq⟩, k _ H1 r1 o1 ?_⟩
  rw [← q.length]
  refine (L2.walk_list (K := K) (a := b) (xs := ys)).mono (fun H' z => SqL.of (z.2 _ _ hq hn)) fun i H x H' hi z y => ?_
  obtain ⟨e1, e2⟩ := y
  subst e1
  obtain ⟨d, h1, h2⟩ := (Reps.pr (Fm.toPr o1.i z) q).get' e2
  exact ⟨Same.refl _, d, h1, h2⟩
/-- a loop that fills the list -/
theorem own_for {S : Type} {wi : TI} {j : Nat} {tb : TS} {es : List D} {Γ : Env' (FA F a)} {Γf : S → Env' (FA F a)} {ac : S → List D} (Inv : Nat → S → Prop) (s0 : S) (e0 : Γ = Γf s0) (i0 : Inv 0 s0) (o : Own F H0 a (ac s0) H) (g : EnvOk H σ Γ)
    (ho : ∀ (R : It → Hp → Prop), (∀ J H1, (FA F a).R H H1 → Own F H0 a (ac s0) H1 → L2.Walk J es.length (fun H' => (FA F a).R H1 H') (YD H1 es) → R J H1) → wi σ H R)
    (hs : ∀ i s d σ H (N : L2.St → Hp → Prop), es[i]? = some d → Inv i s → Own F H0 a (ac s) H → EnvOk H σ ((Γf s).set j (some (Ev.d _ d))) → (∀ s' σ' H', Inv (i + 1) s' → (FA F a).R H H' → Own F H0 a (ac s') H' → EnvOk H' σ' (Γf s') → N σ' H') → tb { DE with nx := N, ct := N, bk := u DE } σ H)
    (hd : ∀ s σ' H', Inv es.length s → Own F H0 a (ac s) H' → EnvOk H' σ' (Γf s) → u DE σ' H') : tSeq (tFor wi (gName j) tb) u DE σ H := by
  refine ho _ fun J H1 r1 o1 w => ?_
  subst e0
  refine L2.for_it w (fun i σ' H' => (FA F a).R H1 H' ∧ ∃ s, Inv i s ∧ Own F H0 a (ac s) H' ∧ EnvOk H' σ' (Γf s)) ⟨Fm.refl _ r1.1, s0, i0, o1, g.st o.i r1⟩ (fun i σ' H' _ z => z.1) (fun i x σ' H' H2 hlt ⟨rr, s, is, oo, gg⟩ y => ?_) fun σ' H' ⟨rr, s, is, oo, gg⟩ => hd s σ' H' is oo gg
  obtain ⟨sm, d, hd0, rx⟩ := y
  have r2 : (FA F a).R H' H2 := Fm.ofSame rr.1 sm
  have o2 : Own F H0 a (ac s) H2 := by
    obtain ⟨xs, e, q⟩ := id oo.l
    exact oo.fk e (Fm.ofSame ⟨oo.r.1, e⟩ sm)
  refine hs i s d _ H2 _ hd0 is o2 (EnvOk.set (gg.st oo.i r2) rx) fun s' σ' H3 is' r3 o3 g3 => ⟨Fm.trans rr (Fm.trans r2 r3), s', is', o3, g3⟩
end
end Bf
/-! ### the law's own defs: power -/
namespace Bf
open PySem PySem.Spec PyProof.Rows L2
/-- the law's scheme -/
abbrev dS (P : Pl) (rest : List D) : D := .tup (dRates P :: dAbove P :: dPts P :: .str P.rule :: rest)
inductive R_law_has : (F : Fm) → List (Ev F) → Ev F → Prop
  | mk (F : Fm) (P : Pl) (rest : List D) (dst : D) (st : List Bool) (o : Option Nat) (h : P.Ok) (h2 : TupOf dst = some (st.map .bl)) (h3 : st.length = P.n) (h4 : ∀ b, o = some b → b < P.n) : R_law_has F [Ev.d F (dS P rest), Ev.d F dst, Ev.d F (dO o)] (Ev.d F (.bl (pow P st o)))
inductive R_law_under : (F : Fm) → List (Ev F) → Ev F → Prop
  | mk (F : Fm) (P : Pl) (rest : List D) (o : Option Nat) (k : Nat) (h : P.Ok) (h4 : ∀ b, o = some b → b < P.n) : R_law_under F [Ev.d F (dS P rest), Ev.d F (dO o), Ev.d F (.int (k : Nat))] (Ev.d F (.bl (under P k o)))
def lits (P : Pl) (wi : List (Option Nat)) (st : List Bool) : List Nat := (List.range wi.length).filter fun k => pow P st (wi[k]?.getD none)
inductive R_law_lit : (F : Fm) → List (Ev F) → Ev F → Prop
  | mk (F : Fm) (P : Pl) (rest : List D) (dst : D) (wi : List (Option Nat)) (st : List Bool) (h : P.Ok) (h2 : TupOf dst = some (st.map .bl)) (h3 : st.length = P.n) (hw : ∀ (i b : Nat), wi[i]? = some (some b) → b < P.n) (hl : wi.length < 1000) : R_law_lit F [Ev.d F (dS P rest), Ev.d F (.tup (wi.map dO)), Ev.d F dst] (Ev.l F ((lits P wi st).map dN))
theorem pow_up {P : Pl} {st : List Bool} (h : P.Ok) {b o : Nat} (q : P.above[b]? = some (some o)) : pow P st (some b) = (pow P st (some o) && isOn st b) := by
  show (line P b).all (isOn st) = ((line P o).all (isOn st) && isOn st b)
  rw [line_up h q, List.all_append]
  simp
theorem pow_top {P : Pl} {st : List Bool} {b : Nat} (q : P.above[b]? = some none) : pow P st (some b) = isOn st b := by
  show (line P b).all (isOn st) = _
  rw [line_top q]
  simp
theorem pow_off {P : Pl} {st : List Bool} {b : Nat} (q : isOn st b = false) : pow P st (some b) = false := by
  show (line P b).all (isOn st) = _
  cases e : (line P b).all (isOn st) with
  | false => rfl
  | true =>
    have := List.all_eq_true.mp e b (line_self b)
    rw [q] at this
    cases this
theorem under_up {P : Pl} (h : P.Ok) {b o k : Nat} (q : P.above[b]? = some (some o)) (ne : b ≠ k) : under P k (some b) = under P k (some o) := by
  show decide (k ∈ line P b) = decide (k ∈ line P o)
  rw [line_up h q]
  refine decide_eq_decide.mpr ⟨fun z => ?_, fun z => List.mem_append.mpr (.inl z)⟩
  rcases List.mem_append.mp z with z | z
  · exact z
  · simp at z
    omega
theorem under_top {P : Pl} {b k : Nat} (q : P.above[b]? = some none) (ne : b ≠ k) : under P k (some b) = false := by
  show decide (k ∈ line P b) = _
  rw [line_top q]
  exact decide_eq_false (by simp; omega)
theorem under_self {P : Pl} {b : Nat} : under P b (some b) = true := decide_eq_true (line_self b)
theorem on_get {st : List Bool} {b : Nat} (h : b < st.length) : (st.map D.bl)[b]? = some (.bl (isOn st b)) := by
  unfold isOn
  rw [List.getElem?_map, List.getElem?_eq_getElem h]
  rfl
section
variable {F : Fm} {Γ : Env' F} {te ti : TE} {K : PySem.W.Frag} {P : Pl} {rest : List D}
theorem pS0 (h : Pd Γ te (Ev.d F (dS P rest))) : Pd Γ (tOp (rIxT K) te (tC (.int 0))) (Ev.d F (dRates P)) := pd_op' h pd_int (p2_ixN (i := 0) rfl rfl)
theorem pS1 (h : Pd Γ te (Ev.d F (dS P rest))) : Pd Γ (tOp (rIxT K) te (tC (.int 1))) (Ev.d F (dAbove P)) := pd_op' h pd_int (p2_ixN (i := 1) rfl rfl)
theorem pS2 (h : Pd Γ te (Ev.d F (dS P rest))) : Pd Γ (tOp (rIxT K) te (tC (.int 2))) (Ev.d F (dPts P)) := pd_op' h pd_int (p2_ixN (i := 2) rfl rfl)
theorem pS3 (h : Pd Γ te (Ev.d F (dS P rest))) : Pd Γ (tOp (rIxT K) te (tC (.int 3))) (Ev.d F (.str P.rule)) := pd_op' h pd_int (p2_ixN (i := 3) rfl rfl)
theorem pS2n (h : Pd Γ te (Ev.d F (dS P rest))) {k : Nat} {p : Str × Str × Nat} (hi : Pd Γ ti (Ev.d F (.int (k : Nat)))) (hp : P.pts[k]? = some p) : Pd Γ (tOp (rIxT K) (tOp (rIxT K) te (tC (.int 2))) ti) (Ev.d F (dPt p)) := pd_op' (pS2 h) hi (p2_ixN (i := k) rfl (by rw [List.getElem?_map, hp]; rfl))
theorem pS2x (h : Pd Γ te (Ev.d F (dS P rest))) {k : Nat} {p : Str × Str × Nat} (hi : Pd Γ ti (Ev.d F (.int (k : Nat)))) (hp : P.pts[k]? = some p) : Pd Γ (tOp (rIxT K) (tOp (rIxT K) (tOp (rIxT K) te (tC (.int 2))) ti) (tC (.int 0))) (Ev.d F (.str p.1)) := pd_op' (pS2n h hi hp) pd_int (p2_ixT rfl rfl)
theorem pS2k (h : Pd Γ te (Ev.d F (dS P rest))) {k : Nat} {p : Str × Str × Nat} (hi : Pd Γ ti (Ev.d F (.int (k : Nat)))) (hp : P.pts[k]? = some p) : Pd Γ (tOp (rIxT K) (tOp (rIxT K) (tOp (rIxT K) te (tC (.int 2))) ti) (tC (.int 1))) (Ev.d F (.str p.2.1)) := pd_op' (pS2n h hi hp) pd_int (p2_ixT rfl rfl)
end
section
variable {P : Program} {w : World} {K : PySem.W.Frag} {mg : Str → Option Value} {base : Heap} {c : Ca}
theorem ok_law_has (T : Tx w K mg c) : Cl P w K mg base 1 "_law_has" (SpG R_law_has) := by
  obtain ⟨f, hm, FF⟩ := T.f_law_has
  refine cl_of (fn_pure FF sclaw_has (fun F es e h => by cases h; rfl) (fun cdv A outer s H E hr => ⟨_, (pss_cons (ps_for PassesOwn.never rfl (pi_range1 (by rfl) T.n_range (pa_cons pe_int pa_nil)) (pg_name (i := 3) sclaw_has.nd rfl (Or.inl rfl)) (pss_cons (ps_if (PW.pt (pw_or (pt_cmpR op_isN (pv 2) pe_non (nomark _)) (pw_or1 (pt_not (pt_val (pe_ix ix_tup (pv 1) (pv 2) (fun _ _ => rfl))))))) (pss_one (ps_ret pe_bl)) pss_nil) (pss_cons (ps_if (pt_cmpR op_isN (pe_ix ix_tup (pe_ix ix_tup (pv 0) pe_int (fun _ _ => rfl)) (pv 2) (fun _ _ => rfl)) pe_non (nomark _)) (pss_one (ps_ret pe_bl)) pss_nil) (pss_one (ps_set (i := 2) sclaw_has.nd rfl (Or.inl rfl) (pe_ix ix_tup (pe_ix ix_tup (pv 0) pe_int (fun _ _ => rfl)) (pv 2) (fun _ _ => rfl))))))) (pss_one (ps_ret pe_bl))), fun F es e h => ?_⟩) (fun _ _ _ _ _ _ us hu => by obtain ⟨a, b, c, rfl⟩ := len3 hu; rfl)) hm FF
  cases h with
  | mk P rest dst st o h h2 h3 h4 =>
  have hn5 := h.n5
  have hnn : P.n = P.rates.length := rfl
  have hal := h.al
  refine pds_for (S := Option Nat) (Γf := fun s => [some (Ev.d F (dS P rest)), some (Ev.d F dst), some (Ev.d F (dO s)), none]) (pdj_rng1 (n := 9) pd_int (by decide)).i (fun i s => pow P st s = pow P st o ∧ (∀ b, s = some b → b < P.n ∧ b + i < 5) ∧ (s = none → i = 0)) o rfl ⟨rfl, fun b e => ⟨h4 b e, by have := h4 b e; omega⟩, fun _ => rfl⟩ (fun i s d hd ⟨h5, h6, h7⟩ => ?_) (fun s ⟨h5, h6, h7⟩ => ?_)
  · cases s with
    | none =>
      refine .inr ?_
      refine pdr_ifS (b := true) (pdt_or (x := true) (y := false) (pdt_test (pd_op' (pd_var (i := 2) rfl) pd_non p2_isN)) fun z => nomatch z) (fun _ => pdr_retS (pd_blt pd_bl ?_)) fun z => nomatch z
      rw [← h5]
      rfl
    | some b =>
      obtain ⟨h8, h9⟩ := h6 b rfl
      have hst : Pd (F := F) (([some (Ev.d F (dS P rest)), some (Ev.d F dst), some (Ev.d F (dO (some b))), none] : Env' F).set 3 (some (Ev.d F d))) (tOp (rIxT K) (tVar 1) (tVar 2)) (Ev.d F (.bl (isOn st b))) := pd_op' (pd_var (i := 1) rfl) (pd_var (i := 2) rfl) (p2_ixN (i := b) h2 (on_get (by omega)))
      have hab : P.above[b]? = some ((P.above[b]?).getD none) := by
        rw [List.getElem?_eq_getElem (by omega)]
        rfl
      have hu : Pd (F := F) (([some (Ev.d F (dS P rest)), some (Ev.d F dst), some (Ev.d F (dO (some b))), none] : Env' F).set 3 (some (Ev.d F d))) (tOp (rIxT K) (tOp (rIxT K) (tVar 0) (tC (.int 1))) (tVar 2)) (Ev.d F (dO ((P.above[b]?).getD none))) := pd_op' (pS1 (pd_var (i := 0) rfl)) (pd_var (i := 2) rfl) (p2_ixN (i := b) rfl (by rw [List.getElem?_map, hab]; rfl))
      cases hon : isOn st b with
      | false =>
        refine .inr ?_
        refine pdr_ifS (b := true) (pdt_eq (pdt_or (x := false) (pdt_test (pd_op' (pd_var (i := 2) rfl) pd_non p2_isN)) fun _ => pdt_not (pdt_val hst)) (by rw [hon]; rfl)) (fun _ => pdr_retS (pd_blt pd_bl ?_)) fun z => nomatch z
        rw [← h5, pow_off hon]
      | true =>
        cases hup : (P.above[b]?).getD none with
        | none =>
          rw [hup] at hu hab
          refine .inr ?_
          refine pdr_ifS (b := false) (pdt_eq (pdt_or (x := false) (pdt_test (pd_op' (pd_var (i := 2) rfl) pd_non p2_isN)) fun _ => pdt_not (pdt_val hst)) (by rw [hon]; rfl)) (fun z => nomatch z) fun _ => pdr_nextS ?_
          refine pdr_ifS (b := true) (pdt_test (pd_op' hu pd_non p2_isN)) (fun _ => pdr_retS (pd_blt pd_bl ?_)) fun z => nomatch z
          rw [← h5, pow_top hab, hon]
        | some o' =>
          rw [hup] at hu hab
          have lt := h.ab b o' hab
          refine .inl ⟨some o', ⟨?_, fun b' e => ?_, fun z => nomatch z⟩, ?_⟩
          · rw [← h5, pow_up h hab, hon, Bool.and_true]
          · cases e
            exact ⟨by omega, by omega⟩
          · refine pdb_ifS (b := false) (pdt_eq (pdt_or (x := false) (pdt_test (pd_op' (pd_var (i := 2) rfl) pd_non p2_isN)) fun _ => pdt_not (pdt_val hst)) (by rw [hon]; rfl)) (fun z => nomatch z) fun _ => pdb_nextS ?_
            refine pdb_skip (pdt_test (pd_op' hu pd_non p2_isN)) ?_
            exact pdb_weak (pdb_set hu) rfl (fun i e z => by
              rcases i with _ | _ | _ | _ | i
              · exact z
              · exact z
              · exact z
              · cases z
              · exact z)
  · cases s with
    | none => exact absurd (h7 rfl) (by simp)
    | some b =>
      have := (h6 b rfl).2
      simp at this
      omega
theorem ok_law_under (T : Tx w K mg c) : Cl P w K mg base 1 "_law_under" (SpG R_law_under) := by
  obtain ⟨f, hm, FF⟩ := T.f_law_under
  refine cl_of (fn_pure FF sclaw_under (fun F es e h => by cases h; rfl) (fun cdv A outer s H E hr => ⟨_, (pss_cons (ps_for PassesOwn.never rfl (pi_range1 (by rfl) T.n_range (pa_cons pe_int pa_nil)) (pg_name (i := 3) sclaw_under.nd rfl (Or.inl rfl)) (pss_cons (ps_if (pt_cmpR op_eq (pv 1) (pv 2) (nomark _)) (pss_one (ps_ret pe_bl)) pss_nil) (pss_cons (ps_if (pt_cmpR op_isN (pv 1) pe_non (nomark _)) (pss_one (ps_ret pe_bl)) pss_nil) (pss_one (ps_set (i := 1) sclaw_under.nd rfl (Or.inl rfl) (pe_ix ix_tup (pe_ix ix_tup (pv 0) pe_int (fun _ _ => rfl)) (pv 1) (fun _ _ => rfl))))))) (pss_one (ps_ret pe_bl))), fun F es e h => ?_⟩) (fun _ _ _ _ _ _ us hu => by obtain ⟨a, b, c, rfl⟩ := len3 hu; rfl)) hm FF
  cases h with
  | mk P rest o k h h4 =>
  have hn5 := h.n5
  have hnn : P.n = P.rates.length := rfl
  have hal := h.al
  refine pds_for (S := Option Nat) (Γf := fun s => [some (Ev.d F (dS P rest)), some (Ev.d F (dO s)), some (Ev.d F (.int (k : Nat))), none]) (pdj_rng1 (n := 9) pd_int (by decide)).i (fun i s => under P k s = under P k o ∧ (∀ b, s = some b → b < P.n ∧ b + i < 5) ∧ (s = none → i ≤ 5)) o rfl ⟨rfl, fun b e => ⟨h4 b e, by have := h4 b e; omega⟩, fun _ => by omega⟩ (fun i s d hd ⟨h5, h6, h7⟩ => ?_) (fun s ⟨h5, h6, h7⟩ => ?_)
  · cases s with
    | none =>
      refine .inr ?_
      refine pdr_ifS (b := false) (pdt_test (pd_op' (pd_var (i := 1) rfl) (pd_var (i := 2) rfl) (p2_eqV (d1 := .non) (d2 := .int (k : Nat)) rfl rfl rfl))) (fun z => nomatch z) fun _ => pdr_nextS ?_
      refine pdr_ifS (b := true) (pdt_test (pd_op' (pd_var (i := 1) rfl) pd_non p2_isN)) (fun _ => pdr_retS (pd_blt pd_bl ?_)) fun z => nomatch z
      rw [← h5]
      rfl
    | some b =>
      obtain ⟨h8, h9⟩ := h6 b rfl
      have hab : P.above[b]? = some ((P.above[b]?).getD none) := by
        rw [List.getElem?_eq_getElem (by omega)]
        rfl
      by_cases hk : b = k
      · subst hk
        refine .inr ?_
        refine pdr_ifS (b := true) (pdt_eq (pdt_test (pd_op' (pd_var (i := 1) rfl) (pd_var (i := 2) rfl) (p2_eqI (m := (b : Nat)) (n := (b : Nat))))) (decide_eq_true rfl)) (fun _ => pdr_retS (pd_blt pd_bl ?_)) fun z => nomatch z
        rw [← h5, under_self]
      · refine .inl ⟨(P.above[b]?).getD none, ⟨?_, fun b' e => ?_, fun z => by omega⟩, ?_⟩
        · rw [← h5]
          cases hup : (P.above[b]?).getD none with
          | none =>
            rw [hup] at hab
            rw [under_top hab hk]
            rfl
          | some o' =>
            rw [hup] at hab
            rw [under_up h hab hk]
        · rw [e] at hab
          have := h.ab b b' hab
          exact ⟨by omega, by omega⟩
        · refine pdb_skip (pdt_eq (pdt_test (pd_op' (pd_var (i := 1) rfl) (pd_var (i := 2) rfl) (p2_eqI (m := (b : Nat)) (n := (k : Nat))))) (decide_eq_false (by omega))) ?_
          refine pdb_skip (pdt_test (pd_op' (pd_var (i := 1) rfl) pd_non (p2_isN (d := .int (b : Nat))))) ?_
          exact pdb_weak (pdb_set (pd_op' (pS1 (pd_var (i := 0) rfl)) (pd_var (i := 1) rfl) (p2_ixN (i := b) rfl (by rw [List.getElem?_map, hab]; rfl)))) rfl (fun i e z => by
            rcases i with _ | _ | _ | _ | i
            · exact z
            · exact z
            · exact z
            · cases z
            · exact z)
  · cases s with
    | none => exact absurd (h7 rfl) (by simp)
    | some b =>
      have := (h6 b rfl).2
      simp at this
      omega
theorem ok_law_lit (T : Tx w K mg c) : Cl P w K mg base 2 "_law_lit" (SpG R_law_lit) := by
  obtain ⟨f, hm, FF⟩ := T.f_law_lit
  refine cl_of (fn_pure FF sclaw_lit (fun F es e h => by cases h; rfl) (fun cdv A outer s H E hr => ⟨_, (pss_one (ps_ret (pe_lcD (own := [("_law_k", 3)]) (by rfl) sclaw_lit.nd (pi_range1 (by rfl) T.n_range (pa_cons (pe_callB call_len_seq (by rfl) T.n_len (by decide +kernel) (pa_cons (pv 1) pa_nil)) pa_nil)) (blkOk_by (own := [("_law_k", 3)]) (N := Nlaw_lit) (sc := defScope slaw_lit) (by decide +kernel)) (fun _ _ _ _ _ => (pg_name (i := 3) sclaw_lit.nd rfl (Or.inl rfl))) (fun _ _ _ _ _ => (pts_one (pt_val (pe_cl (ok_law_has T) hr (by decide) (by rfl) (pa_cons (pv 0) (pa_cons (pv 2) (pa_cons (pe_ix ix_tup (pv 1) (pv 3) (fun _ _ => rfl)) pa_nil))))))) (fun _ _ _ _ _ => (pv 3))))), fun F es e h => ?_⟩) (fun _ _ _ _ _ _ us hu => by obtain ⟨a, b, c, rfl⟩ := len3 hu; rfl)) hm FF
  cases h with
  | mk P rest dst wi st h h2 h3 hw hl =>
  have hz := sizeLine_eq
  refine pds_ret (pd_lc (is := List.range wi.length) (f := fun i => .int (i : Nat)) (p := fun k => pow P st (wi[k]?.getD none)) (d := dN) (pdj_rng1 (n := wi.length) (pd_eq (pd_call' (pd_cons (pd_var (i := 1) rfl) pd_nil) (pc_lenT rfl)) (by rw [List.length_map])) (by omega)).i (fun k hk => lcb1 (j := 3) (vs := [3]) (List.mem_cons_self) (pdt_val (pd_cl (pd_cons (pd_var (i := 0) rfl) (pd_cons (pd_var (i := 2) rfl) (pd_cons (pd_op' (pd_var (i := 1) rfl) (pd_var (i := 3) rfl) (p2_ixN (i := k) (d := dO (wi[k]?.getD none)) rfl ?_)) pd_nil))) (.mk F P rest dst st (wi[k]?.getD none) h h2 h3 fun b e => ?_))) fun _ => pd_var (i := 3) rfl) (by simp; omega))
  · rw [List.getElem?_map, List.getElem?_eq_getElem (List.mem_range.mp hk)]
    rfl
  · refine hw k b ?_
    rw [← e, List.getElem?_eq_getElem (List.mem_range.mp hk)]
    rfl
end
end Bf
/-! ### the law's own defs: currents -/
namespace Bf
open PySem PySem.Spec PyProof.Rows L2
theorem sum_filter {ι : Type} {p : ι → Bool} {g : ι → Int} : ∀ {l : List ι}, ((l.filter p).map g).sum = (l.map fun k => if p k = true then g k else 0).sum
  | [] => rfl
  | a :: l => by
    rw [List.filter_cons, List.map_cons, List.sum_cons, ← sum_filter (l := l)]
    by_cases h : p a = true
    · rw [if_pos h, if_pos h, List.map_cons, List.sum_cons]
    · rw [if_neg h, if_neg h]
      omega
theorem map_range {α β : Type} {l : List α} {f : α → β} {g : Nat → β} (h : ∀ k x, l[k]? = some x → g k = f x) : (List.range l.length).map g = l.map f := by
  refine List.ext_getElem? fun i => ?_
  rw [List.getElem?_map, List.getElem?_map]
  by_cases hi : i < l.length
  · rw [List.getElem?_range hi, List.getElem?_eq_getElem hi]
    exact congrArg some (h i _ (List.getElem?_eq_getElem hi))
  · rw [List.getElem?_eq_none (by simp; omega), List.getElem?_eq_none (by omega)]
    rfl
theorem sum_cast {ι : Type} {f : ι → Nat} : ∀ {l : List ι}, (((l.map f).sum : Nat) : Int) = (l.map fun x => (f x : Int)).sum
  | [] => rfl
  | a :: l => by
    rw [List.map_cons, List.sum_cons, List.map_cons, List.sum_cons, ← sum_cast (l := l)]
    omega
theorem curr_sum {P : Pl} {wi : List (Option Nat)} {st : List Bool} {ld : Ld} {b : Nat} (hl : wi.length = P.pts.length) :
    (((lits P wi st).filter fun k => under P b (wi[k]?.getD none)).map fun k => ((ldGet ld ((P.pts[k]?.map (·.1)).getD "") : Nat) : Int)).sum = ((curr P wi st ld b : Nat) : Int) := by
  unfold lits curr
  rw [List.filter_filter, sum_filter, sum_cast]
  have hz : wi.length = (P.pts.zip wi).length := by rw [List.length_zip, hl, Nat.min_self]
  rw [hz]
  refine congrArg List.sum (map_range fun k q hq => ?_)
  obtain ⟨h1, h2⟩ : P.pts[k]? = some q.1 ∧ wi[k]? = some q.2 := by
    rw [List.getElem?_zip_eq_some] at hq
    exact hq
  rw [h1, h2]
  show (if (under P b q.2 && pow P st q.2) = true then ((ldGet ld q.1.1 : Nat) : Int) else 0) = _
  rw [Bool.and_comm]
  by_cases h : (pow P st q.2 && under P b q.2) = true
  · rw [if_pos h, if_pos h]
  · rw [if_neg h, if_neg h]
    rfl
inductive R_law_flows : (F : Fm) → List (Ev F) → Ev F → Prop
  | mk (F : Fm) (P : Pl) (rest : List D) (dst : D) (wi : List (Option Nat)) (st : List Bool) (ld : Ld) (h : P.Ok) (h2 : TupOf dst = some (st.map .bl)) (h3 : st.length = P.n) (hw : Wok P wi) : R_law_flows F [Ev.d F (dS P rest), Ev.d F (.tup (wi.map dO)), Ev.d F dst, Ev.d F (dLd ld)] (Ev.l F ((currs P wi st ld).map dN))
section
variable {P : Program} {w : World} {K : PySem.W.Frag} {mg : Str → Option Value} {base : Heap} {c : Ca}
theorem ok_law_flows (T : Tx w K mg c) : Cl P w K mg base 3 "_law_flows" (SpG R_law_flows) := by
  obtain ⟨f, hm, FF⟩ := T.f_law_flows
  refine cl_of (fn_pure FF sclaw_flows (fun F es e h => by cases h; rfl) (fun cdv A outer s H E hr => ⟨_, (pss_cons (ps_set (i := 4) sclaw_flows.nd rfl (Or.inl rfl) (pe_cl (ok_law_lit T) hr (by decide) (by rfl) (pa_cons (pv 0) (pa_cons (pv 1) (pa_cons (pv 2) pa_nil))))) (pss_cons (ps_set (i := 5) sclaw_flows.nd rfl (Or.inl rfl) (pe_lst pa_nil)) (pss_cons (ps_for PassesOwn.never rfl (pi_range1 (by rfl) T.n_range (pa_cons (pe_callB call_len_seq (by rfl) T.n_len (by decide +kernel) (pa_cons (pe_ix ix_tup (pv 0) pe_int (fun _ _ => rfl)) pa_nil)) pa_nil)) (pg_name (i := 6) sclaw_flows.nd rfl (Or.inr rfl)) (pss_one (ps_expr (pe_bm PySem.F.plainAttrs_list PySem.F.slot_list_append PySem.F.type_list_append mt_append (pv 5) (pa_cons (pe_callB (cr_sum rfl) (by rfl) T.n_sum (by decide +kernel) (pa_cons (pe_lcD (own := [("_law_k", 7)]) (by rfl) sclaw_flows.nd (pi_list (pv 4)) (blkOk_by (own := [("_law_k", 7)]) (N := Nlaw_flows) (sc := defScope slaw_flows) (by decide +kernel)) (fun _ _ _ _ _ => (pg_name (i := 7) sclaw_flows.nd rfl (Or.inl rfl))) (fun _ _ _ _ _ => (pts_one (pt_val (pe_cl (ok_law_under T) hr (by decide) (by rfl) (pa_cons (pv 0) (pa_cons (pe_ix ix_tup (pv 1) (pv 7) (fun _ _ => rfl)) (pa_cons (pv 6) pa_nil))))))) (fun _ _ _ _ _ => (pe_dget2 (hu_of hr) (pv 3) (pe_ix ix_tup (pe_ix ix_tup (pe_ix ix_tup (pv 0) pe_int (fun _ _ => rfl)) (pv 7) (fun _ _ => rfl)) pe_int (fun _ _ => rfl)) pe_int ⟨rfl, rfl, rfl, rfl⟩))) pa_nil)) pa_nil))))) (pss_one (ps_ret (pv 5)))))), fun F es e h => ?_⟩) (fun _ _ _ _ _ _ us hu => by obtain ⟨a, b, c, d, rfl⟩ := len4 hu; rfl)) hm FF
  cases h with
  | mk P rest dst wi st ld h h2 h3 hw =>
  have hz := sizeLine_eq
  have hn5 := h.n5
  have hp5 := h.p5
  have hwl := hw.len
  have hnn : P.n = P.rates.length := rfl
  intro σ H DE iH g ff
  refine seq_asg ?_
  refine (pd_cl (pd_cons (pd_var (i := 0) rfl) (pd_cons (pd_var (i := 1) rfl) (pd_cons (pd_var (i := 2) rfl) pd_nil))) (R_law_lit.mk F P rest dst wi st h h2 h3 hw.lt (by omega))) σ H _ iH g fun v H1 r1 q1 => ?_
  have g1 := EnvOk.set (i := 4) (e := Ev.l F ((lits P wi st).map dN)) (g.st iH r1) q1
  refine own_new r1.1 fun a H2 sm n o => ?_
  have g2 : EnvOk (F := FA F a) H2 ((σ.set 4 (some v)).set 5 (some (.ref a))) [some (Ev.d _ (dS P rest)), some (Ev.d _ (.tup (wi.map dO))), some (Ev.d _ dst), some (Ev.d _ (dLd ld)), some (Ev.l _ ((lits P wi st).map dN)), some (Ev.v _ (.ref a)), none, none] := EnvOk.set (i := 5) (e := Ev.v _ (.ref a)) (g1.cv (H' := H2) (Γ' := [some (Ev.d (FA F a) (dS P rest)), some (Ev.d _ (.tup (wi.map dO))), some (Ev.d _ dst), some (Ev.d _ (dLd ld)), some (Ev.l _ ((lits P wi st).map dN)), none, none, none]) ⟨ca_d sm, ca_d sm, ca_d sm, ca_d sm, ca_l n sm, trivial⟩) rfl
  have cv : ∀ xs (H : Hp), Cv (F := FA F a) (F' := FK F a xs) H H [some (Ev.d _ (dS P rest)), some (Ev.d _ (.tup (wi.map dO))), some (Ev.d _ dst), some (Ev.d _ (dLd ld)), some (Ev.l _ ((lits P wi st).map dN)), some (Ev.v _ (.ref a)), none, none] [some (Ev.d _ (dS P rest)), some (Ev.d _ (.tup (wi.map dO))), some (Ev.d _ dst), some (Ev.d _ (dLd ld)), some (Ev.l _ ((lits P wi st).map dN)), some (Ev.v _ (.ref a)), none, none] := fun xs H => ⟨fun _ h => h, fun _ h => h, fun _ h => h, fun _ h => h, fun _ h => h, fun _ h => h, trivial⟩
  have o' : Own F H1 a ((List.range 0).map fun k => dN (curr P wi st ld k)) H2 := o
  refine own_for (S := Nat) (Γf := fun _ => [some (Ev.d _ (dS P rest)), some (Ev.d _ (.tup (wi.map dO))), some (Ev.d _ dst), some (Ev.d _ (dLd ld)), some (Ev.l _ ((lits P wi st).map dN)), some (Ev.v _ (.ref a)), none, none]) (ac := fun s => (List.range s).map fun k => dN (curr P wi st ld k)) (es := (List.range P.n).map fun i => .int (i : Nat)) (fun i s => i = s) 0 rfl rfl o' g2 (fun R k => own_itJ (K := K) o' g2 (fun xs => cv xs H2) (fun xs => pdj_rng1 (n := P.n) (pd_eq (pd_call' (pd_cons (pS0 (pd_var (i := 0) rfl)) pd_nil) (pc_lenT rfl)) (by rw [List.length_map])) (by omega)) R k) (fun i s d σ' H3 N hd is o3 g3 kN => ?_) fun s σ' H3 is o3 g3 => ?_
  · subst is
    have hi : i < P.n := by
      have := (List.getElem?_eq_some_iff.mp hd).1
      simpa using this
    have ed : d = .int (i : Nat) := by
      rw [List.getElem?_map, List.getElem?_range hi] at hd
      exact (Option.some.inj hd).symm
    subst ed
    refine drop_in ?_
    refine own_app (j := 5) (d := dN (curr P wi st ld i)) o3 g3 rfl (Γk := fun xs => [some (Ev.d _ (dS P rest)), some (Ev.d _ (.tup (wi.map dO))), some (Ev.d _ dst), some (Ev.d _ (dLd ld)), some (Ev.l _ ((lits P wi st).map dN)), some (Ev.v _ (.ref a)), some (Ev.d _ (.int (i : Nat))), none]) (fun xs => ⟨fun _ h => h, fun _ h => h, fun _ h => h, fun _ h => h, fun _ h => h, fun _ h => h, fun _ h => h, trivial⟩) (fun xs => ?_) (by simp; omega) fun H4 o4 r4 g4 => ?_
    · refine pd_eq (pd_call' (pd_cons (pd_lc (is := lits P wi st) (f := dN) (p := fun k => under P i (wi[k]?.getD none)) (d := fun k => .int ((ldGet ld ((P.pts[k]?.map (·.1)).getD "") : Nat) : Int)) (pdi_list (pd_var (i := 4) rfl)) (fun k hk => ?_) ?_) pd_nil) pc_sumM) ?_
      · have hkl : k < wi.length := List.mem_range.mp (List.mem_filter.mp hk).1
        have hkp : P.pts[k]? = some (P.pts[k]'(by omega)) := List.getElem?_eq_getElem (by omega)
        refine lcb1 (j := 7) (vs := [7]) (List.mem_cons_self) (pdt_val (pd_cl (pd_cons (pd_var (i := 0) rfl) (pd_cons (pd_op' (pd_var (i := 1) rfl) (pd_var (i := 7) rfl) (p2_ixN (i := k) (d := dO (wi[k]?.getD none)) rfl ?_)) (pd_cons (pd_var (i := 6) rfl) pd_nil))) (R_law_under.mk _ P rest (wi[k]?.getD none) i h fun b e => ?_))) fun _ => ?_
        · rw [List.getElem?_map, List.getElem?_eq_getElem hkl]
          rfl
        · refine hw.lt k b ?_
          rw [← e, List.getElem?_eq_getElem hkl]
          rfl
        · rw [hkp]
          exact pd_ldget (pd_var (i := 3) rfl) (pS2x (k := k) (p := P.pts[k]'(by omega)) (pd_var (i := 0) rfl) (pd_var (i := 7) rfl) hkp) pd_int
      · have : (lits P wi st).length ≤ wi.length := by
          unfold lits
          refine Nat.le_trans (List.length_filter_le _ _) ?_
          simp
        omega
      · rw [curr_sum hwl]
        rfl
    · refine kN (i + 1) σ' H4 rfl r4 ?_ (g4.weak rfl fun i e z => ?_)
      · rw [List.range_succ, List.map_append]
        exact o4
      · rcases i with _ | _ | _ | _ | _ | _ | _ | _ | i
        · exact z
        · exact z
        · exact z
        · exact z
        · exact z
        · exact z
        · cases z
        · exact z
        · exact z
  · rw [List.length_map, List.length_range] at is
    subst is
    have et : ((List.range P.n).map fun k => dN (curr P wi st ld k)) = (currs P wi st ld).map dN := by
      unfold currs
      rw [List.map_map]
      rfl
    rw [et] at o3
    obtain ⟨v5, h5, e5⟩ := g3.2 5 (Ev.v _ (.ref a)) rfl
    have e5' : v5 = .ref a := e5
    subst e5'
    exact ⟨.ref a, h5, ff.1 _ H3 (Fm.trans r1 o3.r) o3.to⟩
end
end Bf
/-! ### data compared; pairs sorted -/
namespace Bf
open PySem PySem.Spec PyProof.Rows L2
mutual
def pyD : D → PyData
  | .non => .none
  | .bl b => .bool b
  | .int i => .int i
  | .str x => .str x
  | .tup ds => .tuple (pyDs ds)
  | .tupz ds => .tuple (pyDs ds)
  | .dict _ _ => .dict []
def pyDs : List D → List PyData
  | [] => []
  | d :: ds => pyD d :: pyDs ds
end
mutual
theorem rep_dp {K : PySem.W.Frag} {H : Hp} : ∀ (d : D) (v : V), ndD d = true → Rep H d v → Dp K H v (pyD d)
  | .non, v, _, h => by
    have e : v = .non := h
    rw [e]
    exact .non
  | .bl b, v, _, h => by
    have e : v = .bl b := h
    rw [e]
    exact .bl b
  | .int b, v, _, h => by
    have e : v = .int b := h
    rw [e]
    exact .int b
  | .str b, v, _, h => by
    have e : v = .str b := h
    rw [e]
    exact .str b
  | .tup ds, v, n, ⟨a, xs, e, h, r⟩ => by
    rw [e]
    exact .tup (.inl (.inl h)) (reps_dp ds xs n r)
  | .tupz ds, v, n, ⟨a, o, xs, e, h, z, r⟩ => by
    rw [e]
    exact .tup (.inl (.inr ⟨o, h⟩)) (reps_dp ds xs n r)
  | .dict _ _, _, n, _ => nomatch n
theorem reps_dp {K : PySem.W.Frag} {H : Hp} : ∀ (ds : List D) (vs : List V), ndDs ds = true → Reps H ds vs → DpAll K H vs (pyDs ds)
  | [], vs, _, h => by
    have e : vs = [] := h
    rw [e]
    exact .nil
  | d :: ds, vs, n, ⟨x, ys, e, h, r⟩ => by
    rw [e]
    have n' : (ndD d && ndDs ds) = true := n
    rw [Bool.and_eq_true] at n'
    exact .cons (rep_dp d x n'.1 h) (reps_dp ds ys n'.2 r)
end
mutual
def okD : D → Bool
  | .str x => PyData.strOk x
  | .tup ds => okDs ds
  | .tupz ds => okDs ds
  | .dict _ _ => false
  | _ => true
def okDs : List D → Bool
  | [] => true
  | d :: ds => okD d && okDs ds
end
mutual
def dep : D → Nat
  | .tup ds => deps ds + 1
  | .tupz ds => deps ds + 1
  | .dict _ _ => 1
  | _ => 0
def deps : List D → Nat
  | [] => 0
  | d :: ds => max (dep d) (deps ds)
end
mutual
theorem ok_lay : ∀ d : D, okD d = (pyD d).canLay0
  | .non => rfl
  | .bl _ => rfl
  | .int _ => rfl
  | .str _ => rfl
  | .tup ds => ok_lays ds
  | .tupz ds => ok_lays ds
  | .dict _ _ => rfl
theorem ok_lays : ∀ ds : List D, okDs ds = PyData.canLayAll0 (pyDs ds)
  | [] => rfl
  | d :: ds => by
    show (okD d && okDs ds) = ((pyD d).canLay0 && PyData.canLayAll0 (pyDs ds))
    rw [ok_lay d, ok_lays ds]
end
mutual
theorem dep_py : ∀ d : D, (pyD d).depth = dep d
  | .non => rfl
  | .bl _ => rfl
  | .int _ => rfl
  | .str _ => rfl
  | .tup ds => congrArg (· + 1) (deps_py ds)
  | .tupz ds => congrArg (· + 1) (deps_py ds)
  | .dict _ _ => rfl
theorem deps_py : ∀ ds : List D, PyData.depthAll (pyDs ds) = deps ds
  | [] => rfl
  | d :: ds => by
    show max (pyD d).depth (PyData.depthAll (pyDs ds)) = max (dep d) (deps ds)
    rw [dep_py d, deps_py ds]
end
mutual
theorem ok_nd : ∀ d : D, okD d = true → ndD d = true
  | .non, _ => rfl
  | .bl _, _ => rfl
  | .int _, _ => rfl
  | .str _, _ => rfl
  | .tup ds, h => oks_nd ds h
  | .tupz ds, h => oks_nd ds h
  | .dict _ _, h => nomatch h
theorem oks_nd : ∀ ds : List D, okDs ds = true → ndDs ds = true
  | [], _ => rfl
  | d :: ds, h => by
    have h' : (okD d && okDs ds) = true := h
    rw [Bool.and_eq_true] at h'
    show (ndD d && ndDs ds) = true
    rw [ok_nd d h'.1, oks_nd ds h'.2]
    rfl
end
theorem oks_map {ι : Type} {f : ι → D} : ∀ {l : List ι}, (∀ x ∈ l, okD (f x) = true) → okDs (l.map f) = true
  | [], _ => rfl
  | a :: l, h => by
    show (okD (f a) && okDs (l.map f)) = true
    rw [h a List.mem_cons_self, oks_map fun x hx => h x (List.mem_cons_of_mem _ hx)]
    rfl
theorem deps_map {ι : Type} {f : ι → D} {n : Nat} : ∀ {l : List ι}, (∀ x ∈ l, dep (f x) ≤ n) → deps (l.map f) ≤ n
  | [], _ => Nat.zero_le _
  | a :: l, h => by
    show max (dep (f a)) (deps (l.map f)) ≤ n
    have h1 := h a List.mem_cons_self
    have h2 := deps_map (l := l) fun x hx => h x (List.mem_cons_of_mem _ hx)
    omega
/-- fit to be compared -/
def FitD (d : D) : Prop := okD d = true ∧ dep d ≤ 60
theorem FitD.sh {d : D} (h : FitD d) : SeqAt.shaped (pyD d) = true := by
  unfold SeqAt.shaped
  rw [← ok_lay, h.1, dep_py]
  have := h.2
  exact decide_eq_true (by omega)
def FitDs (ds : List D) : Prop := okDs ds = true ∧ deps ds ≤ 60
theorem FitDs.sh {ds : List D} (h : FitDs ds) : SeqAt.shaped (.list (pyDs ds)) = true := by
  unfold SeqAt.shaped
  show (PyData.canLayAll0 (pyDs ds) && decide (PyData.depthAll (pyDs ds) + 1 ≤ 64)) = true
  rw [← ok_lays, h.1, deps_py]
  have := h.2
  exact decide_eq_true (by omega)
theorem FitD.refl {d : D} (h : FitD d) : PyData.eqv (pyD d) (pyD d) = true := SeqAt.eqv_refl _ (by rw [← ok_lay]; exact h.1)
theorem FitDs.refl {ds : List D} (h : FitDs ds) : PyData.eqv (.list (pyDs ds)) (.list (pyDs ds)) = true := SeqAt.eqv_refl (.list (pyDs ds)) (by
  show PyData.canLayAll0 (pyDs ds) = true
  rw [← ok_lays]
  exact h.1)
section
variable {F : Fm} {K : PySem.W.Frag} {d e : D} {ds es : List D}
theorem p2_eqD (h1 : FitD d) (h2 : FitD e) : Pd2 F (rEqD K) (Ev.d F d) (Ev.d F e) (Ev.d F (.bl (PyData.eqv (pyD d) (pyD e)))) := fun x y H Q i r1 r2 k => ⟨_, _, rep_dp d x (ok_nd d h1.1) r1, rep_dp e y (ok_nd e h2.1) r2, h1.sh, h2.sh, k _ H (F.refl i) rfl⟩
theorem p2_neD (h1 : FitD d) (h2 : FitD e) : Pd2 F (rNeD K) (Ev.d F d) (Ev.d F e) (Ev.d F (.bl (!PyData.eqv (pyD d) (pyD e)))) := fun x y H Q i r1 r2 k => ⟨_, _, rep_dp d x (ok_nd d h1.1) r1, rep_dp e y (ok_nd e h2.1) r2, h1.sh, h2.sh, k _ H (F.refl i) rfl⟩
theorem lst_dp (h1 : FitDs ds) {H : Hp} {x : V} (r : (Ev.l F ds).ok H x) : Dp K H x (.list (pyDs ds)) := by
  obtain ⟨a, xs, e, n, h, q⟩ := r
  rw [e]
  exact .lst (SqL.of h) (reps_dp ds xs (oks_nd ds h1.1) q)
theorem p2_eqDL (h1 : FitDs ds) (h2 : FitDs es) : Pd2 F (rEqD K) (Ev.l F ds) (Ev.l F es) (Ev.d F (.bl (PyData.eqv (.list (pyDs ds)) (.list (pyDs es))))) := fun x y H Q i r1 r2 k => ⟨_, _, lst_dp h1 r1, lst_dp h2 r2, h1.sh, h2.sh, k _ H (F.refl i) rfl⟩
theorem p2_neDL (h1 : FitDs ds) (h2 : FitDs es) : Pd2 F (rNeD K) (Ev.l F ds) (Ev.l F es) (Ev.d F (.bl (!PyData.eqv (.list (pyDs ds)) (.list (pyDs es))))) := fun x y H Q i r1 r2 k => ⟨_, _, lst_dp h1 r1, lst_dp h2 r2, h1.sh, h2.sh, k _ H (F.refl i) rfl⟩
theorem fit_nil : FitDs [] := ⟨rfl, Nat.zero_le _⟩
theorem eqv_nil : PyData.eqv (.list (pyDs ds)) (.list (pyDs [])) = decide (ds = []) := by
  cases ds with
  | nil => rfl
  | cons a l => rfl
end
theorem fit_ints {l : List Int} : FitDs (l.map .int) := ⟨oks_map fun _ _ => rfl, deps_map fun _ _ => Nat.zero_le _⟩
theorem fit_pairs {l : List (Int × Int)} : FitDs (l.map dPair) := ⟨oks_map fun _ _ => rfl, deps_map (n := 60) fun _ _ => by show max 0 (max 0 0) + 1 ≤ 60; decide⟩
/-! sorted pairs -/
def Ev.srtP (F : Fm) (ps : List (Int × Int)) : Ev F := ⟨fun H v => ∃ qs : List (Int × Int), qs.Perm ps ∧ (∀ p rs, qs = p :: rs → ∀ q ∈ ps, SrtO.lexB q p = false) ∧ (Ev.l F (qs.map dPair)).ok H v, fun i r ⟨qs, h1, h2, h3⟩ => ⟨qs, h1, h2, (Ev.l F _).st i r h3⟩⟩
/-- the pair behind a value -/
def pairAt (H : Hp) : V → Int × Int
  | .ref t => match H t with
    | some (.tup [.int a, .int b]) => (a, b)
    | _ => (0, 0)
  | _ => (0, 0)
theorem rep_pair {H : Hp} {p : Int × Int} {v : V} (h : Rep H (dPair p) v) : ∃ t, v = .ref t ∧ H t = some (.tup [.int p.1, .int p.2]) := by
  obtain ⟨a, zs, e2, h1, h2⟩ := h
  obtain ⟨y1, y2, e3, q3, q4⟩ := Reps.two h2
  have e4 : y1 = .int p.1 := q3
  have e5 : y2 = .int p.2 := q4
  subst e4 e5 e3
  exact ⟨a, e2, h1⟩
theorem reps_pairAt {H : Hp} : ∀ {ps : List (Int × Int)} {xs : List V}, Reps H (ps.map dPair) xs → xs.map (pairAt H) = ps ∧ ∀ x ∈ xs, ∃ t, x = V.ref t ∧ H t = some (.tup [.int (pairAt H x).1, .int (pairAt H x).2])
  | [], xs, h => by
    have e : xs = [] := h
    rw [e]
    exact ⟨rfl, fun _ z => nomatch z⟩
  | p :: ps, xs, ⟨x, ys, e, h, r⟩ => by
    rw [e]
    obtain ⟨t, e1, e2⟩ := rep_pair h
    have hp : pairAt H x = p := by
      rw [e1]
      show (match H t with
        | some (.tup [.int a, .int b]) => (a, b)
        | _ => ((0 : Int), (0 : Int))) = p
      rw [e2]
    obtain ⟨i1, i2⟩ := reps_pairAt r
    refine ⟨by rw [List.map_cons, hp, i1], fun y hy => ?_⟩
    rcases List.mem_cons.mp hy with z | z
    · rw [z, hp]
      exact ⟨t, e1, e2⟩
    · exact i2 y z
theorem reps_of_pairAt {H : Hp} : ∀ {xs : List V}, (∀ x ∈ xs, ∃ t, x = V.ref t ∧ H t = some (.tup [.int (pairAt H x).1, .int (pairAt H x).2])) → Reps H ((xs.map (pairAt H)).map dPair) xs
  | [], _ => rfl
  | x :: xs, h => by
    obtain ⟨t, e1, e2⟩ := h x List.mem_cons_self
    refine ⟨x, xs, rfl, ⟨t, _, e1, e2, _, _, rfl, rfl, _, _, rfl, rfl, rfl⟩, reps_of_pairAt fun y hy => h y (List.mem_cons_of_mem _ hy)⟩
theorem pc_sortedP {F : Fm} {K : PySem.W.Frag} {ps : List (Int × Int)} : PdC F (rSortedPO K) [Ev.l F (ps.map dPair)] (Ev.srtP F ps) := fun vs H Q i g k => by
  obtain ⟨v, ws, e, ⟨a, xs, e3, n, ha, q⟩, h2⟩ := g
  have e2 : ws = [] := h2
  subst e2 e3
  obtain ⟨p1, p2⟩ := reps_pairAt q
  refine ⟨a, xs, pairAt H, e, SqL.of ha, p2, fun ys p hs hb hn => ?_⟩
  have sm : Same H (upd H p (.lst ys)) := Same.new hn
  have hy := reps_of_pairAt (H := H) (xs := ys) fun y hy => p2 y (hb.perm.mem_iff.mp hy)
  refine k _ _ (Fm.ofSame i sm) ⟨ys.map (pairAt H), by rw [← p1]; exact hb.perm.map _, fun q rs e5 q' hq' => ?_, p, ys, rfl, Fm.nA i hn, upd_same, Reps.same sm hy⟩
  cases ys with
  | nil => cases e5
  | cons y yt =>
    have e6 : pairAt H y = q := (List.cons.inj e5).1
    rw [← p1] at hq'
    obtain ⟨x, hx, ex⟩ := List.mem_map.mp hq'
    have hx' : x ∈ y :: yt := hb.perm.mem_iff.mpr hx
    rw [← e6, ← ex]
    rcases List.mem_cons.mp hx' with z | z
    · rw [z]
      exact SrtO.lexB_no.mpr (by omega)
    · exact SrtO.srtd_head hs x z
/-- the first of the sorted is the least -/
theorem pmin_least : ∀ (ps : List (Int × Int)) (p : Int × Int), ∀ q ∈ p :: ps, ltP2 q (pmin p ps) = false
  | [], p, q, h => by
    have e : q = p := by simpa using h
    rw [e]
    show (decide (p.1 < p.1) || (decide (p.1 = p.1) && decide (p.2 < p.2))) = false
    simp
  | r :: ps, p, q, h => by
    show ltP2 q (pmin (if ltP2 r p then r else p) ps) = false
    have ih := pmin_least ps (if ltP2 r p then r else p)
    have im := ih _ List.mem_cons_self
    have tr : ∀ x y z : Int × Int, ltP2 y z = false → ltP2 x y = false → ltP2 x z = false := fun x y z => by
      unfold ltP2
      simp only [Bool.or_eq_false_iff, Bool.and_eq_false_iff, decide_eq_false_iff_not]
      omega
    have as : ∀ x y : Int × Int, ltP2 x y = true → ltP2 y x = false := fun x y => by
      unfold ltP2
      simp only [Bool.or_eq_true, Bool.and_eq_true, decide_eq_true_eq, Bool.or_eq_false_iff, Bool.and_eq_false_iff, decide_eq_false_iff_not]
      omega
    have sf : ∀ x : Int × Int, ltP2 x x = false := fun x => by
      unfold ltP2
      simp
    rcases List.mem_cons.mp h with e | h
    · rw [e]
      refine tr _ _ _ im ?_
      by_cases c : ltP2 r p = true
      · rw [if_pos c]
        exact as _ _ c
      · rw [if_neg c]
        exact sf p
    · rcases List.mem_cons.mp h with e | h
      · rw [e]
        refine tr _ _ _ im ?_
        by_cases c : ltP2 r p = true
        · rw [if_pos c]
          exact sf r
        · rw [if_neg c]
          exact Bool.not_eq_true _ ▸ c
      · exact ih q (List.mem_cons_of_mem _ h)
theorem least_uniq {p q : Int × Int} (h1 : SrtO.lexB p q = false) (h2 : ltP2 q p = false) : p = q := by
  have a := SrtO.lexB_no.mp h1
  unfold ltP2 at h2
  simp only [Bool.or_eq_false_iff, Bool.and_eq_false_iff, decide_eq_false_iff_not] at h2
  refine Prod.ext ?_ ?_ <;> omega
end Bf
/-! ### the law's own defs: what trips -/
namespace Bf
open PySem PySem.Spec PyProof.Rows L2
def stD (dst : D) (st : List Bool) (ns : List Nat) : D := if ns = [] then dst else .tupz (st.map .bl)
def trD (dst : D) (P : Pl) (wi : List (Option Nat)) (st : List Bool) (ld : Ld) : D := stD dst (trips P wi st ld).1 (trips P wi st ld).2
inductive R_law_tripped : (F : Fm) → List (Ev F) → Ev F → Prop
  | mk (F : Fm) (P : Pl) (rest : List D) (dst : D) (wi : List (Option Nat)) (st : List Bool) (ld : Ld) (h : P.Ok) (h2 : TupOf dst = some (st.map .bl)) (h3 : st.length = P.n) (hw : Wok P wi) : R_law_tripped F [Ev.d F (dS P rest), Ev.d F (.tup (wi.map dO)), Ev.d F dst, Ev.d F (dLd ld)]
      (Ev.d F (.tup [trD dst P wi st ld, .tup ((trips P wi st ld).2.map dN)]))
theorem set_range {st : List Bool} {k : Nat} : (List.range st.length).map (fun i => isOn st i && !decide (((i : Nat) : Int) = ((k : Nat) : Int))) = st.set k false := by
  refine List.ext_getElem? fun i => ?_
  rw [List.getElem?_map, List.getElem?_set]
  by_cases hi : i < st.length
  · rw [List.getElem?_range hi]
    show some (isOn st i && !decide (((i : Nat) : Int) = ((k : Nat) : Int))) = _
    by_cases e : k = i
    · subst e
      rw [if_pos rfl, if_pos hi, decide_eq_true rfl]
      simp
    · rw [if_neg e, decide_eq_false (by omega), List.getElem?_eq_getElem hi]
      unfold isOn
      rw [List.getElem?_eq_getElem hi]
      simp
  · rw [List.getElem?_eq_none (by simp; omega), List.getElem?_eq_none (by omega)]
    by_cases e : k = i
    · rw [if_pos e, if_neg (by omega)]
      rfl
    · rw [if_neg e]
      rfl
section
variable {P : Program} {w : World} {K : PySem.W.Frag} {mg : Str → Option Value} {base : Heap} {c : Ca}
theorem ok_law_tripped (T : Tx w K mg c) : Cl P w K mg base 4 "_law_tripped" (SpG R_law_tripped) := by
  obtain ⟨f, hm, FF⟩ := T.f_law_tripped
  refine cl_of (fn_pure FF sclaw_tripped (fun F es e h => by cases h; rfl) (fun cdv A outer s H E hr => ⟨_, (pss_cons (ps_set (i := 4) sclaw_tripped.nd rfl (Or.inl rfl) (pe_lst pa_nil)) (pss_cons (ps_for PassesOwn.never rfl (pi_range1 (by rfl) T.n_range (pa_cons pe_int pa_nil)) (pg_name (i := 5) sclaw_tripped.nd rfl (Or.inl rfl)) (pss_cons (ps_set (i := 6) sclaw_tripped.nd rfl (Or.inr rfl) (pe_cl (ok_law_flows T) hr (by decide) (by rfl) (pa_cons (pv 0) (pa_cons (pv 1) (pa_cons (pv 2) (pa_cons (pv 3) pa_nil)))))) (pss_cons (ps_set (i := 7) sclaw_tripped.nd rfl (Or.inl rfl) (pe_callB cr_sortedPO (by rfl) T.n_sorted (by decide +kernel) (pa_cons (pe_lcD (own := [("_law_k", 9)]) (by rfl) sclaw_tripped.nd (pi_range1 (by rfl) T.n_range (pa_cons (pe_callB call_len_seq (by rfl) T.n_len (by decide +kernel) (pa_cons (pv 6) pa_nil)) pa_nil)) (blkOk_by (own := [("_law_k", 9)]) (N := Nlaw_tripped) (sc := defScope slaw_tripped) (by decide +kernel)) (fun _ _ _ _ _ => (pg_name (i := 9) sclaw_tripped.nd rfl (Or.inl rfl))) (fun _ _ _ _ _ => (pts_one (pt_cmpR op_gt (pe_ix ix_list (pv 6) (pv 9) (fun _ _ => rfl)) (pe_ix ix_tup (pe_ix ix_tup (pv 0) pe_int (fun _ _ => rfl)) (pv 9) (fun _ _ => rfl)) (nomark _)))) (fun _ _ _ _ _ => (pe_tup (pa_cons (pe_ix ix_tup (pe_ix ix_tup (pv 0) pe_int (fun _ _ => rfl)) (pv 9) (fun _ _ => rfl)) (pa_cons (pe_op op_sub pe_int (pv 9)) pa_nil))))) pa_nil))) (pss_cons (ps_if (pt_cmpR (op_eqD hr.units) (pv 7) (pe_lst pa_nil) (nomark _)) (pss_one (ps_ret (pe_tup (pa_cons (pv 2) (pa_cons (pe_callTy call_tuple_of (by rfl) T.n_tuple (by decide +kernel) (pa_cons (pv 4) pa_nil)) pa_nil))))) pss_nil) (pss_cons (ps_set (i := 8) sclaw_tripped.nd rfl (Or.inr rfl) (pe_op op_sub pe_int (pe_ix ix_tup (pe_ix ix_list (pv 7) pe_int (fun _ _ => rfl)) pe_int (fun _ _ => rfl)))) (pss_cons (ps_expr (pe_bm PySem.F.plainAttrs_list PySem.F.slot_list_append PySem.F.type_list_append mt_append (pv 4) (pa_cons (pv 8) pa_nil))) (pss_one (ps_set (i := 2) sclaw_tripped.nd rfl (Or.inr rfl) (pe_callTy call_tupleZ (by rfl) T.n_tuple (by decide +kernel) (pa_cons (pe_lcD (own := [("_law_k", 9)]) (by rfl) sclaw_tripped.nd (pi_range1 (by rfl) T.n_range (pa_cons (pe_callB call_len_seq (by rfl) T.n_len (by decide +kernel) (pa_cons (pv 2) pa_nil)) pa_nil)) (blkOk_by (own := [("_law_k", 9)]) (N := Nlaw_tripped) (sc := defScope slaw_tripped) (by decide +kernel)) (fun _ _ _ _ _ => (pg_name (i := 9) sclaw_tripped.nd rfl (Or.inl rfl))) (fun _ _ _ _ _ => pts_nil) (fun _ _ _ _ _ => (pe_and (pe_ix ix_tup (pv 2) (pv 9) (fun _ _ => rfl)) (pe_one (pe_cmpR op_ne (pv 9) (pv 8) (nomark _)))))) pa_nil)))))))))) (pss_one (ps_ret (pe_tup (pa_cons (pv 2) (pa_cons (pe_callTy call_tuple_of (by rfl) T.n_tuple (by decide +kernel) (pa_cons (pv 4) pa_nil)) pa_nil))))))), fun F es e h => ?_⟩) (fun _ _ _ _ _ _ us hu => by obtain ⟨a, b, c, d, rfl⟩ := len4 hu; rfl)) hm FF
  cases h with
  | mk P rest dst wi st ld h h2 h3 hw =>
  have hz := sizeLine_eq
  have hn5 := h.n5
  have hnn : P.n = P.rates.length := rfl
  have hr : ∀ k, k < P.n → P.rates[k]? = some (rate P k) := fun k hk => by
    unfold rate
    rw [List.getElem?_eq_getElem hk]
    rfl
  intro σ H DE iH g ff
  refine own_new iH fun a H1 sm n o => ?_
  have g1 : EnvOk (F := FA F a) H1 (σ.set 4 (some (.ref a))) [some (Ev.d _ (dS P rest)), some (Ev.d _ (.tup (wi.map dO))), some (Ev.d _ dst), some (Ev.d _ (dLd ld)), some (Ev.v _ (.ref a)), none, none, none, none, none] := EnvOk.set (i := 4) (e := Ev.v _ (.ref a)) (g.cv (H' := H1) (Γ' := [some (Ev.d (FA F a) (dS P rest)), some (Ev.d _ (.tup (wi.map dO))), some (Ev.d _ dst), some (Ev.d _ (dLd ld)), none, none, none, none, none, none]) ⟨ca_d sm, ca_d sm, ca_d sm, ca_d sm, trivial⟩) rfl
  have o' : Own F H a (([] : List Nat).map dN) H1 := o
  refine own_for (S := List Bool × List Nat) (Γf := fun s => [some (Ev.d _ (dS P rest)), some (Ev.d _ (.tup (wi.map dO))), some (Ev.d _ (stD dst s.1 s.2)), some (Ev.d _ (dLd ld)), some (Ev.v _ (.ref a)), none, none, none, none, none]) (ac := fun s => s.2.map dN) (es := (List.range 9).map fun i => .int (i : Nat))
    (fun i s => trF P wi ld (9 - i) s.1 s.2 = trips P wi st ld ∧ s.1.length = P.n ∧ s.2.length + ons s.1 ≤ 5 ∧ TupOf (stD dst s.1 s.2) = some (s.1.map .bl)) (st, []) rfl ⟨rfl, h3, by have := ons_le (st := st); simp; omega, h2⟩ o' g1 (fun R k => own_itJ (K := K) o' g1 (Γk := fun xs => [none, none, none, none, none, none, none, none, none, none]) (fun xs => trivial) (fun xs => pdj_rng1 (n := 9) pd_int (by omega)) R k) (fun i s d σ' H3 N hd ⟨i1, i2, i3, i4⟩ o3 g3 kN => ?_) fun s σ' H3 ⟨i1, i2, i3, i4⟩ o3 g3 => ?_
  · obtain ⟨st', ns⟩ := s
    have hi9 : i < 9 := by
      have := (List.getElem?_eq_some_iff.mp hd).1
      simpa using this
    dsimp only at i1 i2 i3 i4 o3 g3
    -- the currents
    refine seq_asg ?_
    refine own_ev o3 g3 (Γk := fun xs => [some (Ev.d _ (dS P rest)), some (Ev.d _ (.tup (wi.map dO))), some (Ev.d _ (stD dst st' ns)), some (Ev.d _ (dLd ld)), none, none, none, none, none, none]) (fun xs => ⟨fun _ h => h, fun _ h => h, fun _ h => h, fun _ h => h, trivial⟩) (fun xs => pd_cl (pd_cons (pd_var (i := 0) rfl) (pd_cons (pd_var (i := 1) rfl) (pd_cons (pd_var (i := 2) rfl) (pd_cons (pd_var (i := 3) rfl) pd_nil)))) (R_law_flows.mk _ P rest (stD dst st' ns) wi st' ld h i4 i2 hw)) fun v6 H4 x4 o4 r4 g4 q4 => ?_
    have g5 : EnvOk (F := FA F a) H4 _ [some (Ev.d _ (dS P rest)), some (Ev.d _ (.tup (wi.map dO))), some (Ev.d _ (stD dst st' ns)), some (Ev.d _ (dLd ld)), some (Ev.v _ (.ref a)), some (Ev.d _ d), some (Ev.l _ ((currs P wi st' ld).map dN)), none, none, none] := EnvOk.set (i := 6) (e := Ev.l (FA F a) ((currs P wi st' ld).map dN)) g4 q4
    -- those over
    refine seq_asg ?_
    refine own_ev o4 g5 (Γk := fun xs => [some (Ev.d _ (dS P rest)), none, none, none, none, none, some (Ev.l _ ((currs P wi st' ld).map dN)), none, none, none]) (fun xs => ⟨fun _ h => h, fun _ h => h, trivial⟩) (fun xs => pd_eq (e' := Ev.srtP _ ((overs P wi st' ld).map (pairOf P))) (pd_call' (pd_cons (pd_eq (e' := Ev.l _ (((overs P wi st' ld).map (pairOf P)).map dPair)) (pd_lc (is := List.range P.n) (f := fun i => .int (i : Nat)) (p := fun k => decide (rate P k < curr P wi st' ld k)) (d := fun k => dPair (pairOf P k)) (pdj_rng1 (n := P.n) (pd_eq (pd_call' (pd_cons (pd_var (i := 6) rfl) pd_nil) pc_lenL) (by unfold currs; simp)) (by omega)).i
      (fun k hk => lcb1 (j := 9) (vs := [9]) (List.mem_cons_self) (pdt_eq (pdt_test (pd_op' (pd_op' (pd_var (i := 6) rfl) (pd_var (i := 9) rfl) (p2_ixLN (i := k) (d := dN (curr P wi st' ld k)) ?_)) (pd_op' (pS0 (pd_var (i := 0) rfl)) (pd_var (i := 9) rfl) (p2_ixN (i := k) (d := dN (rate P k)) rfl ?_)) p2_I0b)) ?_)
        fun _ => pd_tup' (ds := [.int (rate P k : Nat), .int (0 - (k : Int))]) (pd_cons (pd_op' (pS0 (pd_var (i := 0) rfl)) (pd_var (i := 9) rfl) (p2_ixN (i := k) (d := dN (rate P k)) rfl ?_)) (pd_cons (pd_op' pd_int (pd_var (i := 9) rfl) p2_I0i) pd_nil)) rfl (by show 2 ≤ sizeLine; omega)) (by simp; omega)) ?_) pd_nil) pc_sortedP) rfl) fun v7 H5 x5 o5 r5 g6 q5 => ?_
    · rw [List.getElem?_map]
      unfold currs
      rw [List.getElem?_map, List.getElem?_range (List.mem_range.mp hk)]
      rfl
    · rw [List.getElem?_map, hr k (List.mem_range.mp hk)]
      rfl
    · exact decide_eq_decide.mpr ⟨fun z => by omega, fun z => by omega⟩
    · rw [List.getElem?_map, hr k (List.mem_range.mp hk)]
      rfl
    · rw [List.map_map]
      rfl
    obtain ⟨qs, hperm, hleast, q5'⟩ := q5
    have g7 : EnvOk (F := FA F a) H5 _ [some (Ev.d _ (dS P rest)), some (Ev.d _ (.tup (wi.map dO))), some (Ev.d _ (stD dst st' ns)), some (Ev.d _ (dLd ld)), some (Ev.v _ (.ref a)), some (Ev.d _ d), some (Ev.l _ ((currs P wi st' ld).map dN)), some (Ev.l _ (qs.map dPair)), none, none] := EnvOk.set (i := 7) (e := Ev.l (FA F a) (qs.map dPair)) g6 q5'
    refine seq_if ?_
    refine own_evT o5 g7 (Γk := fun xs => [none, none, none, none, none, none, none, some (Ev.l _ (qs.map dPair)), none, none]) (fun xs => ⟨fun _ h => h, trivial⟩) (fun xs => pdt_eq (pdt_test (pd_op' (pd_var (i := 7) rfl) (pd_lst' (ds := []) pd_nil rfl (by decide)) (p2_eqDL fit_pairs fit_nil))) eqv_nil) fun H6 o6 r6 g8 => ?_
    by_cases hq : qs = []
    · rw [if_pos (decide_eq_true (by rw [hq]; rfl))]
      refine seq_ret ?_
      have hov : overs P wi st' ld = [] := by
        rw [hq] at hperm
        exact List.map_eq_nil_iff.mp (List.nil_perm.mp hperm)
      have et : trips P wi st ld = (st', ns) := by
        rw [← i1]
        have : 9 - i = (8 - i) + 1 := by omega
        rw [this]
        unfold trF
        rw [hov]
        rfl
      have gl : EnvOk (F := F) H6 _ [none, none, some (Ev.d F (stD dst st' ns)), none, some (Ev.l F (ns.map dN)), none, none, none, none, none] := g8.cv ⟨fun _ h => h, fun v e => by
        have e' : v = .ref a := e
        rw [e']
        exact o6.to, trivial⟩
      unfold trD at ff
      rw [et] at ff
      exact (pd_tup' (ds := [stD dst st' ns, .tup (ns.map dN)]) (pd_cons (pd_var (i := 2) rfl) (pd_cons (pd_call' (pd_cons (pd_var (i := 4) rfl) pd_nil) pc_tupL) pd_nil)) rfl (by show 2 ≤ sizeLine; decide)) _ H6 _ o6.r.1 gl fun v H' r z => ff.1 v H' (Fm.trans o6.r r) z
    · rw [if_neg (by
        rw [decide_eq_false (by simpa using hq)]
        decide)]
      refine seq_next ?_
      obtain ⟨p, rs, rfl⟩ : ∃ p rs, qs = p :: rs := by
        cases qs with
        | nil => exact (hq rfl).elim
        | cons p rs => exact ⟨p, rs, rfl⟩
      cases hks : overs P wi st' ld with
      | nil =>
        rw [hks] at hperm
        exact absurd hperm.length_eq (by simp)
      | cons k0 ks =>
      rw [hks] at hperm hleast
      have hp : p = pmin (pairOf P k0) (ks.map (pairOf P)) := by
        have m := pmin_mem (ks.map (pairOf P)) (pairOf P k0)
        have hpm : p ∈ pairOf P k0 :: ks.map (pairOf P) := hperm.mem_iff.mp List.mem_cons_self
        exact (least_uniq (hleast p rs rfl _ m) (pmin_least _ _ p hpm)).symm
      have hfo : firstOf P (overs P wi st' ld) = some (0 - p.2).toNat := by rw [hks, hp]; rfl
      have hkI : 0 - p.2 = (((0 - p.2).toNat : Nat) : Int) := by
        have hpm : p ∈ (k0 :: ks).map (pairOf P) := hperm.mem_iff.mp List.mem_cons_self
        obtain ⟨i, _, e⟩ := List.mem_map.mp hpm
        rw [← e]
        show 0 - (0 - (i : Int)) = ((0 - (0 - (i : Int))).toNat : Int)
        omega
      generalize (0 - p.2).toNat = k at hfo hkI
      have hkm := over_on h (firstOf_mem hfo)
      have hcnt := ons_set hkm.2
      -- first = ..
      refine seq_asg ?_
      refine own_ev o6 g8 (ek := fun xs => Ev.d _ (.int (k : Nat))) (Γk := fun xs => [none, none, none, none, none, none, none, some (Ev.l _ ((p :: rs).map dPair)), none, none]) (fun xs => ⟨fun _ h => h, trivial⟩) (fun xs => pd_eq (pd_op' pd_int (pd_op' (pd_op' (pd_var (i := 7) rfl) pd_int p2_ixL0) pd_int (p2_ixT (dt := dPair p) (d := .int p.2) rfl rfl)) p2_I0i) (by rw [hkI])) fun v8 H7 x7 o7 r7 g9 q7 => ?_
      have g10 : EnvOk (F := FA F a) H7 _ [some (Ev.d _ (dS P rest)), some (Ev.d _ (.tup (wi.map dO))), some (Ev.d _ (stD dst st' ns)), some (Ev.d _ (dLd ld)), some (Ev.v _ (.ref a)), some (Ev.d _ d), some (Ev.l _ ((currs P wi st' ld).map dN)), some (Ev.l _ ((p :: rs).map dPair)), some (Ev.d _ (.int (k : Nat))), none] := EnvOk.set (i := 8) (e := Ev.d (FA F a) (.int (k : Nat))) g9 q7
      -- numbers.append(first)
      refine seq_drop ?_
      refine own_app (j := 4) (d := dN k) o7 g10 rfl (Γk := fun xs => [none, none, none, none, none, none, none, none, some (Ev.d _ (.int (k : Nat))), none]) (fun xs => ⟨fun _ h => h, trivial⟩) (fun xs => pd_var (i := 8) rfl) (by simp; omega) fun H8 o8 r8 g11 => ?_
      -- state = ..
      refine asg_in ?_
      refine own_ev o8 g11 (ek := fun xs => Ev.d _ (.tupz ((st'.set k false).map .bl))) (Γk := fun xs => [none, none, some (Ev.d _ (stD dst st' ns)), none, none, none, none, none, some (Ev.d _ (.int (k : Nat))), none]) (fun xs => ⟨fun _ h => h, fun _ h => h, trivial⟩) (fun xs => pd_eq (pd_call' (pd_cons (pd_lc' (is := List.range st'.length) (f := fun i => .int (i : Nat)) (d := fun i => .bl (isOn st' i && !decide (((i : Nat) : Int) = ((k : Nat) : Int)))) (pdj_rng1 (n := st'.length) (pd_eq (pd_call' (pd_cons (pd_var (i := 2) rfl) pd_nil) (pc_lenT i4)) (by rw [List.length_map])) (by omega)).i
        (fun j hj => lcb1 (j := 9) (vs := [9]) (List.mem_cons_self) pdt_yes fun _ => pd_and (pd_op' (pd_var (i := 2) rfl) (pd_var (i := 9) rfl) (p2_ixN (i := j) i4 (on_get (List.mem_range.mp hj)))) fun _ => pd_op' (pd_var (i := 9) rfl) (pd_var (i := 8) rfl) p2_neI) (by simp; omega)) pd_nil) pc_tupZ) ?_) fun v9 H9 x9 o9 r9 g12 q9 => ?_
      · have e := set_range (st := st') (k := k)
        rw [← e, List.map_map]
        rfl
      have g13 := EnvOk.set (i := 2) (e := Ev.d (FA F a) (.tupz ((st'.set k false).map .bl))) g12 q9
      have r39 := Fm.trans r4 (Fm.trans r5 (Fm.trans r6 (Fm.trans r7 (Fm.trans r8 r9))))
      have e9 : ns.map dN ++ [dN k] = (ns ++ [k]).map dN := by rw [List.map_append]; rfl
      rw [e9] at o9
      refine kN (st'.set k false, ns ++ [k]) _ H9 ⟨?_, by rw [List.length_set]; exact i2, by
        have i3' : ns.length + ons st' ≤ 5 := i3
        show (ns ++ [k]).length + ons (st'.set k false) ≤ 5
        rw [List.length_append, List.length_singleton]
        omega, ?_⟩ r39 o9 (g13.weak rfl fun i e z => ?_)
      · rw [← i1]
        have : 9 - i = (9 - (i + 1)) + 1 := by omega
        conv => rhs; rw [this]; unfold trF
        rw [hfo]
      · unfold stD
        rw [if_neg (by simp)]
        rfl
      · have es : stD dst (st'.set k false) (ns ++ [k]) = .tupz ((st'.set k false).map .bl) := by
          unfold stD
          rw [if_neg (by simp)]
        rcases i with _ | _ | _ | _ | _ | _ | _ | _ | _ | _ | i
        · exact z
        · exact z
        · have z' : some (some (Ev.d (FA F a) (stD dst (st'.set k false) (ns ++ [k])))) = some (some e) := z
          rw [es] at z'
          exact z'
        · exact z
        · exact z
        · cases z
        · cases z
        · cases z
        · cases z
        · cases z
        · cases z
  · have et : trips P wi st ld = s := i1.symm
    have gl : EnvOk (F := F) H3 σ' [none, none, some (Ev.d F (stD dst s.1 s.2)), none, some (Ev.l F (s.2.map dN)), none, none, none, none, none] := g3.cv ⟨fun _ h => h, fun v e => by
      have e' : v = .ref a := e
      rw [e']
      exact o3.to, trivial⟩
    unfold trD at ff
    rw [et] at ff
    exact (pds_ret (pd_tup' (ds := [stD dst s.1 s.2, .tup (s.2.map dN)]) (pd_cons (pd_var (i := 2) rfl) (pd_cons (pd_call' (pd_cons (pd_var (i := 4) rfl) pd_nil) pc_tupL) pd_nil)) rfl (by show 2 ≤ sizeLine; decide))) σ' H3 DE o3.r.1 gl (ff.r o3.r)
end
end Bf
/-! ### the law's own defs: run, reset -/
namespace Bf
open PySem PySem.Spec PyProof.Rows L2
def dZ (st : List Bool) : D := .tupz (st.map .bl)
def dLF (f : Fa) : D := .tup [dZ f.st, dLd f.ld, .tup (f.wi.map dO), .int (f.ct : Int)]
def dLSh (sh : Shelf) : D := dG dLF sh
def dScn (f : Fa) (sh : Shelf) : D := .tup [dZ f.st, dLd f.ld, .tup (f.wi.map dO), .int (f.ct : Int), dLSh sh]
theorem trF_more {P : Pl} {wi : List (Option Nat)} {ld : Ld} : ∀ (f : Nat) (st : List Bool) (ns : List Nat), ns.length ≤ (trF P wi ld f st ns).2.length
  | 0, _, _ => Nat.le_refl _
  | f + 1, st, ns => by
    unfold trF
    cases firstOf P (overs P wi st ld) with
    | none => exact Nat.le_refl _
    | some k =>
      refine Nat.le_trans ?_ (trF_more f (st.set k false) (ns ++ [k]))
      simp
theorem trF_none {P : Pl} {wi : List (Option Nat)} {ld : Ld} : ∀ (f : Nat) (st : List Bool), (trF P wi ld f st []).2 = [] → (trF P wi ld f st []).1 = st
  | 0, _, _ => rfl
  | f + 1, st, h => by
    unfold trF at h ⊢
    cases q : firstOf P (overs P wi st ld) with
    | none => rfl
    | some k =>
      rw [q] at h
      have h1 := trF_more (P := P) (wi := wi) (ld := ld) f (st.set k false) ([] ++ [k])
      have h2 : (trF P wi ld f (st.set k false) ([] ++ [k])).2 = [] := h
      rw [h2] at h1
      simp at h1
theorem trD_z {P : Pl} {wi : List (Option Nat)} {st : List Bool} {ld : Ld} : trD (dZ st) P wi st ld = dZ (trips P wi st ld).1 := by
  unfold trD stD
  by_cases h : (trips P wi st ld).2 = []
  · rw [if_pos h]
    have := trF_none (P := P) (wi := wi) (ld := ld) 9 st h
    show dZ st = dZ (trF P wi ld 9 st []).1
    rw [this]
  · rw [if_neg h]
    rfl
/-- the facts behind a run -/
def runF (P : Pl) (f : Fa) (st : List Bool) (ld : Ld) : Fa := ⟨(trips P f.wi st ld).1, ld, f.wi, f.ct + (trips P f.wi st ld).2.length⟩
inductive R_law_run : (F : Fm) → List (Ev F) → Ev F → Prop
  | mk (F : Fm) (P : Pl) (rest : List D) (f : Fa) (sh : Shelf) (st : List Bool) (ld : Ld) (h : P.Ok) (h3 : st.length = P.n) (hw : Wok P f.wi) : R_law_run F [Ev.d F (dS P rest), Ev.d F (dScn f sh), Ev.d F (dZ st), Ev.d F (dLd ld)]
      (Ev.d F (.tup [dScn (runF P f st ld) sh, .tup ((trips P f.wi st ld).2.map dN)]))
/-- the facts behind the law's reset -/
def resetL (P : Pl) (f : Fa) : Fa := ((List.range P.n).map fun i => P.n - 1 - i).foldl (fun f k => if isOn f.st k = true then f else runF P f (f.st.set k true) f.ld) f
inductive R_law_reset : (F : Fm) → List (Ev F) → Ev F → Prop
  | mk (F : Fm) (P : Pl) (rest : List D) (f : Fa) (sh : Shelf) (h : P.Ok) (h3 : f.st.length = P.n) (hw : Wok P f.wi) : R_law_reset F [Ev.d F (dS P rest), Ev.d F (dScn f sh)]
      (Ev.d F (.tup [dScn (resetL P f) sh, .int (ons (resetL P f).st : Nat)]))
theorem reset_eq {P : Pl} {f : Fa} : resetL P f = resetF P f := by
  have key : ∀ (l : List Nat) (g : Fa), l.foldl (fun f k => if isOn f.st k = true then f else runF P f (f.st.set k true) f.ld) g = ⟨(l.foldl (rst1 P g.wi g.ld) (g.st, g.ct)).1, g.ld, g.wi, (l.foldl (rst1 P g.wi g.ld) (g.st, g.ct)).2⟩ := by
    intro l
    induction l with
    | nil => intro g; rfl
    | cons k l ih =>
      intro g
      rw [List.foldl_cons, List.foldl_cons]
      by_cases h : isOn g.st k = true
      · have e : rst1 P g.wi g.ld (g.st, g.ct) k = (g.st, g.ct) := by
          unfold rst1
          rw [if_pos h]
        rw [if_pos h, e]
        exact ih g
      · have e : rst1 P g.wi g.ld (g.st, g.ct) k = ((runF P g (g.st.set k true) g.ld).st, (runF P g (g.st.set k true) g.ld).ct) := by
          unfold rst1
          rw [if_neg h]
          rfl
        rw [if_neg h, e]
        exact ih (runF P g (g.st.set k true) g.ld)
  exact key _ f
theorem set_rangeT {st : List Bool} {k : Nat} : (List.range st.length).map (fun i => isOn st i || decide (((i : Nat) : Int) = ((k : Nat) : Int))) = st.set k true := by
  refine List.ext_getElem? fun i => ?_
  rw [List.getElem?_map, List.getElem?_set]
  by_cases hi : i < st.length
  · rw [List.getElem?_range hi]
    show some (isOn st i || decide (((i : Nat) : Int) = ((k : Nat) : Int))) = _
    by_cases e : k = i
    · subst e
      rw [if_pos rfl, if_pos hi, decide_eq_true rfl]
      simp
    · rw [if_neg e, decide_eq_false (by omega), List.getElem?_eq_getElem hi]
      unfold isOn
      rw [List.getElem?_eq_getElem hi]
      simp
  · rw [List.getElem?_eq_none (by simp; omega), List.getElem?_eq_none (by omega)]
    by_cases e : k = i
    · rw [if_pos e, if_neg (by omega)]
      rfl
    · rw [if_neg e]
      rfl
theorem pd_count {F : Fm} {K : PySem.W.Frag} {Γ : Env' F} {to te : TE} {bs : List Bool} {b : Bool} (h1 : Pd Γ to (Ev.d F (dZ bs))) (h2 : Pd Γ te (Ev.d F (.bl b))) : Pd Γ (tTM (rCntB K) to (tCons te tNil)) (Ev.d F (.int (bs.count b : Nat))) := fun σ H Q i g k => h1 σ H _ i g fun x H1 r1 q1 => by
  obtain ⟨a, o, xs, e, ha, fz, q⟩ := id q1
  refine ⟨⟨a, o, xs, e, ha, fz⟩, h2 σ H1 _ r1.1 (g.st i r1) fun y H2 r2 q2 => ?_⟩
  obtain ⟨a', o', xs', e', ha', fz', q'⟩ := (Ev.d F (dZ bs)).st r1.1 r2 q1
  rw [e] at e'
  cases e'
  have ey : y = .bl b := q2
  subst ey
  cases Reps.bls q'
  exact ⟨a, bs, b, e, rfl, .inl (.inr ⟨o', ha'⟩), k _ H2 (Fm.trans r1 r2) rfl⟩
section
variable {P : Program} {w : World} {K : PySem.W.Frag} {mg : Str → Option Value} {base : Heap} {c : Ca}
theorem ok_law_run (T : Tx w K mg c) : Cl P w K mg base 5 "_law_run" (SpG R_law_run) := by
  obtain ⟨f, hm, FF⟩ := T.f_law_run
  refine cl_of (fn_pure FF sclaw_run (fun F es e h => by cases h; rfl) (fun cdv A outer s H E hr => ⟨_, (pss_cons (ps_asg (pe_cl (ok_law_tripped T) hr (by decide) (by rfl) (pa_cons (pv 0) (pa_cons (pe_ix ix_tup (pv 1) pe_int (fun _ _ => rfl)) (pa_cons (pv 2) (pa_cons (pv 3) pa_nil))))) (pg_tup (by rfl) (pgs_cons (pg_name (i := 4) sclaw_run.nd rfl (Or.inl rfl)) (pgs_cons (pg_name (i := 5) sclaw_run.nd rfl (Or.inl rfl)) pgs_nil)))) (pss_one (ps_ret (pe_tup (pa_cons (pe_tup (pa_cons (pv 4) (pa_cons (pv 3) (pa_cons (pe_ix ix_tup (pv 1) pe_int (fun _ _ => rfl)) (pa_cons (pe_op op_add (pe_ix ix_tup (pv 1) pe_int (fun _ _ => rfl)) (pe_callB call_len_seq (by rfl) T.n_len (by decide +kernel) (pa_cons (pv 5) pa_nil))) (pa_cons (pe_ix ix_tup (pv 1) pe_int (fun _ _ => rfl)) pa_nil)))))) (pa_cons (pv 5) pa_nil)))))), fun F es e h => ?_⟩) (fun _ _ _ _ _ _ us hu => by obtain ⟨a, b, c, d, rfl⟩ := len4 hu; rfl)) hm FF
  cases h with
  | mk P rest f sh st ld h h3 hw =>
  have hz := sizeLine_eq
  refine pds_two (d1 := trD (dZ st) P f.wi st ld) (d2 := .tup ((trips P f.wi st ld).2.map dN)) (pd_cl (pd_cons (pd_var (i := 0) rfl) (pd_cons (pd_op' (pd_var (i := 1) rfl) pd_int (p2_ixT (dt := dScn f sh) (d := .tup (f.wi.map dO)) rfl rfl)) (pd_cons (pd_var (i := 2) rfl) (pd_cons (pd_var (i := 3) rfl) pd_nil)))) (R_law_tripped.mk F P rest (dZ st) f.wi st ld h rfl h3 hw)) rfl ?_
  refine pds_ret (pd_tup' (ds := [dScn (runF P f st ld) sh, .tup ((trips P f.wi st ld).2.map dN)]) (pd_cons (pd_eq (pd_tup' (ds := [trD (dZ st) P f.wi st ld, dLd ld, .tup (f.wi.map dO), .int ((f.ct : Int) + (((trips P f.wi st ld).2.map dN).length : Nat)), dLSh sh]) (pd_cons (pd_var (i := 4) rfl) (pd_cons (pd_var (i := 3) rfl) (pd_cons (pd_op' (pd_var (i := 1) rfl) pd_int (p2_ixT (dt := dScn f sh) (d := .tup (f.wi.map dO)) rfl rfl)) (pd_cons (pd_op' (pd_op' (pd_var (i := 1) rfl) pd_int (p2_ixT (dt := dScn f sh) (d := .int (f.ct : Int)) rfl rfl)) (pd_call' (pd_cons (pd_var (i := 5) rfl) pd_nil) (pc_lenT rfl)) p2_I0i) (pd_cons (pd_op' (pd_var (i := 1) rfl) pd_int (p2_ixT (dt := dScn f sh) (d := dLSh sh) rfl rfl)) pd_nil))))) rfl (by show 5 ≤ sizeLine; omega)) ?_) (pd_cons (pd_var (i := 5) rfl) pd_nil)) rfl (by show 2 ≤ sizeLine; omega))
  rw [trD_z]
  unfold dScn runF
  rw [List.length_map]
  congr 2
theorem ok_law_reset (T : Tx w K mg c) : Cl P w K mg base 6 "_law_reset" (SpG R_law_reset) := by
  obtain ⟨f, hm, FF⟩ := T.f_law_reset
  refine cl_of (fn_pure FF sclaw_reset (fun F es e h => by cases h; rfl) (fun cdv A outer s H E hr => ⟨_, (pss_cons (ps_for PassesOwn.never rfl (pi_range3 (by rfl) T.n_range (pa_cons (pe_op op_sub (pe_callB call_len_seq (by rfl) T.n_len (by decide +kernel) (pa_cons (pe_ix ix_tup (pv 0) pe_int (fun _ _ => rfl)) pa_nil)) pe_int) (pa_cons (pe_un un_neg pe_int) (pa_cons (pe_un un_neg pe_int) pa_nil)))) (pg_name (i := 2) sclaw_reset.nd rfl (Or.inr rfl)) (pss_one (ps_if (pt_not (pt_val (pe_ix ix_tup (pe_ix ix_tup (pv 1) pe_int (fun _ _ => rfl)) (pv 2) (fun _ _ => rfl)))) (pss_cons (ps_set (i := 3) sclaw_reset.nd rfl (Or.inl rfl) (pe_callTy call_tupleZ (by rfl) T.n_tuple (by decide +kernel) (pa_cons (pe_lcD (own := [("_law_k", 4)]) (by rfl) sclaw_reset.nd (pi_range1 (by rfl) T.n_range (pa_cons (pe_callB call_len_seq (by rfl) T.n_len (by decide +kernel) (pa_cons (pe_ix ix_tup (pv 0) pe_int (fun _ _ => rfl)) pa_nil)) pa_nil)) (blkOk_by (own := [("_law_k", 4)]) (N := Nlaw_reset) (sc := defScope slaw_reset) (by decide +kernel)) (fun _ _ _ _ _ => (pg_name (i := 4) sclaw_reset.nd rfl (Or.inl rfl))) (fun _ _ _ _ _ => pts_nil) (fun _ _ _ _ _ => (pe_or (pe_ix ix_tup (pe_ix ix_tup (pv 1) pe_int (fun _ _ => rfl)) (pv 4) (fun _ _ => rfl)) (pe_one (pe_cmpR op_eq (pv 4) (pv 2) (nomark _)))))) pa_nil))) (pss_one (ps_set (i := 1) sclaw_reset.nd rfl (Or.inr rfl) (pe_ix ix_tup (pe_cl (ok_law_run T) hr (by decide) (by rfl) (pa_cons (pv 0) (pa_cons (pv 1) (pa_cons (pv 3) (pa_cons (pe_ix ix_tup (pv 1) pe_int (fun _ _ => rfl)) pa_nil))))) pe_int (fun _ _ => rfl))))) pss_nil))) (pss_one (ps_ret (pe_tup (pa_cons (pv 1) (pa_cons (pe_tmeth PySem.F.slot_tuple_count PySem.F.type_tuple_count mt_tup_count (pe_ix ix_tup (pv 1) pe_int (fun _ _ => rfl)) (pa_cons pe_bl pa_nil)) pa_nil)))))), fun F es e h => ?_⟩) (fun _ _ _ _ _ _ us hu => by obtain ⟨a, b, rfl⟩ := len2 hu; rfl)) hm FF
  cases h with
  | mk P rest f sh h h3 hw =>
  have hz := sizeLine_eq
  have hn5 := h.n5
  have hnn : P.n = P.rates.length := rfl
  refine pds_for (S := Fa) (Γf := fun f => [some (Ev.d F (dS P rest)), some (Ev.d F (dScn f sh)), none, none, none]) (pdj_down (n := P.n) (pd_op' (pd_eq (e' := Ev.d F (.int (P.n : Nat))) (pd_call' (pd_cons (pS0 (pd_var (i := 0) rfl)) pd_nil) (pc_lenT rfl)) (by rw [List.length_map])) pd_int p2_I0i) (pd_un' pd_int p1_U) (pd_un' pd_int p1_U) (by omega)).i
    (fun i g => g = (((List.range P.n).map fun i => P.n - 1 - i).take i).foldl (fun f k => if isOn f.st k = true then f else runF P f (f.st.set k true) f.ld) f ∧ g.st.length = P.n ∧ Wok P g.wi) f rfl ⟨rfl, h3, hw⟩ (fun i g d hd ⟨eg, hgl, hgw⟩ => ?_) fun g ⟨eg, hgl, hgw⟩ => ?_
  · rw [List.getElem?_map] at hd
    obtain ⟨i', hi', ed⟩ := Option.map_eq_some_iff.mp hd
    obtain ⟨hlt, hi2⟩ := List.getElem?_eq_some_iff.mp hi'
    rw [List.getElem_range] at hi2
    subst hi2
    rw [List.length_range] at hlt
    subst ed
    have hk : P.n - 1 - i < P.n := by omega
    have stp : (((List.range P.n).map fun i => P.n - 1 - i).take (i + 1)).foldl (fun f k => if isOn f.st k = true then f else runF P f (f.st.set k true) f.ld) f = if isOn g.st (P.n - 1 - i) = true then g else runF P g (g.st.set (P.n - 1 - i) true) g.ld := by
      rw [List.take_succ, List.getElem?_map, List.getElem?_range hlt, List.foldl_append, ← eg]
      rfl
    generalize P.n - 1 - i = kk at hk stp
    refine .inl ⟨if isOn g.st kk = true then g else runF P g (g.st.set kk true) g.ld, ⟨stp.symm, ?_, ?_⟩, ?_⟩
    · by_cases hon : isOn g.st kk = true
      · rw [if_pos hon]
        exact hgl
      · rw [if_neg hon]
        exact (trF_len h 9 (g.st.set kk true) []).1.trans (by rw [List.length_set]; exact hgl)
    · by_cases hon : isOn g.st kk = true
      · rw [if_pos hon]
        exact hgw
      · rw [if_neg hon]
        exact hgw
    have sc0 : ∀ {Γ : Env' F}, Γ[1]? = some (some (Ev.d F (dScn g sh))) → Pd Γ (tOp (rIxT K) (tVar 1) (tC (.int 0))) (Ev.d F (dZ g.st)) := fun hg => pd_op' (pd_var (i := 1) hg) pd_int (p2_ixT (dt := dScn g sh) (d := dZ g.st) rfl rfl)
    refine pdb_if (pdt_not (pdt_val (pd_op' (sc0 rfl) (pd_var (i := 2) rfl) (p2_ixN (i := kk) rfl (on_get (by omega)))))) (fun hx => ?_) (fun hx => ?_)
    · have hoff : isOn g.st kk = false := by simpa using hx
      rw [if_neg (by rw [hoff]; exact Bool.false_ne_true)]
      refine pdb_setS (i := 3) (a := Ev.d F (dZ (g.st.set kk true))) (pd_eq (pd_call' (pd_cons (pd_lc' (is := List.range P.n) (f := fun i => .int (i : Nat)) (d := fun i => .bl (isOn g.st i || decide (((i : Nat) : Int) = ((kk : Nat) : Int)))) (pdj_rng1 (n := P.n) (pd_eq (pd_call' (pd_cons (pS0 (pd_var (i := 0) rfl)) pd_nil) (pc_lenT rfl)) (by rw [List.length_map])) (by omega)).i
        (fun j hj => lcb1 (j := 4) (vs := [4]) (List.mem_cons_self) pdt_yes fun _ => pd_or (pd_op' (sc0 rfl) (pd_var (i := 4) rfl) (p2_ixN (i := j) rfl (on_get (by rw [hgl]; exact List.mem_range.mp hj)))) fun _ => pd_op' (pd_var (i := 4) rfl) (pd_var (i := 2) rfl) p2_eqI) (by simp; omega)) pd_nil) pc_tupZ) ?_) ?_
      · have e := set_rangeT (st := g.st) (k := kk)
        unfold dZ
        rw [← e, List.map_map, hgl]
        rfl
      · refine pdb_weak (pdb_set (a := Ev.d F (dScn (runF P g (g.st.set kk true) g.ld) sh)) (pd_op' (pd_cl (pd_cons (pd_var (i := 0) rfl) (pd_cons (pd_var (i := 1) rfl) (pd_cons (pd_var (i := 3) rfl) (pd_cons (pd_op' (pd_var (i := 1) rfl) pd_int (p2_ixT (dt := dScn g sh) (d := dLd g.ld) rfl rfl)) pd_nil)))) (R_law_run.mk F P rest g sh (g.st.set kk true) g.ld h (by rw [List.length_set]; exact hgl) hgw)) pd_int (p2_ixT rfl rfl))) rfl fun j e hj => ?_
        rcases j with _ | _ | _ | _ | _ | j
        · exact hj
        · exact hj
        · cases hj
        · cases hj
        · cases hj
        · cases hj
    · have hon : isOn g.st kk = true := by simpa using hx
      rw [if_pos hon]
      refine pdb_weak pdb_next rfl fun j e hj => ?_
      rcases j with _ | _ | _ | _ | _ | j
      · exact hj
      · exact hj
      · cases hj
      · cases hj
      · cases hj
      · cases hj
  · rw [List.take_of_length_le (by simp)] at eg
    have eg' : g = resetL P f := eg
    subst eg'
    refine pds_ret (pd_tup' (ds := [dScn (resetL P f) sh, .int (ons (resetL P f).st : Nat)]) (pd_cons (pd_var (i := 1) rfl) (pd_cons (pd_count (pd_op' (pd_var (i := 1) rfl) pd_int (p2_ixT (dt := dScn (resetL P f) sh) (d := dZ (resetL P f).st) rfl rfl)) pd_bl) pd_nil)) rfl (by show 2 ≤ sizeLine; omega))
end
end Bf
/-! ### all wirings of a scheme -/
namespace Bf
open PySem PySem.Spec PyProof.Rows L2
def knd (P : Pl) (k : Nat) : Str := (P.pts[k]?.map (·.2.1)).getD ""
def rm (P : Pl) (k : Nat) : Nat := (P.pts[k]?.map (·.2.2)).getD 0
def sameK (P : Pl) (j k : Nat) : Bool := decide (knd P j = knd P k) && decide (rm P j = rm P k)
def fedOf (P : Pl) (w : List (Option Nat)) (k : Nat) : List (Option Nat) := ((List.range k).filter fun j => sameK P j k).map fun j => w[j]?.getD none
def bound (P : Pl) (w : List (Option Nat)) (k : Nat) : Bool := decide (P.rule = ("rooms" : Str)) && (decide (knd P k = ("lamp" : Str)) && !decide (fedOf P w k = []))
def wstep (P : Pl) (k : Nat) (w : List (Option Nat)) : List (List (Option Nat)) := if bound P w k = true then [w ++ [(fedOf P w k).head?.getD none]] else (none :: (List.range P.n).map some).map fun o => w ++ [o]
def wirF (P : Pl) : Nat → List (List (Option Nat))
  | 0 => [[]]
  | k + 1 => (wirF P k).flatMap (wstep P k)
def wirs (P : Pl) : List (List (Option Nat)) := wirF P P.pts.length
def dW (w : List (Option Nat)) : D := .tup (w.map dO)
section
variable {P : Pl}
theorem wstep_len {k : Nat} {w : List (Option Nat)} : (wstep P k w).length ≤ P.n + 1 := by
  unfold wstep
  by_cases h : bound P w k = true
  · rw [if_pos h]
    simp
  · rw [if_neg h]
    simp
theorem flat_len {α β : Type} {f : α → List β} {m : Nat} (h : ∀ a, (f a).length ≤ m) : ∀ l : List α, (l.flatMap f).length ≤ l.length * m
  | [] => by simp
  | a :: l => by
    rw [List.flatMap_cons, List.length_append, List.length_cons, Nat.succ_mul]
    have := h a
    have := flat_len h l
    omega
theorem wirF_len : ∀ k, (wirF P k).length ≤ (P.n + 1) ^ k
  | 0 => Nat.le_refl _
  | k + 1 => by
    refine Nat.le_trans (flat_len (fun a => wstep_len) (wirF P k)) ?_
    rw [Nat.pow_succ]
    exact Nat.mul_le_mul_right _ (wirF_len k)
theorem wirF_pos : ∀ k, wirF P k ≠ []
  | 0 => by simp [wirF]
  | k + 1 => by
    have ih := wirF_pos k
    unfold wirF
    cases h : wirF P k with
    | nil => exact (ih h).elim
    | cons w l =>
      rw [List.flatMap_cons]
      unfold wstep
      by_cases hb : bound P w k = true
      · rw [if_pos hb]
        simp
      · rw [if_neg hb]
        simp
/-- what holds of a wiring so far -/
structure Wk (P : Pl) (k : Nat) (w : List (Option Nat)) : Prop where
  len : w.length = k
  lt : ∀ o ∈ w, ∀ b, o = some b → b < P.n
  fo : P.rule = ("rooms" : Str) → ∀ i j : Nat, i < k → j < k → knd P i = ("lamp" : Str) → sameK P i j = true → w[i]? = w[j]?
theorem sameK_symm {i j : Nat} (h : sameK P i j = true) : sameK P j i = true := by
  unfold sameK at h ⊢
  simp only [Bool.and_eq_true, decide_eq_true_eq] at h ⊢
  exact ⟨h.1.symm, h.2.symm⟩
theorem sameK_trans {i j l : Nat} (h : sameK P i j = true) (h' : sameK P j l = true) : sameK P i l = true := by
  unfold sameK at h h' ⊢
  simp only [Bool.and_eq_true, decide_eq_true_eq] at h h' ⊢
  exact ⟨h.1.trans h'.1, h.2.trans h'.2⟩
theorem wk_app {k : Nat} {w : List (Option Nat)} (h : Wk P k w) {o : Option Nat} (ho : ∀ b, o = some b → b < P.n) (hf : P.rule = ("rooms" : Str) → knd P k = ("lamp" : Str) → ∀ i, i < k → sameK P i k = true → w[i]? = some o) : Wk P (k + 1) (w ++ [o]) := by
  have hl := h.len
  refine ⟨by rw [List.length_append, List.length_singleton, hl], fun x hx b e => ?_, fun hr i j hi hj hk hs => ?_⟩
  · rcases List.mem_append.mp hx with z | z
    · exact h.lt x z b e
    · have : x = o := by simpa using z
      rw [this] at e
      exact ho b e
  · have e1 : (w ++ [o])[k]? = some o := by
      rw [List.getElem?_append_right (by omega), hl, Nat.sub_self]
      rfl
    have e2 : ∀ m, m < k → (w ++ [o])[m]? = w[m]? := fun m hm => List.getElem?_append_left (by omega)
    have kj : knd P j = ("lamp" : Str) := by
      unfold sameK at hs
      simp only [Bool.and_eq_true, decide_eq_true_eq] at hs
      exact hs.1.symm.trans hk
    by_cases hik : i = k
    · by_cases hjk : j = k
      · rw [hik, hjk]
      · rw [hik, e1, e2 j (by omega), hf hr (by rw [← hik]; exact hk) j (by omega) (by rw [← hik]; exact sameK_symm hs)]
    · by_cases hjk : j = k
      · rw [hjk, e1, e2 i (by omega), hf hr (by rw [← hjk]; exact kj) i (by omega) (by rw [← hjk]; exact hs)]
      · rw [e2 i (by omega), e2 j (by omega)]
        exact h.fo hr i j (by omega) (by omega) hk hs
theorem mem_fed {k i : Nat} {w : List (Option Nat)} (hi : i < k) (hs : sameK P i k = true) : (w[i]?.getD none) ∈ fedOf P w k := List.mem_map.mpr ⟨i, List.mem_filter.mpr ⟨List.mem_range.mpr hi, hs⟩, rfl⟩
theorem wk_step {k : Nat} {w w' : List (Option Nat)} (h : Wk P k w) (hw : w' ∈ wstep P k w) : Wk P (k + 1) w' := by
  have hl := h.len
  unfold wstep at hw
  by_cases hb : bound P w k = true
  · rw [if_pos hb] at hw
    have e : w' = w ++ [(fedOf P w k).head?.getD none] := by simpa using hw
    rw [e]
    unfold bound at hb
    simp only [Bool.and_eq_true, decide_eq_true_eq, Bool.not_eq_true', decide_eq_false_iff_not] at hb
    obtain ⟨hr, hk, hf⟩ := hb
    obtain ⟨o, l, ef⟩ : ∃ o l, fedOf P w k = o :: l := by
      cases q : fedOf P w k with
      | nil => exact (hf q).elim
      | cons o l => exact ⟨o, l, rfl⟩
    have om : o ∈ fedOf P w k := by rw [ef]; exact List.mem_cons_self
    obtain ⟨j, hj, ej⟩ := List.mem_map.mp om
    obtain ⟨hj1, hj2⟩ := List.mem_filter.mp hj
    have hj1 := List.mem_range.mp hj1
    have wj : w[j]? = some o := by
      rw [← ej, List.getElem?_eq_getElem (by omega)]
      rfl
    rw [ef]
    show Wk P (k + 1) (w ++ [o])
    have hjw : j < w.length := by omega
    refine wk_app h (fun b e => h.lt o (by
      have := List.mem_of_getElem? wj
      exact this) b e) fun _ _ i hi hs => ?_
    rw [← wj]
    have kj : knd P i = ("lamp" : Str) := by
      unfold sameK at hs
      simp only [Bool.and_eq_true, decide_eq_true_eq] at hs
      exact hs.1.trans hk
    exact h.fo hr i j hi hj1 kj (sameK_trans hs (sameK_symm hj2))
  · rw [if_neg hb] at hw
    obtain ⟨o, ho, e⟩ := List.mem_map.mp hw
    rw [← e]
    refine wk_app h (fun b eb => ?_) fun hr hk i hi hs => ?_
    · rw [eb] at ho
      rcases List.mem_cons.mp ho with z | z
      · cases z
      · obtain ⟨m, hm, em⟩ := List.mem_map.mp z
        cases em
        exact List.mem_range.mp hm
    · exfalso
      apply hb
      unfold bound
      simp only [Bool.and_eq_true, decide_eq_true_eq, Bool.not_eq_true', decide_eq_false_iff_not]
      refine ⟨hr, hk, fun z => ?_⟩
      have := mem_fed (w := w) hi hs
      rw [z] at this
      cases this
theorem wirF_wk : ∀ k w, w ∈ wirF P k → Wk P k w
  | 0, w, h => by
    have e : w = [] := by simpa [wirF] using h
    rw [e]
    exact ⟨rfl, fun _ z => (nomatch z), fun _ i j hi => by omega⟩
  | k + 1, w, h => by
    unfold wirF at h
    obtain ⟨v, hv, hw⟩ := List.mem_flatMap.mp h
    exact wk_step (wirF_wk k v hv) hw
theorem wirs_ok (h : P.Ok) {w : List (Option Nat)} (hw : w ∈ wirs P) : Wok P w := by
  have k := wirF_wk _ _ hw
  refine ⟨k.len, fun i b e => k.lt _ (List.mem_of_getElem? e) b rfl, ?_⟩
  rcases h.ru with r | r
  · exact .inl r
  · refine .inr fun i j p q hp hq kp kq e => ?_
    have ki : knd P i = p.2.1 := by unfold knd; rw [hp]; rfl
    have kj : knd P j = q.2.1 := by unfold knd; rw [hq]; rfl
    have ri : rm P i = p.2.2 := by unfold rm; rw [hp]; rfl
    have rj : rm P j = q.2.2 := by unfold rm; rw [hq]; rfl
    refine k.fo r i j (List.getElem?_eq_some_iff.mp hp).1 (List.getElem?_eq_some_iff.mp hq).1 (ki.trans kp) ?_
    unfold sameK
    rw [ki, kj, ri, rj, kp, kq, e]
    simp
end
end Bf
/-! ### the law's own defs: all wirings -/
namespace Bf
open PySem PySem.Spec PyProof.Rows L2
inductive R_law_wirings : (F : Fm) → List (Ev F) → Ev F → Prop
  | mk (F : Fm) (P : Pl) (rest : List D) (h : P.Ok) : R_law_wirings F [Ev.d F (dS P rest)] (Ev.l F ((wirs P).map dW))
theorem fresh_back {F : Fm} {H H' : Hp} {p : Addr} (r : F.R H H') (n : H' p = none) : H p = none := by
  cases e : H p with
  | none => rfl
  | some o =>
    by_cases hA : F.A p
    · obtain ⟨o', e', _⟩ := F.tr r.1 hA
      rw [n] at e'
      cases e'
    · rw [r.2 _ _ e hA] at n
      cases n
theorem pt_of {P : Pl} {k : Nat} (h : k < P.pts.length) : ∃ x, P.pts[k]? = some (x, knd P k, rm P k) := by
  refine ⟨(P.pts[k]).1, ?_⟩
  unfold knd rm
  rw [List.getElem?_eq_getElem h]
  rfl
theorem knd_ok {P : Pl} (h : P.Ok) {k : Nat} (hk : k < P.pts.length) : knd P k = ("lamp" : Str) ∨ knd P k = ("plug" : Str) := by
  obtain ⟨x, e⟩ := pt_of hk
  exact (h.pw _ (List.mem_of_getElem? e)).2.1
theorem fit_kr {P : Pl} (h : P.Ok) {k : Nat} (hk : k < P.pts.length) : FitD (.tup [.str (knd P k), .int (rm P k : Nat)]) := by
  rcases knd_ok h hk with e | e
  · rw [e]
    exact ⟨by show (PyData.strOk ("lamp" : Str) && (true && true)) = true; decide +kernel, by show max 0 (max 0 0) + 1 ≤ 60; decide⟩
  · rw [e]
    exact ⟨by show (PyData.strOk ("plug" : Str) && (true && true)) = true; decide +kernel, by show max 0 (max 0 0) + 1 ≤ 60; decide⟩
theorem eqv_kr {P : Pl} {j k : Nat} : PyData.eqv (pyD (.tup [.str (knd P j), .int (rm P j : Nat)])) (pyD (.tup [.str (knd P k), .int (rm P k : Nat)])) = sameK P j k := by
  show ((knd P j == knd P k) && ((((rm P j : Nat) : Int) == ((rm P k : Nat) : Int)) && true)) = _
  unfold sameK
  rw [Bool.and_true]
  congr 1
  by_cases e : rm P j = rm P k
  · rw [decide_eq_true e, e]
    exact beq_self_eq_true _
  · rw [decide_eq_false e]
    exact beq_eq_false_iff_ne.mpr (by omega)
theorem pd_lstRg {F : Fm} {Γ : Env' F} {ta : TE} {n : Nat} (h : Pd Γ ta (Ev.d F (.int (n : Nat)))) (hn : n < 1000000) : Pd Γ (tLstRg (tRg1 ta)) (Ev.l F ((List.range n).map dN)) := fun σ H Q i g k => h σ H _ i g fun v H1 r1 q1 => by
  have e : v = .int (n : Nat) := q1
  refine ⟨(n : Nat), e, RgOk.of_le (by omega) (by omega) (by omega) (by omega), fun q hq => ?_⟩
  have sm : Same H1 (upd H1 q (.lst (rgV 0 (n : Nat)))) := Same.new hq
  refine k _ _ (Fm.trans r1 (Fm.ofSame r1.1 sm)) ⟨q, _, rfl, Fm.nA r1.1 hq, upd_same, ?_⟩
  have e1 : rgV 0 (n : Nat) = ((List.range n).map fun i : Nat => ((i : Nat) : Int)).map V.int := by
    unfold rgV
    rw [List.map_map]
    have : ((n : Int) - 0).toNat = n := by omega
    rw [this]
    refine List.map_congr_left fun i _ => ?_
    show V.int (0 + (i : Int)) = V.int (i : Int)
    rw [Int.zero_add]
  have e2 : (List.range n).map dN = ((List.range n).map fun i : Nat => ((i : Nat) : Int)).map D.int := by rw [List.map_map]; rfl
  rw [e1, e2]
  exact Reps.of_ints
theorem pd_kr {F : Fm} {Γ : Env' F} {te ti : TE} {K : PySem.W.Frag} {P : Pl} {rest : List D} {k : Nat} (h : Pd Γ te (Ev.d F (dS P rest))) (hi : Pd Γ ti (Ev.d F (.int (k : Nat)))) (hk : k < P.pts.length) :
    Pd Γ (tSl (rSlA K) (tOp (rIxT K) (tOp (rIxT K) te (tC (.int 2))) ti) (tPart (tC (.int 1))) tNoPart) (Ev.d F (.tup [.str (knd P k), .int (rm P k : Nat)])) := by
  obtain ⟨x, hx⟩ := pt_of hk
  refine pd_eq (pd_slT (ds := [.str x, .str (knd P k), .int (rm P k : Nat)]) (pS2n h hi hx) (pdo_some pd_int) pdo_none) ?_
  have := cutD_from (k := 1) (xs := [D.str x, .str (knd P k), .int (rm P k : Nat)])
  have e1 : ((1 : Nat) : Int) = 1 := rfl
  rw [e1] at this
  rw [this]
  rfl
theorem pow_small {n k : Nat} (hn : n ≤ 5) (hk : k ≤ 5) : (n + 1) ^ k ≤ 7776 := by
  refine Nat.le_trans (Nat.pow_le_pow_left (by omega : n + 1 ≤ 6) k) ?_
  exact Nat.le_trans (Nat.pow_le_pow_right (by omega) hk) (by decide)
section
variable {P : Program} {w : World} {K : PySem.W.Frag} {mg : Str → Option Value} {base : Heap} {c : Ca}
theorem ok_law_wirings (T : Tx w K mg c) : Cl P w K mg base 1 "_law_wirings" (SpG R_law_wirings) := by
  obtain ⟨f, hm, FF⟩ := T.f_law_wirings
  refine cl_of (fn_pure FF sclaw_wirings (fun F es e h => by cases h; rfl) (fun cdv A outer s H E hr => ⟨_, (pss_cons (ps_set (i := 1) sclaw_wirings.nd rfl (Or.inl rfl) (pe_lst (pa_cons (pe_tup pa_nil) pa_nil))) (pss_cons (ps_for PassesOwn.never rfl (pi_range1 (by rfl) T.n_range (pa_cons (pe_callB call_len_seq (by rfl) T.n_len (by decide +kernel) (pa_cons (pe_ix ix_tup (pv 0) pe_int (fun _ _ => rfl)) pa_nil)) pa_nil)) (pg_name (i := 2) sclaw_wirings.nd rfl (Or.inr rfl)) (pss_cons (ps_set (i := 3) sclaw_wirings.nd rfl (Or.inl rfl) (pe_lst pa_nil)) (pss_cons (ps_for PassesOwn.never rfl (pi_list (pv 1)) (pg_name (i := 4) sclaw_wirings.nd rfl (Or.inr rfl)) (pss_cons (ps_setLcD (i := 5) (own := [("_law_j", 6)]) (by rfl) sclaw_wirings.nd rfl rfl (sw_true rfl rfl rfl (by decide +kernel)) (pi_range1 (by rfl) T.n_range (pa_cons (pv 2) pa_nil)) (blkOk_by (own := [("_law_j", 6)]) (N := Nlaw_wirings) (sc := defScope slaw_wirings) (by decide +kernel)) (fun _ _ _ _ _ => (pg_name (i := 6) sclaw_wirings.nd rfl (Or.inl rfl))) (fun _ _ _ _ _ => (pts_one (pt_cmpR (op_eqD hr.units) (pe_slice sl_tupA (pe_ix ix_tup (pe_ix ix_tup (pv 0) pe_int (fun _ _ => rfl)) (pv 6) (fun _ _ => rfl)) (po_some pe_int) po_none) (pe_slice sl_tupA (pe_ix ix_tup (pe_ix ix_tup (pv 0) pe_int (fun _ _ => rfl)) (pv 2) (fun _ _ => rfl)) (po_some pe_int) po_none) (nomark _)))) (fun _ _ _ _ _ => (pe_ix ix_tup (pv 4) (pv 6) (fun _ _ => rfl)))) (pss_one (ps_if (PW.pt (pw_and (pt_cmpR op_eq (pe_ix ix_tup (pv 0) pe_int (fun _ _ => rfl)) pe_str (nomark _)) (pw_and (pt_cmpR op_eq (pe_ix ix_tup (pe_ix ix_tup (pe_ix ix_tup (pv 0) pe_int (fun _ _ => rfl)) (pv 2) (fun _ _ => rfl)) pe_int (fun _ _ => rfl)) pe_str (nomark _)) (pw_and1 (pt_cmpR (op_neNilL hr.units0) (pv 5) (pe_lst pa_nil) (nomark _)))))) (pss_one (ps_expr (pe_bm PySem.F.plainAttrs_list PySem.F.slot_list_append PySem.F.type_list_append mt_append (pv 3) (pa_cons (pe_op op_catA (pv 4) (pe_tup (pa_cons (pe_ix ix_list (pv 5) pe_int (fun _ _ => rfl)) pa_nil))) pa_nil)))) (pss_one (ps_set (i := 3) sclaw_wirings.nd rfl (Or.inl rfl) (pe_op op_cat (pv 3) (pe_lcD (own := [("_law_one", 7)]) (by rfl) sclaw_wirings.nd (pi_list (pe_op op_cat (pe_lst (pa_cons pe_non pa_nil)) (pe_listRg (by rfl) (by rfl) T.n_list (prg_1 (by rfl) T.n_range (pe_callB call_len_seq (by rfl) T.n_len (by decide +kernel) (pa_cons (pe_ix ix_tup (pv 0) pe_int (fun _ _ => rfl)) pa_nil)))))) (blkOk_by (own := [("_law_one", 7)]) (N := Nlaw_wirings) (sc := defScope slaw_wirings) (by decide +kernel)) (fun _ _ _ _ _ => (pg_name (i := 7) sclaw_wirings.nd rfl (Or.inl rfl))) (fun _ _ _ _ _ => pts_nil) (fun _ _ _ _ _ => (pe_op op_catA (pv 4) (pe_tup (pa_cons (pv 7) pa_nil)))))))))))) (pss_one (ps_set (i := 1) sclaw_wirings.nd rfl (Or.inl rfl) (pv 3)))))) (pss_one (ps_ret (pv 1))))), fun F es e h => ?_⟩) (fun _ _ _ _ _ _ us hu => by obtain ⟨a, rfl⟩ := len1 hu; rfl)) hm FF
  cases h with
  | mk P rest h =>
  have hz := sizeLine_eq
  have hn5 := h.n5
  have hp5 := h.p5
  have hnn : P.n = P.rates.length := rfl
  refine pds_set (a := Ev.l F ([[]].map dW)) (pd_lst' (ds := [.tup []]) (pd_cons (pd_tup' (ds := []) pd_nil rfl (by decide)) pd_nil) rfl (by decide)) ?_
  refine pds_for (S := Nat) (Γf := fun k => [some (Ev.d F (dS P rest)), some (Ev.l F ((wirF P k).map dW)), none, none, none, none, none, none]) (pdj_rng1 (n := P.pts.length) (pd_eq (pd_call' (pd_cons (pS2 (pd_var (i := 0) rfl)) pd_nil) (pc_lenT rfl)) (by rw [List.length_map])) (by omega)).i (fun i s => i = s) 0 rfl rfl (fun i s d hd is => ?_) fun s is => ?_
  · subst is
    have hi : i < P.pts.length := by
      have := (List.getElem?_eq_some_iff.mp hd).1
      simpa using this
    have ed : d = .int (i : Nat) := by
      rw [List.getElem?_map, List.getElem?_range hi] at hd
      exact (Option.some.inj hd).symm
    subst ed
    refine .inl ⟨i + 1, rfl, ?_⟩
    intro σ H DE iH g k1 k2
    have g0 : EnvOk (F := F) H σ [some (Ev.d F (dS P rest)), some (Ev.l F ((wirF P i).map dW)), some (Ev.d F (.int (i : Nat))), none, none, none, none, none] := g
    obtain ⟨v1, hv1, lw, xs, ev1, nlw, hlw, qlw⟩ := g0.2 1 _ rfl
    refine own_new iH fun a H1 sm n o => ?_
    have hla : lw ≠ a := ne_of_none hlw n
    have g1 : EnvOk (F := FA F a) H1 (σ.set 3 (some (.ref a))) [some (Ev.d _ (dS P rest)), some (Ev.l _ ((wirF P i).map dW)), some (Ev.d _ (.int (i : Nat))), some (Ev.v _ (.ref a)), none, none, none, none] := EnvOk.set (i := 3) (e := Ev.v _ (.ref a)) (g0.cv (H' := H1) (Γ' := [some (Ev.d (FA F a) (dS P rest)), some (Ev.l _ ((wirF P i).map dW)), some (Ev.d _ (.int (i : Nat))), none, none, none, none, none]) ⟨ca_d sm, ca_l n sm, ca_d sm, trivial⟩) rfl
    refine seq_for (for_in ?_)
    obtain ⟨v2, hv2, _⟩ := g1.2 1 _ rfl
    have hv2' := hv2
    rw [List.getElem?_set_ne (by decide), hv1] at hv2'
    cases hv2'
    refine ⟨v1, hv2, lw, ev1, ⟨xs, SqL.of (sm _ _ hlw)⟩, ?_⟩
    have o' : Own F H a ((((wirF P i).take 0).flatMap (wstep P i)).map dW) H1 := o
    refine L2.for_it (L2.walk_list (K := K) (a := lw) (xs := xs)) (fun i' σ' H' => ∃ a, Own F H a ((((wirF P i).take i').flatMap (wstep P i)).map dW) H' ∧ EnvOk (F := FA F a) H' σ' [some (Ev.d _ (dS P rest)), some (Ev.l _ ((wirF P i).map dW)), some (Ev.d _ (.int (i : Nat))), some (Ev.v _ (.ref a)), none, none, none, none]) ⟨a, o', g1⟩ (fun i' σ' H' _ ⟨a, o, _⟩ => SqL.of (o.r.2 _ _ hlw nlw)) (fun i' x σ' H2 H3 hlt ⟨a, o, g⟩ y => ?_) fun σ' H' ⟨a, o, g⟩ => ?_
    · obtain ⟨ey, hx⟩ := y
      subst ey
      obtain ⟨d, hd', qd⟩ := (Reps.pr (Fm.toPr iH o.r) qlw).get' hx
      rw [List.getElem?_map] at hd'
      obtain ⟨w, hw, ew⟩ := Option.map_eq_some_iff.mp hd'
      subst ew
      have hwm := List.mem_of_getElem? hw
      have wk := wirF_wk i w hwm
      have wkl := wk.len
      have htk : (wirF P i).take (i' + 1) = (wirF P i).take i' ++ [w] := by rw [List.take_succ, hw]; rfl
      have hacc : (((wirF P i).take i').flatMap (wstep P i)).length ≤ (P.n + 1) ^ (i + 1) := by
        have h1 := flat_len (fun a => wstep_len (P := P) (k := i) (w := a)) ((wirF P i).take i')
        have h2 : ((wirF P i).take i').length ≤ (P.n + 1) ^ i := Nat.le_trans (by rw [List.length_take]; exact Nat.min_le_right _ _) (wirF_len i)
        rw [Nat.pow_succ]
        exact Nat.le_trans h1 (Nat.mul_le_mul_right _ h2)
      have hsm := pow_small (n := P.n) (k := i + 1) (by omega) (by omega)
      have g4 : EnvOk (F := FA F a) H3 (σ'.set 4 (some x)) [some (Ev.d _ (dS P rest)), some (Ev.l _ ((wirF P i).map dW)), some (Ev.d _ (.int (i : Nat))), some (Ev.v _ (.ref a)), some (Ev.d _ (.tup (w.map dO))), none, none, none] := EnvOk.set (i := 4) (e := Ev.d (FA F a) (.tup (w.map dO))) g qd
      -- fed
      refine seq_asg ?_
      have hget : ∀ j, j < i → (w.map dO)[j]? = some (dO (w[j]?.getD none)) := fun j hj => by
        rw [List.getElem?_map, List.getElem?_eq_getElem (by omega)]
        rfl
      refine own_ev o g4 (ek := fun xs => Ev.l _ ((fedOf P w i).map dO)) (Γk := fun xs => [some (Ev.d _ (dS P rest)), none, some (Ev.d _ (.int (i : Nat))), none, some (Ev.d _ (.tup (w.map dO))), none, none, none]) (fun xs => ⟨fun _ h => h, fun _ h => h, fun _ h => h, trivial⟩) (fun xs => pd_eq (pd_lc (is := List.range i) (f := fun j => .int (j : Nat)) (p := fun j => sameK P j i) (d := fun j => dO (w[j]?.getD none)) (pdj_rng1 (n := i) (pd_var (i := 2) rfl) (by omega)).i (fun j hj => lcb1 (j := 6) (vs := [6]) (List.mem_cons_self) (pdt_eq (pdt_test (pd_op' (pd_kr (P := P) (rest := rest) (k := j) (pd_var (i := 0) rfl) (pd_var (i := 6) rfl) (Nat.lt_trans (List.mem_range.mp hj) hi)) (pd_kr (P := P) (rest := rest) (k := i) (pd_var (i := 0) rfl) (pd_var (i := 2) rfl) hi) (p2_eqD (fit_kr h (Nat.lt_trans (List.mem_range.mp hj) hi)) (fit_kr h hi)))) eqv_kr) fun _ => pd_op' (pd_var (i := 4) rfl) (pd_var (i := 6) rfl) (p2_ixN (i := j) rfl (hget j (List.mem_range.mp hj)))) (by simp; omega)) (by unfold fedOf; rw [List.map_map]; rfl)) fun v5 H4 x4 o4 r4 g5 q5 => ?_
      have g6 : EnvOk (F := FA F a) H4 _ [some (Ev.d _ (dS P rest)), some (Ev.l _ ((wirF P i).map dW)), some (Ev.d _ (.int (i : Nat))), some (Ev.v _ (.ref a)), some (Ev.d _ (.tup (w.map dO))), some (Ev.l _ ((fedOf P w i).map dO)), none, none] := EnvOk.set (i := 5) (e := Ev.l (FA F a) ((fedOf P w i).map dO)) g5 q5
      generalize (σ'.set 4 (some x)).set 5 (some v5) = σ6 at g6 ⊢
      refine if_in ?_
      refine own_evT (b := bound P w i) o4 g6 (Γk := fun xs => [some (Ev.d _ (dS P rest)), none, some (Ev.d _ (.int (i : Nat))), none, none, some (Ev.l _ ((fedOf P w i).map dO)), none, none]) (fun xs => ⟨fun _ h => h, fun _ h => h, fun _ h => h, trivial⟩) (fun xs => ?_) fun H5 o5 r5 g7 => ?_
      · obtain ⟨x, hx⟩ := pt_of hi
        refine pdt_eq (pdt_and (pdt_test (pd_op' (pS3 (pd_var (i := 0) rfl)) pd_str p2_eqS)) fun _ => pdt_and (pdt_test (pd_op' (pS2k (pd_var (i := 0) rfl) (pd_var (i := 2) rfl) hx) pd_str p2_eqS)) fun _ => pdt_test (pd_op' (pd_var (i := 5) rfl) (pd_lst' (ds := []) pd_nil rfl (by decide)) p2_neNil)) ?_
        unfold bound
        have e : decide ((fedOf P w i).map dO = []) = decide (fedOf P w i = []) := decide_eq_decide.mpr (by simp)
        rw [e]
      by_cases hb : bound P w i = true
      · rw [if_pos hb]
        obtain ⟨o0, l0, ef⟩ : ∃ o l, fedOf P w i = o :: l := by
          cases q : fedOf P w i with
          | nil =>
            unfold bound at hb
            rw [q] at hb
            simp at hb
          | cons o l => exact ⟨o, l, rfl⟩
        have hst : wstep P i w = [w ++ [o0]] := by
          unfold wstep
          rw [if_pos hb, ef]
          rfl
        refine drop_in ?_
        refine own_app (j := 3) (d := dW (w ++ [o0])) o5 g7 rfl (Γk := fun xs => [none, none, none, none, some (Ev.d _ (.tup (w.map dO))), some (Ev.l _ ((fedOf P w i).map dO)), none, none]) (fun xs => ⟨fun _ h => h, fun _ h => h, trivial⟩) (fun xs => ?_) (by rw [List.length_map]; omega) fun H6 o6 r6 g8 => ?_
        · rw [ef]
          refine pd_eq (pd_op' (pd_var (i := 4) rfl) (pd_tup' (ds := [dO o0]) (pd_cons (pd_op' (pd_var (i := 5) rfl) pd_int p2_ixL0) pd_nil) rfl (by show 1 ≤ sizeLine; omega)) (p2_catT (by simp; omega))) ?_
          unfold dW
          rw [List.map_append]
          rfl
        · refine ⟨a, ?_, g8.cv ⟨fun _ h => h, fun _ h => h, fun _ h => h, fun _ h => h, trivial⟩⟩
          rw [htk, List.flatMap_append, List.map_append]
          have e2 : ([w].flatMap (wstep P i)).map dW = [dW (w ++ [o0])] := by
            rw [List.flatMap_cons, hst]
            rfl
          rw [e2]
          exact o6
      · rw [if_neg hb]
        have hst : wstep P i w = (none :: (List.range P.n).map some).map fun o => w ++ [o] := by
          unfold wstep
          rw [if_neg hb]
        refine asg_in ?_
        obtain ⟨v3, hv3, e3⟩ := g7.2 3 (Ev.v _ (.ref a)) rfl
        have e3' : v3 = .ref a := e3
        subst e3'
        refine ⟨.ref a, hv3, ?_⟩
        refine own_ev o5 g7 (ek := fun xs => Ev.l _ ((wstep P i w).map dW)) (Γk := fun xs => [some (Ev.d _ (dS P rest)), none, none, none, some (Ev.d _ (.tup (w.map dO))), none, none, none]) (fun xs => ⟨fun _ h => h, fun _ h => h, trivial⟩) (fun xs => pd_eq (pd_lc' (is := none :: (List.range P.n).map some) (f := dO) (d := fun o => .tup (w.map dO ++ [dO o])) (pdi_list (pd_eq (pd_op' (pd_lst' (ds := [.non]) (pd_cons pd_non pd_nil) rfl (by decide)) (pd_lstRg (n := P.n) (pd_eq (pd_call' (pd_cons (pS0 (pd_var (i := 0) rfl)) pd_nil) (pc_lenT rfl)) (by rw [List.length_map])) (by omega)) (p2_cat (by simp; omega))) (by rw [List.map_cons, List.map_map]; rfl))) (fun o ho => lcb1 (j := 7) (vs := [7]) (List.mem_cons_self) pdt_yes fun _ => pd_op' (pd_var (i := 4) rfl) (pd_tup' (ds := [dO o]) (pd_cons (pd_var (i := 7) rfl) pd_nil) rfl (by show 1 ≤ sizeLine; omega)) (p2_catT (by simp; omega))) (by simp; omega)) (by
          rw [hst, List.map_map]
          refine congrArg _ (List.map_congr_left fun o _ => ?_)
          show _ = D.tup ((w ++ [o]).map dO)
          rw [List.map_append]
          rfl)) fun v7 H6 x6 o6 r6 g8 q7 => ?_
        obtain ⟨b, ys, e7, nb, hb7, qb⟩ := q7
        obtain ⟨zs, hz6, qz⟩ := id o6.l
        refine ⟨a, b, zs, ys, rfl, e7, hz6, hb7, ?_, fun p np => ?_⟩
        · rw [qz.length, qb.length, List.length_map, List.length_map]
          have := wstep_len (P := P) (k := i) (w := w)
          omega
        · have smp : Same H6 (upd H6 p (.lst (zs ++ ys))) := Same.new np
          have rp : F.R H6 (upd H6 p (.lst (zs ++ ys))) := Fm.ofSame o6.r.1 smp
          have npH := fresh_back o6.r np
          have o8 : Own F H p ((((wirF P i).take (i' + 1)).flatMap (wstep P i)).map dW) (upd H6 p (.lst (zs ++ ys))) := by
            refine ⟨Fm.trans o6.r rp, npH, Fm.nA o6.r.1 np, zs ++ ys, upd_same, ?_⟩
            rw [htk, List.flatMap_append, List.map_append]
            have e2 : [w].flatMap (wstep P i) = wstep P i w := by simp
            rw [e2]
            exact Reps.append (Reps.same smp qz) (Reps.same smp qb)
          refine ⟨p, o8, EnvOk.set (i := 3) (e := Ev.v (FA F p) (.ref p)) (g8.cv (H' := upd H6 p (.lst (zs ++ ys))) (Γ' := [some (Ev.d (FA F p) (dS P rest)), some (Ev.l _ ((wirF P i).map dW)), some (Ev.d _ (.int (i : Nat))), none, none, none, none, none]) ⟨ca_d smp, fun v q => ?_, ca_d smp, trivial⟩) rfl⟩
          obtain ⟨l, us, e, nl, hl, ql⟩ := q
          refine ⟨l, us, e, fun z => ?_, smp _ _ hl, Reps.same smp ql⟩
          rcases z with z | z
          · exact nl (.inl z)
          · rw [z, np] at hl
            cases hl
    · dsimp only
      refine asg_in ?_
      obtain ⟨v3, hv3, e3⟩ := g.2 3 (Ev.v _ (.ref a)) rfl
      have e3' : v3 = .ref a := e3
      subst e3'
      refine ⟨.ref a, hv3, k2 _ H' o.r (EnvOk.set (i := 1) (e := Ev.l F ((wirF P (i + 1)).map dW)) (g.cv (H' := H') (Γ' := [some (Ev.d F (dS P rest)), none, none, none, none, none, none, none]) ⟨fun _ h => h, trivial⟩) ?_)⟩
      have hxl : xs.length = (wirF P i).length := by rw [qlw.length, List.length_map]
      rw [hxl, List.take_of_length_le (Nat.le_refl _)] at o
      exact o.to
  · rw [List.length_map, List.length_range] at is
    subst is
    exact pds_ret (pd_var (i := 1) rfl)
end
end Bf
/-! ### the law's own defs: the wirings that differ at one spot -/
namespace Bf
open PySem PySem.Spec PyProof.Rows L2
theorem eqv_dO {x y : Option Nat} : PyData.eqv (pyD (dO x)) (pyD (dO y)) = decide (x = y) := by
  cases x with
  | none =>
    cases y with
    | none => rfl
    | some b => rfl
  | some a =>
    cases y with
    | none => rfl
    | some b =>
      show (((a : Nat) : Int) == ((b : Nat) : Int)) = _
      by_cases e : a = b
      · rw [e, decide_eq_true rfl]
        exact beq_self_eq_true _
      · rw [decide_eq_false (fun z => e (Option.some.inj z))]
        exact beq_eq_false_iff_ne.mpr (by omega)
theorem eqvs_dO : ∀ {l m : List (Option Nat)}, PyData.eqvAll (pyDs (l.map dO)) (pyDs (m.map dO)) = decide (l = m)
  | [], [] => rfl
  | [], _ :: _ => rfl
  | _ :: _, [] => rfl
  | x :: l, y :: m => by
    show (PyData.eqv (pyD (dO x)) (pyD (dO y)) && PyData.eqvAll (pyDs (l.map dO)) (pyDs (m.map dO))) = _
    rw [eqv_dO, eqvs_dO]
    by_cases e : x = y
    · by_cases e2 : l = m
      · rw [e, e2, decide_eq_true rfl, decide_eq_true rfl, decide_eq_true rfl]
        rfl
      · rw [decide_eq_false e2, Bool.and_false, decide_eq_false (fun z => e2 (List.cons.inj z).2)]
    · rw [decide_eq_false e, Bool.false_and, decide_eq_false (fun z => e (List.cons.inj z).1)]
theorem eqv_dW {l m : List (Option Nat)} : PyData.eqv (pyD (.tup (l.map dO))) (pyD (.tup (m.map dO))) = decide (l = m) := eqvs_dO
theorem fit_dO {x : Option Nat} : okD (dO x) = true ∧ dep (dO x) = 0 := by cases x <;> exact ⟨rfl, rfl⟩
theorem fit_dW {l : List (Option Nat)} : FitD (.tup (l.map dO)) := ⟨oks_map fun x _ => fit_dO.1, by
  have := deps_map (n := 0) (f := dO) (l := l) fun x _ => Nat.le_of_eq fit_dO.2
  show deps (l.map dO) + 1 ≤ 60
  omega⟩
def atB (wi : List (Option Nat)) (spot : Nat) (w : List (Option Nat)) : Bool := decide (w.take spot = wi.take spot) && decide (w.drop (spot + 1) = wi.drop (spot + 1))
def atW (P : Pl) (wi : List (Option Nat)) (spot : Nat) : List (List (Option Nat)) := (wirs P).filter (atB wi spot)
theorem at_set {P : Pl} {wi w : List (Option Nat)} {spot : Nat} (hl : wi.length = P.pts.length) (hs : spot < P.pts.length) (h : w ∈ atW P wi spot) : w ∈ wirs P ∧ w = wi.set spot (w[spot]?.getD none) := by
  obtain ⟨h1, h2⟩ := List.mem_filter.mp h
  unfold atB at h2
  simp only [Bool.and_eq_true, decide_eq_true_eq] at h2
  have hwl := (wirF_wk _ _ h1).len
  refine ⟨h1, ?_⟩
  refine List.ext_getElem? fun i => ?_
  by_cases e : spot = i
  · subst e
    rw [List.getElem?_set_self (by omega), List.getElem?_eq_getElem (by omega)]
    rfl
  · rw [List.getElem?_set_ne e]
    by_cases lt : i < spot
    · have := congrArg (fun l => l[i]?) h2.1
      simpa [List.getElem?_take, lt] using this
    · have := congrArg (fun l => l[i - (spot + 1)]?) h2.2
      have e2 : spot + 1 + (i - (spot + 1)) = i := by omega
      simpa [List.getElem?_drop, e2] using this
theorem at_self {P : Pl} {wi : List (Option Nat)} {spot : Nat} (h : wi ∈ wirs P) : wi ∈ atW P wi spot := List.mem_filter.mpr ⟨h, by unfold atB; rw [decide_eq_true rfl, decide_eq_true rfl]; rfl⟩
inductive R_law_at : (F : Fm) → List (Ev F) → Ev F → Prop
  | mk (F : Fm) (P : Pl) (rest : List D) (wi : List (Option Nat)) (spot : Nat) (h : P.Ok) : R_law_at F [Ev.d F (dS P rest), Ev.d F (.tup (wi.map dO)), Ev.d F (.int (spot : Nat))] (Ev.l F ((atW P wi spot).map dW))
section
variable {F : Fm} {Γ : Env' F} {te ti : TE} {K : PySem.W.Frag} {l : List (Option Nat)} {s : Nat}
theorem pd_cutT (h : Pd Γ te (Ev.d F (.tup (l.map dO)))) (hi : Pd Γ ti (Ev.d F (.int (s : Nat)))) : Pd Γ (tSl (rSlA K) te tNoPart (tPart ti)) (Ev.d F (.tup ((l.take s).map dO))) := pd_eq (pd_slT h pdo_none (pdo_some hi)) (by rw [cutD_to, List.map_take])
theorem pd_cutF (h : Pd Γ te (Ev.d F (.tup (l.map dO)))) (hi : Pd Γ ti (Ev.d F (.int (s : Nat)))) : Pd Γ (tSl (rSlA K) te (tPart (tOp (rI0 fun i j => .int (i + j)) ti (tC (.int 1)))) tNoPart) (Ev.d F (.tup ((l.drop (s + 1)).map dO))) := pd_eq (pd_slT h (pdo_some (pd_op' hi pd_int p2_I0i)) pdo_none) (by
  have e3 : ((s : Int) + 1) = ((s + 1 : Nat) : Int) := by omega
  rw [e3, cutD_from, List.map_drop])
end
section
variable {P : Program} {w : World} {K : PySem.W.Frag} {mg : Str → Option Value} {base : Heap} {c : Ca}
theorem ok_law_at (T : Tx w K mg c) : Cl P w K mg base 2 "_law_at" (SpG R_law_at) := by
  obtain ⟨f, hm, FF⟩ := T.f_law_at
  refine cl_of (fn_pure FF sclaw_at (fun F es e h => by cases h; rfl) (fun cdv A outer s H E hr => ⟨_, (pss_cons (ps_set (i := 3) sclaw_at.nd rfl (Or.inl rfl) (pe_lst pa_nil)) (pss_cons (ps_for PassesOwn.never rfl (pi_list (pe_cl (ok_law_wirings T) hr (by decide) (by rfl) (pa_cons (pv 0) pa_nil))) (pg_name (i := 4) sclaw_at.nd rfl (Or.inl rfl)) (pss_one (ps_if (PW.pt (pw_and (pt_cmpR (op_eqD hr.units) (pe_slice sl_tupA (pv 4) po_none (po_some (pv 2))) (pe_slice sl_tupA (pv 1) po_none (po_some (pv 2))) (nomark _)) (pw_and1 (pt_cmpR (op_eqD hr.units) (pe_slice sl_tupA (pv 4) (po_some (pe_op op_add (pv 2) pe_int)) po_none) (pe_slice sl_tupA (pv 1) (po_some (pe_op op_add (pv 2) pe_int)) po_none) (nomark _))))) (pss_one (ps_expr (pe_bm PySem.F.plainAttrs_list PySem.F.slot_list_append PySem.F.type_list_append mt_append (pv 3) (pa_cons (pv 4) pa_nil)))) pss_nil))) (pss_one (ps_ret (pv 3))))), fun F es e h => ?_⟩) (fun _ _ _ _ _ _ us hu => by obtain ⟨a, b, c, rfl⟩ := len3 hu; rfl)) hm FF
  cases h with
  | mk P rest wi spot h =>
  have hz := sizeLine_eq
  have hn5 := h.n5
  have hp5 := h.p5
  have hnn : P.n = P.rates.length := rfl
  intro σ H DE iH g ff
  refine own_new iH fun a H1 sm n o => ?_
  have g1 : EnvOk (F := FA F a) H1 (σ.set 3 (some (.ref a))) [some (Ev.d _ (dS P rest)), some (Ev.d _ (.tup (wi.map dO))), some (Ev.d _ (.int (spot : Nat))), some (Ev.v _ (.ref a)), none] := EnvOk.set (i := 3) (e := Ev.v _ (.ref a)) (g.cv (H' := H1) (Γ' := [some (Ev.d (FA F a) (dS P rest)), some (Ev.d _ (.tup (wi.map dO))), some (Ev.d _ (.int (spot : Nat))), none, none]) ⟨ca_d sm, ca_d sm, ca_d sm, trivial⟩) rfl
  have hwl : (wirs P).length ≤ 7776 := Nat.le_trans (wirF_len _) (pow_small (by omega) (by omega))
  have o' : Own F H a ((((wirs P).take 0).filter (atB wi spot)).map dW) H1 := o
  refine own_for (S := Nat) (Γf := fun _ => [some (Ev.d _ (dS P rest)), some (Ev.d _ (.tup (wi.map dO))), some (Ev.d _ (.int (spot : Nat))), some (Ev.v _ (.ref a)), none]) (ac := fun s => (((wirs P).take s).filter (atB wi spot)).map dW) (es := (wirs P).map dW) (fun i s => i = s) 0 rfl rfl o' g1
    (fun R k => own_itL (K := K) o' g1 (Γk := fun xs => [some (Ev.d _ (dS P rest)), none, none, none, none]) (fun xs => ⟨fun _ h => h, trivial⟩) (fun xs => pd_cl (pd_cons (pd_var (i := 0) rfl) pd_nil) (R_law_wirings.mk _ P rest h)) R k) (fun i s d σ' H3 N hd is o3 g3 kN => ?_) fun s σ' H3 is o3 g3 => ?_
  · subst is
    rw [List.getElem?_map] at hd
    obtain ⟨w, hw, ew⟩ := Option.map_eq_some_iff.mp hd
    subst ew
    have htk : (wirs P).take (i + 1) = (wirs P).take i ++ [w] := by rw [List.take_succ, hw]; rfl
    have htl : (((wirs P).take i).filter (atB wi spot)).length ≤ 7776 := by
      refine Nat.le_trans (List.length_filter_le _ _) ?_
      rw [List.length_take]
      omega
    refine if_in ?_
    refine own_evT (b := atB wi spot w) o3 g3 (Γk := fun xs => [none, some (Ev.d _ (.tup (wi.map dO))), some (Ev.d _ (.int (spot : Nat))), none, some (Ev.d _ (.tup (w.map dO)))]) (fun xs => ⟨fun _ h => h, fun _ h => h, fun _ h => h, trivial⟩) (fun xs => ?_) fun H4 o4 r4 g4 => ?_
    · refine pdt_eq (pdt_and (pdt_test (pd_op' (pd_cutT (pd_var (i := 4) rfl) (pd_var (i := 2) rfl)) (pd_cutT (pd_var (i := 1) rfl) (pd_var (i := 2) rfl)) (p2_eqD fit_dW fit_dW))) fun _ => pdt_test (pd_op' (pd_cutF (pd_var (i := 4) rfl) (pd_var (i := 2) rfl)) (pd_cutF (pd_var (i := 1) rfl) (pd_var (i := 2) rfl)) (p2_eqD fit_dW fit_dW))) ?_
      rw [eqv_dW, eqv_dW]
      rfl
    · by_cases hb : atB wi spot w = true
      · rw [if_pos hb]
        refine drop_in ?_
        refine own_app (j := 3) (d := dW w) o4 g4 rfl (Γk := fun xs => [none, none, none, none, some (Ev.d _ (.tup (w.map dO)))]) (fun xs => ⟨fun _ h => h, trivial⟩) (fun xs => pd_var (i := 4) rfl) (by rw [List.length_map]; omega) fun H6 o6 r6 g8 => ?_
        refine kN (i + 1) σ' H6 rfl (Fm.trans r4 r6) ?_ (g8.cv ⟨fun _ h => h, fun _ h => h, fun _ h => h, fun _ h => h, trivial⟩)
        rw [htk, List.filter_append, List.map_append]
        have e2 : ([w].filter (atB wi spot)).map dW = [dW w] := by simp [hb]
        rw [e2]
        exact o6
      · rw [if_neg hb]
        refine next_in (kN (i + 1) σ' H4 rfl r4 ?_ (g4.cv ⟨fun _ h => h, fun _ h => h, fun _ h => h, fun _ h => h, trivial⟩))
        rw [htk, List.filter_append, List.map_append]
        have e2 : ([w].filter (atB wi spot)).map dW = [] := by simp [hb]
        rw [e2, List.append_nil]
        exact o4
  · rw [List.length_map] at is
    subst is
    rw [List.take_of_length_le (Nat.le_refl _)] at o3
    obtain ⟨v3, hv3, e3⟩ := g3.2 3 (Ev.v _ (.ref a)) rfl
    have e3' : v3 = .ref a := e3
    subst e3'
    exact ⟨.ref a, hv3, ff.1 _ H3 o3.r o3.to⟩
end
end Bf
/-! ### the law's own defs: a pick, a plan -/
namespace Bf
open PySem PySem.Spec PyProof.Rows L2
inductive R_pick (K : PySem.W.Frag) : (F : Fm) → List (Ev F) → Ev F → Prop
  | mk (sc row : Addr) (ns : List Int) (ds : List D) (h : ds ≠ []) (h2 : ds.length < 1000) : R_pick K (FR K sc row ns) [Ev.v _ (.ref row), Ev.l _ ds] (Ev.ex _ (fun d : D => d ∈ ds) fun d => d)
theorem p2_ixEx {F : Fm} {K : PySem.W.Frag} {ds : List D} : Pd2 F (rIxL K) (Ev.l F ds) (Ev.ex F (fun v : Nat => v < ds.length) fun v => .int (v : Nat)) (Ev.ex F (fun d : D => d ∈ ds) fun d => d) := fun x y H Q i r1 ⟨v, hv, r2⟩ k =>
  p2_ixLN (i := v) (List.getElem?_eq_getElem hv) x y H Q i r1 r2 fun w H' r q => k w H' r ⟨ds[v], List.getElem_mem hv, q⟩
inductive R_law_plan (c : Ca) : (F : Fm) → List (Ev F) → Ev F → Prop
  | mk (F : Fm) (P : Pl) (rest : List D) (h : P.Ok) : R_law_plan c F [Ev.d F (dS P rest)] (Ev.pl F c P)
theorem mk_plan {F : Fm} {c : Ca} {Γ : Env' F} {t : TA} {P : Pl} (h : PdA Γ t [Ev.d F (dRates P), Ev.d F (dAbove P), Ev.d F (dPts P), Ev.d F (.str P.rule)]) (ok : P.Ok) : Pd Γ (StX.tMakeR c.plan (Sp_Plan_init c) E0 t) (Ev.pl F c P) := fun σ H Q i g k =>
  h σ H _ i g fun vs H1 r1 ⟨v0, w1, e0, q0, v1, w2, e1, q1, v2, w3, e2, q2, v3, w4, e3, q3, e4⟩ x dx nx nd ne => by
  have e4' : w4 = [] := e4
  subst e4' e3 e2 e1 e0
  have s1 : Same H1 (upd (upd H1 dx (.own x)) x (.ins c.plan dx [])) := fun a o e => by
    rw [upd_ne (ne_of_none e nx), upd_ne (ne_of_none e nd)]
    exact e
  refine ⟨x, dx, P, v0, v1, v2, v3, rfl, ok, upd_same, ne, by rw [upd_ne ne, upd_same], Rep.same s1 q0, Rep.same s1 q1, Rep.same s1 q2, Rep.same s1 q3, fun H' vs t ch hx hdx ht q => ⟨rfl, k _ H' (Fm.trans r1 (Fm.ofSame r1.1 fun a o e => ch a o (s1 a o e) (ne_of_none e nx) (ne_of_none e nd))) ⟨x, dx, vs, t, rfl, Fm.nA r1.1 nx, Fm.nA r1.1 nd, hx, hdx, ht, q⟩⟩⟩
section
variable {P : Program} {w : World} {K : PySem.W.Frag} {mg : Str → Option Value} {base : Heap} {c : Ca}
theorem ok_law_pick (T : Tx w K mg c) : Cl P w K mg base 2 "_law_pick" (SpG (R_pick K)) := by
  obtain ⟨f, hm, FF⟩ := T.f_law_pick
  refine cl_of (fn_pure FF sclaw_pick (fun F es e h => by cases h; rfl) (fun cdv A outer s H E hr => ⟨_, (pss_one (ps_ret (pe_ix ix_list (pv 1) (pe_cl (ok_law_taken T) hr (by decide) (by rfl) (pa_cons (pv 0) (pa_cons (pe_callB call_len_seq (by rfl) T.n_len (by decide +kernel) (pa_cons (pv 1) pa_nil)) pa_nil))) (fun _ _ => rfl)))), fun F es e h => ?_⟩) (fun _ _ _ _ _ _ us hu => by obtain ⟨a, b, rfl⟩ := len2 hu; rfl)) hm FF
  cases h with
  | mk sc row ns ds h h2 =>
  exact pds_ret (pd_op' (pd_var (i := 1) rfl) (pd_cl (pd_cons (pd_var (i := 0) rfl) (pd_cons (pd_call' (pd_cons (pd_var (i := 1) rfl) pd_nil) pc_lenL) pd_nil)) (R_taken.mk sc row ns ds.length (List.length_pos_iff.mpr h) h2)) p2_ixEx)
theorem ok_law_plan (T : Tx w K mg c) : Cl P w K mg base 6 "_law_plan" (SpG (R_law_plan c)) := by
  obtain ⟨f, hm, FF⟩ := T.f_law_plan
  have ok_mk_Plan := fun T : Tx w K mg c => ok_Plan_init (P := P) (base := base) T
  refine cl_of (fn_pure FF sclaw_plan (fun F es e h => by cases h; rfl) (fun cdv A outer s H E hr => ⟨_, (pss_one (ps_ret (pe_mk (ok_mk_Plan T) hr (by decide) (by rfl) (pa_cons (pe_ix ix_tup (pv 0) pe_int (fun _ _ => rfl)) (pa_cons (pe_ix ix_tup (pv 0) pe_int (fun _ _ => rfl)) (pa_cons (pe_ix ix_tup (pv 0) pe_int (fun _ _ => rfl)) (pa_cons (pe_ix ix_tup (pv 0) pe_int (fun _ _ => rfl)) pa_nil))))))), fun F es e h => ?_⟩) (fun _ _ _ _ _ _ us hu => by obtain ⟨a, rfl⟩ := len1 hu; rfl)) hm FF
  cases h with
  | mk P rest h =>
  exact pds_ret (mk_plan (pd_cons (pS0 (pd_var (i := 0) rfl)) (pd_cons (pS1 (pd_var (i := 0) rfl)) (pd_cons (pS2 (pd_var (i := 0) rfl)) (pd_cons (pS3 (pd_var (i := 0) rfl)) pd_nil)))) h)
end
end Bf
/-! ### values drawn: one of several -/
namespace Bf
open PySem PySem.Spec PyProof.Rows L2
/-- a frame under a frame that keeps more -/
structure Sub (F F' : Fm) : Prop where
  i : ∀ {H : Hp}, F'.I H → F.I H
  a : ∀ {p : Addr}, F.A p → F'.A p
  r : ∀ {H H' : Hp}, F'.I H → F.R H H' → F'.R H H'
theorem Sub.refl (F : Fm) : Sub F F := ⟨id, id, fun _ r => r⟩
theorem sub_fk {F : Fm} {a : Addr} {xs : List V} (n : ¬ F.A a) : Sub F (FK F a xs) := ⟨fun i => i.1, .inl, fun i r => ⟨⟨r.1, r.2 _ _ i.2 n⟩, fun p o e z => r.2 p o e fun y => z (.inl y)⟩⟩
/-- one of several lists -/
def Ev.exl (F : Fm) {ι : Type} (p : ι → Prop) (f : ι → List D) : Ev F := ⟨fun H v => ∃ i, p i ∧ (Ev.l F (f i)).ok H v, fun i r ⟨x, hp, h⟩ => ⟨x, hp, (Ev.l F (f x)).st i r h⟩⟩
section
variable {F F' : Fm}
theorem pd_cl_sub {R : (F : Fm) → List (Ev F) → Ev F → Prop} {Γ : Env' F'} {ta : TA} {es : List (Ev F')} {es0 : List (Ev F)} {e0 : Ev F} {e : Ev F'} (s : Sub F F') (r : R F es0 e0) (h : PdA Γ ta es) (ca : ∀ H vs, EvsOk H es vs → EvsOk H es0 vs) (ce : ∀ H v, e0.ok H v → e.ok H v) : Pd Γ (tCl (SpG R) ta) e :=
  fun σ H Q i g k => h σ H _ i g fun vs H1 r1 q => spg_use (s.i r1.1) r (ca _ _ q) fun v H2 r2 z => k v H2 (Fm.trans r1 (s.r r1.1 r2)) (ce _ _ z)
section
variable {K : PySem.W.Frag} {sc row : Addr} {ns : List Int} {Γ : Env' F} {ta : TA}
theorem pd_taken (s : Sub (FR K sc row ns) F) {many : Nat} (h : PdA Γ ta [Ev.v F (.ref row), Ev.d F (.int (many : Nat))]) (h1 : 0 < many) (h2 : many < 1000) : Pd Γ (tCl (SpG (R_taken K)) ta) (Ev.ex F (fun v : Nat => v < many) fun v => .int (v : Nat)) :=
  pd_cl_sub s (R_taken.mk sc row ns many h1 h2) h (fun _ _ q => q) (fun _ _ z => z)
theorem pd_pick (s : Sub (FR K sc row ns) F) {ds : List D} (h : PdA Γ ta [Ev.v F (.ref row), Ev.l F ds]) (h1 : ds ≠ []) (h2 : ds.length < 1000) : Pd Γ (tCl (SpG (R_pick K)) ta) (Ev.ex F (fun d : D => d ∈ ds) fun d => d) :=
  pd_cl_sub s (R_pick.mk sc row ns ds h1 h2) h (fun _ _ ⟨v, ws, e, q, w, us, e1, ⟨a, xs, e2, n, h, q2⟩, e3⟩ => ⟨v, ws, e, q, w, us, e1, ⟨a, xs, e2, fun z => n (s.a z), h, q2⟩, e3⟩) (fun _ _ z => z)
end
section
variable {Γ : Env' F} {H : Hp} {σ : L2.St} {ι κ : Type} {p : ι → Prop} {f : ι → D} {i : Nat} {u : TS} {e e' a b : Ev F} {t : TE} {r : R2} {ta : TA} {es : List (Ev F)}
theorem envOk_open (h : Γ[i]? = some (some (Ev.ex F p f))) (g : EnvOk H σ Γ) : ∃ x, p x ∧ EnvOk H σ (Γ.set i (some (Ev.d F (f x)))) := by
  obtain ⟨v, h1, x, hp, h2⟩ := g.2 i _ h
  refine ⟨x, hp, by simp [g.1], fun j e z => ?_⟩
  by_cases hj : j = i
  · subst hj
    have hlt : j < Γ.length := (List.getElem?_eq_some_iff.mp h).1
    rw [List.getElem?_set_self hlt] at z
    cases z
    exact ⟨v, h1, h2⟩
  · rw [List.getElem?_set_ne (Ne.symm hj)] at z
    exact g.2 j e z
theorem pds_open (h : Γ[i]? = some (some (Ev.ex F p f))) (k : ∀ x, p x → Pds (Γ.set i (some (Ev.d F (f x)))) u e) : Pds Γ u e := fun σ H D i0 g ff => by
  obtain ⟨x, hp, g'⟩ := envOk_open h g
  exact k x hp σ H D i0 g' ff
theorem pd_toex {x : ι} (h : Pd Γ t (Ev.d F (f x))) (hp : p x) : Pd Γ t (Ev.ex F p f) := pd_imp h fun _ _ q => ⟨x, hp, q⟩
theorem pd_exex {q : κ → Prop} {g : κ → D} (h : Pd Γ t (Ev.ex F p f)) (k : ∀ x, p x → ∃ y, q y ∧ g y = f x) : Pd Γ t (Ev.ex F q g) := pd_imp h fun _ _ ⟨x, hp, z⟩ => by
  obtain ⟨y, hy, e⟩ := k x hp
  exact ⟨y, hy, e ▸ z⟩
theorem p2_exr (h : ∀ x, p x → Pd2 F r a (Ev.d F (f x)) e) : Pd2 F r a (Ev.ex F p f) e := fun x y H Q i q1 ⟨z, hp, q2⟩ k => h z hp x y H Q i q1 q2 k
theorem p2_exl (h : ∀ x, p x → Pd2 F r (Ev.d F (f x)) b e) : Pd2 F r (Ev.ex F p f) b e := fun x y H Q i ⟨z, hp, q1⟩ q2 k => h z hp x y H Q i q1 q2 k
theorem p2_imp (h : Pd2 F r a b e) (q : ∀ H v, e.ok H v → e'.ok H v) : Pd2 F r a b e' := fun x y H Q i q1 q2 k => h x y H Q i q1 q2 fun v H' r z => k v H' r (q _ _ z)
theorem pc_exl {sp : List V → Hp → VK → Prop} {g : ι → List D} {d : ι → D} (h : ∀ x, p x → PdC F sp [Ev.l F (g x)] (Ev.d F (d x))) : PdC F sp [Ev.exl F p g] (Ev.ex F p d) := fun vs H Q i ⟨v, ws, e, ⟨x, hp, q⟩, e2⟩ k => h x hp vs H Q i ⟨v, ws, e, q, e2⟩ fun w H' r z => k w H' r ⟨x, hp, z⟩
theorem pd_tupx {ds : ι → List D} (h : PdA Γ ta es) (q : ∀ H vs, EvsOk H es vs → ∃ x, p x ∧ Reps H (ds x) vs) (hl : ∀ x, p x → (ds x).length ≤ sizeLine) : Pd Γ (tTup ta) (Ev.ex F p fun x => .tup (ds x)) := fun σ H Q i g k =>
  h σ H _ i g fun xs H1 r1 q1 => by
    obtain ⟨x, hp, q2⟩ := q _ _ q1
    refine ⟨by rw [q2.length]; exact hl x hp, fun p n => ?_⟩
    have sm : Same H1 (upd H1 p (.tup xs)) := Same.new n
    exact k _ _ (Fm.trans r1 (Fm.ofSame r1.1 sm)) ⟨x, hp, Rep.tup upd_same (Reps.same sm q2)⟩
theorem yes_in {σ : L2.St} {H : Hp} {Q : Bool → Hp → Prop} (h : Q true H) : tYes σ H Q := h
/-- a comprehension of drawn values -/
theorem pd_lcx {vs : List Nat} {is : List ι} {fi : ι → D} {q : ι → D → Prop} {wi : TI} {te : TE} {j : Nat} (hi : PdI F Γ wi (is.map fi)) (hj : j ∈ vs) (hb : ∀ i ∈ is, Pd ((wipeG Γ vs).set j (some (Ev.d F (fi i)))) te (Ev.ex F (q i) fun d => d)) (hl : is.length < sizeLine) :
    Pd Γ (tLc wi (gName j) tYes te vs) (Ev.exl F (fun ds : List D => ds.length = is.length ∧ ∀ (k : Nat) i d, is[k]? = some i → ds[k]? = some d → q i d) fun ds => ds) := fun σ H Q i0 g0 k => by
  refine hi σ H _ i0 g0 fun J H1 r1 w => fun D0 n0 => ?_
  have nA0 : ¬ F.A D0 := Fm.nA r1.1 n0
  have s1 : Same H1 (upd H1 D0 (.lst [])) := Same.new n0
  have g1 := (g0.st i0 r1).wipe vs
  refine L2.lc_it w (Pv := fun i H' => F.R H1 H' ∧ ∃ ds acc, H' D0 = some (.lst acc) ∧ Reps H' ds acc ∧ ds.length = i ∧ ∀ (k : Nat) x d, is[k]? = some x → ds[k]? = some d → q x d) ⟨Fm.ofSame r1.1 s1, [], [], upd_same, Reps.nil, rfl, fun k x d _ z => by simp at z⟩ (fun i H' _ z => z.1) (fun i x H' H2 hlt ⟨rr, ds, acc, hD, qq, hdl, hq⟩ y => ?_) fun H' ⟨rr, ds, acc, hD, qq, hdl, hq⟩ => ?_
  · obtain ⟨sm, d0, hd0, rx⟩ := y
    rw [List.length_map] at hlt
    rw [List.getElem?_map, List.getElem?_eq_getElem hlt] at hd0
    obtain rfl : fi is[i] = d0 := Option.some.inj hd0
    have r2 : F.R H1 H2 := Fm.trans rr (Fm.ofSame rr.1 sm)
    have hD2 := sm _ _ hD
    have q2 := Reps.same sm qq
    refine ⟨(wipe_set hj).trans wipe_wipe, ?_⟩
    have g2 := EnvOk.set (i := j) (e := Ev.d F (fi is[i])) (g1.st r1.1 r2) rx
    refine yes_in ?_
    rw [if_pos rfl]
    refine hb is[i] (List.getElem_mem hlt) _ H2 _ r2.1 g2 fun y H3 r3 ⟨d, hqd, q3⟩ => ?_
    have hD3 := r3.2 _ _ hD2 nA0
    have q4 := Reps.pr (Fm.toPr r2.1 r3) q2
    have pr : Pr H3 (upd H3 D0 (.lst (acc ++ [y]))) := Pr.mutL hD3
    refine ⟨acc, hD3, by rw [qq.length]; omega, ⟨F.wr r3.1 nA0 hD3 (fun _ _ z => nomatch z), fun a o e n => ?_⟩, ds ++ [d], acc ++ [y], upd_same, ?_, by rw [List.length_append, List.length_singleton, hdl], fun k x d' h1 h2 => ?_⟩
    · have ne : a ≠ D0 := ne_of_none e n0
      rw [upd_ne ne]
      exact (Fm.trans r2 r3).2 a o e n
    · exact Reps.append (Reps.pr pr q4) ⟨y, [], rfl, Rep.pr pr q3, rfl⟩
    · by_cases hk : k < ds.length
      · rw [List.getElem?_append_left hk] at h2
        exact hq k x d' h1 h2
      · have hk2 := (List.getElem?_eq_some_iff.mp h2).1
        rw [List.length_append, List.length_singleton] at hk2
        have ek : k = i := by omega
        subst ek
        rw [List.getElem?_append_right (by omega), hdl, Nat.sub_self] at h2
        rw [List.getElem?_eq_getElem hlt] at h1
        cases h1
        cases h2
        exact hqd
  · rw [List.length_map] at hdl
    exact k _ H' (Fm.trans r1 rr) ⟨ds, ⟨hdl, hq⟩, D0, acc, rfl, nA0, hD, qq⟩
end
end
theorem pick_all {α : Type} {f : α → D} : ∀ {ds : List D} {q : Nat → α → Prop}, (∀ (k : Nat) d, ds[k]? = some d → ∃ a, q k a ∧ f a = d) → ∃ l : List α, ds = l.map f ∧ ∀ (k : Nat) a, l[k]? = some a → q k a
  | [], _, _ => ⟨[], rfl, fun k a z => by simp at z⟩
  | d :: ds, q, h => by
    obtain ⟨a, ha, e⟩ := h 0 d rfl
    obtain ⟨l, e2, hl⟩ := pick_all (ds := ds) (q := fun k a => q (k + 1) a) fun k d hk => h (k + 1) d (by simpa using hk)
    refine ⟨a :: l, by rw [List.map_cons, e, e2], fun k b hk => ?_⟩
    cases k with
    | zero =>
      simp at hk
      subst hk
      exact ha
    | succ k => exact hl k b (by simpa using hk)
section
variable {F : Fm} {H0 H H1 : Hp} {a : Addr} {ds : List D} {σ : L2.St} {Q : VK} {te : TE}
/-- xs.append(e), e drawn -/
theorem own_appx {K : PySem.W.Frag} {j : Nat} {ι : Type} {p : ι → Prop} {f : ι → D} {Γ : Env' (FA F a)} {Γk : (xs : List V) → Env' (FK F a xs)} (o : Own F H0 a ds H) (g : EnvOk H σ Γ) (hj : Γ[j]? = some (some (Ev.v _ (.ref a)))) (cv : ∀ xs, Cv H H Γ (Γk xs)) (h : ∀ xs, Pd (Γk xs) te (Ev.ex _ p f)) (hl : ds.length < sizeLine)
    (k : ∀ x H1, p x → Own F H0 a (ds ++ [f x]) H1 → (FA F a).R H H1 → EnvOk H1 σ Γ → Q .non H1) : tBM K "list" rAppend (tVar j) (tCons te tNil) σ H Q := by
  obtain ⟨xs, e, q⟩ := id o.l
  obtain ⟨v, hv, ev⟩ := g.2 j _ hj
  have ev' : v = .ref a := ev
  subst ev'
  refine ⟨.ref a, hv, .inl ⟨rfl, xs, SqL.of e⟩, ?_⟩
  refine own_ev o g cv h fun y H1 zs o1 r1 g1 ⟨x, hp, z⟩ => ?_
  obtain ⟨ys, e1, q1⟩ := id o1.l
  have hr := Pr.mutL (o := .lst (ys ++ [y])) e1
  have r2 : (FA F a).R H1 (upd H1 a (.lst (ys ++ [y]))) := ⟨⟨F.wr o1.r.1 o1.nA e1 (fun _ _ z => nomatch z), _, upd_same⟩, fun p w e n => by
    rw [upd_ne (fun z => n (.inr z))]
    exact e⟩
  refine ⟨a, ys, y, rfl, rfl, e1, by rw [q1.length]; exact hl, k x _ hp ⟨⟨r2.1.1, fun p w e n => ?_⟩, o1.n, o1.nA, _, upd_same, Reps.append (Reps.pr hr q1) ⟨y, [], rfl, Rep.pr hr z, rfl⟩⟩ (Fm.trans r1 r2) (g1.st o1.i r2)⟩
  rw [upd_ne (ne_of_none e o1.n)]
  exact o1.r.2 _ _ e n
end
end Bf
/-! ### the law's own defs: the scheme -/
namespace Bf
open PySem PySem.Spec PyProof.Rows L2
def names5 : List Str := ["fan", "hall", "iron", "oven", "pump"]
/-- a plan as the law draws it -/
structure PlL (P : Pl) : Prop where
  ok : P.Ok
  nm : ∀ x ∈ P.pts.map (·.1), x ∈ names5
  n4 : P.n ≤ 4
  p3 : P.pts.length ≤ 3
theorem PlL.wl {P : Pl} (h : PlL P) : (wirs P).length < 1000 := by
  have h3 := wirF_len (P := P) P.pts.length
  have h4 : (P.n + 1) ^ P.pts.length ≤ 5 ^ 3 := Nat.le_trans (Nat.pow_le_pow_left (by have := h.n4; omega) _) (Nat.pow_le_pow_right (by omega) h.p3)
  exact Nat.lt_of_le_of_lt (Nat.le_trans h3 h4) (by decide)
theorem n5_word : ∀ x ∈ names5, WordOk x := by
  unfold WordOk
  decide +kernel
theorem n5_lt : ∀ i, i < 4 → (names5.getD i "").cps.toList < (names5.getD (i + 1) "").cps.toList := by decide +kernel
theorem n5_nd : names5.Nodup := by decide +kernel
theorem pl_ok {rates : List Nat} {above : List (Option Nat)} {pts : List (Str × Str × Nat)} {rule : Str} {size count : Nat} (hs : 1 ≤ size ∧ size ≤ 4) (hc : 1 ≤ count ∧ count ≤ 3) (h1 : rates.length = size) (hr : ∀ r ∈ rates, 1 ≤ r ∧ r ≤ 99) (h2 : above.length = size)
    (ha : ∀ (i o : Nat), above[i]? = some (some o) → o < i) (hp : pts.map (·.1) = names5.take count) (hk : ∀ p ∈ pts, (p.2.1 = ("lamp" : Str) ∨ p.2.1 = ("plug" : Str)) ∧ p.2.2 ≤ 9) (hu : rule = ("free" : Str) ∨ rule = ("rooms" : Str)) : PlL ⟨rates, above, pts, rule⟩ := by
  have hlen : pts.length = count := by
    have := congrArg List.length hp
    rw [List.length_map, List.length_take] at this
    have h5 : names5.length = 5 := rfl
    omega
  have hat : ∀ (i : Nat) (p : Str × Str × Nat), pts[i]? = some p → i < count ∧ p.1 = names5.getD i "" := fun i p e => by
    have hi : i < count := by
      have := (List.getElem?_eq_some_iff.mp e).1
      omega
    refine ⟨hi, ?_⟩
    have e2 : (pts.map (·.1))[i]? = some p.1 := by rw [List.getElem?_map, e]; rfl
    rw [hp, List.getElem?_take, if_pos hi] at e2
    rw [List.getD_eq_getElem?_getD, e2]
    rfl
  have hmem : ∀ p ∈ pts, p.1 ∈ names5 := fun p hpm => by
    have : p.1 ∈ pts.map (·.1) := List.mem_map.mpr ⟨p, hpm, rfl⟩
    rw [hp] at this
    exact List.mem_of_mem_take this
  refine ⟨⟨?_, ?_, hr, ?_, ha, ?_, ?_, fun p hpm => ⟨n5_word _ (hmem p hpm), (hk p hpm).1, (hk p hpm).2⟩, fun i a b ea eb => ?_, ?_, hu⟩, fun x hx => ?_, ?_, ?_⟩
  · show 1 ≤ rates.length
    omega
  · show rates.length ≤ 5
    omega
  · show above.length = rates.length
    omega
  · show 1 ≤ pts.length
    omega
  · show pts.length ≤ 5
    omega
  · obtain ⟨_, e1⟩ := hat i a ea
    obtain ⟨lt, e2⟩ := hat (i + 1) b eb
    rw [e1, e2]
    exact n5_lt i (by omega)
  · show (pts.map (·.1)).Nodup
    rw [hp]
    exact n5_nd.sublist (List.take_sublist _ _)
  · have hx' : x ∈ pts.map (·.1) := hx
    rw [hp] at hx'
    exact List.mem_of_mem_take hx'
  · show rates.length ≤ 4
    omega
  · show pts.length ≤ 3
    omega
inductive R_law_scheme (K : PySem.W.Frag) : (F : Fm) → List (Ev F) → Ev F → Prop
  | mk (sc row : Addr) (ns : List Int) : R_law_scheme K (FR K sc row ns) [Ev.v _ (.ref row), Ev.d _ (.int 4), Ev.d _ (.int 3)] (Ev.ex _ (fun x : Pl × List (Option Nat) => PlL x.1 ∧ x.2 ∈ wirs x.1) fun x => dS x.1 [dW x.2])
theorem pd_size {F : Fm} {Γ : Env' F} {t : TE} {m : Nat} (h : Pd Γ t (Ev.ex F (fun v : Nat => v < m) fun v => .int (v : Nat))) : Pd Γ (tOp (rI0 fun i j => .int (i + j)) (tC (.int 1)) t) (Ev.ex F (fun v : Nat => 1 ≤ v ∧ v ≤ m) fun v => .int (v : Nat)) :=
  pd_op' pd_int h (p2_exr fun v hv => p2_imp p2_I0i fun H w q => ⟨1 + v, by omega, by
    have e : ((1 + v : Nat) : Int) = 1 + (v : Int) := by omega
    show Rep H (.int ((1 + v : Nat) : Int)) w
    rw [e]
    exact q⟩)
section
variable {P : Program} {w : World} {K : PySem.W.Frag} {mg : Str → Option Value} {base : Heap} {c : Ca}
theorem ok_law_scheme (T : Tx w K mg c) : Cl P w K mg base 3 "_law_scheme" (SpG (R_law_scheme K)) := by
  obtain ⟨f, hm, FF⟩ := T.f_law_scheme
  refine cl_of (fn_pure FF sclaw_scheme (fun F es e h => by cases h; rfl) (fun cdv A outer s H E hr => ⟨_, (pss_cons (ps_par (i := 3) (j := 4) (by rfl) sclaw_scheme.nd rfl rfl (by decide) rfl rfl (pa_cons (pe_op op_add pe_int (pe_cl (ok_law_taken T) hr (by decide) (by rfl) (pa_cons (pv 0) (pa_cons (pv 1) pa_nil)))) (pa_cons (pe_op op_add pe_int (pe_cl (ok_law_taken T) hr (by decide) (by rfl) (pa_cons (pv 0) (pa_cons (pv 2) pa_nil)))) pa_nil)) (by rfl)) (pss_cons (ps_set (i := 5) sclaw_scheme.nd rfl (Or.inl rfl) (pe_callTy call_tuple_of (by rfl) T.n_tuple (by decide +kernel) (pa_cons (pe_lcD (own := [("_law_k", 11)]) (by rfl) sclaw_scheme.nd (pi_range1 (by rfl) T.n_range (pa_cons (pv 3) pa_nil)) (blkOk_by (own := [("_law_k", 11)]) (N := Nlaw_scheme) (sc := defScope slaw_scheme) (by decide +kernel)) (fun _ _ _ _ _ => (pg_name (i := 11) sclaw_scheme.nd rfl (Or.inl rfl))) (fun _ _ _ _ _ => pts_nil) (fun _ _ _ _ _ => (pe_cl (ok_law_pick T) hr (by decide) (by rfl) (pa_cons (pv 0) (pa_cons (pe_lst (pa_cons pe_int (pa_cons pe_int (pa_cons pe_int (pa_cons pe_int (pa_cons pe_int (pa_cons pe_int (pa_cons pe_int (pa_cons pe_int pa_nil))))))))) pa_nil))))) pa_nil))) (pss_cons (ps_set (i := 6) sclaw_scheme.nd rfl (Or.inl rfl) (pe_callTy call_tuple_of (by rfl) T.n_tuple (by decide +kernel) (pa_cons (pe_lcD (own := [("_law_k", 11)]) (by rfl) sclaw_scheme.nd (pi_range1 (by rfl) T.n_range (pa_cons (pv 3) pa_nil)) (blkOk_by (own := [("_law_k", 11)]) (N := Nlaw_scheme) (sc := defScope slaw_scheme) (by decide +kernel)) (fun _ _ _ _ _ => (pg_name (i := 11) sclaw_scheme.nd rfl (Or.inl rfl))) (fun _ _ _ _ _ => pts_nil) (fun _ _ _ _ _ => (pe_cl (ok_law_pick T) hr (by decide) (by rfl) (pa_cons (pv 0) (pa_cons (pe_op op_cat (pe_lst (pa_cons pe_non pa_nil)) (pe_listRg (by rfl) (by rfl) T.n_list (prg_1 (by rfl) T.n_range (pv 11)))) pa_nil))))) pa_nil))) (pss_cons (ps_set (i := 7) sclaw_scheme.nd rfl (Or.inl rfl) (pe_lst pa_nil)) (pss_cons (ps_for PassesOwn.never rfl (pi_list (pe_slice sl_list (pe_lst (pa_cons pe_str (pa_cons pe_str (pa_cons pe_str (pa_cons pe_str (pa_cons pe_str pa_nil)))))) po_none (po_some (pv 4)))) (pg_name (i := 8) sclaw_scheme.nd rfl (Or.inl rfl)) (pss_one (ps_expr (pe_bm PySem.F.plainAttrs_list PySem.F.slot_list_append PySem.F.type_list_append mt_append (pv 7) (pa_cons (pe_tup (pa_cons (pv 8) (pa_cons (pe_cl (ok_law_pick T) hr (by decide) (by rfl) (pa_cons (pv 0) (pa_cons (pe_lst (pa_cons pe_str (pa_cons pe_str (pa_cons pe_str pa_nil)))) pa_nil))) (pa_cons (pe_op op_mul (pe_cl (ok_law_taken T) hr (by decide) (by rfl) (pa_cons (pv 0) (pa_cons pe_int pa_nil))) pe_int) pa_nil)))) pa_nil))))) (pss_cons (ps_set (i := 9) sclaw_scheme.nd rfl (Or.inl rfl) (pe_cl (ok_law_pick T) hr (by decide) (by rfl) (pa_cons (pv 0) (pa_cons (pe_lst (pa_cons pe_str (pa_cons pe_str pa_nil))) pa_nil)))) (pss_cons (ps_set (i := 10) sclaw_scheme.nd rfl (Or.inl rfl) (pe_tup (pa_cons (pv 5) (pa_cons (pv 6) (pa_cons (pe_callTy call_tuple_of (by rfl) T.n_tuple (by decide +kernel) (pa_cons (pv 7) pa_nil)) (pa_cons (pv 9) pa_nil)))))) (pss_one (ps_ret (pe_op op_catA (pv 10) (pe_tup (pa_cons (pe_cl (ok_law_pick T) hr (by decide) (by rfl) (pa_cons (pv 0) (pa_cons (pe_cl (ok_law_wirings T) hr (by decide) (by rfl) (pa_cons (pv 10) pa_nil)) pa_nil))) pa_nil)))))))))))), fun F es e h => ?_⟩) (fun _ _ _ _ _ _ us hu => by obtain ⟨a, b, c, rfl⟩ := len3 hu; rfl)) hm FF
  cases h with
  | mk sc row ns =>
  have hz := sizeLine_eq
  have sb := Sub.refl (FR K sc row ns)
  refine pds_par (pd_cons (pd_size (pd_taken sb (many := 4) (pd_cons (pd_var (i := 0) rfl) (pd_cons (pd_var (i := 1) rfl) pd_nil)) (by decide) (by decide))) (pd_cons (pd_size (pd_taken sb (many := 3) (pd_cons (pd_var (i := 0) rfl) (pd_cons (pd_var (i := 2) rfl) pd_nil)) (by decide) (by decide))) pd_nil)) ?_
  refine pds_open (i := 3) rfl fun size hsz => ?_
  refine pds_open (i := 4) rfl fun count hct => ?_
  -- the rates
  refine pds_set (a := Ev.ex _ _ fun ds : List D => .tup ds) (pd_call' (pd_cons (pd_lcx (j := 11) (vs := [11]) (is := List.range size) (fi := fun i => .int (i : Nat)) (q := fun _ d => d ∈ [D.int 3, D.int 4, D.int 5, D.int 6, D.int 8, D.int 9, D.int 12, D.int 16]) (pdj_rng1 (n := size) (pd_var (i := 3) rfl) (by omega)).i List.mem_cons_self
    (fun i _ => pd_pick sb (pd_cons (pd_var (i := 0) rfl) (pd_cons (pd_lst' (ds := [.int 3, .int 4, .int 5, .int 6, .int 8, .int 9, .int 12, .int 16]) (pd_cons pd_int (pd_cons pd_int (pd_cons pd_int (pd_cons pd_int (pd_cons pd_int (pd_cons pd_int (pd_cons pd_int (pd_cons pd_int pd_nil)))))))) rfl (by decide)) pd_nil)) (by simp) (by decide)) (by simp; omega)) pd_nil) (pc_exl fun ds _ => pc_tupL)) ?_
  refine pds_open (i := 5) rfl fun ds hds => ?_
  obtain ⟨hl1, hq1⟩ := hds
  obtain ⟨rates, rfl, hr1⟩ := pick_all (f := dN) (q := fun _ r => 1 ≤ r ∧ r ≤ 99) (ds := ds) fun k d hk => by
    have hkl := (List.getElem?_eq_some_iff.mp hk).1
    have hm := hq1 k k d (List.getElem?_range (by rw [hl1, List.length_range] at hkl; exact hkl)) hk
    simp only [List.mem_cons, List.not_mem_nil, or_false] at hm
    rcases hm with e | e | e | e | e | e | e | e <;> subst e
    · exact ⟨3, by decide, rfl⟩
    · exact ⟨4, by decide, rfl⟩
    · exact ⟨5, by decide, rfl⟩
    · exact ⟨6, by decide, rfl⟩
    · exact ⟨8, by decide, rfl⟩
    · exact ⟨9, by decide, rfl⟩
    · exact ⟨12, by decide, rfl⟩
    · exact ⟨16, by decide, rfl⟩
  clear hq1
  -- by what they are fed
  refine pds_set (a := Ev.ex _ _ fun ds : List D => .tup ds) (pd_call' (pd_cons (pd_lcx (j := 11) (vs := [11]) (is := List.range size) (fi := fun i => .int (i : Nat)) (q := fun i d => d ∈ D.non :: (List.range i).map dN) (pdj_rng1 (n := size) (pd_var (i := 3) rfl) (by omega)).i List.mem_cons_self
    (fun i hi => pd_pick sb (pd_cons (pd_var (i := 0) rfl) (pd_cons (pd_op' (pd_lst' (ds := [.non]) (pd_cons pd_non pd_nil) rfl (by decide)) (pd_lstRg (n := i) (pd_var (i := 11) rfl) (by have := List.mem_range.mp hi; omega)) (p2_cat (by have := List.mem_range.mp hi; simp; omega))) pd_nil)) (by simp) (by have := List.mem_range.mp hi; simp; omega)) (by simp; omega)) pd_nil) (pc_exl fun ds _ => pc_tupL)) ?_
  refine pds_open (i := 6) rfl fun ds hds => ?_
  obtain ⟨hl2, hq2⟩ := hds
  obtain ⟨above, rfl, hr2⟩ := pick_all (f := dO) (q := fun i o => ∀ b, o = some b → b < i) (ds := ds) fun k d hk => by
    have hkl := (List.getElem?_eq_some_iff.mp hk).1
    have hm := hq2 k k d (List.getElem?_range (by rw [hl2, List.length_range] at hkl; exact hkl)) hk
    rcases List.mem_cons.mp hm with e | e
    · exact ⟨none, fun b z => (nomatch z), e.symm⟩
    · obtain ⟨b, hb, e⟩ := List.mem_map.mp e
      exact ⟨some b, fun b' z => by cases z; exact List.mem_range.mp hb, e⟩
  clear hq2
  rw [List.length_map, List.length_range] at hl1 hl2
  -- the points
  intro σ H DE iH g ff
  refine own_new iH fun a H1 sm n o => ?_
  have g1 : EnvOk (F := FA (FR K sc row ns) a) H1 (σ.set 7 (some (.ref a))) [some (Ev.v _ (.ref row)), none, none, none, some (Ev.d _ (.int (count : Nat))), some (Ev.d _ (.tup (rates.map dN))), some (Ev.d _ (.tup (above.map dO))), some (Ev.v _ (.ref a)), none, none, none, none] := EnvOk.set (i := 7) (e := Ev.v _ (.ref a)) (g.cv (H' := H1) (Γ' := [some (Ev.v (FA (FR K sc row ns) a) (.ref row)), none, none, none, some (Ev.d _ (.int (count : Nat))), some (Ev.d _ (.tup (rates.map dN))), some (Ev.d _ (.tup (above.map dO))), none, none, none, none, none]) ⟨fun _ h => h, ca_d sm, ca_d sm, ca_d sm, trivial⟩) rfl
  have o' : Own (FR K sc row ns) H a (([] : List (Str × Str × Nat)).map dPt) H1 := o
  refine own_for (S := List (Str × Str × Nat)) (Γf := fun _ => [some (Ev.v _ (.ref row)), none, none, none, some (Ev.d _ (.int (count : Nat))), some (Ev.d _ (.tup (rates.map dN))), some (Ev.d _ (.tup (above.map dO))), some (Ev.v _ (.ref a)), none, none, none, none]) (ac := fun s => s.map dPt) (es := (names5.take count).map .str)
    (fun i s => s.map (·.1) = (names5.take count).take i ∧ ∀ p ∈ s, (p.2.1 = ("lamp" : Str) ∨ p.2.1 = ("plug" : Str)) ∧ p.2.2 ≤ 9) [] rfl ⟨rfl, fun _ z => nomatch z⟩ o' g1
    (fun R k => own_itL (K := K) o' g1 (Γk := fun xs => [none, none, none, none, some (Ev.d _ (.int (count : Nat))), none, none, none, none, none, none, none]) (fun xs => ⟨fun _ h => h, trivial⟩) (fun xs => pd_eq (pd_slL (ds := names5.map .str) (pd_lst' (ds := names5.map .str) (pd_cons pd_str (pd_cons pd_str (pd_cons pd_str (pd_cons pd_str (pd_cons pd_str pd_nil))))) rfl (by decide)) pdo_none (pdo_some (pd_var (i := 4) rfl))) (by rw [cutD_to, List.map_take])) R k) (fun i s d σ' H3 N hd ⟨i1, i2⟩ o3 g3 kN => ?_) fun s σ' H3 ⟨i1, i2⟩ o3 g3 => ?_
  · rw [List.getElem?_map] at hd
    obtain ⟨x, hx, ed⟩ := Option.map_eq_some_iff.mp hd
    subst ed
    have sl : s.length ≤ i := by
      have := congrArg List.length i1
      rw [List.length_map, List.length_take] at this
      omega
    have hi : i < (names5.take count).length := (List.getElem?_eq_some_iff.mp hx).1
    rw [List.length_take] at hi
    refine drop_in ?_
    refine own_appx (j := 7) (ι := Str × Nat) (p := fun z => (z.1 = ("lamp" : Str) ∨ z.1 = ("plug" : Str)) ∧ z.2 ≤ 9) (f := fun z => .tup [.str x, .str z.1, .int (z.2 : Nat)]) o3 g3 rfl (Γk := fun xs => [some (Ev.v _ (.ref row)), none, none, none, none, none, none, none, some (Ev.d _ (.str x)), none, none, none]) (fun xs => ⟨fun _ h => h, fun _ h => h, trivial⟩) (fun xs => ?_) (by rw [List.length_map]; omega) fun z H4 hz4 o4 r4 g4 => ?_
    · have sbk : Sub (FR K sc row ns) (FK (FR K sc row ns) a xs) := sub_fk o3.nA
      refine pd_tupx (ι := Str × Nat) (ds := fun z => [.str x, .str z.1, .int (z.2 : Nat)]) (pd_cons (pd_var (i := 8) rfl) (pd_cons (pd_pick sbk (pd_cons (pd_var (i := 0) rfl) (pd_cons (pd_lst' (ds := [.str "lamp", .str "lamp", .str "plug"]) (pd_cons pd_str (pd_cons pd_str (pd_cons pd_str pd_nil))) rfl (by decide)) pd_nil)) (by simp) (by decide)) (pd_cons (a := Ev.ex _ (fun v : Nat => v ≤ 9) fun v => .int (v : Nat)) (pd_op' (pd_taken sbk (many := 2) (pd_cons (pd_var (i := 0) rfl) (pd_cons pd_int pd_nil)) (by decide) (by decide)) pd_int (p2_exl fun v hv => p2_imp (p2_Ii (.inr ⟨by decide, by decide⟩)) fun H w q => ⟨v * 3, by omega, ?_⟩)) pd_nil))) (fun H vs ⟨v0, w1, e0, q0, v1, w2, e1, ⟨d, hd, q1⟩, v2, w3, e2, ⟨n, hn, q2⟩, e3⟩ => ?_) (fun z _ => by show 3 ≤ sizeLine; omega)
      · have e : ((v * 3 : Nat) : Int) = (v : Int) * 3 := by omega
        show Rep H (.int ((v * 3 : Nat) : Int)) w
        rw [e]
        exact q
      · have e3' : w3 = [] := e3
        subst e3' e2 e1 e0
        simp only [List.mem_cons, List.not_mem_nil, or_false] at hd
        rcases hd with e | e | e <;> subst e
        · exact ⟨("lamp", n), ⟨.inl rfl, hn⟩, v0, _, rfl, q0, v1, _, rfl, q1, v2, _, rfl, q2, rfl⟩
        · exact ⟨("lamp", n), ⟨.inl rfl, hn⟩, v0, _, rfl, q0, v1, _, rfl, q1, v2, _, rfl, q2, rfl⟩
        · exact ⟨("plug", n), ⟨.inr rfl, hn⟩, v0, _, rfl, q0, v1, _, rfl, q1, v2, _, rfl, q2, rfl⟩
    · refine kN (s ++ [(x, z.1, z.2)]) σ' H4 ⟨?_, fun p hp => ?_⟩ r4 ?_ (g4.cv ⟨fun _ h => h, fun _ h => h, fun _ h => h, fun _ h => h, fun _ h => h, trivial⟩)
      · rw [List.map_append, i1, List.take_succ, hx]
        rfl
      · rcases List.mem_append.mp hp with m | m
        · exact i2 p m
        · have e : p = (x, z.1, z.2) := by simpa using m
          rw [e]
          exact hz4
      · rw [List.map_append]
        exact o4
  · rw [List.length_map, List.take_of_length_le (Nat.le_refl _)] at i1
    have gl : EnvOk (F := FR K sc row ns) H3 σ' [some (Ev.v _ (.ref row)), none, none, none, none, some (Ev.d _ (.tup (rates.map dN))), some (Ev.d _ (.tup (above.map dO))), some (Ev.l _ (s.map dPt)), none, none, none, none] := g3.cv ⟨fun _ h => h, fun _ h => h, fun _ h => h, fun v e => by
      have e' : v = .ref a := e
      rw [e']
      exact o3.to, trivial⟩
    refine (?_ : Pds _ _ _) σ' H3 DE o3.r.1 gl (ff.r o3.r)
    refine pds_set (pd_pick sb (pd_cons (pd_var (i := 0) rfl) (pd_cons (pd_lst' (ds := [.str "free", .str "rooms"]) (pd_cons pd_str (pd_cons pd_str pd_nil)) rfl (by decide)) pd_nil)) (by simp) (by decide)) ?_
    refine pds_open (i := 9) rfl fun db hdb => ?_
    obtain ⟨rule, hrule, e⟩ : ∃ rule : Str, (rule = ("free" : Str) ∨ rule = ("rooms" : Str)) ∧ db = .str rule := by
      simp only [List.mem_cons, List.not_mem_nil, or_false] at hdb
      rcases hdb with e | e
      · exact ⟨_, .inl rfl, e⟩
      · exact ⟨_, .inr rfl, e⟩
    subst e
    have hP : PlL ⟨rates, above, s, rule⟩ := pl_ok hsz hct hl1 (fun r hr => by
      obtain ⟨k, hk⟩ := List.mem_iff_getElem?.mp hr
      exact hr1 k r hk) hl2 (fun i o h => hr2 i (some o) h o rfl) i1 i2 hrule
    refine pds_set (a := Ev.d _ (dS ⟨rates, above, s, rule⟩ [])) (pd_tup' (ds := [.tup (rates.map dN), .tup (above.map dO), .tup (s.map dPt), .str rule]) (pd_cons (pd_var (i := 5) rfl) (pd_cons (pd_var (i := 6) rfl) (pd_cons (pd_call' (pd_cons (pd_var (i := 7) rfl) pd_nil) pc_tupL) (pd_cons (pd_var (i := 9) rfl) pd_nil)))) rfl (by show 4 ≤ sizeLine; omega)) ?_
    have hwl := hP.wl
    refine pds_ret (pd_op' (pd_var (i := 10) rfl) (pd_tupx (ι := List (Option Nat)) (p := fun w => w ∈ wirs ⟨rates, above, s, rule⟩) (ds := fun w => [dW w]) (pd_cons (pd_pick sb (pd_cons (pd_var (i := 0) rfl) (pd_cons (pd_cl (pd_cons (pd_var (i := 10) rfl) pd_nil) (R_law_wirings.mk _ ⟨rates, above, s, rule⟩ [] hP.ok)) pd_nil)) (fun z => wirF_pos _ (List.map_eq_nil_iff.mp z)) (by simpa using hwl)) pd_nil) (fun H vs ⟨v0, w1, e0, ⟨d, hd, q0⟩, e1⟩ => ?_) (fun z _ => by show 1 ≤ sizeLine; omega)) (p2_exr fun w hw => p2_imp (p2_catT (ds := [.tup (rates.map dN), .tup (above.map dO), .tup (s.map dPt), .str rule]) (es := [dW w]) (by show 5 ≤ sizeLine; omega)) fun H v q => ⟨(⟨rates, above, s, rule⟩, w), ⟨hP, hw⟩, q⟩))
    have e1' : w1 = [] := e1
    subst e1' e0
    obtain ⟨w, hw, ew⟩ := List.mem_map.mp hd
    exact ⟨w, hw, v0, [], rfl, ew ▸ q0, rfl⟩
end
end Bf
/-! ### dict([(k, d[k]) for k in d if k != x]) -/
namespace Bf
open PySem PySem.Spec PyProof.Rows L2
theorem find_nd {ld : Ld} (hnd : (ld.map (·.1)).Nodup) {i : Nat} (hlt : i < ld.length) : ld.find? (fun p => decide (p.1 = ld[i].1)) = some ld[i] := by
  cases hf : ld.find? (fun p => decide (p.1 = ld[i].1)) with
  | none =>
    have := List.find?_eq_none.mp hf ld[i] (List.getElem_mem hlt)
    simp at this
  | some q =>
    have h1 := List.find?_some hf
    have h2 := List.mem_of_find?_eq_some hf
    obtain ⟨j, hj, hq2⟩ := List.getElem_of_mem h2
    have h1' : q.1 = ld[i].1 := of_decide_eq_true h1
    have hij : j = i := by
      have np := List.pairwise_iff_getElem.mp hnd
      rcases Nat.lt_trichotomy j i with z | z | z
      · have := np j i (by simpa using hj) (by simpa using hlt) z
        simp only [List.getElem_map] at this
        rw [hq2] at this
        exact absurd h1' this
      · exact z
      · have := np i j (by simpa using hlt) (by simpa using hj) z
        simp only [List.getElem_map] at this
        rw [hq2] at this
        exact absurd h1'.symm this
    subst hij
    rw [hq2]
theorem merge_kvL : ∀ (l acc : Ld), ((acc ++ l).map (·.1)).Nodup → mergeK (kvL acc) (kvL l) = kvL (acc ++ l)
  | [], acc, _ => by rw [List.append_nil]; rfl
  | p :: l, acc, h => by
    have e : mergeK (kvL acc) (kvL (p :: l)) = mergeK (putK (kvL acc) (.inr p.1) (.int (p.2 : Int))) (kvL l) := rfl
    have hn : p.1 ∉ acc.map (·.1) := fun z => by
      rw [List.map_append, List.nodup_append] at h
      exact h.2.2 p.1 z p.1 (by simp) rfl
    rw [e, kvL_put hn, merge_kvL l (acc ++ [p]) (by simpa using h)]
    simp
theorem nodup_filter {ld : Ld} {f : Str × Nat → Bool} (h : (ld.map (·.1)).Nodup) : ((ld.filter f).map (·.1)).Nodup := h.sublist (List.Sublist.map _ List.filter_sublist)
def spDictP (K : PySem.W.Frag) : List V → Hp → VK → Prop := fun xs H Q => ∃ (a : Addr) (ps : List Addr) (kvs : List (Key × V)), xs = [.ref a] ∧ SqL K H a (ps.map V.ref) ∧ Paired (fun p kv => SqT K H p [kV kv.1, kv.2]) ps kvs ∧
    ∀ p, H p = none → Q (.ref p) (upd H p (.dK (mergeK [] kvs)))
/-- what stands while the comprehension runs over the locked dict -/
def LkP (H : Hp) (d D0 : Addr) (od : Obj) (ld : Ld) (x : Str) (i : Nat) (H' : Hp) : Prop := (∀ a o, H a = some o → a ≠ d → H' a = some o) ∧ H' d = some (.frz od (.dK (kvL ld))) ∧
  ∃ ps : List Addr, H' D0 = some (.lst (ps.map V.ref)) ∧ Paired (fun p (kv : Key × V) => H' p = some (.tup [kV kv.1, kv.2])) ps (kvL ((ld.take i).filter fun q => decide (q.1 ≠ x))) ∧ ps.length ≤ i
theorem LkP.same {H : Hp} {d D0 : Addr} {od : Obj} {ld : Ld} {x : Str} {i : Nat} {H1 H2 : Hp} (h : LkP H d D0 od ld x i H1) (k : Same H1 H2) : LkP H d D0 od ld x i H2 := by
  obtain ⟨h1, h2, ps, h3, h4, h5⟩ := h
  exact ⟨fun a o e n => k _ _ (h1 a o e n), k _ _ h2, ps, k _ _ h3, h4.mono fun _ _ z => k _ _ z, h5⟩
theorem LkP.skip {H : Hp} {d D0 : Addr} {od : Obj} {ld : Ld} {x : Str} {i : Nat} {H1 : Hp} (h : LkP H d D0 od ld x i H1) (hlt : i < ld.length) (hq : ld[i].1 = x) : LkP H d D0 od ld x (i + 1) H1 := by
  obtain ⟨h1, h2, ps, h3, h4, h5⟩ := h
  refine ⟨h1, h2, ps, h3, ?_, by omega⟩
  rw [List.take_succ, List.getElem?_eq_getElem hlt]
  show Paired _ ps (kvL ((ld.take i ++ [ld[i]]).filter fun q => decide (q.1 ≠ x)))
  rw [List.filter_append]
  have e2 : [ld[i]].filter (fun q => decide (q.1 ≠ x)) = [] := by simp [hq]
  rw [e2, List.append_nil]
  exact h4
theorem LkP.add {H : Hp} {d D0 t : Addr} {od : Obj} {ld : Ld} {x : Str} {i : Nat} {H1 : Hp} (h : LkP H d D0 od ld x i H1) (hlt : i < ld.length) (hq : ld[i].1 ≠ x) (nH : H D0 = none) (neD : D0 ≠ d) (nt : H1 t = none) :
    ∃ acc, (upd H1 t (.tup [.str ld[i].1, .int (ld[i].2 : Int)])) D0 = some (.lst acc) ∧ acc.length ≤ i ∧ LkP H d D0 od ld x (i + 1) (upd (upd H1 t (.tup [.str ld[i].1, .int (ld[i].2 : Int)])) D0 (.lst (acc ++ [.ref t]))) := by
  obtain ⟨h1, h2, ps, h3, h4, h5⟩ := h
  have n1 : D0 ≠ t := fun z => by
    rw [z, nt] at h3
    cases h3
  have n2 : d ≠ t := fun z => by
    rw [z, nt] at h2
    cases h2
  refine ⟨ps.map V.ref, by rw [upd_ne n1]; exact h3, by rw [List.length_map]; exact h5, fun a o e n => ?_, ?_, ps ++ [t], ?_, ?_, by rw [List.length_append, List.length_singleton]; omega⟩
  · have e1 := h1 a o e n
    rw [upd_ne (ne_of_none e nH), upd_ne (ne_of_none e1 nt)]
    exact e1
  · rw [upd_ne (Ne.symm neD), upd_ne n2]
    exact h2
  · rw [upd_same, List.map_append]
    rfl
  · rw [List.take_succ, List.getElem?_eq_getElem hlt]
    show Paired _ (ps ++ [t]) (kvL ((ld.take i ++ [ld[i]]).filter fun q => decide (q.1 ≠ x)))
    rw [List.filter_append]
    have e2 : [ld[i]].filter (fun q => decide (q.1 ≠ x)) = [ld[i]] := by simp [hq]
    have e3 : ∀ l : Ld, kvL (l ++ [ld[i]]) = kvL l ++ [(Sum.inr ld[i].1, V.int (ld[i].2 : Int))] := fun l => by unfold kvL; rw [List.map_append]; rfl
    rw [e2, e3]
    refine Paired.snoc (h4.mono fun p kv z => ?_) ?_
    · have m1 : p ≠ D0 := fun y => by
        rw [y, h3] at z
        cases z
      have m2 : p ≠ t := fun y => by
        rw [y, nt] at z
        cases z
      rw [upd_ne m1, upd_ne m2]
      exact z
    · rw [upd_ne (Ne.symm n1), upd_same]
      rfl
theorem lock_pairs {K : PySem.W.Frag} {σ : L2.St} {H : Hp} {DE : Ends} {ld : Ld} {d sc : Addr} {A : Pl} {rest : List D} {spot : Nat} {p : Str × Str × Nat} {zs : List V} (h1 : σ[2]? = some (some (.ref sc))) (hsc : H sc = some (.tup zs)) (hz : zs[1]? = some (.ref d)) (hd : H d = some (.dK (kvL ld)))
    (g : EnvOk (F := FS) H σ [none, some (Ev.d FS (dS A rest)), none, none, none, some (Ev.d FS (.int (spot : Nat))), none, none, none, none, none, none, none, none, none, none, none]) (hr : ndDs rest = true) (hp : A.pts[spot]? = some p) (hnd : (ld.map (·.1)).Nodup) (hl : ld.length < 1000)
    (k : ∀ q H', Same H H' → H q = none → H' q = some (.dK (kvL (ld.filter fun q => decide (q.1 ≠ p.1)))) → DE.nx (σ.set 9 (some (.ref q))) H') :
    tLock (tAsg (tCB (spDictP K) (tCons (tLc (iKeys (tOp (rIxT K) (tVar 2) (tC (.int 1)))) (gName 16) (tTest (tOp rNe (tVar 16) (tOp (rIxT K) (tOp (rIxT K) (tOp (rIxT K) (tVar 1) (tC (.int 2))) (tVar 5)) (tC (.int 0))))) (tTup (tCons (tVar 16) (tCons (tDGet (tOp (rIxT K) (tVar 2) (tC (.int 1))) (tVar 16)) tNil))) [16]) tNil)) (gName 9)) DE σ H := by
  have hzz := sizeLine_eq
  have nsd : sc ≠ d := fun z => by
    rw [z, hd] at hsc
    cases hsc
  have td : ∀ (τ : L2.St) (H' : Hp) (Q : VK), τ[2]? = some (some (.ref sc)) → H' sc = some (.tup zs) → Q (.ref d) H' → tOp (rIxT K) (tVar 2) (tC (.int 1)) τ H' Q := fun τ H' Q t1 t2 q => ⟨.ref sc, t1, sc, zs, 1, .ref d, rfl, rfl, .inl (.inl t2), by
    show atI zs ((1 : Nat) : Int) = _
    rw [atI_nat]
    exact hz, q⟩
  refine ⟨d, .dK (kvL ld), hd, trivial, fun od => ?_⟩
  refine td σ _ _ h1 (by rw [upd_ne nsd]; exact hsc) ⟨d, od, rfl, .inl ⟨kvL ld, upd_same, fun D0 n0 => ?_⟩⟩
  have neD : D0 ≠ d := fun z => by
    rw [z, upd_same] at n0
    cases n0
  have nH : H D0 = none := by
    rw [upd_ne neD] at n0
    exact n0
  have lk : (kvL ld).length = ld.length := by simp [kvL]
  refine L2.lc_it (L2.walk_keys (d := d) (o := od) (kvs := kvL ld)) (Pv := LkP H d D0 od ld p.1) ⟨fun a o e n => by rw [upd_ne (ne_of_none e nH), upd_ne n]; exact e, by rw [upd_ne (Ne.symm neD), upd_same], [], upd_same, .nil, Nat.le_refl _⟩ (fun i H' _ z => z.2.1) (fun i x H1 H2 hlt L y => ?_) fun H' L => ?_
  · obtain ⟨eH, kk, v, hkv, ex⟩ := y
    subst eH
    rw [lk] at hlt
    rw [kvL_take hlt] at hkv
    cases hkv
    have ex' : x = .str ld[i].1 := ex
    subst ex'
    refine ⟨(wipe_set (List.mem_cons_self)).trans wipe_wipe, ?_⟩
    have pt : PrT H H2 := fun a o e im => L.1 a o e fun z => by
      rw [z, hd] at e
      cases e
      exact im
    have nS : ndD (dS A rest) = true := by
      show (ndDs (A.rates.map dN) && (ndDs (A.above.map dO) && (ndDs (A.pts.map dPt) && (true && ndDs rest)))) = true
      rw [ndDs_map (fun _ => rfl), ndDs_map ndD_dO, ndDs_map (fun _ => rfl), hr]
      rfl
    have g1 : EnvOk (F := FS) H2 (L2.wipe σ [16]) [none, some (Ev.d FS (dS A rest)), none, none, none, some (Ev.d FS (.int (spot : Nat))), none, none, none, none, none, none, none, none, none, none, none] := (g.wipe [16]).cv ⟨fun v h => Rep.prT pt nS h, fun v h => h, trivial⟩
    have g2 := EnvOk.set (i := 16) (e := Ev.d FS (.str ld[i].1)) g1 (v := .str ld[i].1) rfl
    have v1 : ((L2.wipe σ [16]).set 16 (some (.str ld[i].1)))[16]? = some (some (.str ld[i].1)) := List.getElem?_set_self (by rw [g1.1]; exact (by decide : 16 < 17))
    have v2 : ((L2.wipe σ [16]).set 16 (some (.str ld[i].1)))[2]? = some (some (.ref sc)) := by
      rw [List.getElem?_set_ne (by decide)]
      show (σ.set 16 none)[2]? = _
      rw [List.getElem?_set_ne (by decide)]
      exact h1
    have tst : PdT (F := FS) (([none, some (Ev.d FS (dS A rest)), none, none, none, some (Ev.d FS (.int (spot : Nat))), none, none, none, none, none, none, none, none, none, none, none] : Env' FS).set 16 (some (Ev.d FS (.str ld[i].1)))) (tTest (tOp rNe (tVar 16) (tOp (rIxT K) (tOp (rIxT K) (tOp (rIxT K) (tVar 1) (tC (.int 2))) (tVar 5)) (tC (.int 0))))) (!decide (ld[i].1 = p.1)) := pdt_test (pd_op' (pd_var (i := 16) rfl) (pS2x (k := spot) (p := p) (pd_var (i := 1) rfl) (pd_var (i := 5) rfl) hp) p2_neS)
    refine tst _ H2 _ trivial g2 fun H3 r3 => ?_
    have sm3 := FS_same r3
    have L3 := L.same sm3
    by_cases hq : ld[i].1 = p.1
    · rw [decide_eq_true hq, if_neg (by decide)]
      exact L3.skip hlt hq
    · rw [decide_eq_false hq, if_pos (by decide)]
      refine ⟨_, v1, td _ H3 _ v2 (L3.1 _ _ hsc nsd) ⟨_, v1, d, .int (ld[i].2 : Int), rfl, .inl ⟨kvL ld, .inr ld[i].1, .inr ⟨od, L3.2.1⟩, rfl, ?_⟩, by show 2 ≤ sizeLine; omega, fun t nt => ?_⟩⟩
      · rw [valV_kvL, find_nd hnd hlt]
        rfl
      · obtain ⟨acc, a1, a2, a3⟩ := L3.add hlt hq nH neD nt
        exact ⟨acc, a1, by omega, a3⟩
  · rw [lk] at L
    obtain ⟨c1, c2, ps, c3, c4, c5⟩ := L
    rw [List.take_of_length_le (Nat.le_refl _)] at c4
    refine ⟨D0, ps, _, rfl, SqL.of c3, c4.mono fun _ _ z => .inl (.inl z), fun q nq => ?_⟩
    have em : mergeK [] (kvL (ld.filter fun q => decide (q.1 ≠ p.1))) = kvL (ld.filter fun q => decide (q.1 ≠ p.1)) := merge_kvL _ [] (by simpa using nodup_filter hnd)
    rw [em]
    have ndq : q ≠ d := fun z => by
      rw [z, c2] at nq
      cases nq
    have nqH : H q = none := by
      cases e : H q with
      | none => rfl
      | some o =>
        rw [c1 _ _ e ndq] at nq
        cases nq
    refine ⟨by rw [upd_ne (Ne.symm ndq)]; exact c2, k q _ (fun a o e => ?_) nqH (by rw [upd_ne ndq, upd_same])⟩
    by_cases had : a = d
    · rw [had, upd_same]
      rw [had, hd] at e
      exact e
    · rw [upd_ne had, upd_ne (ne_of_none e nqH)]
      exact c1 _ _ e had
end Bf
/-! ### the law's own defs: a step -/
namespace Bf
open PySem PySem.Spec PyProof.Rows L2
structure FaW (P : Pl) (f : Fa) : Prop where
  ok : FaOk P f
  w : f.wi ∈ wirs P
structure ShW (P : Pl) (sh : Shelf) : Prop where
  kx : ∀ x ∈ sh.map (·.1), x = ("x" : Str) ∨ x = ("y" : Str)
  nd : (sh.map (·.1)).Nodup
  at_ : ∀ x f, getG sh x = some f → FaW P f
/-- what the law's own operations have besides -/
def OpL (P : Pl) (f : Fa) : Op → Prop
  | .keep x => x = ("x" : Str) ∨ x = ("y" : Str)
  | .fetch x => x = ("x" : Str) ∨ x = ("y" : Str)
  | .rewire x o => f.wi.set (idxOf P x) o ∈ wirs P
  | _ => True
theorem ShW.len {P : Pl} {sh : Shelf} (h : ShW P sh) : sh.length ≤ 2 := by
  have := List.Nodup.length_le_of_subset h.nd (show sh.map (·.1) ⊆ [("x" : Str), ("y" : Str)] from fun x hx => by
    rcases h.kx x hx with e | e
    · rw [e]; exact List.mem_cons_self
    · rw [e]; exact List.mem_cons_of_mem _ List.mem_cons_self)
  simpa using this
theorem xy_word {x : Str} (h : x = ("x" : Str) ∨ x = ("y" : Str)) : WordOk x := by
  rcases h with e | e
  · rw [e]
    unfold WordOk
    decide +kernel
  · rw [e]
    unfold WordOk
    decide +kernel
theorem set_rangeX {st : List Bool} {k : Nat} : (List.range st.length).map (fun i => !decide (isOn st i = decide (((i : Nat) : Int) = ((k : Nat) : Int)))) = st.set k (!isOn st k) := by
  refine List.ext_getElem? fun i => ?_
  rw [List.getElem?_map, List.getElem?_set]
  by_cases hi : i < st.length
  · rw [List.getElem?_range hi]
    show some (!decide (isOn st i = decide (((i : Nat) : Int) = ((k : Nat) : Int)))) = _
    by_cases e : k = i
    · subst e
      rw [if_pos rfl, if_pos hi, decide_eq_true rfl]
      cases isOn st k <;> rfl
    · rw [if_neg e]
      have e2 : decide (((i : Nat) : Int) = ((k : Nat) : Int)) = false := decide_eq_false (by omega)
      rw [e2, List.getElem?_eq_getElem hi]
      unfold isOn
      rw [List.getElem?_eq_getElem hi]
      cases st[i] <;> rfl
  · rw [List.getElem?_eq_none (by simp; omega), List.getElem?_eq_none (by omega)]
    by_cases e : k = i
    · rw [if_pos e, if_neg (by omega)]
      rfl
    · rw [if_neg e]
      rfl
theorem filter_range {α β : Type} {l : List α} {f : Nat → Bool} {g : Nat → β} {p : α → Bool} {q : α → β} (h : ∀ k x, l[k]? = some x → f k = p x ∧ g k = q x) : ((List.range l.length).filter f).map g = (l.filter p).map q := by
  have e1 : ((List.range l.length).filter f).map g = (((List.range l.length).map fun k => (f k, g k)).filter (·.1)).map (·.2) := by
    rw [List.filter_map, List.map_map]
    rfl
  have e2 : (l.filter p).map q = ((l.map fun x => (p x, q x)).filter (·.1)).map (·.2) := by
    rw [List.filter_map, List.map_map]
    rfl
  have e3 : (List.range l.length).map (fun k => (f k, g k)) = l.map fun x => (p x, q x) := map_range fun k x hx => by
    obtain ⟨a, b⟩ := h k x hx
    rw [a, b]
  rw [e1, e2, e3]
theorem lits_lives {P : Pl} {wi : List (Option Nat)} {st : List Bool} (hl : wi.length = P.pts.length) : ((lits P wi st).map fun k => (P.pts[k]?.map (·.1)).getD ("" : Str)) = lives P wi st := by
  unfold lits lives
  have hz : wi.length = (P.pts.zip wi).length := by rw [List.length_zip, hl, Nat.min_self]
  rw [hz]
  refine filter_range fun k q hq => ?_
  obtain ⟨h1, h2⟩ : P.pts[k]? = some q.1 ∧ wi[k]? = some q.2 := by
    rw [List.getElem?_zip_eq_some] at hq
    exact hq
  rw [h1, h2]
  exact ⟨rfl, rfl⟩
theorem idx_at {P : Pl} (h : P.Ok) {k : Nat} {p : Str × Str × Nat} (hp : P.pts[k]? = some p) : idxOf P p.1 = k := by
  obtain ⟨hk, e⟩ := List.getElem?_eq_some_iff.mp hp
  have hk' : k < (P.pts.map (·.1)).length := by rw [List.length_map]; exact hk
  have e2 : (P.pts.map (·.1))[k] = p.1 := by rw [List.getElem_map, e]
  unfold idxOf
  rw [← e2]
  exact List.Nodup.idxOf_getElem h.nd k hk'
inductive R_law_step (K : PySem.W.Frag) : (F : Fm) → List (Ev F) → Ev F → Prop
  | mk (sc row : Addr) (ns : List Int) (P : Pl) (rest : List D) (f : Fa) (sh : Shelf) (hP : PlL P) (hr : ndDs rest = true) (hf : FaW P f) (hs : ShW P sh) : R_law_step K (FR K sc row ns) [Ev.v _ (.ref row), Ev.d _ (dS P rest), Ev.d _ (dScn f sh)]
      (Ev.ex _ (fun o : Op => OpOk P f sh o ∧ OpL P f o) fun o => .tup [dOp o, dScn (stepO P f sh o).1 (stepO P f sh o).2.1, (stepO P f sh o).2.2])
theorem pds_threex {F : Fm} {Γ : Env' F} {K : PySem.W.Frag} {te : TE} {u : TS} {e : Ev F} {ι : Type} {p : ι → Prop} {d1 d2 d3 : ι → D} {i j l : Nat} (h : Pd Γ te (Ev.ex F p fun x => .tup [d1 x, d2 x, d3 x])) (h2 : ∀ x, p x → Pds (((Γ.set i (some (Ev.d F (d1 x)))).set j (some (Ev.d F (d2 x)))).set l (some (Ev.d F (d3 x)))) u e) :
    Pds Γ (tSeq (tAsg te (gTup K 3 (gCons (gName i) (gCons (gName j) (gCons (gName l) gNil))))) u) e := fun σ H D i0 g f => h σ H _ i0 g fun v H1 r ⟨x, hp, q⟩ => by
  obtain ⟨a, xs, e1, ha, q⟩ := Rep.seq q (rfl : TupOf (.tup [d1 x, d2 x, d3 x]) = some [d1 x, d2 x, d3 x]) K
  obtain ⟨y1, y2, y3, e3, q1, q2, q3⟩ := Reps.three q
  subst e3
  exact ⟨a, _, e1, ha, rfl, y1, _, rfl, y2, _, rfl, y3, _, rfl, rfl, h2 x hp _ H1 D r.1 (EnvOk.set (EnvOk.set (EnvOk.set (g.st i0 r) q1) q2) q3) (f.r r)⟩
/-- scene[:4], its place told -/
theorem slice4 {K : PySem.W.Frag} {σ : L2.St} {H : Hp} {Q : VK} {sc : Addr} {zs : List V} (h1 : σ[2]? = some (some (.ref sc))) (hsc : H sc = some (.tup zs)) (hz : zs.length = 5) (k : ∀ t, H t = none → Q (.ref t) (upd H t (.tup (zs.take 4)))) : tSl (rSlA K) (tVar 2) tNoPart (tPart (tC (.int 4))) σ H Q := by
  refine ⟨.ref sc, h1, ?_⟩
  refine ⟨4, rfl, sc, zs, rfl, .inl (.inl hsc), fun z => ?_, fun z p n => ?_⟩
  · have z2 := z.2
    rw [hz] at z2
    exact absurd z2 (by decide)
  · have e : cutV zs none (some 4) = zs.take 4 := by
      unfold cutV
      rw [hz]
      rfl
    rw [e]
    exact k p n
section
variable {F : Fm} {Γ : Env' F} {te : TE} {K : PySem.W.Frag} {f : Fa} {sh : Shelf}
theorem pc0 (h : Pd Γ te (Ev.d F (dScn f sh))) : Pd Γ (tOp (rIxT K) te (tC (.int 0))) (Ev.d F (dZ f.st)) := pd_op' h pd_int (p2_ixT (dt := dScn f sh) (d := dZ f.st) rfl rfl)
theorem pc1 (h : Pd Γ te (Ev.d F (dScn f sh))) : Pd Γ (tOp (rIxT K) te (tC (.int 1))) (Ev.d F (dLd f.ld)) := pd_op' h pd_int (p2_ixT (dt := dScn f sh) (d := dLd f.ld) rfl rfl)
theorem pc2 (h : Pd Γ te (Ev.d F (dScn f sh))) : Pd Γ (tOp (rIxT K) te (tC (.int 2))) (Ev.d F (.tup (f.wi.map dO))) := pd_op' h pd_int (p2_ixT (dt := dScn f sh) (d := .tup (f.wi.map dO)) rfl rfl)
theorem pc3 (h : Pd Γ te (Ev.d F (dScn f sh))) : Pd Γ (tOp (rIxT K) te (tC (.int 3))) (Ev.d F (.int (f.ct : Int))) := pd_op' h pd_int (p2_ixT (dt := dScn f sh) (d := .int (f.ct : Int)) rfl rfl)
theorem pc4 (h : Pd Γ te (Ev.d F (dScn f sh))) : Pd Γ (tOp (rIxT K) te (tC (.int 4))) (Ev.d F (dLSh sh)) := pd_op' h pd_int (p2_ixT (dt := dScn f sh) (d := dLSh sh) rfl rfl)
theorem pc_to4 (h : Pd Γ te (Ev.d F (dScn f sh))) : Pd Γ (tSl (rSlA K) te tNoPart (tPart (tC (.int 4)))) (Ev.d F (dLF f)) := pd_eq (pd_slT (ds := [dZ f.st, dLd f.ld, .tup (f.wi.map dO), .int (f.ct : Int), dLSh sh]) h pdo_none (pdo_some pd_int)) rfl
theorem pc_to2 (h : Pd Γ te (Ev.d F (dScn f sh))) : Pd Γ (tSl (rSlA K) te tNoPart (tPart (tC (.int 2)))) (Ev.d F (.tup [dZ f.st, dLd f.ld])) := pd_eq (pd_slT (ds := [dZ f.st, dLd f.ld, .tup (f.wi.map dO), .int (f.ct : Int), dLSh sh]) h pdo_none (pdo_some pd_int)) rfl
theorem pc_from3 (h : Pd Γ te (Ev.d F (dScn f sh))) : Pd Γ (tSl (rSlA K) te (tPart (tC (.int 3))) tNoPart) (Ev.d F (.tup [.int (f.ct : Int), dLSh sh])) := pd_eq (pd_slT (ds := [dZ f.st, dLd f.ld, .tup (f.wi.map dO), .int (f.ct : Int), dLSh sh]) h (pdo_some pd_int) pdo_none) rfl
end
end Bf
/-! ### the law's own defs: a step, walked -/
namespace Bf
open PySem PySem.Spec PyProof.Rows L2
theorem fit_n {α : Type} {l : List α} {n : Nat} (h : l.length ≤ n) (hn : n ≤ 1000) : l.length ≤ sizeLine := by
  have := sizeLine_eq
  omega
section
variable {P : Program} {w : World} {K : PySem.W.Frag} {mg : Str → Option Value} {base : Heap} {c : Ca}
theorem ok_law_step (T : Tx w K mg c) : Cl P w K mg base 7 "_law_step" (SpG (R_law_step K)) := by
  obtain ⟨f, hm, FF⟩ := T.f_law_step
  refine cl_of (fn_pure FF sclaw_step (fun F es e h => by cases h; rfl) (fun cdv A outer s H E hr => ⟨_, (pss_cons (ps_asg (pe_tup (pa_cons (pe_cl (ok_law_taken T) hr (by decide) (by rfl) (pa_cons (pv 0) (pa_cons pe_int pa_nil))) (pa_cons (pe_cl (ok_law_pick T) hr (by decide) (by rfl) (pa_cons (pv 0) (pa_cons (pe_lst (pa_cons pe_str (pa_cons pe_str pa_nil))) pa_nil))) (pa_cons (pe_cl (ok_law_taken T) hr (by decide) (by rfl) (pa_cons (pv 0) (pa_cons (pe_callB call_len_seq (by rfl) T.n_len (by decide +kernel) (pa_cons (pe_ix ix_tup (pv 1) pe_int (fun _ _ => rfl)) pa_nil)) pa_nil))) pa_nil)))) (pg_tup (by rfl) (pgs_cons (pg_name (i := 3) sclaw_step.nd rfl (Or.inl rfl)) (pgs_cons (pg_name (i := 4) sclaw_step.nd rfl (Or.inl rfl)) (pgs_cons (pg_name (i := 5) sclaw_step.nd rfl (Or.inr rfl)) pgs_nil))))) (pss_cons (ps_if (pt_cmpR op_lt (pv 3) pe_int (nomark _)) (pss_cons (ps_set (i := 6) sclaw_step.nd rfl (Or.inr rfl) (pe_cl (ok_law_taken T) hr (by decide) (by rfl) (pa_cons (pv 0) (pa_cons (pe_callB call_len_seq (by rfl) T.n_len (by decide +kernel) (pa_cons (pe_ix ix_tup (pv 1) pe_int (fun _ _ => rfl)) pa_nil)) pa_nil)))) (pss_cons (ps_set (i := 7) sclaw_step.nd rfl (Or.inl rfl) (pe_callTy call_tupleZ (by rfl) T.n_tuple (by decide +kernel) (pa_cons (pe_lcD (own := [("_law_k", 15)]) (by rfl) sclaw_step.nd (pi_range1 (by rfl) T.n_range (pa_cons (pe_callB call_len_seq (by rfl) T.n_len (by decide +kernel) (pa_cons (pe_ix ix_tup (pv 1) pe_int (fun _ _ => rfl)) pa_nil)) pa_nil)) (blkOk_by (own := [("_law_k", 15)]) (N := Nlaw_step) (sc := defScope slaw_step) (by decide +kernel)) (fun _ _ _ _ _ => (pg_name (i := 15) sclaw_step.nd rfl (Or.inl rfl))) (fun _ _ _ _ _ => pts_nil) (fun _ _ _ _ _ => (pe_cmpR op_ne (pe_ix ix_tup (pe_ix ix_tup (pv 2) pe_int (fun _ _ => rfl)) (pv 15) (fun _ _ => rfl)) (pe_cmpR op_eq (pv 15) (pv 6) (nomark _)) (nomark _)))) pa_nil))) (pss_one (ps_ret (pe_op op_catA (pe_tup (pa_cons (pe_tup (pa_cons pe_str (pa_cons (pv 6) pa_nil))) pa_nil)) (pe_cl (ok_law_run T) hr (by decide) (by rfl) (pa_cons (pv 1) (pa_cons (pv 2) (pa_cons (pv 7) (pa_cons (pe_ix ix_tup (pv 2) pe_int (fun _ _ => rfl)) pa_nil)))))))))) pss_nil) (pss_cons (ps_if (pt_cmpR op_lt (pv 3) pe_int (nomark _)) (pss_cons (ps_set (i := 8) sclaw_step.nd rfl (Or.inl rfl) (pe_cl (ok_law_pick T) hr (by decide) (by rfl) (pa_cons (pv 0) (pa_cons (pe_lst (pa_cons pe_int (pa_cons pe_int (pa_cons pe_int (pa_cons pe_int (pa_cons pe_int pa_nil)))))) pa_nil)))) (pss_cons (ps_lock (ps_set (i := 9) sclaw_step.nd rfl (Or.inl rfl) (pe_callTy (call_dictP (by rfl)) (by rfl) T.n_dict (by decide +kernel) (pa_cons (pe_lcD (own := [("_law_one", 16)]) (by rfl) sclaw_step.nd (pi_keys (pe_ix ix_tup (pv 2) pe_int (fun _ _ => rfl))) (blkOk_by (own := [("_law_one", 16)]) (N := Nlaw_step) (sc := defScope slaw_step) (by decide +kernel)) (fun _ _ _ _ _ => (pg_name (i := 16) sclaw_step.nd rfl (Or.inl rfl))) (fun _ _ _ _ _ => (pts_one (pt_cmpR op_ne (pv 16) (pe_ix ix_tup (pe_ix ix_tup (pe_ix ix_tup (pv 1) pe_int (fun _ _ => rfl)) (pv 5) (fun _ _ => rfl)) pe_int (fun _ _ => rfl)) (nomark _)))) (fun _ _ _ _ _ => (pe_tup (pa_cons (pv 16) (pa_cons (pe_dget (hu_of hr) (pe_ix ix_tup (pv 2) pe_int (fun _ _ => rfl)) (pv 16) (fun _ _ => rfl)) pa_nil))))) pa_nil)))) (pss_cons (ps_if (pt_cmpR op_gt (pv 8) pe_int (nomark _)) (pss_one (ps_dput (hu_of hr) (pv 9) (pe_ix ix_tup (pe_ix ix_tup (pe_ix ix_tup (pv 1) pe_int (fun _ _ => rfl)) (pv 5) (fun _ _ => rfl)) pe_int (fun _ _ => rfl)) (pv 8) rfl)) pss_nil) (pss_one (ps_ret (pe_op op_catA (pe_tup (pa_cons (pe_tup (pa_cons pe_str (pa_cons (pe_ix ix_tup (pe_ix ix_tup (pe_ix ix_tup (pv 1) pe_int (fun _ _ => rfl)) (pv 5) (fun _ _ => rfl)) pe_int (fun _ _ => rfl)) (pa_cons (pv 8) pa_nil)))) pa_nil)) (pe_cl (ok_law_run T) hr (by decide) (by rfl) (pa_cons (pv 1) (pa_cons (pv 2) (pa_cons (pe_ix ix_tup (pv 2) pe_int (fun _ _ => rfl)) (pa_cons (pv 9) pa_nil))))))))))) pss_nil) (pss_cons (ps_if (pt_cmpR op_eq (pv 3) pe_int (nomark _)) (pss_cons (ps_asg (pe_cl (ok_law_reset T) hr (by decide) (by rfl) (pa_cons (pv 1) (pa_cons (pv 2) pa_nil))) (pg_tup (by rfl) (pgs_cons (pg_name (i := 10) sclaw_step.nd rfl (Or.inl rfl)) (pgs_cons (pg_name (i := 11) sclaw_step.nd rfl (Or.inl rfl)) pgs_nil)))) (pss_one (ps_ret (pe_tup (pa_cons (pe_tup (pa_cons pe_str pa_nil)) (pa_cons (pv 10) (pa_cons (pv 11) pa_nil))))))) pss_nil) (pss_cons (ps_if (PW.pt (pw_and (pt_cmpR op_eq (pv 3) pe_int (nomark _)) (pw_and1 (pt_cmp (pc_din (hu_of hr) (pv 4) (pe_ix ix_tup (pv 2) pe_int (fun _ _ => rfl))) (by rfl))))) (pss_cons (ps_set (i := 10) sclaw_step.nd rfl (Or.inl rfl) (pe_op op_catA (pe_dget (hu_of hr) (pe_ix ix_tup (pv 2) pe_int (fun _ _ => rfl)) (pv 4) (fun _ _ => rfl)) (pe_tup (pa_cons (pe_ix ix_tup (pv 2) pe_int (fun _ _ => rfl)) pa_nil)))) (pss_cons (ps_set (i := 12) sclaw_step.nd rfl (Or.inl rfl) (pe_cl (ok_law_lit T) hr (by decide) (by rfl) (pa_cons (pv 1) (pa_cons (pe_ix ix_tup (pv 10) pe_int (fun _ _ => rfl)) (pa_cons (pe_ix ix_tup (pv 10) pe_int (fun _ _ => rfl)) pa_nil))))) (pss_one (ps_ret (pe_tup (pa_cons (pe_tup (pa_cons pe_str (pa_cons (pv 4) pa_nil))) (pa_cons (pv 10) (pa_cons (pe_callTy call_tuple_of (by rfl) T.n_tuple (by decide +kernel) (pa_cons (pe_lcD (own := [("_law_k", 15)]) (by rfl) sclaw_step.nd (pi_list (pv 12)) (blkOk_by (own := [("_law_k", 15)]) (N := Nlaw_step) (sc := defScope slaw_step) (by decide +kernel)) (fun _ _ _ _ _ => (pg_name (i := 15) sclaw_step.nd rfl (Or.inl rfl))) (fun _ _ _ _ _ => pts_nil) (fun _ _ _ _ _ => (pe_ix ix_tup (pe_ix ix_tup (pe_ix ix_tup (pv 1) pe_int (fun _ _ => rfl)) (pv 15) (fun _ _ => rfl)) pe_int (fun _ _ => rfl)))) pa_nil)) pa_nil)))))))) pss_nil) (pss_cons (ps_if (pt_cmpR op_eq (pv 3) pe_int (nomark _)) (pss_cons (ps_set (i := 13) sclaw_step.nd rfl (Or.inl rfl) (pe_callTy call_dictD (by rfl) T.n_dict (by decide +kernel) (pa_cons (pe_ix ix_tup (pv 2) pe_int (fun _ _ => rfl)) pa_nil))) (pss_cons (ps_dput (hu_of hr) (pv 13) (pv 4) (pe_slice sl_tupA (pv 2) po_none (po_some pe_int)) rfl) (pss_one (ps_ret (pe_tup (pa_cons (pe_tup (pa_cons pe_str (pa_cons (pv 4) pa_nil))) (pa_cons (pe_op op_catA (pe_slice sl_tupA (pv 2) po_none (po_some pe_int)) (pe_tup (pa_cons (pv 13) pa_nil))) (pa_cons (pe_cmp (pc_din (hu_of hr) (pv 4) (pe_ix ix_tup (pv 2) pe_int (fun _ _ => rfl))) (by rfl)) pa_nil)))))))) pss_nil) (pss_cons (ps_set (i := 14) sclaw_step.nd rfl (Or.inl rfl) (pe_cl (ok_law_pick T) hr (by decide) (by rfl) (pa_cons (pv 0) (pa_cons (pe_cl (ok_law_at T) hr (by decide) (by rfl) (pa_cons (pv 1) (pa_cons (pe_ix ix_tup (pv 2) pe_int (fun _ _ => rfl)) (pa_cons (pv 5) pa_nil)))) pa_nil)))) (pss_one (ps_ret (pe_tup (pa_cons (pe_tup (pa_cons pe_str (pa_cons (pe_ix ix_tup (pe_ix ix_tup (pe_ix ix_tup (pv 1) pe_int (fun _ _ => rfl)) (pv 5) (fun _ _ => rfl)) pe_int (fun _ _ => rfl)) (pa_cons (pe_ix ix_tup (pv 14) (pv 5) (fun _ _ => rfl)) pa_nil)))) (pa_cons (pe_op op_catA (pe_op op_catA (pe_slice sl_tupA (pv 2) po_none (po_some pe_int)) (pe_tup (pa_cons (pv 14) pa_nil))) (pe_slice sl_tupA (pv 2) (po_some pe_int) po_none)) (pa_cons (pe_ix ix_tup (pe_ix ix_tup (pv 2) pe_int (fun _ _ => rfl)) (pv 5) (fun _ _ => rfl)) pa_nil))))))))))))), fun F es e h => ?_⟩) (fun _ _ _ _ _ _ us hu => by obtain ⟨a, b, c, rfl⟩ := len3 hu; rfl)) hm FF
  cases h with
  | mk sc row ns P rest f sh hP hr hf hs =>
  have hz := sizeLine_eq
  have sb := Sub.refl (FR K sc row ns)
  have ok := hP.ok
  have hn5 := ok.n5
  have hn1 := ok.n1
  have hp5 := ok.p5
  have hp1 := ok.p1
  have hnn : P.n = P.rates.length := rfl
  have hst := hf.ok.st
  have hwi := hf.ok.wi
  have hsl := hs.len
  have hll : f.ld.length < 1000 := by
    have := List.Nodup.length_le_of_subset hf.ok.ldn (show f.ld.map (·.1) ⊆ P.pts.map (·.1) from hf.ok.ldk)
    rw [List.length_map, List.length_map] at this
    omega
  refine pds_threex (ι := Nat × Str × Nat) (p := fun z => z.1 < 8 ∧ (z.2.1 = ("x" : Str) ∨ z.2.1 = ("y" : Str)) ∧ z.2.2 < P.pts.length) (d1 := fun z => .int (z.1 : Nat)) (d2 := fun z => .str z.2.1) (d3 := fun z => .int (z.2.2 : Nat))
    (pd_tupx (ds := fun z : Nat × Str × Nat => [.int (z.1 : Nat), .str z.2.1, .int (z.2.2 : Nat)]) (pd_cons (pd_taken sb (many := 8) (pd_cons (pd_var (i := 0) rfl) (pd_cons pd_int pd_nil)) (by decide) (by decide)) (pd_cons (pd_pick sb (pd_cons (pd_var (i := 0) rfl) (pd_cons (pd_lst' (ds := [.str "x", .str "y"]) (pd_cons pd_str (pd_cons pd_str pd_nil)) rfl (by decide)) pd_nil)) (by simp) (by decide))
      (pd_cons (pd_taken sb (many := P.pts.length) (pd_cons (pd_var (i := 0) rfl) (pd_cons (pd_eq (e' := Ev.d _ (.int (P.pts.length : Nat))) (pd_call' (pd_cons (pS2 (pd_var (i := 1) rfl)) pd_nil) (pc_lenT rfl)) (by rw [List.length_map])) pd_nil)) (by omega) (by omega)) pd_nil))) (fun H vs ⟨v0, w1, e0, ⟨kd, hk, q0⟩, v1, w2, e1, ⟨d, hd, q1⟩, v2, w3, e2, ⟨sp, hsp, q2⟩, e3⟩ => ?_) (fun z _ => by show 3 ≤ sizeLine; omega)) fun z hzz => ?_
  · have e3' : w3 = [] := e3
    subst e3' e2 e1 e0
    simp only [List.mem_cons, List.not_mem_nil, or_false] at hd
    rcases hd with e | e <;> subst e
    · exact ⟨(kd, "x", sp), ⟨hk, .inl rfl, hsp⟩, v0, _, rfl, q0, v1, _, rfl, q1, v2, _, rfl, q2, rfl⟩
    · exact ⟨(kd, "y", sp), ⟨hk, .inr rfl, hsp⟩, v0, _, rfl, q0, v1, _, rfl, q1, v2, _, rfl, q2, rfl⟩
  obtain ⟨kd, x, spot⟩ := z
  obtain ⟨hkd, hx, hspot⟩ := hzz
  dsimp only at hkd hx hspot ⊢
  have hp : P.pts[spot]? = some P.pts[spot] := List.getElem?_eq_getElem hspot
  generalize P.pts[spot] = p at hp
  have hpm : p.1 ∈ P.pts.map (·.1) := List.mem_map.mpr ⟨p, List.mem_of_getElem? hp, rfl⟩
  have plen : ∀ {Γ : Env' (FR K sc row ns)}, Γ[1]? = some (some (Ev.d _ (dS P rest))) → Pd Γ (tCB (fun xs H Q => ∃ p ys, xs = [.ref p] ∧ (SqL K H p ys ∨ SqT K H p ys) ∧ Q (.int ys.length) H) (tCons (tOp (rIxT K) (tVar 1) (tC (.int 0))) tNil)) (Ev.d _ (.int (P.n : Nat))) := fun hg => pd_eq (pd_call' (pd_cons (pS0 (pd_var (i := 1) hg)) pd_nil) (pc_lenT rfl)) (by rw [List.length_map])
  have trl : ∀ st ld, ((trips P f.wi st ld).2.map dN).length ≤ sizeLine → True := fun _ _ _ => trivial
  refine pds_ifS (b := decide ((kd : Int) < 2)) (pdt_test (pd_op' (pd_var (i := 3) rfl) pd_int p2_I0b)) (fun _ => ?_) fun hk2 => pds_nextS ?_
  · -- flip
    refine pds_assoc (pds_set (pd_taken sb (many := P.n) (pd_cons (pd_var (i := 0) rfl) (pd_cons (plen rfl) pd_nil)) (by omega) (by omega)) ?_)
    refine pds_open (i := 6) rfl fun br hbr => ?_
    refine pds_assoc (pds_set (a := Ev.d _ (dZ (f.st.set br (!isOn f.st br)))) (pd_eq (pd_call' (pd_cons (pd_lc' (is := List.range P.n) (f := fun i => .int (i : Nat)) (d := fun i => .bl (!decide (isOn f.st i = decide (((i : Nat) : Int) = ((br : Nat) : Int))))) (pdj_rng1 (n := P.n) (plen rfl) (by omega)).i
      (fun j hj => lcb1 (j := 15) (vs := [15]) (List.mem_cons_self) pdt_yes fun _ => pd_op' (pd_op' (pc0 (pd_var (i := 2) rfl)) (pd_var (i := 15) rfl) (p2_ixN (i := j) rfl (on_get (by rw [hst]; exact List.mem_range.mp hj)))) (pd_op' (pd_var (i := 15) rfl) (pd_var (i := 6) rfl) p2_eqI) p2_neB) (by simp; omega)) pd_nil) pc_tupZ) ?_) ?_)
    · have e := set_rangeX (st := f.st) (k := br)
      unfold dZ
      rw [← e, List.map_map, hst]
      rfl
    · exact pds_retS (pd_toex (x := .flip br) (pd_op' (pd_tup' (ds := [dOp (.flip br)]) (pd_cons (pd_tup' (ds := [.str "flip", .int (br : Nat)]) (pd_cons pd_str (pd_cons (pd_var (i := 6) rfl) pd_nil)) rfl (by show 2 ≤ sizeLine; omega)) pd_nil) rfl (by show 1 ≤ sizeLine; omega)) (pd_cl (pd_cons (pd_var (i := 1) rfl) (pd_cons (pd_var (i := 2) rfl) (pd_cons (pd_var (i := 7) rfl) (pd_cons (pc1 (pd_var (i := 2) rfl)) pd_nil)))) (R_law_run.mk _ P rest f sh (f.st.set br (!isOn f.st br)) f.ld ok (by rw [List.length_set]; exact hst) hwi)) (p2_catT (ds := [dOp (.flip br)]) (es := [dScn (runF P f (f.st.set br (!isOn f.st br)) f.ld) sh, .tup ((trips P f.wi (f.st.set br (!isOn f.st br)) f.ld).2.map dN)]) (by show 3 ≤ sizeLine; omega))) ⟨hbr, trivial⟩)
  refine pds_ifS (b := decide ((kd : Int) < 5)) (pdt_test (pd_op' (pd_var (i := 3) rfl) pd_int p2_I0b)) (fun _ => ?_) fun hk5 => pds_nextS ?_
  · -- plug
    refine pds_assoc (pds_set (pd_pick sb (pd_cons (pd_var (i := 0) rfl) (pd_cons (pd_lst' (ds := [.int 0, .int 2, .int 4, .int 7, .int 11]) (pd_cons pd_int (pd_cons pd_int (pd_cons pd_int (pd_cons pd_int (pd_cons pd_int pd_nil))))) rfl (by decide)) pd_nil)) (by simp) (by decide)) ?_)
    refine pds_open (i := 8) rfl fun dl hdl => ?_
    obtain ⟨l, hl99, e⟩ : ∃ l : Nat, l ≤ 99 ∧ dl = .int (l : Nat) := by
      simp only [List.mem_cons, List.not_mem_nil, or_false] at hdl
      rcases hdl with e | e | e | e | e
      · exact ⟨0, by decide, e⟩
      · exact ⟨2, by decide, e⟩
      · exact ⟨4, by decide, e⟩
      · exact ⟨7, by decide, e⟩
      · exact ⟨11, by decide, e⟩
    subst e
    refine pds_assoc ?_
    intro σ H DE iH g ff
    obtain ⟨v2, hv2, q2⟩ := g.2 2 (Ev.d _ (dScn f sh)) rfl
    obtain ⟨a2, zs, e2, ha2, qz⟩ := id q2
    subst e2
    obtain ⟨z1, hz1, qz1⟩ := qz.get (i := 1) (d := dLd f.ld) rfl
    obtain ⟨dd, e1, hdd⟩ := rep_ld qz1
    subst e1
    have gS : EnvOk (F := FS) H σ [none, some (Ev.d FS (dS P rest)), none, none, none, some (Ev.d FS (.int (spot : Nat))), none, none, none, none, none, none, none, none, none, none, none] := g.cv ⟨fun _ h => h, fun _ h => h, trivial⟩
    refine lock_pairs (ld := f.ld) (A := P) (rest := rest) (spot := spot) (p := p) hv2 ha2 hz1 hdd gS hr hp hf.ok.ldn hll fun q H1 sm nq hq => ?_
    have iH1 : (FR K sc row ns).I H1 := (FR K sc row ns).same iH sm
    have main : ∀ H4, Same H H4 → Rep H4 (dLd (plugLd f.ld p.1 l)) (.ref q) → (tOp (rCatA K) (tTup (tCons (tTup (tCons (tC (.str "plug")) (tCons (tOp (rIxT K) (tOp (rIxT K) (tOp (rIxT K) (tVar 1) (tC (.int 2))) (tVar 5)) (tC (.int 0))) (tCons (tVar 8) tNil)))) tNil)) (tCl (SpG R_law_run) (tCons (tVar 1) (tCons (tVar 2) (tCons (tOp (rIxT K) (tVar 2) (tC (.int 0))) (tCons (tVar 9) tNil)))))) (σ.set 9 (some (.ref q))) H4 DE.rt := fun H4 sm4 q4 => by
      have r4 : (FR K sc row ns).R H H4 := Fm.ofSame iH sm4
      have g4 := EnvOk.set (i := 9) (e := Ev.d (FR K sc row ns) (dLd (plugLd f.ld p.1 l))) (g.st iH r4) q4
      refine (pd_toex (x := .plug p.1 l) (pd_op' (pd_tup' (ds := [dOp (.plug p.1 l)]) (pd_cons (pd_tup' (ds := [.str "plug", .str p.1, .int (l : Nat)]) (pd_cons pd_str (pd_cons (pS2x (k := spot) (p := p) (pd_var (i := 1) rfl) (pd_var (i := 5) rfl) hp) (pd_cons (pd_var (i := 8) rfl) pd_nil))) rfl (by show 3 ≤ sizeLine; omega)) pd_nil) rfl (by show 1 ≤ sizeLine; omega)) (pd_cl (pd_cons (pd_var (i := 1) rfl) (pd_cons (pd_var (i := 2) rfl) (pd_cons (pc0 (pd_var (i := 2) rfl)) (pd_cons (pd_var (i := 9) rfl) pd_nil)))) (R_law_run.mk _ P rest f sh f.st (plugLd f.ld p.1 l) ok hst hwi)) (p2_catT (ds := [dOp (.plug p.1 l)]) (es := [dScn (runF P f f.st (plugLd f.ld p.1 l)) sh, .tup ((trips P f.wi f.st (plugLd f.ld p.1 l)).2.map dN)]) (by show 3 ≤ sizeLine; omega))) ⟨⟨hpm, hl99⟩, trivial⟩) _ H4 _ r4.1 g4 fun v H5 r5 q5 => ff.1 v H5 (Fm.trans r4 r5) q5
    have gT : EnvOk (F := FS) H1 (σ.set 9 (some (.ref q))) [none, some (Ev.d FS (dS P rest)), none, none, none, some (Ev.d FS (.int (spot : Nat))), none, none, some (Ev.d FS (.int (l : Nat))), some (Ev.v FS (.ref q)), none, none, none, none, none, none, none] := EnvOk.set (i := 9) (e := Ev.v FS (.ref q)) ((g.st iH (Fm.ofSame iH sm)).cv (H' := H1) (Γ' := [none, some (Ev.d FS (dS P rest)), none, none, none, some (Ev.d FS (.int (spot : Nat))), none, none, some (Ev.d FS (.int (l : Nat))), none, none, none, none, none, none, none, none]) ⟨fun _ h => h, fun _ h => h, fun _ h => h, trivial⟩) rfl
    refine (pdt_test (pd_op' (pd_var (i := 8) rfl) pd_int p2_I0b)) _ H1 _ trivial gT fun H2 r2 => ?_
    have sm2 := FS_same r2
    have gT2 := gT.st (F := FS) trivial r2
    by_cases hl0 : 0 < l
    · rw [decide_eq_true (by omega : (l : Int) > 0), if_pos rfl]
      refine (pd_var (i := 8) (e := Ev.d FS (.int (l : Nat))) rfl) _ H2 _ trivial gT2 fun y H3 r3 q3 => ?_
      have ey : y = .int (l : Nat) := q3
      subst ey
      have sm3 := FS_same r3
      refine (pd_var (i := 9) (e := Ev.v FS (.ref q)) rfl) _ H3 _ trivial (gT2.st (F := FS) trivial r3) fun y H4 r4 q4 => ?_
      have ey : y = .ref q := q4
      subst ey
      have sm4 := FS_same r4
      refine (pS2x (F := FS) (k := spot) (p := p) (pd_var (i := 1) rfl) (pd_var (i := 5) rfl) hp) _ H4 _ trivial (gT2.st (F := FS) trivial (Fm.trans r3 r4)) fun y H5 r5 q5 => ?_
      have ey : y = .str p.1 := q5
      subst ey
      have sm5 := FS_same r5
      have hq5 := sm5 _ _ (sm4 _ _ (sm3 _ _ (sm2 _ _ hq)))
      have hfl : (f.ld.filter fun q => decide (q.1 ≠ p.1)).length < 1000 := Nat.lt_of_le_of_lt (List.length_filter_le _ _) hll
      refine ⟨q, _, rfl, DPut.k (k := .inr p.1) hq5 (by unfold kvL; rw [List.length_map]; omega), ?_⟩
      have e9 : putK (kvL (f.ld.filter fun q => decide (q.1 ≠ p.1))) (.inr p.1) (.int ((l : Nat) : Int)) = kvL (plugLd f.ld p.1 l) := by
        rw [kvL_put not_mem_filter]
        unfold plugLd
        rw [if_pos hl0]
      rw [e9]
      exact main _ (Same.mut (Same.trans sm (Same.trans sm2 (Same.trans sm3 (Same.trans sm4 sm5)))) nq) (rep_ld_of upd_same)
    · rw [decide_eq_false (by omega : ¬ (l : Int) > 0), if_neg Bool.false_ne_true]
      have e9 : plugLd f.ld p.1 l = f.ld.filter fun q => decide (q.1 ≠ p.1) := by
        unfold plugLd
        rw [if_neg hl0, List.append_nil]
      exact main H2 (Same.trans sm sm2) (by rw [e9]; exact rep_ld_of (sm2 _ _ hq))
  refine pds_ifS (b := decide ((kd : Int) = 5)) (pdt_test (pd_op' (pd_var (i := 3) rfl) pd_int p2_eqI)) (fun _ => ?_) fun hk5' => pds_nextS ?_
  · -- reset
    refine pds_assoc (pds_two (d1 := dScn (resetL P f) sh) (d2 := .int (ons (resetL P f).st : Nat)) (pd_cl (pd_cons (pd_var (i := 1) rfl) (pd_cons (pd_var (i := 2) rfl) pd_nil)) (R_law_reset.mk _ P rest f sh ok hst hwi)) rfl ?_)
    refine pds_retS (pd_toex (x := .reset) (pd_eq (pd_tup' (ds := [dOp .reset, dScn (resetL P f) sh, .int (ons (resetL P f).st : Nat)]) (pd_cons (pd_tup' (ds := [.str "reset"]) (pd_cons pd_str pd_nil) rfl (by show 1 ≤ sizeLine; omega)) (pd_cons (pd_var (i := 10) rfl) (pd_cons (pd_var (i := 11) rfl) pd_nil))) rfl (by show 3 ≤ sizeLine; omega)) ?_) ⟨trivial, trivial⟩)
    rw [reset_eq]
    rfl
  refine pds_ifS (b := decide ((kd : Int) = 6) && (getG sh x).isSome) (pdt_and (pdt_test (pd_op' (pd_var (i := 3) rfl) pd_int p2_eqI)) fun _ => pdt_val (pd_din (enc := dLF) (l := sh) (pd_var (i := 4) rfl) (pc4 (pd_var (i := 2) rfl)))) (fun hk6 => ?_) fun _ => pds_nextS ?_
  · -- fetch
    rw [Bool.and_eq_true] at hk6
    obtain ⟨g, hg⟩ := Option.isSome_iff_exists.mp hk6.2
    have hgW := hs.at_ x g hg
    refine pds_assoc (pds_set (a := Ev.d _ (dScn g sh)) (pd_op' (pd_dget (enc := dLF) (l := sh) (pc4 (pd_var (i := 2) rfl)) (pd_var (i := 4) rfl) hg) (pd_tup' (ds := [dLSh sh]) (pd_cons (pc4 (pd_var (i := 2) rfl)) pd_nil) rfl (by show 1 ≤ sizeLine; omega)) (p2_catT (ds := [dZ g.st, dLd g.ld, .tup (g.wi.map dO), .int (g.ct : Int)]) (es := [dLSh sh]) (by show 5 ≤ sizeLine; omega))) ?_)
    have hgl := hgW.ok.wi.len
    refine pds_assoc (pds_set (pd_cl (pd_cons (pd_var (i := 1) rfl) (pd_cons (pc2 (pd_var (i := 10) rfl)) (pd_cons (pc0 (pd_var (i := 10) rfl)) pd_nil))) (R_law_lit.mk _ P rest (dZ g.st) g.wi g.st ok rfl hgW.ok.st hgW.ok.wi.lt (by omega))) ?_)
    refine pds_retS (pd_toex (x := .fetch x) (pd_eq (pd_tup' (ds := [dOp (.fetch x), dScn g sh, .tup ((lits P g.wi g.st).map fun k => .str ((P.pts[k]?.map (·.1)).getD ("" : Str)))]) (pd_cons (pd_tup' (ds := [.str "fetch", .str x]) (pd_cons pd_str (pd_cons (pd_var (i := 4) rfl) pd_nil)) rfl (by show 2 ≤ sizeLine; omega)) (pd_cons (pd_var (i := 10) rfl) (pd_cons (pd_call' (pd_cons (pd_lc' (is := lits P g.wi g.st) (f := dN) (d := fun k => .str ((P.pts[k]?.map (·.1)).getD ("" : Str))) (pdi_list (pd_var (i := 12) rfl)) (fun k hk => lcb1 (j := 15) (vs := [15]) (List.mem_cons_self) pdt_yes fun _ => ?_) ?_) pd_nil) pc_tupL) pd_nil))) rfl (by show 3 ≤ sizeLine; omega)) ?_) ⟨hk6.2, hx⟩)
    · have hkl : k < g.wi.length := List.mem_range.mp (List.mem_filter.mp hk).1
      have hkp : P.pts[k]? = some (P.pts[k]'(by omega)) := List.getElem?_eq_getElem (by omega)
      rw [hkp]
      exact pS2x (k := k) (p := P.pts[k]'(by omega)) (pd_var (i := 1) rfl) (pd_var (i := 15) rfl) hkp
    · have : (lits P g.wi g.st).length ≤ g.wi.length := by
        unfold lits
        refine Nat.le_trans (List.length_filter_le _ _) ?_
        simp
      omega
    · have e1 := lits_lives (P := P) (wi := g.wi) (st := g.st) hgl
      have e2 : stepO P f sh (.fetch x) = (g, sh, .tup ((lives P g.wi g.st).map .str)) := by
        show ((getG sh x).getD f, sh, D.tup ((lives P ((getG sh x).getD f).wi ((getG sh x).getD f).st).map .str)) = _
        rw [hg]
        rfl
      rw [e2, ← e1, List.map_map]
      rfl
  refine pds_ifS (b := decide ((kd : Int) = 6)) (pdt_test (pd_op' (pd_var (i := 3) rfl) pd_int p2_eqI)) (fun _ => ?_) fun _ => pds_nextS ?_
  · -- keep_as
    refine pds_assoc ?_
    intro σ H DE iH g ff
    refine seq_asg ?_
    refine (pc4 (F := FR K sc row ns) (f := f) (sh := sh) (pd_var (i := 2) rfl)) σ H _ iH g fun v H1 r1 q1 => ?_
    obtain ⟨a, kvs, e, ha, kr⟩ := rep_g q1
    subst e
    refine ⟨a, kvs, rfl, .inl ha, fun q nq => ?_⟩
    have g1 := g.st iH r1
    obtain ⟨v2, hv2, q2⟩ := g1.2 2 (Ev.d _ (dScn f sh)) rfl
    obtain ⟨a2, zs, e2, ha2, qz⟩ := id q2
    subst e2
    obtain ⟨v4, hv4, q4⟩ := g1.2 4 (Ev.d _ (.str x)) rfl
    have e4 : v4 = .str x := q4
    subst e4
    have hzl : zs.length = 5 := qz.length
    have hσ : σ.length = 17 := g.1
    refine slice4 (sc := a2) (zs := zs) (by rw [List.getElem?_set_ne (by decide)]; exact hv2) (by rw [upd_ne (ne_of_none ha2 nq)]; exact ha2) hzl fun t nt => ?_
    have ntq : t ≠ q := fun z => by
      rw [z, upd_same] at nt
      cases nt
    have nt1 : H1 t = none := by
      rw [upd_ne ntq] at nt
      exact nt
    have hkl : kvs.length = sh.length := kr.len
    refine ⟨.ref q, by rw [List.getElem?_set_self (by rw [hσ]; decide)], .str x, by rw [List.getElem?_set_ne (by decide)]; exact hv4, q, _, rfl, DPut.k (k := .inr x) (kvs := kvs) (by rw [upd_ne (Ne.symm ntq), upd_same]) (by omega), ?_⟩
    have smx : Same H1 (upd (upd H1 q (.dK kvs)) t (.tup (zs.take 4))) := Same.mut (Same.new nq) nt1
    have sm4 : Same H1 (upd (upd (upd H1 q (.dK kvs)) t (.tup (zs.take 4))) q (.dK (putK kvs (.inr x) (.ref t)))) := Same.mut smx nq
    have q5 : Rep (upd (upd (upd H1 q (.dK kvs)) t (.tup (zs.take 4))) q (.dK (putK kvs (.inr x) (.ref t)))) (dLF f) (.ref t) := Rep.tup (by rw [upd_ne ntq, upd_same]) (Reps.take 4 (Reps.same sm4 qz))
    have q6 : Rep (upd (upd (upd H1 q (.dK kvs)) t (.tup (zs.take 4))) q (.dK (putK kvs (.inr x) (.ref t)))) (dLSh (putG sh x f)) (.ref q) := rep_gof upd_same ((kr.pr (Same.pr sm4)).put q5)
    generalize upd (upd (upd H1 q (.dK kvs)) t (.tup (zs.take 4))) q (.dK (putK kvs (.inr x) (.ref t))) = H4 at sm4 q6
    have r4 : (FR K sc row ns).R H1 H4 := Fm.ofSame r1.1 sm4
    have g4 := EnvOk.set (i := 13) (e := Ev.d (FR K sc row ns) (dLSh (putG sh x f))) (g1.st r1.1 r4) q6
    refine (pd_toex (x := .keep x) (pd_tup' (ds := [dOp (.keep x), dScn f (putG sh x f), .bl (getG sh x).isSome]) (pd_cons (pd_tup' (ds := [.str "keep_as", .str x]) (pd_cons pd_str (pd_cons (pd_var (i := 4) rfl) pd_nil)) rfl (by show 2 ≤ sizeLine; omega)) (pd_cons (pd_op' (pc_to4 (pd_var (i := 2) rfl)) (pd_tup' (ds := [dLSh (putG sh x f)]) (pd_cons (pd_var (i := 13) rfl) pd_nil) rfl (by show 1 ≤ sizeLine; omega)) (p2_catT (ds := [dZ f.st, dLd f.ld, .tup (f.wi.map dO), .int (f.ct : Int)]) (es := [dLSh (putG sh x f)]) (by show 5 ≤ sizeLine; omega))) (pd_cons (pd_din (enc := dLF) (l := sh) (pd_var (i := 4) rfl) (pc4 (pd_var (i := 2) rfl))) pd_nil))) rfl (by show 3 ≤ sizeLine; omega)) ⟨xy_word hx, hx⟩) _ H4 _ r4.1 g4 fun v H5 r5 q5 => ff.1 v H5 (Fm.trans r1 (Fm.trans r4 r5)) q5
  -- rewire
  have hatl : (atW P f.wi spot).length < 1000 := Nat.lt_of_le_of_lt (List.length_filter_le _ _) hP.wl
  have hwl := hwi.len
  refine pds_set (pd_pick sb (pd_cons (pd_var (i := 0) rfl) (pd_cons (pd_cl (pd_cons (pd_var (i := 1) rfl) (pd_cons (pc2 (pd_var (i := 2) rfl)) (pd_cons (pd_var (i := 5) rfl) pd_nil))) (R_law_at.mk _ P rest f.wi spot ok)) pd_nil)) (fun z => by
    have m := at_self (spot := spot) hf.w
    rw [List.map_eq_nil_iff.mp z] at m
    cases m) (by simpa using hatl)) ?_
  refine pds_open (i := 14) rfl fun d hd => ?_
  obtain ⟨w, hw, ew⟩ := List.mem_map.mp hd
  subst ew
  obtain ⟨hw1, hw2⟩ := at_set hwl hspot hw
  have hwk := wirs_ok ok hw1
  have hwlen : w.length = P.pts.length := hwk.len
  have hws : w[spot]? = some (w[spot]?.getD none) := by
    rw [List.getElem?_eq_getElem (by omega)]
    rfl
  have hfs : f.wi[spot]? = some (f.wi[spot]?.getD none) := by
    rw [List.getElem?_eq_getElem (by omega)]
    rfl
  have hix : idxOf P p.1 = spot := idx_at ok hp
  have hset : f.wi.set (idxOf P p.1) (w[spot]?.getD none) = w := by rw [hix]; exact hw2.symm
  refine pds_ret (pd_toex (x := .rewire p.1 (w[spot]?.getD none)) (pd_eq (pd_tup' (ds := [dOp (.rewire p.1 (w[spot]?.getD none)), .tup (([dZ f.st, dLd f.ld] ++ [dW w]) ++ [.int (f.ct : Int), dLSh sh]), dO (f.wi[spot]?.getD none)])
    (pd_cons (pd_tup' (ds := [.str "rewire", .str p.1, dO (w[spot]?.getD none)]) (pd_cons pd_str (pd_cons (pS2x (k := spot) (p := p) (pd_var (i := 1) rfl) (pd_var (i := 5) rfl) hp) (pd_cons (pd_op' (pd_var (i := 14) (e := Ev.d _ (.tup (w.map dO))) rfl) (pd_var (i := 5) rfl) (p2_ixN (i := spot) rfl (by rw [List.getElem?_map, hws]; rfl))) pd_nil))) rfl (by show 3 ≤ sizeLine; omega))
      (pd_cons (pd_op' (pd_op' (pc_to2 (pd_var (i := 2) rfl)) (pd_tup' (ds := [dW w]) (pd_cons (pd_var (i := 14) rfl) pd_nil) rfl (by show 1 ≤ sizeLine; omega)) (p2_catT (ds := [dZ f.st, dLd f.ld]) (es := [dW w]) (by show 3 ≤ sizeLine; omega))) (pc_from3 (pd_var (i := 2) rfl)) (p2_catT (ds := [dZ f.st, dLd f.ld] ++ [dW w]) (es := [.int (f.ct : Int), dLSh sh]) (by show 5 ≤ sizeLine; omega)))
        (pd_cons (pd_op' (pc2 (pd_var (i := 2) rfl)) (pd_var (i := 5) rfl) (p2_ixN (i := spot) rfl (by rw [List.getElem?_map, hfs]; rfl))) pd_nil))) rfl (by show 3 ≤ sizeLine; omega)) ?_) ⟨⟨hpm, fun b e => hwk.lt spot b (by rw [hws, e]), by rw [hset]; exact hwk⟩, by show f.wi.set (idxOf P p.1) (w[spot]?.getD none) ∈ wirs P; rw [hset]; exact hw1⟩)
  have e2 : stepO P f sh (.rewire p.1 (w[spot]?.getD none)) = (⟨f.st, f.ld, w, f.ct⟩, sh, dO (f.wi[spot]?.getD none)) := by
    show ((⟨f.st, f.ld, f.wi.set (idxOf P p.1) (w[spot]?.getD none), f.ct⟩ : Fa), sh, dO ((f.wi[idxOf P p.1]?).getD none)) = _
    rw [hset, hix]
  rw [e2]
  rfl
end
end Bf
/-! ### the law's own defs: whether a box shows a scene -/
namespace Bf
open PySem PySem.Spec PyProof.Rows L2
def leS (a b : Str) : Prop := a.cps.toList ≤ b.cps.toList
theorem rising_pw : ∀ (l : List Str) (p : Str), risingS p l = true → (∀ x ∈ l, leS p x) ∧ l.Pairwise leS
  | [], p, _ => ⟨fun _ z => (nomatch z), .nil⟩
  | x :: r, p, h => by
    have h' : (!ltCps x.cps.toList p.cps.toList && risingS x r) = true := h
    rw [Bool.and_eq_true] at h'
    obtain ⟨h1, h2⟩ := h'
    obtain ⟨i1, i2⟩ := rising_pw r x h2
    have h3 : leS p x := by
      rw [ltCps_eq] at h1
      have : ¬ x.cps.toList < p.cps.toList := by simpa using h1
      exact List.not_lt.mp this
    refine ⟨fun y hy => ?_, List.pairwise_cons.mpr ⟨i1, i2⟩⟩
    rcases List.mem_cons.mp hy with e | e
    · rw [e]
      exact h3
    · exact List.le_trans h3 (i1 y e)
theorem srt_pw {l : List Str} (h : sortedS l = true) : l.Pairwise leS := by
  cases l with
  | nil => exact .nil
  | cons x r =>
    obtain ⟨a, b⟩ := rising_pw r x h
    exact List.pairwise_cons.mpr ⟨a, b⟩
theorem leS_anti {a b : Str} (h1 : leS a b) (h2 : leS b a) : a = b := by
  have e : a.cps.toList = b.cps.toList := List.le_antisymm h1 h2
  cases a
  cases b
  congr
  exact Array.toList_inj.mp e
theorem pw_uniq {l m : List Str} (h1 : l.Pairwise leS) (h2 : m.Pairwise leS) (hp : l.Perm m) : l = m := List.Perm.eq_of_pairwise (fun _ _ _ _ => leS_anti) h1 h2 hp
theorem adj_pw : ∀ {l : List Str}, (∀ (i : Nat) a b, l[i]? = some a → l[i + 1]? = some b → a.cps.toList < b.cps.toList) → l.Pairwise fun a b => a.cps.toList < b.cps.toList
  | [], _ => .nil
  | a :: l, h => by
    have ih := adj_pw (l := l) fun i x y hx hy => h (i + 1) x y (by simpa using hx) (by simpa using hy)
    refine List.pairwise_cons.mpr ⟨fun x hx => ?_, ih⟩
    cases l with
    | nil => cases hx
    | cons b l =>
      have hab := h 0 a b rfl rfl
      rcases List.mem_cons.mp hx with e | e
      · rw [e]
        exact hab
      · exact List.lt_trans hab ((List.pairwise_cons.mp ih).1 x e)
theorem names_pw {P : Pl} (h : P.Ok) : (P.pts.map (·.1)).Pairwise leS := by
  refine (adj_pw fun i a b ha hb => ?_).imp fun z => List.le_of_lt z
  rw [List.getElem?_map] at ha hb
  obtain ⟨p, hp, ep⟩ := Option.map_eq_some_iff.mp ha
  obtain ⟨q, hq, eq⟩ := Option.map_eq_some_iff.mp hb
  rw [← ep, ← eq]
  exact h.ps i p q hp hq
theorem getG_mem {α : Type} {l : List (Str × α)} {x : Str} : (getG l x).isSome = true ↔ x ∈ l.map (·.1) := by
  unfold getG
  rw [Option.isSome_map, List.find?_isSome, List.mem_map]
  constructor
  · rintro ⟨p, hp, e⟩
    exact ⟨p, hp, of_decide_eq_true e⟩
  · rintro ⟨p, hp, e⟩
    exact ⟨p, hp, decide_eq_true e⟩
theorem ldNow_keys {P : Pl} {ld : Ld} : (ldNow P ld).map (·.1) = (P.pts.map (·.1)).filter fun x => (getG ld x).isSome := by
  unfold ldNow
  rw [List.map_map]
  exact List.map_id' _
theorem ldNow_perm {P : Pl} (h : P.Ok) {ld : Ld} (hn : (ld.map (·.1)).Nodup) (hk : ∀ x ∈ ld.map (·.1), x ∈ P.pts.map (·.1)) : ((ldNow P ld).map (·.1)).Perm (ld.map (·.1)) := by
  rw [ldNow_keys]
  refine (List.perm_ext_iff_of_nodup (h.nd.sublist List.filter_sublist) hn).mpr fun x => ?_
  rw [List.mem_filter, getG_mem]
  exact ⟨fun z => z.2, fun z => ⟨hk x z, z⟩⟩
theorem ldNow_pw {P : Pl} (h : P.Ok) {ld : Ld} : ((ldNow P ld).map (·.1)).Pairwise leS := by
  rw [ldNow_keys]
  exact (names_pw h).sublist List.filter_sublist
theorem n5_str : ∀ x ∈ names5, PyData.strOk x = true := by decide +kernel
theorem xy_str {x : Str} (h : x = ("x" : Str) ∨ x = ("y" : Str)) : PyData.strOk x = true := by
  rcases h with e | e
  · rw [e]
    decide +kernel
  · rw [e]
    decide +kernel
theorem fit_strs {l : List Str} (h : ∀ x ∈ l, PyData.strOk x = true) : FitDs (l.map .str) := ⟨oks_map h, deps_map fun _ _ => Nat.zero_le _⟩
section
variable {F : Fm} {K : PySem.W.Frag} {a e : Ev F} {r : R2} {ks : List Str}
theorem p2_neLd {l m : Ld} (h1 : l.length = m.length) (h2 : ∀ p ∈ kvL l, valV (kvL m) p.1 = some p.2) : Pd2 F rNeDA (Ev.d F (dLd l)) (Ev.d F (dLd m)) (Ev.d F (.bl false)) := fun x y H Q i r1 r2 k => by
  obtain ⟨b, e1, hb⟩ := rep_ld r1
  obtain ⟨d, e2, hd⟩ := rep_ld r2
  refine ⟨b, d, _, _, e1, e2, hb, hd, by unfold kvL; rw [List.length_map, List.length_map]; exact h1, fun p hp => ⟨h2 p hp, ?_⟩, k _ H (F.refl i) rfl⟩
  obtain ⟨q, _, eq⟩ := List.mem_map.mp hp
  rw [← eq]
  rfl
theorem p2_srtR (h : ∀ ys : List Str, ys.Perm ks → sortedS ys = true → Pd2 F r a (Ev.l F (ys.map .str)) e) : Pd2 F r a (Ev.srt F ks) e := fun x y H Q i q1 ⟨ys, h1, h2, q2⟩ k => h ys h1 h2 x y H Q i q1 q2 k
theorem p2_srtL {b : Ev F} (h : ∀ ys : List Str, ys.Perm ks → sortedS ys = true → Pd2 F r (Ev.l F (ys.map .str)) b e) : Pd2 F r (Ev.srt F ks) b e := fun x y H Q i ⟨ys, h1, h2, q1⟩ q2 k => h ys h1 h2 x y H Q i q1 q2 k
theorem pc_listD {α : Type} {enc : α → D} {l : List (Str × α)} : PdC F (fun xs H Q => ∃ (a : Addr) (kvs : List (Key × V)), xs = [.ref a] ∧ Rd H a (.dK kvs) ∧ ∀ p, H p = none → Q (.ref p) (upd H p (.lst (kvs.map fun kv => kV kv.1)))) [Ev.d F (dG enc l)] (Ev.l F ((l.map (·.1)).map .str)) := fun vs H Q i ⟨v, ws, e, h1, h2⟩ k => by
  have e2 : ws = [] := h2
  subst e2
  obtain ⟨a, kvs, e3, ha, kr⟩ := rep_g h1
  subst e3
  refine ⟨a, kvs, e, .inl ha, fun p n => ?_⟩
  have sm : Same H (upd H p (.lst (kvs.map fun kv => kV kv.1))) := Same.new n
  refine k _ _ (Fm.ofSame i sm) ⟨p, _, rfl, Fm.nA i n, upd_same, ?_⟩
  have e4 : (kvs.map fun kv => kV kv.1) = (l.map (·.1)).map V.str := by
    have h := kr.to.1
    have : (kvs.map fun kv => kV kv.1) = (kvs.map (·.1)).map kV := by rw [List.map_map]; rfl
    rw [this, h, List.map_map]
    rfl
  rw [e4]
  exact Reps.of_strs
end
theorem valV_now {P : Pl} {ld : Ld} : ∀ p ∈ kvL (ldNow P ld), valV (kvL ld) p.1 = some p.2 := fun p hp => by
  unfold kvL ldNow at hp
  rw [List.map_map] at hp
  obtain ⟨x, hx, e⟩ := List.mem_map.mp hp
  have hs := (List.mem_filter.mp hx).2
  rw [← e]
  show valV (kvL ld) (.inr x) = some (.int (ldGet ld x : Nat))
  rw [valV_kvL]
  unfold getG at hs
  rw [Option.isSome_map] at hs
  obtain ⟨q, hq⟩ := Option.isSome_iff_exists.mp hs
  unfold ldGet
  rw [hq]
  rfl
inductive R_law_shows (c : Ca) : (F : Fm) → List (Ev F) → Ev F → Prop
  | mk (b s : Addr) (P : Pl) (S : Sc) (hP : PlL P) (hf : FaW P S.fa) (hs : ShW P S.sh) : R_law_shows c FS [bxE c b s P (dSc S), Ev.d FS (dScn S.fa S.sh)] (Ev.d FS (.bl true))
theorem fit_st {st : List Bool} : FitD (.tup (st.map .bl)) ∧ FitD (dZ st) := by
  have h1 : okDs (st.map D.bl) = true := oks_map fun _ _ => rfl
  have h2 : deps (st.map D.bl) ≤ 0 := deps_map (n := 0) fun _ _ => Nat.le_refl _
  exact ⟨⟨h1, by show deps (st.map D.bl) + 1 ≤ 60; omega⟩, ⟨h1, by show deps (st.map D.bl) + 1 ≤ 60; omega⟩⟩
section
variable {P : Program} {w : World} {K : PySem.W.Frag} {mg : Str → Option Value} {base : Heap} {c : Ca}
theorem ok_law_shows (T : Tx w K mg c) : Cl P w K mg base 5 "_law_shows" (SpG (R_law_shows c)) := by
  obtain ⟨f, hm, FF⟩ := T.f_law_shows
  refine cl_of (fn_pure FF sclaw_shows (fun F es e h => by cases h; rfl) (fun cdv A outer s H E hr => ⟨_, (pss_cons (ps_if (PW.pt (pw_or (pt_cmpR (op_neD hr.units) (pe_bp T.c_Box (ok_b_state_now T) hr (by decide) (pv 0)) (pe_ix ix_tup (pv 1) pe_int (fun _ _ => rfl)) (nomark _)) (pw_or (pt_cmpR (op_ne_dictA hr.units0) (pe_bp T.c_Box (ok_b_loads_now T) hr (by decide) (pv 0)) (pe_ix ix_tup (pv 1) pe_int (fun _ _ => rfl)) (nomark _)) (pw_or1 (pt_cmpR (op_neD hr.units) (pe_bp T.c_Box (ok_b_fed_now T) hr (by decide) (pv 0)) (pe_ix ix_tup (pv 1) pe_int (fun _ _ => rfl)) (nomark _)))))) (pss_one (ps_ret pe_bl)) pss_nil) (pss_one (ps_ret (pe_and (pe_cmpR (op_eqD hr.units) (pe_callTy (call_listD (by rfl)) (by rfl) T.n_list (by decide +kernel) (pa_cons (pe_bp T.c_Box (ok_b_loads_now T) hr (by decide) (pv 0)) pa_nil)) (pe_callB (call_sortedD (by rfl)) (by rfl) T.n_sorted (by decide +kernel) (pa_cons (pe_ix ix_tup (pv 1) pe_int (fun _ _ => rfl)) pa_nil)) (nomark _)) (pe_and (pe_cmpR op_eq (pe_bp T.c_Box (ok_b_trip_count T) hr (by decide) (pv 0)) (pe_ix ix_tup (pv 1) pe_int (fun _ _ => rfl)) (nomark _)) (pe_one (pe_cmpR (op_eqD hr.units) (pe_bp T.c_Box (ok_b_kept_under T) hr (by decide) (pv 0)) (pe_callB (call_sortedD (by rfl)) (by rfl) T.n_sorted (by decide +kernel) (pa_cons (pe_ix ix_tup (pv 1) pe_int (fun _ _ => rfl)) pa_nil)) (nomark _)))))))), fun F es e h => ?_⟩) (fun _ _ _ _ _ _ us hu => by obtain ⟨a, b, rfl⟩ := len2 hu; rfl)) hm FF
  cases h with
  | mk b s P S hP hf hs =>
  have hz := sizeLine_eq
  have ok := hP.ok
  have hp5 := ok.p5
  have hll : S.fa.ld.length ≤ 5 := by
    have := List.Nodup.length_le_of_subset hf.ok.ldn (show S.fa.ld.map (·.1) ⊆ P.pts.map (·.1) from hf.ok.ldk)
    rw [List.length_map, List.length_map] at this
    omega
  have hsl := hs.len
  have prm := ldNow_perm ok hf.ok.ldn hf.ok.ldk
  have hnl : (ldNow P S.fa.ld).length = S.fa.ld.length := by
    have := prm.length_eq
    rwa [List.length_map, List.length_map] at this
  have stn : ∀ x ∈ P.pts.map (·.1), PyData.strOk x = true := fun x hx => n5_str x (hP.nm x hx)
  refine pds_skip (pdt_eq (pdt_or (x := false) (pdt_eq (pdt_test (pd_op' (pd_prop (pd_var (i := 0) rfl) (.mk P S.fa _ _ _)) (pc0 (pd_var (i := 1) rfl)) (p2_neD fit_st.1 fit_st.2))) ?_) fun _ => pdt_or (x := false) (pdt_test (pd_op' (pd_prop (pd_var (i := 0) rfl) (.mk P ok S.fa _ _ _)) (pc1 (pd_var (i := 1) rfl)) (p2_neLd hnl valV_now))) fun _ => pdt_eq (y := false) (pdt_test (pd_op' (pd_prop (pd_var (i := 0) rfl) (.mk P S.fa _ _ _)) (pc2 (pd_var (i := 1) rfl)) (p2_neD fit_dW fit_dW))) ?_) rfl) ?_
  · have e := FitD.refl (fit_st (st := S.fa.st)).1
    have e2 : pyD (dZ S.fa.st) = pyD (.tup (S.fa.st.map .bl)) := rfl
    rw [e2, e]
    rfl
  · rw [FitD.refl fit_dW]
    rfl
  refine pds_ret (pd_blt (x := true) (pd_and (x := true) (pd_op' (pd_call' (pd_cons (pd_prop (pd_var (i := 0) rfl) (.mk P ok S.fa _ _ _)) pd_nil) (pc_listD (enc := fun n : Nat => D.int (n : Int)))) (pd_call' (pd_cons (pc1 (pd_var (i := 1) rfl)) pd_nil) (pc_sortedD (enc := fun n : Nat => D.int (n : Int)) (l := S.fa.ld) (by omega))) (p2_srtR fun ys h1 h2 => ?_)) fun _ => pd_and (x := true) (pd_blt (pd_op' (pd_prop (pd_var (i := 0) rfl) (.mk P S.fa _ _ _)) (pc3 (pd_var (i := 1) rfl)) p2_eqI) (decide_eq_true rfl)) fun _ => pd_op' (pd_prop (pd_var (i := 0) rfl) (.mk P S.sh (by omega) _ _ _)) (pd_call' (pd_cons (pc4 (pd_var (i := 1) rfl)) pd_nil) (pc_sortedD (enc := dLF) (l := S.sh) (by omega))) (p2_srtL fun zs h3 h4 => p2_srtR fun ys h1 h2 => ?_)) rfl)
  · have e : ys = (ldNow P S.fa.ld).map (·.1) := pw_uniq (srt_pw h2) (ldNow_pw ok) (h1.trans prm.symm)
    rw [e]
    have ft : FitDs (((ldNow P S.fa.ld).map (·.1)).map .str) := fit_strs fun x hx => stn x (hf.ok.ldk x (prm.mem_iff.mp hx))
    have h := p2_eqDL (F := FS) (K := K) ft ft
    rw [ft.refl] at h
    exact h
  · have e : ys = zs := pw_uniq (srt_pw h2) (srt_pw h4) (h1.trans h3.symm)
    rw [e]
    have ft : FitDs (zs.map .str) := fit_strs fun x hx => xy_str (hs.kx x (h3.mem_iff.mp hx))
    have h := p2_eqDL (F := FS) (K := K) ft ft
    rw [ft.refl] at h
    exact h
end
end Bf
/-! ### chains of operations -/
namespace Bf
open PySem PySem.Spec PyProof.Rows L2
def bef : Fa × Shelf → List En → List En
  | _, [] => []
  | st, e :: l => (e.1, st) :: bef e.2 l
def cur : Fa × Shelf → List En → Fa × Shelf
  | st, [] => st
  | _, e :: l => cur e.2 l
/-- what an operation leaves -/
def aft (P : Pl) (st : Fa × Shelf) (o : Op) : Fa × Shelf := ((stepO P st.1 st.2 o).1, (stepO P st.1 st.2 o).2.1)
def Chn (P : Pl) : Fa × Shelf → List En → Prop
  | _, [] => True
  | st, e :: l => OpOk P st.1 st.2 e.1 ∧ OpL P st.1 e.1 ∧ e.2 = aft P st e.1 ∧ Chn P e.2 l
structure Good (P : Pl) (st : Fa × Shelf) : Prop where
  fa : FaW P st.1
  sh : ShW P st.2
section
variable {P : Pl}
theorem cur_app : ∀ (l : List En) (st : Fa × Shelf) (e : En), cur st (l ++ [e]) = e.2
  | [], _, _ => rfl
  | _ :: l, _, e => cur_app l _ e
theorem bef_app : ∀ (l : List En) (st : Fa × Shelf) (e : En), bef st (l ++ [e]) = bef st l ++ [(e.1, cur st l)]
  | [], _, _ => rfl
  | a :: l, _, e => by
    show _ :: bef a.2 (l ++ [e]) = _
    rw [bef_app l a.2 e]
    rfl
theorem bef_ops : ∀ (l : List En) (st : Fa × Shelf), (bef st l).map (·.1) = l.map (·.1)
  | [], _ => rfl
  | a :: l, _ => by
    show a.1 :: (bef a.2 l).map (·.1) = _
    rw [bef_ops l a.2]
    rfl
theorem bef_len (l : List En) (st : Fa × Shelf) : (bef st l).length = l.length := by
  have := congrArg List.length (bef_ops l st)
  rwa [List.length_map, List.length_map] at this
theorem chn_app : ∀ {l m : List En} {st : Fa × Shelf}, Chn P st (l ++ m) ↔ Chn P st l ∧ Chn P (cur st l) m
  | [], _, _ => ⟨fun h => ⟨trivial, h⟩, fun h => h.2⟩
  | a :: l, m, st => by
    show (OpOk P st.1 st.2 a.1 ∧ OpL P st.1 a.1 ∧ a.2 = aft P st a.1 ∧ Chn P a.2 (l ++ m)) ↔ (OpOk P st.1 st.2 a.1 ∧ OpL P st.1 a.1 ∧ a.2 = aft P st a.1 ∧ Chn P a.2 l) ∧ Chn P (cur a.2 l) m
    rw [chn_app]
    constructor
    · rintro ⟨h1, h2, h3, h4, h5⟩
      exact ⟨⟨h1, h2, h3, h4⟩, h5⟩
    · rintro ⟨⟨h1, h2, h3, h4⟩, h5⟩
      exact ⟨h1, h2, h3, h4, h5⟩
theorem getG_put {α : Type} {l : List (Str × α)} {x y : Str} {a : α} : getG (putG l x a) y = if y = x then some a else getG l y := by
  unfold putG
  by_cases h : (l.any fun p => decide (p.1 = x)) = true
  · rw [if_pos h]
    obtain ⟨q, hq, eq⟩ := List.any_eq_true.mp h
    have eq' := of_decide_eq_true eq
    clear h
    induction l with
    | nil => cases hq
    | cons p l ih =>
      unfold getG
      rw [List.map_cons, List.find?_cons, List.find?_cons]
      by_cases hp : p.1 = x
      · rw [if_pos hp]
        by_cases hy : y = x
        · rw [if_pos hy, hp, hy]
          simp
        · have e1 : decide (p.1 = y) = false := decide_eq_false fun z => hy (by rw [← z, hp])
          rw [if_neg hy]
          show ((match decide (p.1 = y) with | true => some (p.1, a) | false => _).map _) = ((match decide (p.1 = y) with | true => some p | false => _).map _)
          rw [e1]
          dsimp only
          have e3 : ∀ m : List (Str × α), (m.map (fun p => if p.1 = x then (p.1, a) else p)).find? (fun p => decide (p.1 = y)) = m.find? (fun p => decide (p.1 = y)) := by
            intro m
            induction m with
            | nil => rfl
            | cons r m ihm =>
              rw [List.map_cons, List.find?_cons, List.find?_cons]
              by_cases hr : r.1 = x
              · rw [if_pos hr]
                have e4 : decide (r.1 = y) = false := decide_eq_false fun z => hy (by rw [← z, hr])
                show (match decide (r.1 = y) with | true => some (r.1, a) | false => _) = (match decide (r.1 = y) with | true => some r | false => _)
                rw [e4]
                exact ihm
              · rw [if_neg hr, ihm]
          rw [e3]
      · rw [if_neg hp]
        have hq' : q ∈ l := by
          rcases List.mem_cons.mp hq with z | z
          · exact absurd (z ▸ eq') hp
          · exact z
        have ih' := ih hq'
        unfold getG at ih'
        by_cases hy : decide (p.1 = y) = true
        · have hyx : y ≠ x := fun z => hp (by rw [of_decide_eq_true hy, z])
          rw [hy, if_neg hyx]
        · have hy' : decide (p.1 = y) = false := by simpa using hy
          rw [hy']
          exact ih'
  · rw [if_neg h]
    have hn : ∀ p ∈ l, p.1 ≠ x := fun p hp e => h (List.any_eq_true.mpr ⟨p, hp, decide_eq_true e⟩)
    unfold getG
    rw [List.find?_append]
    by_cases hy : y = x
    · rw [if_pos hy]
      have e1 : l.find? (fun p => decide (p.1 = y)) = none := List.find?_eq_none.mpr fun p hp => by
        have := hn p hp
        rw [hy]
        simpa using this
      rw [e1, hy]
      simp
    · rw [if_neg hy]
      have e1 : [(x, a)].find? (fun p => decide (p.1 = y)) = none := by
        simp [Ne.symm hy]
      rw [e1, Option.or_none]
theorem keys_put {α : Type} {l : List (Str × α)} {x : Str} {a : α} : (putG l x a).map (·.1) = if x ∈ l.map (·.1) then l.map (·.1) else l.map (·.1) ++ [x] := by
  by_cases h : x ∈ l.map (·.1)
  · rw [if_pos h]
    unfold putG
    rw [if_pos (by
      obtain ⟨p, hp, e⟩ := List.mem_map.mp h
      exact List.any_eq_true.mpr ⟨p, hp, decide_eq_true e⟩), List.map_map]
    refine List.map_congr_left fun p _ => ?_
    show (if p.1 = x then (p.1, a) else p).1 = p.1
    by_cases hp : p.1 = x
    · rw [if_pos hp]
    · rw [if_neg hp]
  · rw [if_neg h, putG_new h, List.map_append]
    rfl
theorem put_good {st : Fa × Shelf} (h : Good P st) {x : Str} (hx : x = ("x" : Str) ∨ x = ("y" : Str)) : ShW P (putG st.2 x st.1) := by
  refine ⟨fun y hy => ?_, ?_, fun y f hf => ?_⟩
  · rw [keys_put] at hy
    by_cases m : x ∈ st.2.map (·.1)
    · rw [if_pos m] at hy
      exact h.sh.kx y hy
    · rw [if_neg m] at hy
      rcases List.mem_append.mp hy with z | z
      · exact h.sh.kx y z
      · have : y = x := by simpa using z
        rw [this]
        exact hx
  · rw [keys_put]
    by_cases m : x ∈ st.2.map (·.1)
    · rw [if_pos m]
      exact h.sh.nd
    · rw [if_neg m]
      refine List.nodup_append.mpr ⟨h.sh.nd, by simp, fun a ha b hb e => ?_⟩
      have : b = x := by simpa using hb
      rw [e, this] at ha
      exact m ha
  · rw [getG_put] at hf
    by_cases e : y = x
    · rw [if_pos e] at hf
      cases hf
      exact h.fa
    · rw [if_neg e] at hf
      exact h.sh.at_ y f hf
theorem plug_nd {ld : Ld} (hn : (ld.map (·.1)).Nodup) {x : Str} {l : Nat} : ((plugLd ld x l).map (·.1)).Nodup := by
  unfold plugLd
  rw [List.map_append]
  refine List.nodup_append.mpr ⟨nodup_filter hn, ?_, fun a ha b hb e => ?_⟩
  · by_cases h : 0 < l
    · rw [if_pos h]
      simp
    · rw [if_neg h]
      simp
  · by_cases h : 0 < l
    · rw [if_pos h] at hb
      have : b = x := by simpa using hb
      rw [e, this] at ha
      exact not_mem_filter ha
    · rw [if_neg h] at hb
      simp at hb
theorem plug_mem {ld : Ld} {x y : Str} {l : Nat} (hy : y ∈ (plugLd ld x l).map (·.1)) : y ∈ ld.map (·.1) ∨ y = x := by
  unfold plugLd at hy
  rw [List.map_append] at hy
  rcases List.mem_append.mp hy with z | z
  · obtain ⟨p, hp, e⟩ := List.mem_map.mp z
    exact .inl (List.mem_map.mpr ⟨p, (List.mem_filter.mp hp).1, e⟩)
  · by_cases h : 0 < l
    · rw [if_pos h] at z
      exact .inr (by simpa using z)
    · rw [if_neg h] at z
      simp at z
theorem reset_len (ok : P.Ok) (wi : List (Option Nat)) (ld : Ld) : ∀ (l : List Nat) (a : List Bool × Nat), (l.foldl (rst1 P wi ld) a).1.length = a.1.length
  | [], _ => rfl
  | k :: l, a => by
    rw [List.foldl_cons, reset_len ok wi ld l, rst1_len ok]
theorem aft_good (hP : PlL P) {st : Fa × Shelf} (h : Good P st) {o : Op} (h1 : OpOk P st.1 st.2 o) (h2 : OpL P st.1 o) : Good P (aft P st o) := by
  have ok := hP.ok
  have hf := h.fa.ok
  cases o with
  | flip b => exact ⟨⟨⟨(trips_len ok).trans ((List.length_set).trans hf.st), hf.wi, hf.ldn, hf.ldk⟩, h.fa.w⟩, h.sh⟩
  | plug x l => exact ⟨⟨⟨(trips_len ok).trans hf.st, hf.wi, plug_nd hf.ldn, fun y hy => by
      rcases plug_mem hy with z | z
      · exact hf.ldk y z
      · rw [z]
        exact h1.1⟩, h.fa.w⟩, h.sh⟩
  | rewire x o => exact ⟨⟨⟨hf.st, h1.2.2, hf.ldn, hf.ldk⟩, h2⟩, h.sh⟩
  | reset => exact ⟨⟨⟨(reset_len ok _ _ _ _).trans hf.st, hf.wi, hf.ldn, hf.ldk⟩, h.fa.w⟩, h.sh⟩
  | keep x => exact ⟨h.fa, put_good h h2⟩
  | fetch x =>
    obtain ⟨g, hg⟩ := Option.isSome_iff_exists.mp h1
    refine ⟨?_, h.sh⟩
    show FaW P ((getG st.2 x).getD st.1)
    rw [hg]
    exact h.sh.at_ x g hg
theorem chn_good (hP : PlL P) : ∀ {l : List En} {st : Fa × Shelf}, Good P st → Chn P st l → Good P (cur st l)
  | [], _, h, _ => h
  | a :: l, st, h, c => chn_good hP (l := l) (by rw [c.2.2.1]; exact aft_good hP h c.1 c.2.1) c.2.2.2
theorem good_sc {S : Sc} (h : Good P (S.fa, S.sh)) (h1 : S.past.length < 900) (h2 : S.undone.length < 900) : ScOk P S := ⟨h.fa.ok, fun x f hx => (h.sh.at_ x f hx).ok, Nat.lt_of_le_of_lt h.sh.len (by decide), h1, h2⟩
theorem runs_chn (hP : PlL P) : ∀ (l : List En) (S : Sc), Good P (S.fa, S.sh) → Chn P (S.fa, S.sh) l → S.past.length + l.length < 900 → S.undone = [] →
    (runs P S (l.map (·.1))).1 = ⟨(cur (S.fa, S.sh) l).1, (cur (S.fa, S.sh) l).2, S.past ++ bef (S.fa, S.sh) l, []⟩ ∧ OpsOk P S (l.map (·.1))
  | [], S, _, _, _, hu => ⟨by
    show S = ⟨S.fa, S.sh, S.past ++ [], []⟩
    rw [List.append_nil, ← hu], trivial⟩
  | a :: l, S, h, c, hl, hu => by
    obtain ⟨c1, c2, c3, c4⟩ := c
    rw [List.length_cons] at hl
    have hS : S.step P a.1 = ⟨a.2.1, a.2.2, S.past ++ [(a.1, S.fa, S.sh)], []⟩ := by
      unfold Sc.step Sc.on
      rw [c3]
      rfl
    have ih := runs_chn hP l (S.step P a.1) (by rw [hS]; show Good P a.2; rw [c3]; exact aft_good hP h c1 c2) (by rw [hS]; exact c4) (by rw [hS]; show (S.past ++ [(a.1, S.fa, S.sh)]).length + l.length < 900; rw [List.length_append, List.length_singleton]; omega) (by rw [hS])
    refine ⟨?_, good_sc h (by omega) (by rw [hu]; show 0 < 900; decide), c1, ih.2⟩
    show (runs P (S.step P a.1) (l.map (·.1))).1 = _
    rw [ih.1, hS]
    show (⟨(cur a.2 l).1, (cur a.2 l).2, (S.past ++ [(a.1, S.fa, S.sh)]) ++ bef a.2 l, []⟩ : Sc) = ⟨(cur a.2 l).1, (cur a.2 l).2, S.past ++ (a.1, S.fa, S.sh) :: bef a.2 l, []⟩
    rw [List.append_assoc]
    rfl
end
end Bf
/-! ### the law's environment, and what keeps it -/
namespace Bf
open PySem PySem.Spec PyProof.Rows L2
/-- the row, whatever it bears -/
def rwX (K : PySem.W.Frag) (sc row : Addr) (ns : List Int) : Ev FS := ⟨fun H v => v = .ref row ∧ ∃ i x y, RwP K sc row ns H i x y, fun i r ⟨e, j, x, y, h⟩ => ⟨e, j, x, y, rw_same h (FS_same r)⟩⟩
theorem cv_xs {H H' : Hp} (p : Pr H H') : ∀ xs : List (Option D), Cv (F := FS) (F' := FS) H H' (xs.map (Option.map (Ev.d FS))) (xs.map (Option.map (Ev.d FS)))
  | [] => trivial
  | none :: xs => cv_xs p xs
  | some d :: xs => ⟨fun _ h => Rep.pr p h, cv_xs p xs⟩
section
variable {K : PySem.W.Frag} {c : Ca} {sc row b s l m pa fu : Addr} {ns : List Int} {P : Pl} {H H' H1 H2 : Hp} {ds pd fd pd' fd' : List D} {xs : List V} {v : V} {S S' : Sc} {σ : L2.St}
theorem pr_l (hl : H l = some (.lst xs)) (k : ∀ a o, H a = some o → a ≠ l → H' a = some o) : Pr H H' := fun a o e i => k a o e fun z => by
  rw [z, hl] at e
  cases e
  exact i
theorem bx_keep (hl : H l = some (.lst xs)) (k : ∀ a o, H a = some o → a ≠ l → H' a = some o) (q : (bxE c b s P ds).ok H v) : (bxE c b s P ds).ok H' v := by
  obtain ⟨e, dxb, pa, h1, ne, ⟨a, dx, vs, t, e2, n1, n2, h2, h3, h4, h5⟩, e3, dx', vs', h6, h7, h8⟩ := q
  have p := pr_l hl k
  refine ⟨e, dxb, pa, k _ _ h1 (fun z => ?_), ne, ⟨a, dx, vs, t, e2, n1, n2, k _ _ h2 (fun z => ?_), k _ _ h3 (fun z => ?_), h4, Rep.pr p h5⟩, e3, dx', vs', k _ _ h6 (fun z => ?_), k _ _ h7 (fun z => ?_), fun i d hd => ?_⟩
  · rw [z, hl] at h1
    cases h1
  · rw [z, hl] at h2
    unfold SlX.SlO at h2
    cases h2
  · rw [z, hl] at h3
    cases h3
  · rw [z, hl] at h6
    unfold SlX.SlO at h6
    cases h6
  · rw [z, hl] at h7
    cases h7
  · obtain ⟨w, h9, h10⟩ := h8 i d hd
    exact ⟨w, h9, Rep.pr p h10⟩
theorem la_keep {X : Addr → Prop} (k : ∀ a o, H a = some o → ¬ X a → H' a = some o) (p : Pr H H') (n : ¬ X m) (q : (Ev.la m ds).ok H v) : (Ev.la m ds).ok H' v := by
  obtain ⟨e, ys, h1, h2⟩ := q
  exact ⟨e, ys, k _ _ h1 n, Reps.pr p h2⟩
theorem rw_keep {X : Addr → Prop} (k : ∀ a o, H a = some o → ¬ X a → H' a = some o) (p : Pr H H') (n : ¬ X row) (q : ∃ i x y, RwP K sc row ns H i x y) : ∃ i x y, RwP K sc row ns H' i x y := by
  obtain ⟨i, x, y, h1, h2⟩ := q
  exact ⟨i, x, y, h1.to fun o e => p _ _ e trivial, k _ _ h2 n⟩
/-- a box's own addresses are no lists -/
theorem bx_ne (q : (bxE c b s P ds).ok H v) (hl : H l = some (.lst xs)) : l ≠ b ∧ l ≠ s := by
  obtain ⟨e, dxb, pa, h1, ne, _, e3, dx', vs', h6, _⟩ := q
  refine ⟨fun z => ?_, fun z => ?_⟩
  · rw [← z, hl] at h1
    cases h1
  · rw [← z, hl] at h6
    unfold SlX.SlO at h6
    cases h6
theorem bx_pr (q : (bxE c b s P ds).ok H v) (k : ∀ a o, H a = some o → a ≠ b → a ≠ s → H' a = some o) : Pr H H' := by
  obtain ⟨e, dxb, pa, h1, ne, _, e3, dx', vs', h6, _⟩ := q
  refine fun a o e i => k a o e (fun z => ?_) fun z => ?_
  · rw [z, h1] at e
    cases e
    exact i
  · rw [z, h6] at e
    cases e
    exact slO_imm i
/-- the slots of the law: row, scheme, box, past, future; then plain data -/
def GL (K : PySem.W.Frag) (c : Ca) (sc row : Addr) (ns : List Int) (P : Pl) (wi : List (Option Nat)) (b s pa fu : Addr) (S : Sc) (pd fd : List D) (xs : List (Option D)) : Env' FS :=
  none :: some (rwX K sc row ns) :: some (Ev.d FS (dS P [dW wi])) :: none :: some (bxE c b s P (dSc S)) :: some (Ev.la pa pd) :: some (Ev.la fu fd) :: xs.map (Option.map (Ev.d FS))
variable {wi : List (Option Nat)} {ys ys' : List (Option D)}
theorem gl_row (g : EnvOk H σ (GL K c sc row ns P wi b s pa fu S pd fd ys)) : σ[1]? = some (some (.ref row)) ∧ ∃ i x y, RwP K sc row ns H i x y := by
  obtain ⟨v, h1, h2, h3⟩ := g.2 1 (rwX K sc row ns) rfl
  exact ⟨h2 ▸ h1, h3⟩
theorem gl_box (g : EnvOk H σ (GL K c sc row ns P wi b s pa fu S pd fd ys)) : σ[4]? = some (some (.ref b)) ∧ (bxE c b s P (dSc S)).ok H (.ref b) := by
  obtain ⟨v, h1, h2⟩ := g.2 4 (bxE c b s P (dSc S)) rfl
  have e : v = .ref b := h2.1
  subst e
  exact ⟨h1, h2⟩
theorem gl_past (g : EnvOk H σ (GL K c sc row ns P wi b s pa fu S pd fd ys)) : σ[5]? = some (some (.ref pa)) ∧ (Ev.la pa pd).ok H (.ref pa) := by
  obtain ⟨v, h1, h2⟩ := g.2 5 (Ev.la pa pd) rfl
  have e : v = .ref pa := h2.1
  subst e
  exact ⟨h1, h2⟩
theorem gl_fut (g : EnvOk H σ (GL K c sc row ns P wi b s pa fu S pd fd ys)) : σ[6]? = some (some (.ref fu)) ∧ (Ev.la fu fd).ok H (.ref fu) := by
  obtain ⟨v, h1, h2⟩ := g.2 6 (Ev.la fu fd) rfl
  have e : v = .ref fu := h2.1
  subst e
  exact ⟨h1, h2⟩
theorem gl_cv (g : EnvOk H σ (GL K c sc row ns P wi b s pa fu S pd fd ys)) (p : Pr H H') (hr : ∃ i x y, RwP K sc row ns H' i x y) (hb : (bxE c b s P (dSc S')).ok H' (.ref b)) (hp : (Ev.la pa pd').ok H' (.ref pa)) (hf : (Ev.la fu fd').ok H' (.ref fu)) :
    EnvOk H' σ (GL K c sc row ns P wi b s pa fu S' pd' fd' ys) := g.cv ⟨fun v e => ⟨e.1, hr⟩, fun v h => Rep.pr p h, fun v e => by
      have e1 : v = .ref b := e.1
      rw [e1]
      exact hb, fun v e => by
      have e1 : v = .ref pa := e.1
      rw [e1]
      exact hp, fun v e => by
      have e1 : v = .ref fu := e.1
      rw [e1]
      exact hf, cv_xs p ys⟩
theorem gl_same (g : EnvOk H σ (GL K c sc row ns P wi b s pa fu S pd fd ys)) (k : Same H H') : EnvOk H' σ (GL K c sc row ns P wi b s pa fu S pd fd ys) := g.st trivial (Fm.ofSame trivial k)
/-- past a draw -/
theorem gl_fr (g : EnvOk H σ (GL K c sc row ns P wi b s pa fu S pd fd ys)) (r : (FR K sc row ns).R H H') (n1 : pa ≠ row) (n2 : fu ≠ row) : EnvOk H' σ (GL K c sc row ns P wi b s pa fu S pd fd ys) := by
  obtain ⟨_, hr⟩ := gl_row g
  obtain ⟨i, x, y, h1, h2⟩ := id hr
  have k : ∀ a o, H a = some o → a ≠ row → H' a = some o := r.2
  have p := pr_l h2 k
  exact gl_cv g p r.1 (bx_keep h2 k (gl_box g).2) (la_keep (X := fun a => a = row) k p n1 (gl_past g).2) (la_keep (X := fun a => a = row) k p n2 (gl_fut g).2)
/-- past a method of the box -/
theorem gl_bx (g : EnvOk H σ (GL K c sc row ns P wi b s pa fu S pd fd ys)) (k : ∀ a o, H a = some o → a ≠ b → a ≠ s → H' a = some o) (hb : (bxE c b s P (dSc S')).ok H' (.ref b)) : EnvOk H' σ (GL K c sc row ns P wi b s pa fu S' pd fd ys) := by
  obtain ⟨_, hr⟩ := gl_row g
  obtain ⟨i, x, y, h1, h2⟩ := id hr
  obtain ⟨_, bx⟩ := gl_box g
  obtain ⟨_, hp⟩ := gl_past g
  obtain ⟨_, hf⟩ := gl_fut g
  obtain ⟨_, zp, hp1, _⟩ := id hp
  obtain ⟨_, zf, hf1, _⟩ := id hf
  have p := bx_pr bx k
  have k' : ∀ a o, H a = some o → ¬ (a = b ∨ a = s) → H' a = some o := fun a o e n => k a o e (fun z => n (.inl z)) fun z => n (.inr z)
  have ne : ∀ {m : Addr} {zs : List V}, H m = some (.lst zs) → ¬ (m = b ∨ m = s) := fun hm z => by
    obtain ⟨n1, n2⟩ := bx_ne bx hm
    exact z.elim n1 n2
  exact gl_cv g p (rw_keep (X := fun a => a = b ∨ a = s) k' p (ne h2) hr) hb (la_keep (X := fun a => a = b ∨ a = s) k' p (ne hp1) hp) (la_keep (X := fun a => a = b ∨ a = s) k' p (ne hf1) hf)
/-- past a pop of the past, of the future -/
theorem gl_pop (g : EnvOk H σ (GL K c sc row ns P wi b s pa fu S pd fd ys)) {us : List V} (k : H' = upd H pa (.lst us)) (q : Reps H pd' us) (n1 : pa ≠ row) (n2 : pa ≠ fu) : EnvOk H' σ (GL K c sc row ns P wi b s pa fu S pd' fd ys) := by
  obtain ⟨_, hr⟩ := gl_row g
  obtain ⟨_, _, zp, hp1, _⟩ := gl_past g
  have kk : ∀ a o, H a = some o → a ≠ pa → H' a = some o := fun a o e n => by rw [k, upd_ne n]; exact e
  have p := pr_l hp1 kk
  exact gl_cv g p (rw_keep (X := fun a => a = pa) kk p (Ne.symm n1) hr) (bx_keep hp1 kk (gl_box g).2) ⟨rfl, us, by rw [k, upd_same], Reps.pr p q⟩ (la_keep (X := fun a => a = pa) kk p (Ne.symm n2) (gl_fut g).2)
theorem gl_popF (g : EnvOk H σ (GL K c sc row ns P wi b s pa fu S pd fd ys)) {us : List V} (k : H' = upd H fu (.lst us)) (q : Reps H fd' us) (n1 : fu ≠ row) (n2 : pa ≠ fu) : EnvOk H' σ (GL K c sc row ns P wi b s pa fu S pd fd' ys) := by
  obtain ⟨_, hr⟩ := gl_row g
  obtain ⟨_, _, zp, hp1, _⟩ := gl_fut g
  have kk : ∀ a o, H a = some o → a ≠ fu → H' a = some o := fun a o e n => by rw [k, upd_ne n]; exact e
  have p := pr_l hp1 kk
  exact gl_cv g p (rw_keep (X := fun a => a = fu) kk p (Ne.symm n1) hr) (bx_keep hp1 kk (gl_box g).2) (la_keep (X := fun a => a = fu) kk p n2 (gl_past g).2) ⟨rfl, us, by rw [k, upd_same], Reps.pr p q⟩
/-- a new list for the past, for the future -/
theorem gl_setP (g : EnvOk H σ (GL K c sc row ns P wi b s pa fu S pd fd ys)) {q : Addr} (h : (Ev.la q pd').ok H (.ref q)) : EnvOk H (σ.set 5 (some (.ref q))) (GL K c sc row ns P wi b s q fu S pd' fd ys) := EnvOk.set (i := 5) (e := Ev.la q pd') g h
theorem gl_setF (g : EnvOk H σ (GL K c sc row ns P wi b s pa fu S pd fd ys)) {q : Addr} (h : (Ev.la q fd').ok H (.ref q)) : EnvOk H (σ.set 6 (some (.ref q))) (GL K c sc row ns P wi b s pa q S pd fd' ys) := EnvOk.set (i := 6) (e := Ev.la q fd') g h
/-- a call that may draw -/
theorem fr_call {R : (F : Fm) → List (Ev F) → Ev F → Prop} {Γ : Env' FS} {es : List (Ev FS)} {es0 : List (Ev (FR K sc row ns))} {e0 : Ev (FR K sc row ns)} {ta : TA} {Q : VK} (h : PdA Γ ta es) (r : R (FR K sc row ns) es0 e0) (ca : ∀ H vs, EvsOk H es vs → EvsOk H es0 vs) (hI : ∃ i x y, RwP K sc row ns H i x y) (g : EnvOk H σ Γ)
    (k : ∀ v H1 H2, Same H H1 → (FR K sc row ns).R H1 H2 → e0.ok H2 v → Q v H2) : tCl (SpG R) ta σ H Q := h σ H _ trivial g fun vs H1 r1 q => by
  have sm := FS_same r1
  obtain ⟨i, x, y, hI⟩ := hI
  exact spg_use (F := FR K sc row ns) (show ∃ i x y, RwP K sc row ns H1 i x y from ⟨i, x, y, rw_same hI sm⟩) r (ca _ _ q) fun v H2 r2 z => k v H1 H2 sm r2 z
end
/-! what the law keeps -/
def dPF (e : En) : D := .tup [dScn e.2.1 e.2.2, dOp e.1]
def pastD (st : Fa × Shelf) (ps : List En) : List D := .tup [dScn st.1 st.2, .non] :: ps.map dPF
def futD (fs : List En) : List D := fs.map dPF
def Sx (st : Fa × Shelf) (ps fs : List En) : Sc := ⟨(cur st ps).1, (cur st ps).2, bef st ps, fs⟩
theorem past_last (st : Fa × Shelf) (ps : List En) : ∃ ds x, pastD st ps = ds ++ [.tup [dScn (cur st ps).1 (cur st ps).2, x]] := by
  rcases List.eq_nil_or_concat ps with e | ⟨l, e, h⟩
  · rw [e]
    exact ⟨[], .non, rfl⟩
  · rw [h]
    rw [List.concat_eq_append, cur_app]
    refine ⟨.tup [dScn st.1 st.2, .non] :: l.map dPF, dOp e.1, ?_⟩
    unfold pastD
    rw [List.map_append]
    rfl
end Bf
/-! ### what the law's walk leans on -/
namespace Bf
open PySem PySem.Spec PyProof.Rows L2
/-! fit to be compared -/
theorem fit_op {P : Pl} {f : Fa} {sh : Shelf} {o : Op} (hP : PlL P) (h1 : OpOk P f sh o) (h2 : OpL P f o) : FitD (dOp o) := by
  have hn : ∀ x, x ∈ P.pts.map (·.1) → PyData.strOk x = true := fun x hx => n5_str x (hP.nm x hx)
  cases o with
  | flip b => exact ⟨by show (PyData.strOk ("flip" : Str) && (true && true)) = true; decide +kernel, by show max 0 (max 0 0) + 1 ≤ 60; decide⟩
  | plug x l =>
    refine ⟨?_, by show max 0 (max 0 (max 0 0)) + 1 ≤ 60; decide⟩
    show (PyData.strOk ("plug" : Str) && (PyData.strOk x && (true && true))) = true
    rw [hn x h1.1]
    decide +kernel
  | rewire x o =>
    have e := fit_dO (x := o)
    refine ⟨?_, by show max 0 (max 0 (max (dep (dO o)) 0)) + 1 ≤ 60; rw [e.2]; decide⟩
    show (PyData.strOk ("rewire" : Str) && (PyData.strOk x && (okD (dO o) && true))) = true
    rw [hn x h1.1, e.1]
    decide +kernel
  | reset => exact ⟨by show (PyData.strOk ("reset" : Str) && true) = true; decide +kernel, by show max 0 0 + 1 ≤ 60; decide⟩
  | keep x =>
    refine ⟨?_, by show max 0 (max 0 0) + 1 ≤ 60; decide⟩
    show (PyData.strOk ("keep_as" : Str) && (PyData.strOk x && true)) = true
    rw [xy_str h2]
    decide +kernel
  | fetch x =>
    refine ⟨?_, by show max 0 (max 0 0) + 1 ≤ 60; decide⟩
    show (PyData.strOk ("fetch" : Str) && (PyData.strOk x && true)) = true
    rw [xy_str h2]
    decide +kernel
theorem fit_tup {ds : List D} (h1 : okDs ds = true) (h2 : deps ds ≤ 0) : FitD (.tup ds) := ⟨h1, by show deps ds + 1 ≤ 60; omega⟩
theorem lives_mem {P : Pl} {wi : List (Option Nat)} {st : List Bool} {x : Str} (h : x ∈ lives P wi st) : x ∈ P.pts.map (·.1) := by
  unfold lives at h
  obtain ⟨q, hq, e⟩ := List.mem_map.mp h
  have hz := (List.mem_filter.mp hq).1
  obtain ⟨a, b⟩ := q
  have := (List.of_mem_zip hz).1
  exact List.mem_map.mpr ⟨a, this, e⟩
theorem fit_due {P : Pl} {f : Fa} {sh : Shelf} {o : Op} (hP : PlL P) : FitDs [(stepO P f sh o).2.2] := by
  have one : ∀ d, FitD d → FitDs [d] := fun d h => ⟨by show (okD d && true) = true; rw [h.1]; rfl, by show max (dep d) 0 ≤ 60; have := h.2; omega⟩
  have nums : ∀ l : List Nat, FitD (.tup (l.map dN)) := fun l => fit_tup (oks_map fun _ _ => rfl) (deps_map fun _ _ => Nat.le_refl _)
  refine one _ ?_
  cases o with
  | flip b => exact nums _
  | plug x l => exact nums _
  | rewire x o => exact ⟨fit_dO.1, by show dep (dO _) ≤ 60; rw [fit_dO.2]; decide⟩
  | reset => exact ⟨rfl, by show 0 ≤ 60; decide⟩
  | keep x => exact ⟨rfl, by show 0 ≤ 60; decide⟩
  | fetch x => exact fit_tup (oks_map fun y hy => n5_str y (hP.nm y (lives_mem hy))) (deps_map fun _ _ => Nat.le_refl _)
theorem fit_ops {P : Pl} (hP : PlL P) : ∀ {l : List En} {st : Fa × Shelf}, Chn P st l → FitDs (l.map fun e => dOp e.1)
  | [], _, _ => fit_nil
  | a :: l, st, h => by
    have h1 := fit_op hP h.1 h.2.1
    have h2 := fit_ops hP (l := l) h.2.2.2
    exact ⟨by show (okD (dOp a.1) && okDs (l.map fun e => dOp e.1)) = true; rw [h1.1, h2.1]; rfl, by show max (dep (dOp a.1)) (deps (l.map fun e => dOp e.1)) ≤ 60; have := h1.2; have := h2.2; omega⟩
/-! rules -/
theorem reps_snoc {H : Hp} {d : D} : ∀ {ds : List D} {xs : List V}, Reps H (ds ++ [d]) xs → ∃ as y, xs = as ++ [y] ∧ Reps H ds as ∧ Rep H d y
  | [], xs, h => by
    obtain ⟨y, e, q⟩ := Reps.one h
    exact ⟨[], y, e, Reps.nil, q⟩
  | a :: ds, xs, ⟨x, ys, e, q, r⟩ => by
    obtain ⟨as, y, e2, r2, q2⟩ := reps_snoc (ds := ds) r
    exact ⟨x :: as, y, by rw [e, e2]; rfl, ⟨x, as, rfl, q, r2⟩, q2⟩
theorem reps_rep {H : Hp} {ds : List D} {xs : List V} (q : Reps H ds xs) : ∀ n : Nat, Reps H (List.replicate n ds).flatten (List.replicate n xs).flatten
  | 0 => Reps.nil
  | n + 1 => by
    rw [List.replicate_succ, List.replicate_succ, List.flatten_cons, List.flatten_cons]
    exact Reps.append q (reps_rep q n)
theorem seq_par3 {i j l : Nat} {ta : TA} {u : TS} {DE : Ends} {σ : L2.St} {H : Hp} (h : ta σ H fun vs H1 => ∃ x y z, vs = [x, y, z] ∧ u DE (((σ.set i (some x)).set j (some y)).set l (some z)) H1) : tSeq (tPar3 i j l ta) u DE σ H := h
theorem par_in {i j : Nat} {ta : TA} {DE : Ends} {σ : L2.St} {H : Hp} (h : ta σ H fun vs H1 => ∃ x y, vs = [x, y] ∧ DE.nx ((σ.set i (some x)).set j (some y)) H1) : tPar i j ta DE σ H := h
theorem cons_in {ta : TE} {tr : TA} {σ : L2.St} {H : Hp} {Q : List V → Hp → Prop} (h : ta σ H fun x H1 => tr σ H1 fun xs H2 => Q (x :: xs) H2) : tCons ta tr σ H Q := h
theorem rng_in {ta : TA} {σ : L2.St} {H : Hp} {R : It → Hp → Prop} (h : ta σ H fun vs H1 => ∃ j : Int, vs = [.int j] ∧ -(2 ^ 62) ≤ j ∧ j < 2 ^ 62 ∧ R (Itr 0 j.toNat) H1) : iRng1 ta σ H R := h
theorem nm_in {i : Nat} {x : V} {σ : L2.St} {H : Hp} {Q : L2.St → Hp → Prop} (h : Q (σ.set i (some x)) H) : gName i x σ H Q := h
theorem tst_in {t : TE} {σ : L2.St} {H : Hp} {Q : Bool → Hp → Prop} (h : t σ H fun x H1 => ∃ k, x = .bl k ∧ Q k H1) : tTest t σ H Q := h
theorem op_in {r : R2} {ta tb : TE} {σ : L2.St} {H : Hp} {Q : VK} (h : ta σ H fun x H1 => tb σ H1 fun y H2 => r x y H2 Q) : tOp r ta tb σ H Q := h
theorem envOk_nones {F : Fm} {H : Hp} {σ : L2.St} {n : Nat} (h : σ.length = n) : EnvOk (F := F) H σ (List.replicate n none) := ⟨by rw [List.length_replicate, h], fun i e z => by
  rw [List.getElem?_replicate] at z
  split at z <;> cases z⟩
section
variable {F : Fm} {Γ : Env' F} {t : TA} {ds : List D} {K : PySem.W.Frag}
theorem pd_tupZ (h : PdA Γ t (ds.map (Ev.d F))) (hl : ds.length ≤ sizeLine) : Pd Γ (tTupZ t) (Ev.d F (.tupz ds)) := fun σ H Q i g k =>
  h σ H _ i g fun xs H1 r1 q1 => by
    have q := EvsOk.ds q1
    refine ⟨by rw [q.length]; exact hl, fun p o n z => ?_⟩
    have sm : Same H1 (upd H1 p (.frz o (.tup xs))) := Same.new n
    exact k _ _ (Fm.trans r1 (Fm.ofSame r1.1 sm)) (Rep.tupz upd_same z (Reps.same sm q))
theorem p2_repTZ {n : Nat} (hd : ds ≠ []) (hl : ds.length ≤ 1000) (h1 : 1 ≤ n) (h2 : n ≤ 1000) : Pd2 F rRepTZ (Ev.d F (.tupz ds)) (Ev.d F (.int (n : Nat))) (Ev.d F (.tupz (List.replicate n ds).flatten)) := fun x y H Q i r1 r2 k => by
  obtain ⟨a, o, xs, e, ha, fz, q⟩ := r1
  refine ⟨a, o, (n : Nat), xs, e, r2, ha, fz, fun z => ?_, by omega, by omega, by rw [q.length]; exact hl, fun p H' o' hh fz' hp => ?_⟩
  · have l := q.length
    rw [z] at l
    exact hd (List.eq_nil_of_length_eq_zero (by simpa using l.symm))
  · rw [Int.toNat_natCast] at hh hp
    have sm : Same H H' := by
      rcases hh with e | ⟨n0, e⟩
      · rw [e]
        exact Same.refl _
      · rw [e]
        exact Same.new n0
    exact k _ _ (Fm.ofSame i sm) (Rep.tupz hp fz' (Reps.same sm (reps_rep q n)))
end
section
variable {K : PySem.W.Frag} {Γ : Env' FS} {te : TE} {pa : Addr}
theorem pd_last {st : Fa × Shelf} {ps : List En} (h : Pd Γ te (Ev.la pa (pastD st ps))) : Pd Γ (tOp (rIxT K) (tOp (rIxL K) te (tUn (rU fun i => .int (-i)) (tC (.int 1)))) (tC (.int 0))) (Ev.d FS (dScn (cur st ps).1 (cur st ps).2)) := by
  obtain ⟨ds, x, e⟩ := past_last st ps
  exact pd_op' (pd_op' (pd_eq (pd_la h) (by rw [e])) (pd_un' pd_int p1_U) (p2_ixLL rfl)) pd_int (p2_ixT (dt := .tup [dScn (cur st ps).1 (cur st ps).2, x]) rfl rfl)
end
/-! undone and done again -/
theorem undo_r {P : Pl} {st : Fa × Shelf} {l fs : List En} {e : En} (h : fs.length < 900) : R_undo P (Sx st (l ++ [e]) fs) [] (Sx st l (fs ++ [e])) (.bl true) := by
  unfold Sx
  rw [cur_app, bef_app]
  exact .some P e.2.1 (cur st l).1 e.2.2 (cur st l).2 (bef st l) fs e.1 h
theorem redo_r {P : Pl} {st : Fa × Shelf} {l fs : List En} {e : En} (h : l.length < 900) : R_redo P (Sx st l (fs ++ [e])) [] (Sx st (l ++ [e]) fs) (.bl true) := by
  unfold Sx
  rw [cur_app, bef_app]
  exact .some P (cur st l).1 e.2.1 (cur st l).2 e.2.2 (bef st l) fs e.1 (by rw [bef_len]; exact h)
theorem step_sx {P : Pl} {st : Fa × Shelf} {l fs : List En} {o : Op} : (Sx st l fs).step P o = Sx st (l ++ [(o, aft P (cur st l) o)]) [] := by
  unfold Sx
  rw [cur_app, bef_app]
  rfl
theorem past_app {st : Fa × Shelf} {l : List En} {e : En} : pastD st (l ++ [e]) = pastD st l ++ [dPF e] := by
  unfold pastD
  rw [List.map_append]
  rfl
theorem fut_app {l : List En} {e : En} : futD (l ++ [e]) = futD l ++ [dPF e] := by
  unfold futD
  rw [List.map_append]
  rfl
section
variable {K : PySem.W.Frag} {c : Ca} {sc row b s pa fu : Addr} {ns : List Int} {A : Pl} {wi : List (Option Nat)} {S S' : Sc} {pd fd : List D} {ys : List (Option D)} {H : Hp} {σ : L2.St} {Q : Bool → Hp → Prop} {R : Pl → Sc → List D → Sc → D → Prop} {m : Str} {tb : TE}
/-- box.m() != e, both alike -/
theorem bx_test {x : Bool} (g : EnvOk H σ (GL K c sc row ns A wi b s pa fu S pd fd ys)) (hl : ∀ x y : V, List.lookup m [(("plan" : Str), x), (("held" : Str), y)] = none) (r : R A S [] S' (.bl x)) (hb : Pd (GL K c sc row ns A wi b s pa fu S' pd fd ys) tb (Ev.d FS (.bl x)))
    (k : ∀ H', EnvOk H' σ (GL K c sc row ns A wi b s pa fu S' pd fd ys) → Q false H') : tTest (tOp rNe (tMethR c.box m (SpBox c R) E0 (tVar 4) tNil) tb) σ H Q := by
  refine tst_in (op_in (m_call (as := []) (b := b) (s := s) (P := A) (S := S) (S' := S') (pd_var (i := 4) rfl) pd_nil hl r g fun v H1 ch pr bx q => ?_))
  have g1 := gl_bx g (fun a o e n1 n2 => ch a o e n2) bx
  refine hb σ H1 _ trivial g1 fun y H2 r2 q2 => ?_
  have e1 : v = .bl x := q
  have e2 : y = .bl x := q2
  subst e1 e2
  refine ⟨by cases x <;> rfl, _, rfl, ?_⟩
  rw [decide_eq_true rfl]
  exact k H2 (gl_same g1 (FS_same r2))
end
end Bf
/-! ### the law's turns -/
namespace Bf
open PySem PySem.Spec PyProof.Rows L2
abbrev no8 : List (Option D) := [none, none, none, none, none, none, none, none]
/-- what holds ahead of each turn -/
def LInv (K : PySem.W.Frag) (c : Ca) (sc row : Addr) (ns : List Int) (A : Pl) (wi : List (Option Nat)) (b s : Addr) (st : Fa × Shelf) (i : Nat) (σ : L2.St) (H : Hp) : Prop := ∃ (pa fu : Addr) (ps fs : List En), Chn A st (ps ++ fs.reverse) ∧ ps.length + fs.length ≤ i ∧ pa ≠ row ∧ fu ≠ row ∧ pa ≠ fu ∧
  EnvOk H σ (GL K c sc row ns A wi b s pa fu (Sx st ps fs) (pastD st ps) (futD fs) no8)
theorem seq_asgG {te : TE} {g : TG} {u : TS} {D : Ends} {σ : L2.St} {H : Hp} (h : te σ H fun v H1 => g v σ H1 fun σ' H' => u D σ' H') : tSeq (tAsg te g) u D σ H := h
theorem seq_par2 {i j : Nat} {ta : TA} {u : TS} {DE : Ends} {σ : L2.St} {H : Hp} (h : ta σ H fun vs H1 => ∃ x y, vs = [x, y] ∧ u DE ((σ.set i (some x)).set j (some y)) H1) : tSeq (tPar i j ta) u DE σ H := h
theorem seq_as {a b w : TS} {D : Ends} {σ : L2.St} {H : Hp} (h : tSeq a (tSeq b w) D σ H) : tSeq (tSeq a b) w D σ H := h
theorem cv_nn {H : Hp} : ∀ Γ : Env' FS, Cv (F := FS) (F' := FS) H H Γ (List.replicate Γ.length none)
  | [] => trivial
  | none :: Γ => cv_nn Γ
  | some _ :: Γ => cv_nn Γ
abbrev lenR (K : PySem.W.Frag) : List V → Hp → VK → Prop := fun xs H Q => ∃ p ys, xs = [.ref p] ∧ (SqL K H p ys ∨ SqT K H p ys) ∧ Q (.int ys.length) H
abbrev gtR : R2 := rI0 fun i j => .bl (decide (i > j))
section
variable {K : PySem.W.Frag} {c : Ca} {sc row b s pa fu : Addr} {ns : List Int} {A : Pl} {wi : List (Option Nat)} {S S' : Sc} {pd fd : List D} {ys : List (Option D)} {H : Hp} {σ : L2.St}
theorem gl_weak (g : EnvOk H σ (GL K c sc row ns A wi b s pa fu S pd fd ys)) (hy : ys.length = 8) : EnvOk H σ (GL K c sc row ns A wi b s pa fu S pd fd no8) := g.cv ⟨fun _ h => h, fun _ h => h, fun _ h => h, fun _ h => h, fun _ h => h, by
  have h := cv_nn (H := H) (ys.map (Option.map (Ev.d FS)))
  rw [List.length_map, hy] at h
  exact h⟩
theorem gl_fresh (g : EnvOk H σ (GL K c sc row ns A wi b s pa fu S pd fd ys)) {q : Addr} (n : H q = none) : q ≠ row ∧ q ≠ pa ∧ q ≠ fu := by
  obtain ⟨_, i, x, y, _, h1⟩ := gl_row g
  obtain ⟨_, _, zp, h2, _⟩ := gl_past g
  obtain ⟨_, _, zf, h3, _⟩ := gl_fut g
  exact ⟨Ne.symm (ne_of_none h1 n), Ne.symm (ne_of_none h2 n), Ne.symm (ne_of_none h3 n)⟩
/-- future + e -/
theorem cat_fut (g : EnvOk H σ (GL K c sc row ns A wi b s pa fu S pd fd ys)) {q : Addr} {es : List D} {u : TS} {DE : Ends} {zs : List V} (hq : H q = some (.lst zs)) (qz : Reps H es zs) (hl : fd.length + es.length ≤ sizeLine)
    (k : ∀ p H', p ≠ row → pa ≠ p → EnvOk H' (σ.set 6 (some (.ref p))) (GL K c sc row ns A wi b s pa p S pd (fd ++ es) ys) → u DE (σ.set 6 (some (.ref p))) H') : rCat (.ref fu) (.ref q) H (fun v H1 => u DE (σ.set 6 (some v)) H1) := by
  obtain ⟨_, _, zf, h3, q3⟩ := gl_fut g
  refine ⟨fu, q, zf, zs, rfl, rfl, h3, hq, by rw [q3.length, qz.length]; exact hl, fun p np => ?_⟩
  have sm : Same H (upd H p (.lst (zf ++ zs))) := Same.new np
  obtain ⟨m1, m2, m3⟩ := gl_fresh g np
  exact k p _ m1 (Ne.symm m2) (gl_setF (gl_same g sm) ⟨rfl, _, upd_same, Reps.same sm (Reps.append q3 qz)⟩)
/-- past + e -/
theorem cat_past (g : EnvOk H σ (GL K c sc row ns A wi b s pa fu S pd fd ys)) {q : Addr} {es : List D} {Q : VK} {zs : List V} (hq : H q = some (.lst zs)) (qz : Reps H es zs) (hl : pd.length + es.length ≤ sizeLine)
    (k : ∀ p H', p ≠ row → p ≠ fu → Same H H' → (Ev.la p (pd ++ es)).ok H' (.ref p) → Q (.ref p) H') : rCat (.ref pa) (.ref q) H Q := by
  obtain ⟨_, _, zf, h3, q3⟩ := gl_past g
  refine ⟨pa, q, zf, zs, rfl, rfl, h3, hq, by rw [q3.length, qz.length]; exact hl, fun p np => ?_⟩
  have sm : Same H (upd H p (.lst (zf ++ zs))) := Same.new np
  obtain ⟨m1, m2, m3⟩ := gl_fresh g np
  exact k p _ m1 m3 sm ⟨rfl, _, upd_same, Reps.same sm (Reps.append q3 qz)⟩
end
section
variable {K : PySem.W.Frag} {c : Ca} {sc row b s pa fu : Addr} {ns : List Int} {A : Pl} {wi : List (Option Nat)} {st : Fa × Shelf} {ps fs : List En} {ys : List (Option D)} {H : Hp} {σ : L2.St} {i : Nat} {W : TS} {DE : Ends}
theorem turn_end (hA : PlL A) (hG : Good A st) (L : LInv K c sc row ns A wi b s st i σ H) (hD : ∀ σ' H', LInv K c sc row ns A wi b s st i σ' H' → DE.nx σ' H') :
    tIfS (tNot (tB (tCl (SpG (R_law_shows c)) (tCons (tVar 4) (tCons (tOp (rIxT K) (tOp (rIxL K) (tVar 5) (tUn (rU fun i => .int (-i)) (tC (.int 1)))) (tC (.int 0))) tNil))))) (tRet (tC (.bl false))) tNext DE σ H := by
  obtain ⟨pa, fu, ps, fs, ch, hl, n1, n2, n3, g⟩ := L
  have gd := chn_good hA hG (chn_app.mp ch).1
  refine if_in ((pdt_not (pdt_val (pd_cl (pd_cons (pd_var (i := 4) rfl) (pd_cons (pd_last (pd_var (i := 5) rfl)) pd_nil)) (R_law_shows.mk b s A (Sx st ps fs) hA gd.fa gd.sh)))) σ H _ trivial g fun H1 r1 => ?_)
  rw [if_neg (by decide)]
  exact hD σ H1 ⟨pa, fu, ps, fs, ch, hl, n1, n2, n3, gl_same g (FS_same r1)⟩
theorem turn_undo (ch : Chn A st (ps ++ fs.reverse)) (hl : ps.length + fs.length ≤ i) (hi : i < 100) (n1 : pa ≠ row) (n2 : fu ≠ row) (n3 : pa ≠ fu) (hy : ys.length = 8) (g : EnvOk H σ (GL K c sc row ns A wi b s pa fu (Sx st ps fs) (pastD st ps) (futD fs) ys))
    (hW : ∀ σ' H', LInv K c sc row ns A wi b s st (i + 1) σ' H' → W DE σ' H') :
    tSeq (tSeq (tIfS (tTest (tOp rNe (tMethR c.box "undo" (SpBox c R_undo) E0 (tVar 4) tNil) (tOp gtR (tCB (lenR K) (tCons (tVar 5) tNil)) (tC (.int 1))))) (tRet (tC (.bl false))) tNext)
      (tAsg (tOp rCat (tVar 6) (tIf (tTest (tOp gtR (tCB (lenR K) (tCons (tVar 5) tNil)) (tC (.int 1)))) (tLst (tCons (tBM0 K "list" rPop (tVar 5)) tNil)) (tLst tNil))) (gName 6))) W DE σ H := by
  have hz := sizeLine_eq
  have pl : ∀ {S : Sc} {ps : List En} {fd : List D}, Pd (GL K c sc row ns A wi b s pa fu S (pastD st ps) fd ys) (tOp gtR (tCB (lenR K) (tCons (tVar 5) tNil)) (tC (.int 1))) (Ev.d FS (.bl (decide ((((pastD st ps).length : Nat) : Int) > 1)))) := pd_op' (pd_call' (pd_cons (pd_la (pd_var (i := 5) rfl)) pd_nil) pc_lenL) pd_int p2_I0b
  have plen : ∀ ps : List En, (pastD st ps).length = ps.length + 1 := fun ps => by unfold pastD; rw [List.length_cons, List.length_map]
  have flen : (futD fs).length = fs.length := List.length_map ..
  refine seq_as (seq_if ?_)
  rcases List.eq_nil_or_concat ps with e | ⟨l, e, hps⟩
  · subst e
    have pf : ∀ {S : Sc} {fd : List D}, Pd (GL K c sc row ns A wi b s pa fu S (pastD st []) fd ys) (tOp gtR (tCB (lenR K) (tCons (tVar 5) tNil)) (tC (.int 1))) (Ev.d FS (.bl false)) := pd_blt pl (by rw [plen]; decide)
    refine bx_test (R := R_undo) (S' := Sx st [] fs) g (fun _ _ => rfl) (.none A st.1 st.2 fs) pf fun H3 g3 => ?_
    rw [if_neg Bool.false_ne_true]
    refine seq_next (seq_asg (op_in ⟨.ref fu, (gl_fut g3).1, ?_⟩))
    refine (pdt_test pf) σ H3 _ trivial g3 fun H4 r4 => ?_
    rw [if_neg Bool.false_ne_true]
    refine ⟨Nat.zero_le _, fun q nq => ?_⟩
    refine cat_fut (gl_same g3 (Same.trans (FS_same r4) (Same.new nq))) (es := []) upd_same rfl (by rw [flen]; show fs.length + 0 ≤ sizeLine; omega) fun p H6 m1 m2 g6 => ?_
    rw [List.append_nil] at g6
    exact hW _ _ ⟨pa, p, [], fs, ch, by omega, n1, m1, m2, gl_weak g6 hy⟩
  · rw [List.concat_eq_append] at hps
    subst hps
    rw [List.length_append, List.length_singleton] at hl
    have pt : ∀ {S : Sc} {fd : List D}, Pd (GL K c sc row ns A wi b s pa fu S (pastD st (l ++ [e])) fd ys) (tOp gtR (tCB (lenR K) (tCons (tVar 5) tNil)) (tC (.int 1))) (Ev.d FS (.bl true)) := pd_blt pl (by
      rw [plen, List.length_append, List.length_singleton]
      exact decide_eq_true (by omega))
    refine bx_test (R := R_undo) (S' := Sx st l (fs ++ [e])) g (fun _ _ => rfl) (undo_r (by omega)) pt fun H3 g3 => ?_
    rw [if_neg Bool.false_ne_true]
    refine seq_next (seq_asg (op_in ⟨.ref fu, (gl_fut g3).1, ?_⟩))
    refine (pdt_test pt) σ H3 _ trivial g3 fun H4 r4 => ?_
    rw [if_pos rfl]
    have g4 := gl_same g3 (FS_same r4)
    obtain ⟨hσ5, _, zs, hz5, qz⟩ := gl_past g4
    rw [past_app] at qz
    obtain ⟨as, y, ez, qa, qy⟩ := reps_snoc qz
    subst ez
    refine ⟨.ref pa, hσ5, .inl ⟨rfl, _, SqL.of hz5⟩, pa, _, y, rfl, rfl, hz5, by simp, ?_⟩
    rw [List.dropLast_concat]
    refine ⟨by show 1 ≤ sizeLine; omega, fun q nq => ?_⟩
    have g5 := gl_pop (H' := upd H4 pa (.lst as)) g4 rfl qa n1 n3
    have qy5 : Rep (upd H4 pa (.lst as)) (dPF e) y := Rep.pr (Pr.mutL hz5) qy
    have smq : Same (upd H4 pa (.lst as)) (upd (upd H4 pa (.lst as)) q (.lst [y])) := Same.new nq
    refine cat_fut (gl_same g5 smq) (es := [dPF e]) upd_same ⟨y, [], rfl, Rep.same smq qy5, rfl⟩ (by rw [flen]; show fs.length + 1 ≤ sizeLine; omega) fun p H6 m1 m2 g6 => ?_
    rw [← fut_app] at g6
    exact hW _ _ ⟨pa, p, l, fs ++ [e], by simpa using ch, by rw [List.length_append, List.length_singleton]; omega, n1, m1, m2, gl_weak g6 hy⟩
theorem turn_redo (ch : Chn A st (ps ++ fs.reverse)) (hl : ps.length + fs.length ≤ i) (hi : i < 100) (n1 : pa ≠ row) (n2 : fu ≠ row) (n3 : pa ≠ fu) (hy : ys.length = 8) (g : EnvOk H σ (GL K c sc row ns A wi b s pa fu (Sx st ps fs) (pastD st ps) (futD fs) ys))
    (hW : ∀ σ' H', LInv K c sc row ns A wi b s st (i + 1) σ' H' → W DE σ' H') :
    tSeq (tSeq (tIfS (tTest (tOp rNe (tMethR c.box "redo" (SpBox c R_redo) E0 (tVar 4) tNil) (tOp (rNeNilL K) (tVar 6) (tLst tNil)))) (tRet (tC (.bl false))) tNext)
      (tAsg (tOp rCat (tVar 5) (tIf (tTest (tOp (rNeNilL K) (tVar 6) (tLst tNil))) (tLst (tCons (tBM0 K "list" rPop (tVar 6)) tNil)) (tLst tNil))) (gName 5))) W DE σ H := by
  have hz := sizeLine_eq
  have pl : ∀ {S : Sc} {pd : List D} {fs : List En}, Pd (GL K c sc row ns A wi b s pa fu S pd (futD fs) ys) (tOp (rNeNilL K) (tVar 6) (tLst tNil)) (Ev.d FS (.bl (!decide (futD fs = [])))) := pd_op' (pd_la (pd_var (i := 6) rfl)) (pd_lst' (ds := []) pd_nil rfl (by decide)) p2_neNil
  have plen : (pastD st ps).length = ps.length + 1 := by unfold pastD; rw [List.length_cons, List.length_map]
  refine seq_as (seq_if ?_)
  rcases List.eq_nil_or_concat fs with e | ⟨l, e, hps⟩
  · subst e
    have pf : ∀ {S : Sc} {pd : List D}, Pd (GL K c sc row ns A wi b s pa fu S pd (futD []) ys) (tOp (rNeNilL K) (tVar 6) (tLst tNil)) (Ev.d FS (.bl false)) := pd_blt pl rfl
    refine bx_test (R := R_redo) (S' := Sx st ps []) g (fun _ _ => rfl) (.none A (cur st ps).1 (cur st ps).2 (bef st ps)) pf fun H3 g3 => ?_
    rw [if_neg Bool.false_ne_true]
    refine seq_next (seq_asg (op_in ⟨.ref pa, (gl_past g3).1, ?_⟩))
    refine (pdt_test pf) σ H3 _ trivial g3 fun H4 r4 => ?_
    rw [if_neg Bool.false_ne_true]
    refine ⟨Nat.zero_le _, fun q nq => ?_⟩
    have g5 := gl_same g3 (Same.trans (FS_same r4) (Same.new (o := .lst []) nq))
    refine cat_past g5 (es := []) upd_same rfl (by rw [plen]; show ps.length + 1 + 0 ≤ sizeLine; omega) fun p H6 m1 m2 sm la => ?_
    rw [List.append_nil] at la
    exact hW _ _ ⟨p, fu, ps, [], ch, by omega, m1, n2, m2, gl_weak (gl_setP (gl_same g5 sm) la) hy⟩
  · rw [List.concat_eq_append] at hps
    subst hps
    rw [List.length_append, List.length_singleton] at hl
    have pt : ∀ {S : Sc} {pd : List D}, Pd (GL K c sc row ns A wi b s pa fu S pd (futD (l ++ [e])) ys) (tOp (rNeNilL K) (tVar 6) (tLst tNil)) (Ev.d FS (.bl true)) := pd_blt pl (by
      rw [fut_app]
      simp)
    refine bx_test (R := R_redo) (S' := Sx st (ps ++ [e]) l) g (fun _ _ => rfl) (redo_r (by omega)) pt fun H3 g3 => ?_
    rw [if_neg Bool.false_ne_true]
    refine seq_next (seq_asg (op_in ⟨.ref pa, (gl_past g3).1, ?_⟩))
    refine (pdt_test pt) σ H3 _ trivial g3 fun H4 r4 => ?_
    rw [if_pos rfl]
    have g4 := gl_same g3 (FS_same r4)
    obtain ⟨hσ5, _, zs, hz5, qz⟩ := gl_fut g4
    rw [fut_app] at qz
    obtain ⟨as, y, ez, qa, qy⟩ := reps_snoc qz
    subst ez
    refine ⟨.ref fu, hσ5, .inl ⟨rfl, _, SqL.of hz5⟩, fu, _, y, rfl, rfl, hz5, by simp, ?_⟩
    rw [List.dropLast_concat]
    refine ⟨by show 1 ≤ sizeLine; omega, fun q nq => ?_⟩
    have g5 := gl_popF (H' := upd H4 fu (.lst as)) g4 rfl qa n2 n3
    have qy5 : Rep (upd H4 fu (.lst as)) (dPF e) y := Rep.pr (Pr.mutL hz5) qy
    have smq : Same (upd H4 fu (.lst as)) (upd (upd H4 fu (.lst as)) q (.lst [y])) := Same.new nq
    have g6 := gl_same g5 smq
    refine cat_past g6 (es := [dPF e]) upd_same ⟨y, [], rfl, Rep.same smq qy5, rfl⟩ (by rw [plen]; show ps.length + 1 + 1 ≤ sizeLine; omega) fun p H6 m1 m2 sm la => ?_
    rw [← past_app] at la
    exact hW _ _ ⟨p, fu, ps ++ [e], l, by simpa using ch, by rw [List.length_append, List.length_singleton]; omega, m1, n2, m2, gl_weak (gl_setP (gl_same g6 sm) la) hy⟩
theorem turn_step {kD : D} (hA : PlL A) (hG : Good A st) (ch : Chn A st (ps ++ fs.reverse)) (hl : ps.length + fs.length ≤ i) (hi : i < 100) (n1 : pa ≠ row) (n2 : fu ≠ row) (n3 : pa ≠ fu) (g : EnvOk H σ (GL K c sc row ns A wi b s pa fu (Sx st ps fs) (pastD st ps) (futD fs) [none, some kD, none, none, none, none, none, none]))
    (hW : ∀ σ' H', LInv K c sc row ns A wi b s st (i + 1) σ' H' → W DE σ' H') :
    tSeq (tSeq (tAsg (tCl (SpG (R_law_step K)) (tCons (tVar 1) (tCons (tVar 2) (tCons (tOp (rIxT K) (tOp (rIxL K) (tVar 5) (tUn (rU fun i => .int (-i)) (tC (.int 1)))) (tC (.int 0))) tNil)))) (gTup K 3 (gCons (gName 9) (gCons (gName 10) (gCons (gName 11) gNil)))))
      (tSeq (tIfS (tTest (tOp (rNeD K) (tMethR c.box "apply_all" (Sp_apply_all c) E0 (tVar 4) (tCons (tLst (tCons (tVar 9) tNil)) tNil)) (tLst (tCons (tVar 11) tNil)))) (tRet (tC (.bl false))) tNext)
        (tPar 5 6 (tCons (tOp rCat (tVar 5) (tLst (tCons (tTup (tCons (tVar 10) (tCons (tVar 9) tNil))) tNil))) (tCons (tLst tNil) tNil))))) W DE σ H := by
  have hz := sizeLine_eq
  have ok := hA.ok
  have chp := (chn_app.mp ch).1
  have gd := chn_good hA hG chp
  have plen : (pastD st ps).length = ps.length + 1 := by unfold pastD; rw [List.length_cons, List.length_map]
  have hnd : ndDs [dW wi] = true := by
    show (ndDs (wi.map dO) && true) = true
    rw [ndDs_map ndD_dO]
    rfl
  refine seq_as (seq_asgG (fr_call (es := [rwX K sc row ns, Ev.d FS (dS A [dW wi]), Ev.d FS (dScn (cur st ps).1 (cur st ps).2)]) (pd_cons (pd_var (i := 1) rfl) (pd_cons (pd_var (i := 2) rfl) (pd_cons (pd_last (pd_var (i := 5) rfl)) pd_nil))) (R_law_step.mk sc row ns A [dW wi] (cur st ps).1 (cur st ps).2 hA hnd gd.fa gd.sh) (fun H vs ⟨v, ws, e, q, r⟩ => ⟨v, ws, e, q.1, r⟩) (gl_row g).2 g fun v H1 H2 sm r ⟨o, ⟨ho1, ho2⟩, q⟩ => ?_))
  obtain ⟨a, xs, ev, ha, qx⟩ := q
  obtain ⟨y1, y2, y3, e3, q1, q2, q3⟩ := Reps.three qx
  subst e3
  refine ⟨a, _, ev, .inl (.inl ha), rfl, y1, _, rfl, y2, _, rfl, y3, _, rfl, rfl, ?_⟩
  have g2 : EnvOk H2 (((σ.set 9 (some y1)).set 10 (some y2)).set 11 (some y3)) (GL K c sc row ns A wi b s pa fu (Sx st ps fs) (pastD st ps) (futD fs) [none, some kD, some (dOp o), some (dScn (stepO A (cur st ps).1 (cur st ps).2 o).1 (stepO A (cur st ps).1 (cur st ps).2 o).2.1), some (stepO A (cur st ps).1 (cur st ps).2 o).2.2, none, none, none]) :=
    EnvOk.set (i := 11) (e := Ev.d FS (stepO A (cur st ps).1 (cur st ps).2 o).2.2) (EnvOk.set (i := 10) (e := Ev.d FS (dScn (stepO A (cur st ps).1 (cur st ps).2 o).1 (stepO A (cur st ps).1 (cur st ps).2 o).2.1)) (EnvOk.set (i := 9) (e := Ev.d FS (dOp o)) (gl_fr (gl_same g sm) r n1 n2) q1) q2) q3
  generalize ((σ.set 9 (some y1)).set 10 (some y2)).set 11 (some y3) = σ2 at g2 ⊢
  refine seq_as (seq_if (tst_in (op_in ?_)))
  obtain ⟨hσ4, bx⟩ := gl_box g2
  obtain ⟨_, dxb, pl, hb, _⟩ := id bx
  obtain ⟨v9, hv9, q9⟩ := g2.2 9 (Ev.d FS (dOp o)) rfl
  refine ⟨.ref b, hσ4, b, dxb, _, rfl, hb, rfl, v9, hv9, by show 1 ≤ sizeLine; omega, fun q1 nq1 => ?_⟩
  have sm1 : Same H2 (upd H2 q1 (.lst [v9])) := Same.new nq1
  have hbl : (bef st ps).length = ps.length := bef_len ps st
  refine ⟨b, s, q1, A, Sx st ps fs, [o], rfl, (bxE c b s A _).st trivial (Fm.ofSame (F := FS) trivial sm1) bx, ⟨rfl, [v9], upd_same, v9, [], rfl, Rep.same sm1 q9, rfl⟩, ok, ⟨good_sc (S := Sx st ps fs) gd (by show (bef st ps).length < 900; omega) (by show fs.length < 900; omega), ho1, trivial⟩, by show 1 < 900; decide, fun H3 p zs k3 bx3 np hp3 qz => ?_⟩
  have g3 := gl_bx (S' := Sx st (ps ++ [(o, aft A (cur st ps) o)]) []) (gl_same g2 sm1) k3 (by rw [← step_sx (fs := fs)]; exact bx3)
  obtain ⟨v11, hv11, q11⟩ := g3.2 11 (Ev.d FS (stepO A (cur st ps).1 (cur st ps).2 o).2.2) rfl
  refine ⟨v11, hv11, by show 1 ≤ sizeLine; omega, fun q2 nq2 => ?_⟩
  have sm2 : Same H3 (upd H3 q2 (.lst [v11])) := Same.new nq2
  have fd := fit_due (P := A) (f := (cur st ps).1) (sh := (cur st ps).2) (o := o) hA
  refine p2_neDL (F := FS) (K := K) fd fd (.ref p) (.ref q2) _ _ trivial ⟨p, zs, rfl, fun z => z, sm2 _ _ hp3, Reps.same sm2 qz⟩ ⟨q2, [v11], rfl, fun z => z, upd_same, v11, [], rfl, Rep.same sm2 q11, rfl⟩ fun w H5 r5 q5 => ?_
  have e5 : w = .bl (!PyData.eqv (.list (pyDs [(stepO A (cur st ps).1 (cur st ps).2 o).2.2])) (.list (pyDs [(stepO A (cur st ps).1 (cur st ps).2 o).2.2]))) := q5
  rw [fd.refl] at e5
  refine ⟨false, e5, ?_⟩
  rw [if_neg Bool.false_ne_true]
  refine seq_next ?_
  have g5 := gl_same (gl_same g3 sm2) (FS_same r5)
  refine seq_par2 (cons_in (op_in ⟨.ref pa, (gl_past g5).1, ?_⟩))
  obtain ⟨v10, hv10, q10⟩ := g5.2 10 (Ev.d FS (dScn (stepO A (cur st ps).1 (cur st ps).2 o).1 (stepO A (cur st ps).1 (cur st ps).2 o).2.1)) rfl
  obtain ⟨u9, hu9, p9⟩ := g5.2 9 (Ev.d FS (dOp o)) rfl
  refine ⟨v10, hv10, u9, hu9, by show 2 ≤ sizeLine; omega, fun t nt => ⟨by show 1 ≤ sizeLine; omega, fun q3 nq3 => ?_⟩⟩
  have smt : Same H5 (upd H5 t (.tup [v10, u9])) := Same.new nt
  have sm3 : Same (upd H5 t (.tup [v10, u9])) (upd (upd H5 t (.tup [v10, u9])) q3 (.lst [.ref t])) := Same.new nq3
  have smm := Same.trans smt sm3
  have g6 := gl_same g5 smm
  have qe : Rep (upd (upd H5 t (.tup [v10, u9])) q3 (.lst [.ref t])) (dPF (o, aft A (cur st ps) o)) (.ref t) := Rep.tup (sm3 _ _ upd_same) ⟨v10, _, rfl, Rep.same smm q10, u9, [], rfl, Rep.same smm p9, rfl⟩
  refine cat_past g6 (es := [dPF (o, aft A (cur st ps) o)]) upd_same ⟨.ref t, [], rfl, qe, rfl⟩ (by rw [plen]; show ps.length + 1 + 1 ≤ sizeLine; omega) fun p' H8 m1 m2 sm8 la => ?_
  rw [← past_app] at la
  refine ⟨Nat.zero_le _, fun fu' nfu' => ⟨_, _, rfl, ?_⟩⟩
  have g8 := gl_same g6 sm8
  have sm9 : Same H8 (upd H8 fu' (.lst [])) := Same.new nfu'
  obtain ⟨l1, _, _⟩ := gl_fresh g8 nfu'
  have npf : p' ≠ fu' := by
    obtain ⟨_, us, hu, _⟩ := la
    exact ne_of_none hu nfu'
  have g9 : EnvOk _ _ (GL K c sc row ns A wi b s p' fu' (Sx st (ps ++ [(o, aft A (cur st ps) o)]) []) (pastD st (ps ++ [(o, aft A (cur st ps) o)])) (futD []) _) := gl_setF (gl_setP (gl_same g8 sm9) ((Ev.la p' _).st (F := FS) trivial (Fm.ofSame trivial sm9) la)) (fd' := futD []) ⟨rfl, [], upd_same, rfl⟩
  refine hW _ _ ⟨p', fu', ps ++ [(o, aft A (cur st ps) o)], [], ?_, by rw [List.length_append, List.length_singleton]; show ps.length + 1 + 0 ≤ i + 1; omega, m1, l1, npf, gl_weak g9 rfl⟩
  rw [List.reverse_nil, List.append_nil]
  exact chn_app.mpr ⟨chp, ho1, ho2, rfl, trivial⟩
end
end Bf
/-! ### the law, walked -/
namespace Bf
open PySem PySem.Spec PyProof.Rows L2
def spLaw (K : PySem.W.Frag) : Sp := fun vs H Q _ => ∃ (a : Addr) (ns : List Int), vs = [.ref a] ∧ SqF K H a (ns.map V.int) ∧ ∀ H', Q (.bl true) H'
theorem s0_good {A : Pl} (hA : PlL A) {wi : List (Option Nat)} (hw : wi ∈ wirs A) : Good A ((S0 A wi).fa, (S0 A wi).sh) := by
  refine ⟨⟨⟨List.length_replicate, wirs_ok hA.ok hw, List.nodup_nil, fun _ z => (nomatch z)⟩, hw⟩, ⟨fun _ z => (nomatch z), List.nodup_nil, fun x f h => ?_⟩⟩
  have h' : (none : Option Fa) = some f := h
  cases h'
section
variable {P : Program} {w : World} {K : PySem.W.Frag} {mg : Str → Option Value} {base : Heap} {c : Ca}
theorem ok_law (T : Tx w K mg c) {f : Addr} {fd : FuncData} (FF : FunD K "law" "law" (defArgs slaw) (defBody slaw) (defScope slaw) [] [] f fd) : FnOk P w K mg base CX0 12 f fd ["_law_script"] (spLaw K) := by
  have ok_mk_Box := fun T : Tx w K mg c => ok_Box_init (P := P) (base := base) T
  refine FF.ok sclaw (fun vs H Q E h => ?_) (fun cdv AA outer s0 H vs Q E hr h => ⟨_, PSs.nox (pss_cons (ps_set (i := 1) sclaw.nd rfl (Or.inl rfl) (pe_lst (pa_cons (pv 0) (pa_cons pe_int (pa_cons pe_int (pa_cons pe_int pa_nil)))))) (pss_cons (ps_set (i := 2) sclaw.nd rfl (Or.inl rfl) (pe_cl (ok_law_scheme T) hr (by decide) (by rfl) (pa_cons (pv 1) (pa_cons pe_int (pa_cons pe_int pa_nil))))) (pss_cons (ps_set (i := 3) sclaw.nd rfl (Or.inl rfl) (pe_tup (pa_cons (pe_op op_repTZ (pe_tupZ (pa_cons pe_bl pa_nil)) (pe_callB call_len_seq (by rfl) T.n_len (by decide +kernel) (pa_cons (pe_ix ix_tup (pv 2) pe_int (fun _ _ => rfl)) pa_nil))) (pa_cons pe_dnewK (pa_cons (pe_ix ix_tup (pv 2) pe_int (fun _ _ => rfl)) (pa_cons pe_int (pa_cons pe_dnewK pa_nil))))))) (pss_cons (ps_par3 (i := 4) (j := 5) (l := 6) (by rfl) sclaw.nd rfl rfl rfl (by decide) (by decide) (by decide) rfl rfl rfl (pa_cons (pe_mk (ok_mk_Box T) hr (by decide) (by rfl) (pa_cons (pe_cl (ok_law_plan T) hr (by decide) (by rfl) (pa_cons (pv 2) pa_nil)) (pa_cons (pe_ix ix_tup (pv 2) pe_int (fun _ _ => rfl)) pa_nil))) (pa_cons (pe_lst (pa_cons (pe_tup (pa_cons (pv 3) (pa_cons pe_non pa_nil))) pa_nil)) (pa_cons (pe_lst pa_nil) pa_nil))) (by rfl)) (pss_cons (ps_for PassesOwn.never rfl (pi_range1 (by rfl) T.n_range (pa_cons (pe_cl (ok_law_taken T) hr (by decide) (by rfl) (pa_cons (pv 1) (pa_cons pe_int pa_nil))) pa_nil)) (pg_name (i := 7) sclaw.nd rfl (Or.inl rfl)) (pss_cons (ps_set (i := 8) sclaw.nd rfl (Or.inl rfl) (pe_cl (ok_law_taken T) hr (by decide) (by rfl) (pa_cons (pv 1) (pa_cons pe_int pa_nil)))) (pss_cons (ps_if (pt_cmpR op_eq (pv 8) pe_int (nomark _)) (pss_cons (ps_if (pt_cmpR op_ne (pe_md0 T.c_Box (ok_Box_undo T) hr (by decide) (pv 4)) (pe_cmpR op_gt (pe_callB call_len_seq (by rfl) T.n_len (by decide +kernel) (pa_cons (pv 5) pa_nil)) pe_int (nomark _)) (nomark _)) (pss_one (ps_ret pe_bl)) pss_nil) (pss_one (ps_set (i := 6) sclaw.nd rfl (Or.inl rfl) (pe_op op_cat (pv 6) (pe_ifExp (pt_cmpR op_gt (pe_callB call_len_seq (by rfl) T.n_len (by decide +kernel) (pa_cons (pv 5) pa_nil)) pe_int (nomark _)) (pe_lst (pa_cons (pe_bm0 PySem.F.plainAttrs_list PySem.F.slot_list_pop PySem.F.type_list_pop mt_pop (pv 5)) pa_nil)) (pe_lst pa_nil)))))) (pss_one (ps_if (pt_cmpR op_eq (pv 8) pe_int (nomark _)) (pss_cons (ps_if (pt_cmpR op_ne (pe_md0 T.c_Box (ok_Box_redo T) hr (by decide) (pv 4)) (pe_cmpR (op_neNilL hr.units0) (pv 6) (pe_lst pa_nil) (nomark _)) (nomark _)) (pss_one (ps_ret pe_bl)) pss_nil) (pss_one (ps_set (i := 5) sclaw.nd rfl (Or.inl rfl) (pe_op op_cat (pv 5) (pe_ifExp (pt_cmpR (op_neNilL hr.units0) (pv 6) (pe_lst pa_nil) (nomark _)) (pe_lst (pa_cons (pe_bm0 PySem.F.plainAttrs_list PySem.F.slot_list_pop PySem.F.type_list_pop mt_pop (pv 6)) pa_nil)) (pe_lst pa_nil)))))) (pss_cons (ps_asg (pe_cl (ok_law_step T) hr (by decide) (by rfl) (pa_cons (pv 1) (pa_cons (pv 2) (pa_cons (pe_ix ix_tup (pe_ix ix_list (pv 5) (pe_un un_neg pe_int) (fun _ _ => rfl)) pe_int (fun _ _ => rfl)) pa_nil)))) (pg_tup (by rfl) (pgs_cons (pg_name (i := 9) sclaw.nd rfl (Or.inl rfl)) (pgs_cons (pg_name (i := 10) sclaw.nd rfl (Or.inl rfl)) (pgs_cons (pg_name (i := 11) sclaw.nd rfl (Or.inl rfl)) pgs_nil))))) (pss_cons (ps_if (pt_cmpR (op_neD hr.units) (pe_mdm T.c_Box (ok_Box_apply_all T) hr (by decide) (pv 4) (pa_cons (pe_lst (pa_cons (pv 9) pa_nil)) pa_nil)) (pe_lst (pa_cons (pv 11) pa_nil)) (nomark _)) (pss_one (ps_ret pe_bl)) pss_nil) (pss_one (ps_par (i := 5) (j := 6) (by rfl) sclaw.nd rfl rfl (by decide) rfl rfl (pa_cons (pe_op op_cat (pv 5) (pe_lst (pa_cons (pe_tup (pa_cons (pv 10) (pa_cons (pv 9) pa_nil))) pa_nil))) (pa_cons (pe_lst pa_nil) pa_nil)) (by rfl)))))))) (pss_one (ps_if (pt_not (pt_val (pe_cl (ok_law_shows T) hr (by decide) (by rfl) (pa_cons (pv 4) (pa_cons (pe_ix ix_tup (pe_ix ix_list (pv 5) (pe_un un_neg pe_int) (fun _ _ => rfl)) pe_int (fun _ _ => rfl)) pa_nil))))) (pss_one (ps_ret pe_bl)) pss_nil))))) (pss_cons (ps_setLcD (i := 12) (own := [("_law_one", 14)]) (by rfl) sclaw.nd rfl rfl (sw_true rfl rfl rfl (by decide +kernel)) (pi_list (pe_slice sl_list (pv 5) (po_some pe_int) po_none)) (blkOk_by (own := [("_law_one", 14)]) (N := Nlaw) (sc := defScope slaw) (by decide +kernel)) (fun _ _ _ _ _ => (pg_name (i := 14) sclaw.nd rfl (Or.inl rfl))) (fun _ _ _ _ _ => pts_nil) (fun _ _ _ _ _ => (pe_ix ix_tup (pv 14) pe_int (fun _ _ => rfl)))) (pss_cons (ps_if (pt_cmpR (op_neD hr.units) (pe_bp T.c_Box (ok_b_history T) hr (by decide) (pv 4)) (pv 12) (nomark _)) (pss_one (ps_ret pe_bl)) pss_nil) (pss_cons (ps_set (i := 13) sclaw.nd rfl (Or.inl rfl) (pe_cmt (ok_replay T) hr (by decide) (by rfl) (pa_cons (pe_cl (ok_law_plan T) hr (by decide) (by rfl) (pa_cons (pv 2) pa_nil)) (pa_cons (pe_ix ix_tup (pv 2) pe_int (fun _ _ => rfl)) (pa_cons (pv 12) pa_nil))))) (pss_one (ps_ret (pe_and (pe_cl (ok_law_shows T) hr (by decide) (by rfl) (pa_cons (pv 13) (pa_cons (pe_ix ix_tup (pe_ix ix_list (pv 5) (pe_un un_neg pe_int) (fun _ _ => rfl)) pe_int (fun _ _ => rfl)) pa_nil))) (pe_one (pe_cmpR (op_eqD hr.units) (pe_bp T.c_Box (ok_b_history T) hr (by decide) (pv 13)) (pv 12) (nomark _)))))))))))))), ?_⟩)
  · obtain ⟨a, ns, e, _⟩ := h
    rw [e]
    rfl
  obtain ⟨sc, ns, e, hsc, hQ⟩ := h
  subst e
  have hz := sizeLine_eq
  -- the row
  refine seq_asg ⟨.ref sc, rfl, by show 4 ≤ sizeLine; omega, fun row nrow => ?_⟩
  have sm1 : Same H (upd H row (.lst [.ref sc, .int ((0 : Nat) : Int), .int 0, .int 0])) := Same.new nrow
  have rw1 : ∃ i x y, RwP K sc row ns (upd H row (.lst [.ref sc, .int ((0 : Nat) : Int), .int 0, .int 0])) i x y := ⟨0, 0, 0, hsc.same sm1, upd_same⟩
  have g1 : EnvOk (F := FS) (upd H row (.lst [.ref sc, .int ((0 : Nat) : Int), .int 0, .int 0])) ((start Nlaw [.ref sc]).set 1 (some (.ref row))) [none, some (rwX K sc row ns), none, none, none, none, none, none, none, none, none, none, none, none, none] := EnvOk.set (i := 1) (e := rwX K sc row ns) (envOk_nones (n := 15) rfl) ⟨rfl, rw1⟩
  -- the scheme
  refine seq_asg (fr_call (es := [rwX K sc row ns, Ev.d FS (.int 4), Ev.d FS (.int 3)]) (pd_cons (pd_var (i := 1) rfl) (pd_cons pd_int (pd_cons pd_int pd_nil))) (R_law_scheme.mk sc row ns) (fun H vs ⟨v, ws, e, q, r⟩ => ⟨v, ws, e, q.1, r⟩) rw1 g1 fun v2 H2 H3 sm2 r3 ⟨⟨A, wi⟩, ⟨hA, hwi⟩, q3⟩ => ?_)
  dsimp only at hA hwi q3
  have ok := hA.ok
  have hw := wirs_ok ok hwi
  have hn4 := hA.n4
  have hn1 := ok.n1
  have hnn : A.n = A.rates.length := rfl
  have g3 : EnvOk (F := FS) H3 (((start Nlaw [.ref sc]).set 1 (some (.ref row))).set 2 (some v2)) [none, some (rwX K sc row ns), some (Ev.d FS (dS A [dW wi])), none, none, none, none, none, none, none, none, none, none, none, none] := EnvOk.set (i := 2) (e := Ev.d FS (dS A [dW wi])) (g1.cv (H' := H3) (Γ' := [none, some (rwX K sc row ns), none, none, none, none, none, none, none, none, none, none, none, none, none]) ⟨fun v e => ⟨e.1, r3.1⟩, trivial⟩) q3
  -- begin
  refine m_set (i := 3) (a := Ev.d FS (dScn (S0 A wi).fa (S0 A wi).sh)) (pd_tup' (ds := [dZ (List.replicate A.n true), dLd [], dW wi, .int 0, dLSh []]) (pd_cons (pd_eq (pd_op' (pd_tupZ (ds := [.bl true]) (pd_cons pd_bl pd_nil) (by show 1 ≤ sizeLine; omega)) (pd_eq (e' := Ev.d FS (.int (A.n : Nat))) (pd_call' (pd_cons (pS0 (pd_var (i := 2) rfl)) pd_nil) (pc_lenT rfl)) (by rw [List.length_map])) (p2_repTZ (by simp) (by simp) (by omega) (by omega))) (by
    unfold dZ
    rw [List.map_replicate, List.flatten_replicate_singleton])) (pd_cons pd_dnew (pd_cons (pd_op' (pd_var (i := 2) rfl) pd_int (p2_ixT (dt := dS A [dW wi]) (d := dW wi) rfl rfl)) (pd_cons pd_int (pd_cons pd_dnew pd_nil))))) rfl (by show 5 ≤ sizeLine; omega)) g3 fun v3 H4 sm4 g4 => ?_
  -- the box, the past, the future
  refine seq_par3 (cons_in (mk_box (pd_cons (pd_cl (pd_cons (pd_var (i := 2) rfl) pd_nil) (R_law_plan.mk FS A [dW wi] ok)) (pd_cons (pd_op' (pd_var (i := 2) rfl) pd_int (p2_ixT (dt := dS A [dW wi]) (d := dW wi) rfl rfl)) pd_nil)) ok hw g4 fun H5 b s nb ns5 sm5 bx5 => ?_))
  have g5 := g4.st (F := FS) trivial (Fm.ofSame trivial sm5)
  obtain ⟨v3', hv3, qb⟩ := g5.2 3 (Ev.d FS (dScn (S0 A wi).fa (S0 A wi).sh)) rfl
  refine ⟨v3', hv3, by show 2 ≤ sizeLine; omega, fun t nt => ⟨by show 1 ≤ sizeLine; omega, fun pa npa => ⟨Nat.zero_le _, fun fu nfu => ⟨_, _, _, rfl, ?_⟩⟩⟩⟩
  have hst : ((S0 A wi).fa, (S0 A wi).sh) = ((S0 A wi).fa, ([] : Shelf)) := rfl
  have smt : Same H5 (upd H5 t (.tup [v3', .non])) := Same.new nt
  have smp : Same (upd H5 t (.tup [v3', .non])) (upd (upd H5 t (.tup [v3', .non])) pa (.lst [.ref t])) := Same.new npa
  have smf : Same (upd (upd H5 t (.tup [v3', .non])) pa (.lst [.ref t])) (upd (upd (upd H5 t (.tup [v3', .non])) pa (.lst [.ref t])) fu (.lst [])) := Same.new nfu
  have sm7 := Same.trans smt (Same.trans smp smf)
  have hpa7 := smf _ _ (upd_same (H := upd H5 t (.tup [v3', .non])) (a := pa) (o := .lst [.ref t]))
  have hfu7 : upd (upd (upd H5 t (.tup [v3', .non])) pa (.lst [.ref t])) fu (.lst []) fu = some (.lst []) := upd_same
  have ht7 := smf _ _ (smp _ _ (upd_same (H := H5) (a := t) (o := .tup [v3', .non])))
  have g7 := g5.st (F := FS) trivial (Fm.ofSame trivial sm7)
  have bx7 := (bxE c b s A (dSc (S0 A wi))).st trivial (Fm.ofSame (F := FS) trivial sm7) bx5
  have qb7 := Rep.same sm7 qb
  have nfp : fu ≠ pa := fun z => by
    rw [z, upd_same] at nfu
    cases nfu
  obtain ⟨vr, hvr, evr, hrow5⟩ := g5.2 1 (rwX K sc row ns) rfl
  have rw5 := hrow5
  obtain ⟨i5, x5, y5, _, hr5⟩ := rw5
  have npr : pa ≠ row := Ne.symm (ne_of_none (smt _ _ hr5) npa)
  have nfr : fu ≠ row := Ne.symm (ne_of_none (smp _ _ (smt _ _ hr5)) nfu)
  generalize upd (upd (upd H5 t (.tup [v3', .non])) pa (.lst [.ref t])) fu (.lst []) = H7 at *
  have gI : EnvOk H7 ((((((start Nlaw [.ref sc]).set 1 (some (.ref row))).set 2 (some v2)).set 3 (some v3)).set 4 (some (.ref b))).set 5 (some (.ref pa)) |>.set 6 (some (.ref fu))) (GL K c sc row ns A wi b s pa fu (Sx ((S0 A wi).fa, (S0 A wi).sh) [] []) (pastD ((S0 A wi).fa, (S0 A wi).sh) []) (futD []) no8) :=
    EnvOk.set (i := 6) (e := Ev.la fu (futD [])) (EnvOk.set (i := 5) (e := Ev.la pa (pastD ((S0 A wi).fa, (S0 A wi).sh) [])) (EnvOk.set (i := 4) (e := bxE c b s A (dSc (S0 A wi))) (g7.cv (H' := H7) (Γ' := [none, some (rwX K sc row ns), some (Ev.d FS (dS A [dW wi])), none, none, none, none, none, none, none, none, none, none, none, none]) ⟨fun _ h => h, fun _ h => h, trivial⟩) bx7)
      ⟨rfl, [.ref t], hpa7, .ref t, [], rfl, Rep.tup ht7 ⟨v3', _, rfl, qb7, .non, [], rfl, rfl, rfl⟩, rfl⟩) ⟨rfl, [], hfu7, rfl⟩
  have hG := s0_good hA hwi
  generalize hst0 : ((S0 A wi).fa, (S0 A wi).sh) = st at *
  clear g7 g5 g4 g3 g1 hv3 qb qb7 hvr evr bx7 bx5 hpa7 hfu7 ht7 sm7 smf smp smt
  -- the loop
  refine seq_for (for_in (rng_in (cons_in (fr_call (es := [rwX K sc row ns, Ev.d FS (.int ((41 : Nat) : Int))]) (pd_cons (pd_var (i := 1) rfl) (pd_cons pd_int pd_nil)) (R_taken.mk sc row ns 41 (by decide) (by decide)) (fun H vs ⟨v, ws, e, q, r⟩ => ⟨v, ws, e, q.1, r⟩) (gl_row gI).2 gI fun v H8 H9 sm8 r9 ⟨n, hn, q9⟩ => ?_))))
  have ev9 : v = .int (n : Nat) := q9
  subst ev9
  refine ⟨(n : Nat), rfl, by omega, by omega, ?_⟩
  rw [Int.toNat_natCast]
  have gJ := gl_fr (gl_same gI sm8) r9 npr nfr
  refine L2.for_it (L2.walk_range (lo := 0) (n := n)) (LInv K c sc row ns A wi b s st) ⟨pa, fu, [], [], trivial, Nat.le_refl _, npr, nfr, Ne.symm nfp, gJ⟩ (fun _ _ _ _ _ => trivial) (fun i x σ' H' H'' hlt LI y => ?_) fun σ' H' LI => ?_
  · -- a turn
    have eH : H'' = H' := y.1
    rw [eH]
    clear y eH
    obtain ⟨pa, fu, ps, fs, ch, hle, n1, n2, n3, g⟩ := LI
    refine nm_in ?_
    have gA : EnvOk H' (σ'.set 7 (some x)) (GL K c sc row ns A wi b s pa fu (Sx st ps fs) (pastD st ps) (futD fs) no8) := EnvOk.setNone g (fun e z => by
      have z' : some (none : Option (Ev FS)) = some (some e) := z
      cases z')
    generalize σ'.set 7 (some x) = σ1 at gA ⊢
    refine seq_asg (fr_call (es := [rwX K sc row ns, Ev.d FS (.int ((6 : Nat) : Int))]) (pd_cons (pd_var (i := 1) rfl) (pd_cons pd_int pd_nil)) (R_taken.mk sc row ns 6 (by decide) (by decide)) (fun H vs ⟨v, ws, e, q, r⟩ => ⟨v, ws, e, q.1, r⟩) (gl_row gA).2 gA fun v H1 H2 sm r ⟨kd, hkd, qk⟩ => ?_)
    have gB : EnvOk H2 (σ1.set 8 (some v)) (GL K c sc row ns A wi b s pa fu (Sx st ps fs) (pastD st ps) (futD fs) [none, some (.int (kd : Nat)), none, none, none, none, none, none]) := EnvOk.set (i := 8) (e := Ev.d FS (.int (kd : Nat))) (gl_fr (gl_same gA sm) r n1 n2) qk
    generalize σ1.set 8 (some v) = σ2 at gB ⊢
    refine seq_if ((pdt_test (pd_op' (pd_var (i := 8) rfl) pd_int p2_eqI)) σ2 H2 _ trivial gB fun H3 r3 => ?_)
    have gC := gl_same gB (FS_same r3)
    by_cases h0 : (kd : Int) = 0
    · rw [decide_eq_true h0, if_pos rfl]
      exact turn_undo ch hle (by omega) n1 n2 n3 rfl gC fun σ3 H3 L => turn_end hA hG L fun _ _ z => z
    · rw [decide_eq_false h0, if_neg Bool.false_ne_true]
      refine seq_if ((pdt_test (pd_op' (pd_var (i := 8) rfl) pd_int p2_eqI)) σ2 H3 _ trivial gC fun H4 r4 => ?_)
      have gD := gl_same gC (FS_same r4)
      by_cases h1 : (kd : Int) = 1
      · rw [decide_eq_true h1, if_pos rfl]
        exact turn_redo ch hle (by omega) n1 n2 n3 rfl gD fun σ3 H3 L => turn_end hA hG L fun _ _ z => z
      · rw [decide_eq_false h1, if_neg Bool.false_ne_true]
        exact turn_step hA hG ch hle (by omega) n1 n2 n3 gD fun σ3 H3 L => turn_end hA hG L fun _ _ z => z
  · -- behind the loop
    obtain ⟨pa, fu, ps, fs, ch, hle, n1, n2, n3, g⟩ := LI
    have chp := (chn_app.mp ch).1
    have gd := chn_good hA hG chp
    have plen : (pastD st ps).length = ps.length + 1 := by unfold pastD; rw [List.length_cons, List.length_map]
    refine m_set (i := 12) (a := Ev.l FS (ps.map fun e => dOp e.1)) (pd_lc' (is := ps) (f := dPF) (d := fun e => dOp e.1) (pdi_list (pd_eq (pd_slL (ds := pastD st ps) (pd_la (pd_var (i := 5) rfl)) (pdo_some pd_int) pdo_none) (by
      have e := cutD_from (k := 1) (xs := pastD st ps)
      have e1 : ((1 : Nat) : Int) = 1 := rfl
      rw [e1] at e
      rw [e]
      rfl))) (fun e _ => lcb1 (j := 14) (vs := [14]) (List.mem_cons_self) pdt_yes fun _ => pd_op' (pd_var (i := 14) rfl) (pd_int (x := 1)) (p2_ixT (dt := dPF e) (d := dOp e.1) rfl rfl)) (by omega)) g fun v12 H1 sm1 g1 => ?_
    obtain ⟨w12, hw12, l, xs, ew, _, hl, ql⟩ := g1.2 12 (Ev.l FS (ps.map fun e => dOp e.1)) rfl
    have ev12 : v12 = w12 := by
      have h := hw12
      rw [List.getElem?_set_self (by have := g.1; rw [this]; exact (by decide : 12 < 15))] at h
      exact Option.some.inj (Option.some.inj h)
    have la : (Ev.la l (ps.map fun e => dOp e.1)).ok H1 v12 := by
      rw [ev12, ew]
      exact ⟨rfl, xs, hl, ql⟩
    have g2 := EnvOk.set (i := 12) (e := Ev.la l (ps.map fun e => dOp e.1)) (gl_same g sm1) la
    clear g1
    have ft := fit_ops hA chp
    have hbm : (bef st ps).map (fun e => dOp e.1) = ps.map fun e => dOp e.1 := by
      have h := congrArg (List.map dOp) (bef_ops ps st)
      rwa [List.map_map, List.map_map] at h
    have hbl : (bef st ps).length = ps.length := bef_len ps st
    refine m_skip (pdt_eq (pdt_test (pd_op' (pd_prop (pd_var (i := 4) rfl) (.mk A (bef st ps) (by omega) _ _ _)) (pd_la (pd_var (i := 12) rfl)) (p2_neDL (by rw [hbm]; exact ft) ft))) (by rw [hbm, ft.refl]; rfl)) g2 fun H2 sm2 g3 => ?_
    -- once more
    obtain ⟨rn, oo⟩ := runs_chn hA ps (S0 A wi) (by rw [hst0]; exact hG) (by rw [hst0]; exact chp) (by show 0 + ps.length < 900; omega) rfl
    refine seq_asg ⟨rfl, (pd_cons (pd_cl (pd_cons (pd_var (i := 2) rfl) pd_nil) (R_law_plan.mk FS A [dW wi] ok)) (pd_cons (pd_op' (pd_var (i := 2) rfl) pd_int (p2_ixT (dt := dS A [dW wi]) (d := dW wi) rfl rfl)) (pd_cons (pd_var (i := 12) (e := Ev.la l (ps.map fun e => dOp e.1)) rfl) pd_nil))) _ H2 _ trivial g3 fun vs H3 r3 ⟨v1, w1, e1, q1, v2, w2, e2, q2, v3, w3, e3, q3, e4⟩ => ?_⟩
    have e4' : w3 = [] := e4
    have e5 : v3 = .ref l := q3.1
    subst e4' e5 e3 e2 e1
    have hom : (ps.map fun e => dOp e.1) = (ps.map (·.1)).map dOp := by rw [List.map_map]; rfl
    refine ⟨A, wi, ps.map (·.1), l, v1, v2, rfl, ok, hw, q1, q2, by rw [← hom]; exact q3, oo, by rw [List.length_map]; omega, fun H4 b' s' nb' ns' sm4 bx' => ?_⟩
    rw [rn, hst0] at bx'
    have g4 := g3.st (F := FS) trivial r3
    have g5 := EnvOk.set (i := 13) (e := bxE c b' s' A (dSc ⟨(cur st ps).1, (cur st ps).2, bef st ps, []⟩)) (g4.st (F := FS) trivial (Fm.ofSame trivial sm4)) bx'
    refine (pd_blt (x := true) (pd_and (x := true) (pd_cl (pd_cons (pd_var (i := 13) rfl) (pd_cons (pd_last (pd_var (i := 5) rfl)) pd_nil)) (R_law_shows.mk b' s' A ⟨(cur st ps).1, (cur st ps).2, bef st ps, []⟩ hA gd.fa gd.sh)) fun _ => pd_op' (pd_prop (pd_var (i := 13) rfl) (.mk A (bef st ps) (by omega) _ _ _)) (pd_la (pd_var (i := 12) rfl)) (p2_eqDL (by rw [hbm]; exact ft) ft)) (by rw [hbm, ft.refl]; rfl)) _ H4 _ trivial g5 fun v H6 r6 q6 => ?_
    have e6 : v = .bl true := q6
    rw [e6]
    exact hQ H6
end
end Bf
/-! ### the end -/
namespace Bf
open PySem PySem.W PySem.Calls PyProof.Rows HandSHeadRun
/-- what the law's call leans on -/
theorem law_in {P : Program} {w : World} {K : Frag} {h : Heap} {mg : Str → Option Value} {fa : Addr} (X : K.In h) (G : h.Ns mainGlobals mg) (hfa0 : mg ("law" : Str) = some (.ref fa)) (c : SaysB hfa hfn hex "SIZES" sizesK w K) :
    ∃ fd : FuncData, (∀ (s : Shared) (v : Value), BindsTo s fd ⟨[v], []⟩ [("_law_script", v)]) ∧ ∀ base : Heap, K.In base → base.Ns mainGlobals mg → L2.FnOk P w K mg base L2.CX0 12 fa fd ["_law_script"] (spLaw K) := by
  obtain ⟨f, hf, fd, FF⟩ := law_of X G c
  have e := hfa0.symm.trans hf
  cases e
  have b := L2.FunD.bindsA (ps := ["_law_script"]) FF fun _ _ _ _ _ _ us hl => match us, hl with | [_], _ => rfl
  exact ⟨fd, fun s v => b s [v] rfl, fun base _ _ => ok_law (tx_of X G c) FF⟩
theorem sqF_of {K : Frag} {H : L2.Hp} {a : Addr} {us : List L2.V} (o : L2.Only H) (h : L2.SqL K H a us) : SqF K H a us := by
  rcases h with (h | h) | h
  · rcases o a with z | ⟨ob, xs, z⟩
    · rw [z] at h
      cases h
    · rw [z] at h
      cases h
  · exact .inl h
  · exact .inr h
end Bf
open PySem PySem.W PySem.Calls PyProof.Rows
theorem PySem.Challenge.cw_blindfuses_k70_whole_boxes_of_long_histo_holds : PySem.Challenge.rw_blindfuses_k70_whole_boxes_of_long_histo.Holds := by
  w_on; o_law
  refine HandSHeadRun.head_any (r := OpenLaw.row PySem.Challenge.rw_blindfuses_k70_whole_boxes_of_long_histo) (q := Bf.qv) (H := Bf.hkA) (ob := Bf.obA) (M := 8000) (loose := Bf.loose) (d := HandSHeadRun.topDef (OpenLaw.row PySem.Challenge.rw_blindfuses_k70_whole_boxes_of_long_histo).prog 65) (kwd := []) Bf.obA_eq
    (by kernel_rfl) (fun s => by kernel_rfl) Bf.runA (by kernel_rfl) (by kernel_rfl) (by kernel_rfl) (by rfl) (by first | assumption | decide +kernel) (by decide +kernel) ⟨rfl, rfl, rfl, rfl, rfl, by decide +kernel⟩ ?hw ?hc
  case hw => w_witness2
  case hc =>
    refine L2.walk_ofE (l := PySem.Challenge.rw_blindfuses_k70_whole_boxes_of_long_histo) (n := 63) (k := 12) (x := "_law_script") (CX := L2.CX0) rfl (by decide) (by kernel_rfl) ⟨rfl, by decide, by decide⟩ ?F (fun _ _ _ _ z => z)
    intro w mg fa h Y G hmg0
    obtain ⟨K, KX, c⟩ := Y
    have hmg : mg ("law" : PySem.Str) = some (.ref fa) := by
      have e : (HandSHeadRun.topDef (OpenLaw.row PySem.Challenge.rw_blindfuses_k70_whole_boxes_of_long_histo).prog 65).name = ("law" : PySem.Str) := by kernel_rfl
      rw [← e]
      exact hmg0
    obtain ⟨fd, hb, hF⟩ := Bf.law_in (P := (PySem.Challenge.rw_blindfuses_k70_whole_boxes_of_long_histo).prog) (w := w) KX G hmg c
    exact ⟨K, fd, Bf.spLaw K, KX, hb, fun H a ns hl hO hS => ⟨a, ns, rfl, Bf.sqF_of hO hS, fun _ => rfl⟩, hF⟩
