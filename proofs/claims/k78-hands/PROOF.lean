import PyProof.Rows.All
import Wide.All
import OpenK.AllK
import Wide.FinOn
import HandS.ForMost
import HandS.SetKeys
import HandS.SetFor
import HandS.Star
import HandS.Deep
import HandS.DictComp
import HandS.DictTup
import HandS.IsInst
import HandS.Conv
import HandS.Zip
import HandS.TupAny
import HandS.Walk
import HandS.Flow
import HandS.Sort
import HandS.ExcInit
import KE.SortData
import KE.GoesEnum
import PySem.Challenge.RW_keyedlines_k78_whole_hands_one_by_one
import KE.GoesNew
import KE.GoesNewDict
import KE.KDictPairs
set_option Elab.async false
set_option linter.all false
set_option maxRecDepth 100000
/-! Readings over data: what an expression gives as PyData, whatever the heap. -/
namespace Kl
open PySem PySem.Spec L2

abbrev D := PyData
/-- what may be hidden: a thing, not a tuple -/
def Hid : Option HO → Prop
  | none => False
  | some (.tup _) => False
  | some _ => True
theorem Hid.ne {o : Option HO} (h : Hid o) : o ≠ none := fun e => by rw [e] at h; exact h
theorem Hid.nt {H : Hp} {a : Addr} {vs : List V} {G : List Addr} (al : ∀ a ∈ G, Hid (H a)) (h : H a = some (.tup vs)) : a ∉ G := fun z => by
  have := al a z
  rw [h] at this
  exact this
/-- the heap without some addresses -/
def mask (G : List Addr) (H : Hp) : Hp := fun a => if a ∈ G then none else H a
theorem mask_out {G : List Addr} {H : Hp} {a : Addr} (h : a ∉ G) : mask G H a = H a := if_neg h
theorem mask_in {G : List Addr} {H : Hp} {a : Addr} (h : a ∈ G) : mask G H a = none := if_pos h
theorem mask_at {G : List Addr} {H : Hp} {a : Addr} {o : HO} (h : mask G H a = some o) : a ∉ G ∧ H a = some o := by
  by_cases e : a ∈ G
  · rw [mask_in e] at h; cases h
  · rw [mask_out e] at h; exact ⟨e, h⟩
theorem mask_same (G : List Addr) (H : Hp) : Same (mask G H) H := fun _ _ h => (mask_at h).2
theorem mask_mono {G G' : List Addr} {H : Hp} (h : ∀ a, a ∈ G' → a ∈ G) : Same (mask G H) (mask G' H) := fun a o e => by
  obtain ⟨e1, e2⟩ := mask_at e
  rw [mask_out fun z => e1 (h a z)]
  exact e2
theorem mask_nil (H : Hp) : mask [] H = H := by
  funext a
  exact mask_out (by simp)
theorem same_mask' {H H' : Hp} (e : Same H H') (G : List Addr) : Same (mask G H) (mask G H') := fun a o h => by
  obtain ⟨h1, h2⟩ := mask_at h
  rw [mask_out h1]
  exact e _ _ h2
theorem same_upd {H : Hp} {p : Addr} {o : HO} (h : H p = none) : Same H (upd H p o) := fun b x e => by
  rw [upd_ne (ne_of_none e h)]
  exact e
theorem mask_upd_in {G : List Addr} {H : Hp} {p : Addr} {o : HO} (h : p ∈ G) : mask G (upd H p o) = mask G H := by
  funext a
  by_cases e : a ∈ G
  · rw [mask_in e, mask_in e]
  · rw [mask_out e, mask_out e, upd_ne (fun z => by subst z; exact e h)]

section
variable {K : PySem.W.Frag} {H H' : Hp} {a : Addr} {xs : List V}
theorem sqL_mono (e : Same H H') (h : SqL K H a xs) : SqL K H' a xs := e.seq h
theorem sqT_mono (e : Same H H') (h : SqT K H a xs) : SqT K H' a xs := by
  rcases h with (h | ⟨o, h⟩) | h
  · exact .inl (.inl (e _ _ h))
  · exact .inl (.inr ⟨o, e _ _ h⟩)
  · exact .inr h
end
/-- two or more persons with what they hold, the first two not one: such a tuple stands there with its object known -/
def isHold : List D → Bool
  | .tuple [.str a, .tuple _] :: .tuple [.str b, .tuple _] :: _ => decide (a ≠ b)
  | _ => false
/-- the tuple at a -/
def TupAt (H : Hp) (a : Addr) (vs : List V) (ds : List D) : Prop := (isHold ds = false ∧ H a = some (.tup vs)) ∨ (isHold ds = true ∧ ∃ o : Obj, o.dict = none ∧ H a = some (.frz o (.tup vs)))
theorem TupAt.mono {H H' : Hp} {a : Addr} {vs : List V} {ds : List D} (h : TupAt H a vs ds) (e : Same H H') : TupAt H' a vs ds := h.imp (fun h => ⟨h.1, e _ _ h.2⟩) fun ⟨h, o, h1, h2⟩ => ⟨h, o, h1, e _ _ h2⟩
theorem TupAt.sq {K : PySem.W.Frag} {H : Hp} {a : Addr} {vs : List V} {ds : List D} (h : TupAt H a vs ds) : SqT K H a vs := by
  rcases h with ⟨_, h⟩ | ⟨_, o, _, h⟩
  · exact .inl (.inl h)
  · exact .inl (.inr ⟨o, h⟩)
theorem TupAt.tup {H : Hp} {a : Addr} {vs : List V} {ds : List D} (h : TupAt H a vs ds) (hd : isHold ds = false) : H a = some (.tup vs) := by
  rcases h with ⟨_, h⟩ | ⟨h, _⟩
  · exact h
  · rw [hd] at h; cases h
theorem TupAt.out {G : List Addr} {H : Hp} {a : Addr} {vs : List V} {ds : List D} (h : TupAt (mask G H) a vs ds) : TupAt H a vs ds := h.mono (mask_same G H)
theorem isHold_strs : ∀ ss : List Str, isHold (ss.map .str) = false
  | [] => rfl
  | [_] => rfl
  | _ :: _ :: _ => rfl
theorem isHold_ints : ∀ ss : List Int, isHold (ss.map .int) = false
  | [] => rfl
  | [_] => rfl
  | _ :: _ :: _ => rfl
/-! data in the heap: every list and tuple of it stands there, tracked -/
mutual
inductive Dq (K : PySem.W.Frag) (H : Hp) : V → D → Prop
  | non : Dq K H .non .none
  | bl (b : Bool) : Dq K H (.bl b) (.bool b)
  | int (i : Int) : Dq K H (.int i) (.int i)
  | str (x : Str) : Dq K H (.str x) (.str x)
  | lst {a : Addr} {vs : List V} {ds : List D} : H a = some (.lst vs) → DqAll K H vs ds → Dq K H (.ref a) (.list ds)
  | tup {a : Addr} {vs : List V} {ds : List D} : TupAt H a vs ds → DqAll K H vs ds → Dq K H (.ref a) (.tuple ds)
inductive DqAll (K : PySem.W.Frag) (H : Hp) : List V → List D → Prop
  | nil : DqAll K H [] []
  | cons {v : V} {vs : List V} {d : D} {ds : List D} : Dq K H v d → DqAll K H vs ds → DqAll K H (v :: vs) (d :: ds)
end
section
variable {K : PySem.W.Frag} {H H' : Hp} {a : Addr} {xs : List V}
mutual
theorem dq_dp : ∀ (d : D) (v : V), Dq K H v d → L2.Dp K H v d
  | .none, _, h => by cases h; exact .non
  | .bool b, _, h => by cases h; exact .bl b
  | .int i, _, h => by cases h; exact .int i
  | .str x, _, h => by cases h; exact .str x
  | .list ds, _, h => by
    cases h with
    | lst hs ha => exact .lst (SqL.of hs) (dqa_dp ds _ ha)
  | .tuple ds, _, h => by
    cases h with
    | tup hs ha => exact .tup hs.sq (dqa_dp ds _ ha)
  | .dict _, _, h => by cases h
theorem dqa_dp : ∀ (ds : List D) (vs : List V), DqAll K H vs ds → L2.DpAll K H vs ds
  | [], _, h => by cases h; exact .nil
  | d :: ds, _, h => by
    cases h with
    | cons h1 h2 => exact .cons (dq_dp d _ h1) (dqa_dp ds _ h2)
end
mutual
theorem dp_mono (e : Same H H') : ∀ (d : D) (v : V), Dq K H v d → Dq K H' v d
  | .none, _, h => by cases h; exact .non
  | .bool b, _, h => by cases h; exact .bl b
  | .int i, _, h => by cases h; exact .int i
  | .str x, _, h => by cases h; exact .str x
  | .list ds, _, h => by
    cases h with
    | lst hs ha => exact .lst (e _ _ hs) (dpa_mono e ds _ ha)
  | .tuple ds, _, h => by
    cases h with
    | tup hs ha => exact .tup (hs.mono e) (dpa_mono e ds _ ha)
  | .dict _, _, h => by cases h
theorem dpa_mono (e : Same H H') : ∀ (ds : List D) (vs : List V), DqAll K H vs ds → DqAll K H' vs ds
  | [], _, h => by cases h; exact .nil
  | d :: ds, _, h => by
    cases h with
    | cons h1 h2 => exact .cons (dp_mono e d _ h1) (dpa_mono e ds _ h2)
end
end
section
variable {K : PySem.W.Frag} {H H' : Hp}
theorem dpa_len : ∀ {vs : List V} {ds : List D}, DqAll K H vs ds → vs.length = ds.length
  | _, _, .nil => rfl
  | _, _, .cons _ h => congrArg (· + 1) (dpa_len h)
theorem dpa_get : ∀ {vs : List V} {ds : List D} {i : Nat} {d : D}, DqAll K H vs ds → ds[i]? = some d → ∃ v, vs[i]? = some v ∧ Dq K H v d
  | _, _, _, _, .nil, e => by simp at e
  | _, _, 0, _, .cons r _, e => by simp at e; subst e; exact ⟨_, rfl, r⟩
  | _, _, i + 1, d, .cons _ t, e => by
    obtain ⟨u, h1, h2⟩ := dpa_get (i := i) (d := d) t (by simpa using e)
    exact ⟨u, by simpa using h1, h2⟩
theorem dpa_getV : ∀ {vs : List V} {ds : List D} {i : Nat} {v : V}, DqAll K H vs ds → vs[i]? = some v → ∃ d, ds[i]? = some d ∧ Dq K H v d
  | _, _, _, _, .nil, e => by simp at e
  | _, _, 0, _, .cons r _, e => by simp at e; subst e; exact ⟨_, rfl, r⟩
  | _, _, i + 1, v, .cons _ t, e => by
    obtain ⟨u, h1, h2⟩ := dpa_getV (i := i) (v := v) t (by simpa using e)
    exact ⟨u, by simpa using h1, h2⟩
theorem dpa_append : ∀ {vs ws : List V} {ds es : List D}, DqAll K H vs ds → DqAll K H ws es → DqAll K H (vs ++ ws) (ds ++ es)
  | _, _, _, _, .nil, s => s
  | _, _, _, _, .cons r t, s => .cons r (dpa_append t s)
theorem dpa_take : ∀ {vs : List V} {ds : List D} (n : Nat), DqAll K H vs ds → DqAll K H (vs.take n) (ds.take n)
  | _, _, 0, _ => .nil
  | _, _, _ + 1, .nil => .nil
  | _, _, n + 1, .cons r t => .cons r (dpa_take n t)
theorem dpa_drop : ∀ {vs : List V} {ds : List D} (n : Nat), DqAll K H vs ds → DqAll K H (vs.drop n) (ds.drop n)
  | _, _, 0, r => r
  | _, _, _ + 1, .nil => .nil
  | _, _, n + 1, .cons _ t => dpa_drop n t
theorem dpa_snoc {vs : List V} {ds : List D} {v : V} {d : D} (h : DqAll K H vs ds) (h1 : Dq K H v d) : DqAll K H (vs ++ [v]) (ds ++ [d]) := dpa_append h (.cons h1 .nil)
/-- flat data: its value is one -/
def vOf : D → Option V
  | .none => some .non
  | .bool b => some (.bl b)
  | .int i => some (.int i)
  | .str s => some (.str s)
  | _ => none
theorem dp_flat {v : V} {d : D} {x : V} (h : Dq K H v d) (e : vOf d = some x) : v = x := by
  cases h <;> first
    | exact Option.some.inj e
    | cases e
theorem dp_ofFlat {d : D} {x : V} (e : vOf d = some x) : Dq K H x d := by
  cases d <;> first
    | (cases e; constructor)
    | cases e
theorem dpa_flat {x : D → V} : ∀ {vs : List V} {ds : List D}, DqAll K H vs ds → (∀ d ∈ ds, vOf d = some (x d)) → vs = ds.map x
  | _, _, .nil, _ => rfl
  | _, _, .cons (d := d) h t, e => by
    rw [List.map_cons, dp_flat h (e d List.mem_cons_self), dpa_flat t fun d' hd => e d' (List.mem_cons_of_mem _ hd)]
theorem dpa_strs {ss : List Str} {vs : List V} (h : DqAll K H vs (ss.map .str)) : vs = ss.map .str := by
  induction ss generalizing vs with
  | nil => cases h; rfl
  | cons s ss ih =>
    cases h with
    | cons h1 h2 => cases h1; rw [ih h2]; rfl
theorem dpa_ints {ss : List Int} {vs : List V} (h : DqAll K H vs (ss.map .int)) : vs = ss.map .int := by
  induction ss generalizing vs with
  | nil => cases h; rfl
  | cons s ss ih =>
    cases h with
    | cons h1 h2 => cases h1; rw [ih h2]; rfl
theorem dpa_bools {ss : List Bool} {vs : List V} (h : DqAll K H vs (ss.map .bool)) : vs = ss.map .bl := by
  induction ss generalizing vs with
  | nil => cases h; rfl
  | cons s ss ih =>
    cases h with
    | cons h1 h2 => cases h1; rw [ih h2]; rfl
theorem dpa_ofStrs : ∀ (ss : List Str), DqAll K H (ss.map .str) (ss.map .str)
  | [] => .nil
  | s :: ss => .cons (.str s) (dpa_ofStrs ss)
theorem dpa_ofInts : ∀ (ss : List Int), DqAll K H (ss.map .int) (ss.map .int)
  | [] => .nil
  | s :: ss => .cons (.int s) (dpa_ofInts ss)
end

/-- a table: keys are tuples of texts, values flat -/
abbrev Tab := List (List Str × D)
def tabH (es : Tab) : List (List Key × V) := es.map fun e => (e.1.map Sum.inr, (vOf e.2).getD .non)
def tabD (es : Tab) : D := .dict (es.map fun e => (.tuple (e.1.map .str), e.2))
/-- .. while it is locked -/
def lockD (es : Tab) : D := .dict ((.none, .none) :: es.map fun e => (.tuple (e.1.map .str), e.2))
/-- the script's numbers -/
def scrD (ns : List Int) : D := .dict [(.int 0, .list (ns.map .int))]
def TabOk (es : Tab) : Prop := ∀ e ∈ es, (vOf e.2).isSome = true
theorem int_maps : ∀ {a b : List Int}, a.map PyData.int = b.map PyData.int → a.map V.int = b.map V.int
  | [], [], _ => rfl
  | [], _ :: _, h => by cases h
  | _ :: _, [], h => by cases h
  | x :: a, y :: b, h => by
    injection h with h1 h2
    injection h1 with h1
    rw [List.map_cons, List.map_cons, h1, int_maps h2]
/-- a value that stands for data; a table at the top alone -/
inductive Dv (K : PySem.W.Frag) (H : Hp) : V → D → Prop
  | dat {v : V} {d : D} : Dq K H v d → Dv K H v d
  | tab {a : Addr} {es : Tab} : Rd H a (.dT (tabH es)) → TabOk es → Dv K H (.ref a) (tabD es)
  | lck {a : Addr} {es : Tab} {o : Obj} : H a = some (.frz o (.dT (tabH es))) → TabOk es → Dv K H (.ref a) (lockD es)
  | scr {a : Addr} {ns : List Int} : SqL K H a (ns.map .int) → Dv K H (.ref a) (scrD ns)
section
variable {K : PySem.W.Frag} {H H' : Hp} {v : V} {d : D}
theorem Dv.mono (e : Same H H') (h : Dv K H v d) : Dv K H' v d := by
  cases h with
  | dat h => exact .dat (dp_mono e d v h)
  | tab h ok => exact .tab (h.elim (fun h => .inl (e _ _ h)) fun ⟨o, h⟩ => .inr ⟨o, e _ _ h⟩) ok
  | lck h ok => exact .lck (e _ _ h) ok
  | scr h => exact .scr (sqL_mono e h)
theorem Dv.dp (h : Dv K H v d) (hd : ∀ es, d ≠ .dict es) : Dq K H v d := by
  cases h with
  | dat h => exact h
  | tab _ _ => exact absurd rfl (hd _)
  | lck _ _ => exact absurd rfl (hd _)
  | scr _ => exact absurd rfl (hd _)
theorem Dv.int {i : Int} (h : Dv K H v (.int i)) : v = .int i := by
  cases h with
  | dat h => cases h; rfl
theorem Dv.bool {b : Bool} (h : Dv K H v (.bool b)) : v = .bl b := by
  cases h with
  | dat h => cases h; rfl
theorem Dv.str {s : Str} (h : Dv K H v (.str s)) : v = .str s := by
  cases h with
  | dat h => cases h; rfl
theorem Dv.isNon (h : Dv K H v .none) : v = .non := by
  cases h with
  | dat h => cases h; rfl
theorem Dv.list {ds : List D} (h : Dv K H v (.list ds)) : ∃ a vs, v = .ref a ∧ H a = some (.lst vs) ∧ DqAll K H vs ds := by
  cases h with
  | dat h =>
    cases h with
    | lst h1 h2 => exact ⟨_, _, rfl, h1, h2⟩
theorem Dv.tuple {ds : List D} (h : Dv K H v (.tuple ds)) : ∃ a vs, v = .ref a ∧ TupAt H a vs ds ∧ DqAll K H vs ds := by
  cases h with
  | dat h =>
    cases h with
    | tup h1 h2 => exact ⟨_, _, rfl, h1, h2⟩
theorem Dv.table {es : Tab} (h : Dv K H v (tabD es)) : ∃ a es', v = .ref a ∧ Rd H a (.dT (tabH es')) ∧ TabOk es' ∧ tabD es' = tabD es := by
  generalize hd : tabD es = d0 at h
  cases h with
  | dat h =>
    unfold tabD at hd
    subst hd
    cases h
  | tab h1 h2 => exact ⟨_, _, rfl, h1, h2, rfl⟩
  | lck h1 h2 =>
    rename_i es' o
    unfold tabD lockD at hd
    injection hd with hd
    cases es with
    | nil => cases hd
    | cons x es =>
      injection hd with hd _
      injection hd with hd _
      cases hd
  | scr h1 =>
    unfold tabD scrD at hd
    injection hd with hd
    cases es with
    | nil => cases hd
    | cons x es =>
      injection hd with hd _
      injection hd with hd _
      cases hd
theorem Dv.script {ns : List Int} (h : Dv K H v (scrD ns)) : ∃ a, v = .ref a ∧ SqL K H a (ns.map .int) := by
  generalize hd : scrD ns = d0 at h
  cases h with
  | dat h =>
    unfold scrD at hd
    subst hd
    cases h
  | scr h1 =>
    unfold scrD at hd
    injection hd with hd
    injection hd with hd _
    injection hd with _ hd
    injection hd with hd
    refine ⟨_, rfl, ?_⟩
    rw [show (ns.map V.int) = _ from int_maps hd]
    exact h1
  | tab h1 h2 =>
    rename_i es'
    unfold tabD scrD at hd
    injection hd with hd
    cases es' with
    | nil => cases hd
    | cons x es =>
      injection hd with hd _
      injection hd with hd _
      cases hd
  | lck h1 h2 =>
    unfold lockD scrD at hd
    injection hd with hd
    injection hd with hd _
    injection hd with hd _
    cases hd
theorem Dv.lock {es : Tab} (h : Dv K H v (lockD es)) : ∃ a o es', v = .ref a ∧ H a = some (.frz o (.dT (tabH es'))) ∧ TabOk es' ∧ lockD es' = lockD es := by
  generalize hd : lockD es = d0 at h
  cases h with
  | dat h =>
    unfold lockD at hd
    subst hd
    cases h
  | lck h1 h2 => exact ⟨_, _, _, rfl, h1, h2, rfl⟩
  | tab h1 h2 =>
    rename_i es'
    unfold tabD lockD at hd
    injection hd with hd
    cases es' with
    | nil => cases hd
    | cons x es =>
      injection hd with hd _
      injection hd with hd _
      cases hd
  | scr h1 =>
    unfold lockD scrD at hd
    injection hd with hd
    injection hd with hd _
    injection hd with hd _
    cases hd
end
theorem map_str_inj : ∀ {a b : List Str}, a.map PyData.str = b.map PyData.str → a = b
  | [], [], _ => rfl
  | [], _ :: _, h => by cases h
  | _ :: _, [], h => by cases h
  | x :: a, y :: b, h => by
    injection h with h1 h2
    injection h1 with h1
    rw [h1, map_str_inj h2]
theorem tabD_inj : ∀ {a b : Tab}, tabD a = tabD b → a = b := by
  intro a b h
  unfold tabD at h
  injection h with h
  induction a generalizing b with
  | nil =>
    cases b with
    | nil => rfl
    | cons _ _ => cases h
  | cons x a ih =>
    cases b with
    | nil => cases h
    | cons y b =>
      simp only [List.map_cons, List.cons.injEq, Prod.mk.injEq] at h
      obtain ⟨⟨h1, h2⟩, h3⟩ := h
      injection h1 with h1
      have e1 : x.1 = y.1 := map_str_inj h1
      rw [ih h3]
      cases x; cases y
      simp only at e1 h2
      rw [e1, h2]
theorem lockD_inj {a b : Tab} (h : lockD a = lockD b) : a = b := by
  unfold lockD at h
  injection h with h
  injection h with _ h
  exact tabD_inj (congrArg PyData.dict h)

/-! ### slots, own objects, the box -/
/-- an object of one's own that may change: a list; a table; a dict with text keys -/
inductive OV where
  | l (ds : List D)
  | t (es : Tab)
  | k (es : List (Str × D))
inductive Sl where
  | dat (d : D)
  | own (o : OV)
abbrev En := List (Option Sl)
def OwnAt (K : PySem.W.Frag) (M : Hp) : HO → OV → Prop
  | .lst vs, .l ds => DqAll K M vs ds
  | .dT es', .t es => es' = tabH es ∧ TabOk es
  | .dK kvs, .k es => Paired (fun (p : Key × V) (q : Str × D) => p.1 = Sum.inr q.1 ∧ Dq K M p.2 q.2) kvs es
  | _, _ => False
/-- the box: three numbers, at most n takes so far -/
def BoxAt (H : Hp) (b : Addr) (n : Nat) : Prop := ∃ x y z : Int, H b = some (.lst [.int x, .int y, .int z]) ∧ 0 ≤ x ∧ 0 ≤ y ∧ y < 2 ^ 62 ∧ 0 ≤ z ∧ z ≤ n
theorem BoxAt.le {H : Hp} {b : Addr} {n m : Nat} (h : BoxAt H b n) (e : n ≤ m) : BoxAt H b m := by
  obtain ⟨x, y, z, h0, h1, h2, h3, h4, h5⟩ := h
  exact ⟨x, y, z, h0, h1, h2, h3, h4, by omega⟩
abbrev Bx := Option (Addr × Nat)
def Bx.add : Bx → Nat → Bx
  | none, _ => none
  | some (b, n), c => some (b, n + c)
/-- there is a box that stands so many takes more (none: none at all) -/
def BxOk : Bx → Nat → Prop
  | none, c => c = 0
  | some (_, n), c => n + c ≤ 1000000
theorem BxOk.le {bx : Bx} {c c' : Nat} (h : BxOk bx c') (e : c ≤ c') : BxOk bx c := by
  cases bx with
  | none => exact Nat.le_zero.mp (Nat.le_trans e (Nat.le_of_eq (show c' = 0 from h)))
  | some p =>
    have : p.2 + c' ≤ 1000000 := h
    show p.2 + c ≤ 1000000
    omega
theorem bx_ne {bx : Bx} {c1 c2 : Nat} (h : BxOk bx (c1 + c2)) : BxOk bx c1 ∧ BxOk (bx.add c1) c2 := by
  cases bx with
  | none =>
    have : c1 + c2 = 0 := h
    exact ⟨show c1 = 0 by omega, show c2 = 0 by omega⟩
  | some p =>
    have : p.2 + (c1 + c2) ≤ 1000000 := h
    exact ⟨show p.2 + c1 ≤ 1000000 by omega, show p.2 + c1 + c2 ≤ 1000000 by omega⟩
theorem bx0 {bx : Bx} {c : Nat} (h : BxOk bx c) : BxOk (bx.add 0) 0 := (bx_ne (c2 := 0) (h.le (Nat.zero_le _))).2
/-- from H to H': what is not in L stands, but the box -/
def Stp (L : List Addr) (bx : Bx) (c : Nat) (H H' : Hp) : Prop := match bx with
  | none => ∀ a o, a ∉ L → H a = some o → H' a = some o
  | some (b, n) => (∀ a o, a ∉ L → a ≠ b → H a = some o → H' a = some o) ∧ BoxAt H' b (n + c)
structure Ctx (K : PySem.W.Frag) (G L : List Addr) (bx : Bx) (σ : St) (H : Hp) (ρ : En) : Prop where
  len : ρ.length ≤ σ.length
  al : ∀ a, a ∈ G ∨ a ∈ L → Hid (H a)
  dat : ∀ (i : Nat) (d : D), ρ[i]? = some (some (.dat d)) → ∃ v, σ[i]? = some (some v) ∧ Dv K (mask (L ++ G) H) v d
  own : ∀ (i : Nat) (o : OV), ρ[i]? = some (some (.own o)) → ∃ p u, σ[i]? = some (some (.ref p)) ∧ (p ∈ L ∧ p ∉ G) ∧ H p = some u ∧ OwnAt K (mask (L ++ G) H) u o
  dis : ∀ (i j : Nat) (o o' : OV) (p : Addr), ρ[i]? = some (some (.own o)) → ρ[j]? = some (some (.own o')) → σ[i]? = some (some (.ref p)) → σ[j]? = some (some (.ref p)) → i = j
  box : ∀ b n, bx = some (b, n) → b ∈ G ∧ b ∉ L ∧ σ[0]? = some (some (.ref b)) ∧ BoxAt H b n
section
variable {K : PySem.W.Frag} {G L : List Addr} {bx : Bx} {σ : St} {H H1 H' : Hp} {ρ : En} {c c' : Nat}
theorem OwnAt.mono {M M' : Hp} {u : HO} {o : OV} (e : Same M M') (h : OwnAt K M u o) : OwnAt K M' u o := by
  cases u <;> cases o <;> first
    | exact dpa_mono e _ _ h
    | exact h
    | exact Paired.mapP h fun p q z => ⟨z.1, dp_mono e _ _ z.2⟩
    | exact False.elim h
theorem Stp.same (x : Ctx K G L bx σ H ρ) (h : Same H H') : Stp [] bx 0 H H' := by
  cases bx with
  | none => exact fun a o _ e => h a o e
  | some p =>
    obtain ⟨b, n⟩ := p
    refine ⟨fun a o _ _ e => h a o e, ?_⟩
    obtain ⟨_, _, _, x, y, z, h0, r⟩ := x.box b n rfl
    exact ⟨x, y, z, h _ _ h0, r⟩
theorem Stp.refl (x : Ctx K G L bx σ H ρ) : Stp [] bx 0 H H := Stp.same x (Same.refl H)
theorem Stp.mono {L' : List Addr} (h : Stp L bx c H H') (hL : ∀ a ∈ L, a ∈ L') (hc : c ≤ c') : Stp L' bx c' H H' := by
  cases bx with
  | none => exact fun a o z e => h a o (fun q => z (hL a q)) e
  | some p => exact ⟨fun a o z nb e => h.1 a o (fun q => z (hL a q)) nb e, h.2.le (by omega)⟩
theorem Stp.trans (h : Stp L bx c H H1) (h' : Stp L (bx.add c) c' H1 H') : Stp L bx (c + c') H H' := by
  cases bx with
  | none => exact fun a o z e => h' a o z (h a o z e)
  | some p =>
    obtain ⟨b, n⟩ := p
    exact ⟨fun a o z nb e => h'.1 a o z nb (h.1 a o z nb e), by rw [← Nat.add_assoc]; exact h'.2⟩
theorem Stp.at {a : Addr} {o : HO} (h : Stp [] bx c H H') (hb : ∀ b n, bx = some (b, n) → a ≠ b) (e : H a = some o) : H' a = some o := by
  cases bx with
  | none => exact h a o (by simp) e
  | some p => exact h.1 a o (by simp) (hb p.1 p.2 rfl) e
theorem Stp.sm (h : Stp [] none c H H') : Same H H' := fun a o e => h a o (by simp) e
theorem Stp.mask {M : List Addr} (h : Stp [] bx c H H') (hb : ∀ b n, bx = some (b, n) → b ∈ M) : Same (mask M H) (mask M H') := fun a o e => by
  obtain ⟨e1, e2⟩ := mask_at e
  rw [mask_out e1]
  exact h.at (fun b n z q => e1 (q ▸ hb b n z)) e2
theorem Ctx.bM (x : Ctx K G L bx σ H ρ) : ∀ b n, bx = some (b, n) → b ∈ L ++ G := fun b n e => List.mem_append_right _ (x.box b n e).1
theorem Stp.live (h : Stp [] bx c H H') {a : Addr} (e : Hid (H a)) : Hid (H' a) := by
  cases q : H a with
  | none => exact absurd q e.ne
  | some o =>
    rw [q] at e
    cases bx with
    | none =>
      rw [h a o (by simp) q]
      exact e
    | some p =>
      by_cases z : a = p.1
      · obtain ⟨x, y, w, h0, _⟩ := h.2
        rw [z, h0]
        exact trivial
      · rw [h.1 a o (by simp) z q]
        exact e
theorem Stp.liveN (h : Stp [] bx c H H') {a : Addr} (e : H a ≠ none) : H' a ≠ none := by
  cases q : H a with
  | none => exact absurd q e
  | some o =>
    cases bx with
    | none =>
      rw [h a o (by simp) q]
      simp
    | some p =>
      by_cases z : a = p.1
      · obtain ⟨x, y, w, h0, _⟩ := h.2
        rw [z, h0]
        simp
      · rw [h.1 a o (by simp) z q]
        simp
/-- behind an expression -/
theorem Ctx.step (x : Ctx K G L bx σ H ρ) (h : Stp [] bx c H H') : Ctx K G L (bx.add c) σ H' ρ where
  len := x.len
  al := fun a ha => h.live (x.al a ha)
  dat := fun i d e => by
    obtain ⟨v, h1, h2⟩ := x.dat i d e
    exact ⟨v, h1, h2.mono (h.mask x.bM)⟩
  own := fun i o e => by
    obtain ⟨p, u, h1, h2, h3, h4⟩ := x.own i o e
    exact ⟨p, u, h1, h2, h.at (fun b n z q => (x.box b n z).2.1 (q ▸ h2.1)) h3, h4.mono (h.mask x.bM)⟩
  dis := x.dis
  box := fun b n e => by
    cases bx with
    | none => cases e
    | some p =>
      cases e
      obtain ⟨h1, h2, h3, _⟩ := x.box p.1 p.2 rfl
      exact ⟨h1, h2, h3, h.2⟩
end
/-- fewer slots known -/
def En.le (ρ' ρ : En) : Prop := ρ'.length ≤ ρ.length ∧ ∀ (i : Nat) (s : Sl), ρ'[i]? = some (some s) → ρ[i]? = some (some s)
theorem En.le.refl (ρ : En) : En.le ρ ρ := ⟨Nat.le_refl _, fun _ _ h => h⟩
theorem Ctx.weak {K : PySem.W.Frag} {G L : List Addr} {bx : Bx} {σ : St} {H : Hp} {ρ ρ' : En} (x : Ctx K G L bx σ H ρ) (h : En.le ρ' ρ) : Ctx K G L bx σ H ρ' :=
  ⟨Nat.le_trans h.1 x.len, x.al, fun i d e => x.dat i d (h.2 i _ e), fun i o e => x.own i o (h.2 i _ e), fun i j o o' p e e' => x.dis i j o o' p (h.2 i _ e) (h.2 j _ e'), x.box⟩

/-! ### the readings -/
def tE (K : PySem.W.Frag) (ρ : En) (c : Nat) (P : D → Prop) : TE := fun σ H Q => ∃ G L bx, Ctx K G L bx σ H ρ ∧ BxOk bx c ∧
  ∀ v H' d, Stp [] bx c H H' → P d → Dv K (mask (L ++ G) H') v d → Q v H'
def tAs (K : PySem.W.Frag) (ρ : En) (c : Nat) (P : List D → Prop) : TA := fun σ H Q => ∃ G L bx, Ctx K G L bx σ H ρ ∧ BxOk bx c ∧
  ∀ vs H' ds, Stp [] bx c H H' → P ds → Paired (Dv K (mask (L ++ G) H')) vs ds → Q vs H'
def tTs (K : PySem.W.Frag) (ρ : En) (c : Nat) (P : Bool → Prop) : TT := fun σ H Q => ∃ G L bx, Ctx K G L bx σ H ρ ∧ BxOk bx c ∧
  ∀ b H', Stp [] bx c H H' → P b → Q b H'
inductive Out where
  | nx (ρ : En)
  | rt (d : D)
def tSt (K : PySem.W.Frag) (ρ : En) (c : Nat) (O : Out → Prop) : TS := fun Dn σ H => ∃ G L bx, Ctx K G L bx σ H ρ ∧ BxOk bx c ∧
  (∀ L' σ' H' ρ', Stp L bx c H H' → (∀ a ∈ L, a ∈ L') → (∀ a ∈ L', a ∈ L ∨ H a = none) → O (.nx ρ') → Ctx K G L' (bx.add c) σ' H' ρ' → Dn.nx σ' H') ∧
  (∀ v H' d, Stp L bx c H H' → O (.rt d) → Dv K (mask G H') v d → Dn.rt v H')
abbrev Ev (X : Cx) (ρ : En) (e : Expr) (c : Nat) (P : D → Prop) : Prop := PE X e (tE X.K ρ c P)
abbrev E1 (X : Cx) (ρ : En) (e : Expr) (d : D) : Prop := PE X e (tE X.K ρ 0 (· = d))
abbrev As (X : Cx) (ρ : En) (es : List Expr) (c : Nat) (P : List D → Prop) : Prop := PA X es (tAs X.K ρ c P)
abbrev A1 (X : Cx) (ρ : En) (es : List Expr) (ds : List D) : Prop := PA X es (tAs X.K ρ 0 (· = ds))
abbrev Tv (X : Cx) (ρ : En) (e : Expr) (c : Nat) (P : Bool → Prop) : Prop := PT X e (tTs X.K ρ c P)
abbrev T1 (X : Cx) (ρ : En) (e : Expr) (b : Bool) : Prop := PT X e (tTs X.K ρ 0 (· = b))
abbrev Sv (X : Cx) (ρ : En) (st : Stmt) (c : Nat) (O : Out → Prop) : Prop := PS X st (tSt X.K ρ c O)
abbrev Svs (X : Cx) (ρ : En) (st : List Stmt) (c : Nat) (O : Out → Prop) : Prop := PSs X st (tSt X.K ρ c O)

section
variable {X : Cx} {e : Expr} {es : List Expr} {st : Stmt} {sts : List Stmt}
theorem pe_imp {t t' : TE} (h : PE X e t) (f : ∀ σ H Q, t' σ H Q → t σ H Q) : PE X e t' := ⟨fun pins s σ H Q I q => h.run pins s σ H Q I (f σ H Q q)⟩
theorem pe_any {ι : Sort _} {t : ι → TE} (h : ∀ i, PE X e (t i)) : PE X e (fun σ H Q => ∃ i, t i σ H Q) := ⟨fun pins s σ H Q I ⟨i, q⟩ => (h i).run pins s σ H Q I q⟩
theorem pa_imp {t t' : TA} (h : PA X es t) (f : ∀ σ H Q, t' σ H Q → t σ H Q) : PA X es t' := ⟨fun pos pins s σ H Q I q => h.run pos pins s σ H Q I (f σ H Q q)⟩
theorem pa_any {ι : Sort _} {t : ι → TA} (h : ∀ i, PA X es (t i)) : PA X es (fun σ H Q => ∃ i, t i σ H Q) := ⟨fun pos pins s σ H Q I ⟨i, q⟩ => (h i).run pos pins s σ H Q I q⟩
theorem pt_imp {t t' : TT} (h : PT X e t) (f : ∀ σ H Q, t' σ H Q → t σ H Q) : PT X e t' := ⟨fun pins s σ H Q I q => h.run pins s σ H Q I (f σ H Q q)⟩
theorem pt_any {ι : Sort _} {t : ι → TT} (h : ∀ i, PT X e (t i)) : PT X e (fun σ H Q => ∃ i, t i σ H Q) := ⟨fun pins s σ H Q I ⟨i, q⟩ => (h i).run pins s σ H Q I q⟩
theorem pts_imp {t t' : TT} (h : PTs X es t) (f : ∀ σ H Q, t' σ H Q → t σ H Q) : PTs X es t' := ⟨fun pins s σ H Q I q => h.run pins s σ H Q I (f σ H Q q)⟩
theorem pts_any {ι : Sort _} {t : ι → TT} (h : ∀ i, PTs X es (t i)) : PTs X es (fun σ H Q => ∃ i, t i σ H Q) := ⟨fun pins s σ H Q I ⟨i, q⟩ => (h i).run pins s σ H Q I q⟩
theorem ps_imp {t t' : TS} (h : PS X st t) (f : ∀ Dn σ H, t' Dn σ H → t Dn σ H) : PS X st t' := ⟨fun pins s σ H Dn I q => h.run pins s σ H Dn I (f Dn σ H q)⟩
theorem ps_any {ι : Sort _} {t : ι → TS} (h : ∀ i, PS X st (t i)) : PS X st (fun Dn σ H => ∃ i, t i Dn σ H) := ⟨fun pins s σ H Dn I ⟨i, q⟩ => (h i).run pins s σ H Dn I q⟩
theorem pss_imp {t t' : TS} (h : PSs X sts t) (f : ∀ Dn σ H, t' Dn σ H → t Dn σ H) : PSs X sts t' := ⟨fun pins s σ H Dn I q => h.run pins s σ H Dn I (f Dn σ H q)⟩
theorem pss_any {ι : Sort _} {t : ι → TS} (h : ∀ i, PSs X sts (t i)) : PSs X sts (fun Dn σ H => ∃ i, t i Dn σ H) := ⟨fun pins s σ H Dn I ⟨i, q⟩ => (h i).run pins s σ H Dn I q⟩

/-! ### weakening -/
theorem tE.imp {K : PySem.W.Frag} {ρ : En} {c c' : Nat} {P P' : D → Prop} (hc : c ≤ c') (hP : ∀ d, P d → P' d) {σ : St} {H : Hp} {Q : VK} (h : tE K ρ c' P' σ H Q) : tE K ρ c P σ H Q := by
  obtain ⟨G, L, bx, x, hb, q⟩ := h
  exact ⟨G, L, bx, x, hb.le hc, fun v H' d s p w => q v H' d (s.mono (fun _ z => z) hc) (hP d p) w⟩
theorem Ev.imp {ρ : En} {c c' : Nat} {P P' : D → Prop} (h : Ev X ρ e c P) (hc : c ≤ c') (hP : ∀ d, P d → P' d) : Ev X ρ e c' P' := pe_imp h fun _ _ _ q => q.imp hc hP
theorem E1.ev {ρ : En} {c : Nat} {d : D} {P : D → Prop} (h : E1 X ρ e d) (hP : P d) : Ev X ρ e c P := Ev.imp h (Nat.zero_le _) fun _ z => z ▸ hP
theorem E1.cast {ρ : En} {d d' : D} (h : E1 X ρ e d) (hd : d = d') : E1 X ρ e d' := hd ▸ h
end
end Kl

set_option Elab.async false
set_option linter.all false
set_option maxRecDepth 100000
/-! Rules over data: names, constants, displays, operators, subscripts, tests, calls. -/
namespace Kl
open PySem PySem.Spec L2

section
variable {K : PySem.W.Frag} {G L : List Addr} {bx : Bx} {σ : L2.St} {H H1 H' : Hp} {ρ : En} {c c1 c2 : Nat}
theorem Ctx.alM (x : Ctx K G L bx σ H ρ) : ∀ a ∈ L ++ G, Hid (H a) := fun a h => x.al a ((List.mem_append.mp h).elim .inr .inl)
theorem Stp.andSame (x : Ctx K G L (bx.add c) σ H1 ρ) (s : Stp [] bx c H H1) (h : Same H1 H') : Stp [] bx c H H' := by
  have z := s.trans (Stp.same x h)
  simpa using z
end

/-- what an operation on values gives, over data -/
def OpOk (X : Cx) (f : Value → Value → Sem Value) (d1 d2 : D) (P : D → Prop) : Prop := ∀ (M : List Addr) (H : Hp) (x y : V) (Q : VK), (∀ a ∈ M, Hid (H a)) → Dv X.K (mask M H) x d1 → Dv X.K (mask M H) y d2 →
  (∀ v H' d, Same H H' → P d → Dv X.K (mask M H') v d → Q v H') → ∃ r, OpR X f r ∧ r x y H Q
theorem opr_any {X : Cx} {f : Value → Value → Sem Value} : OpR X f (fun x y H Q => ∃ r, OpR X f r ∧ r x y H Q) := by
  intro pins s σ H x y v u Q I rx ry ⟨r, hr, q⟩
  exact hr pins s σ H x y v u Q I rx ry q
def CallOk (X : Cx) (f : Value) (ds : List D) (P : D → Prop) : Prop := ∀ (M : List Addr) (H : Hp) (xs : List V) (Q : VK), (∀ a ∈ M, Hid (H a)) → Paired (Dv X.K (mask M H)) xs ds →
  (∀ v H' d, Same H H' → P d → Dv X.K (mask M H') v d → Q v H') → ∃ r, CallR X f r ∧ r xs H Q
theorem callr_any {X : Cx} {f : Value} : CallR X f (fun xs H Q => ∃ r, CallR X f r ∧ r xs H Q) := by
  intro pins s σ H xs us Q I rx ⟨r, hr, q⟩
  exact hr pins s σ H xs us Q I rx q
def IxOk (X : Cx) (d1 d2 : D) (P : D → Prop) : Prop := ∀ (M : List Addr) (H : Hp) (x y : V) (Q : VK), (∀ a ∈ M, Hid (H a)) → Dv X.K (mask M H) x d1 → Dv X.K (mask M H) y d2 →
  (∀ v H' d, Same H H' → P d → Dv X.K (mask M H') v d → Q v H') → ∃ r, IxR X r ∧ r x y H Q
theorem ixr_any {X : Cx} : IxR X (fun x y H Q => ∃ r, IxR X r ∧ r x y H Q) := by
  intro value slice pins s σ H x y v u Q I rx ry ⟨r, hr, q⟩ hs
  exact hr value slice pins s σ H x y v u Q I rx ry q hs

section
variable {X : Cx} {ρ : En} {c c1 c2 : Nat} {P : D → Prop} {a b e : Expr} {es : List Expr} {pos : Pos}
/-! ### names, constants -/
theorem E1.var (i : Nat) {x : Str} {d : D} (h : ρ[i]? = some (some (.dat d)) := by rfl) (hN : X.N[i]? = some x := by rfl) (hv : Vis X.env.scope x := by first | exact Or.inl rfl | exact Or.inr (Or.inl rfl) | exact Or.inr (Or.inr rfl)) (hd : (x == ("__debug__" : Str)) = false := by decide)
    (hcd : (x == ("__classdict__" : Str)) = false := by decide) : E1 X ρ (.Name x pos) d :=
  pe_imp (pe_var (i := i) hN hv hd hcd) fun σ H Q ⟨G, L, bx, x, _, q⟩ => by
    obtain ⟨v, h1, h2⟩ := x.dat i d h
    exact ⟨v, h1, q v H d (Stp.refl x) rfl h2⟩
theorem E1.ofC {v : V} {d : D} (h : PE X e (tC v)) (hv : vOf d = some v) : E1 X ρ e d :=
  pe_imp h fun σ H Q ⟨G, L, bx, x, _, q⟩ => q v H d (Stp.refl x) rfl (.dat (dp_ofFlat hv))
theorem E1.int {i j pos} : E1 X ρ (.Constant (.int i) j pos) (.int i) := E1.ofC pe_int rfl
theorem E1.bl {i j pos} : E1 X ρ (.Constant (.bool i) j pos) (.bool i) := E1.ofC pe_bl rfl
theorem E1.str {i j pos} : E1 X ρ (.Constant (.str i) j pos) (.str i) := E1.ofC pe_str rfl
theorem E1.non {j pos} : E1 X ρ (.Constant .none j pos) .none := E1.ofC pe_non rfl
theorem E1.gint {x : Str} {i : Int} (hm : ∃ t, X.mg x = some (.int i t)) (hg : Gl X x := by rfl) (hd : (x == ("__debug__" : Str)) = false := by decide) : E1 X ρ (.Name x pos) (.int i) := by
  obtain ⟨t, hm⟩ := hm
  exact E1.ofC (pe_glob (v := .int i) hg hm ⟨t, rfl⟩ hd) rfl
/-! ### arguments -/
theorem A1.nil : A1 X ρ [] [] := pa_imp pa_nil fun σ H Q ⟨G, L, bx, x, _, q⟩ => q [] H [] (Stp.refl x) rfl .nil
theorem As.cons {P1 : D → Prop} {P2 : D → List D → Prop} (ha : Ev X ρ e c1 P1) (hr : ∀ d, P1 d → As X ρ es c2 (P2 d)) (hs : starEach (e :: es) X.env = (false, eval e X.env) :: starEach es X.env := by rfl) :
    As X ρ (e :: es) (c1 + c2) (fun ds => ∃ d r, ds = d :: r ∧ P1 d ∧ P2 d r) := by
  refine pa_imp (pa_cons ha (pa_any (ι := {d // P1 d}) fun d => hr d.1 d.2) hs) fun σ H Q ⟨G, L, bx, x, hb, q⟩ => ?_
  refine ⟨G, L, bx, x, (bx_ne hb).1, fun v H1 d s p w => ⟨⟨d, p⟩, G, L, bx.add c1, x.step s, (bx_ne hb).2, fun vs H2 ds s2 p2 w2 => ?_⟩⟩
  exact q (v :: vs) H2 (d :: ds) (s.trans s2) ⟨d, ds, rfl, p, p2⟩ (.cons (w.mono (s2.mask (x.step s).bM)) w2)
theorem As.imp {P P' : List D → Prop} (h : As X ρ es c1 P) (hc : c1 ≤ c2) (hP : ∀ d, P d → P' d) : As X ρ es c2 P' := pa_imp h fun σ H Q ⟨G, L, bx, x, hb, q⟩ =>
  ⟨G, L, bx, x, hb.le hc, fun v H' d s p w => q v H' d (s.mono (fun _ z => z) hc) (hP d p) w⟩
theorem A1.cons {d : D} {ds : List D} (ha : E1 X ρ e d) (hr : A1 X ρ es ds) (hs : starEach (e :: es) X.env = (false, eval e X.env) :: starEach es X.env := by rfl) : A1 X ρ (e :: es) (d :: ds) :=
  As.imp (As.cons (c1 := 0) (c2 := 0) ha (P2 := fun _ r => r = ds) (fun _ _ => hr) hs) (Nat.le_refl _) fun z ⟨d', r, e, p1, p2⟩ => by rw [e, p1, p2]
/-! ### displays: items that are data in the narrow sense -/
def tLs (K : PySem.W.Frag) (ρ : En) (c : Nat) (P : List D → Prop) : TA := fun σ H Q => ∃ G L bx, Ctx K G L bx σ H ρ ∧ BxOk bx c ∧
  ∀ vs H' ds, Stp [] bx c H H' → P ds → DqAll K (mask (L ++ G) H') vs ds → Q vs H'
abbrev Ls (X : Cx) (ρ : En) (es : List Expr) (c : Nat) (P : List D → Prop) : Prop := PA X es (tLs X.K ρ c P)
abbrev L1 (X : Cx) (ρ : En) (es : List Expr) (ds : List D) : Prop := PA X es (tLs X.K ρ 0 (· = ds))
def isDat : D → Bool
  | .dict _ => false
  | _ => true
theorem Dv.dp' {K : PySem.W.Frag} {H : Hp} {v : V} {d : D} (h : Dv K H v d) (hd : isDat d = true) : Dq K H v d := h.dp fun es z => by
  rw [z] at hd
  cases hd
theorem L1.nil : L1 X ρ [] [] := pa_imp pa_nil fun σ H Q ⟨G, L, bx, x, _, q⟩ => q [] H [] (Stp.refl x) rfl .nil
theorem Ls.cons {P1 : D → Prop} {P2 : D → List D → Prop} (ha : Ev X ρ e c1 P1) (hr : ∀ d, P1 d → Ls X ρ es c2 (P2 d)) (hd : ∀ d, P1 d → isDat d = true) (hs : starEach (e :: es) X.env = (false, eval e X.env) :: starEach es X.env := by rfl) :
    Ls X ρ (e :: es) (c1 + c2) (fun ds => ∃ d r, ds = d :: r ∧ P1 d ∧ P2 d r) := by
  refine pa_imp (pa_cons ha (pa_any (ι := {d // P1 d}) fun d => hr d.1 d.2) hs) fun σ H Q ⟨G, L, bx, x, hb, q⟩ => ?_
  refine ⟨G, L, bx, x, (bx_ne hb).1, fun v H1 d s p w => ⟨⟨d, p⟩, G, L, bx.add c1, x.step s, (bx_ne hb).2, fun vs H2 ds s2 p2 w2 => ?_⟩⟩
  exact q (v :: vs) H2 (d :: ds) (s.trans s2) ⟨d, ds, rfl, p, p2⟩ (.cons ((w.mono (s2.mask (x.step s).bM)).dp' (hd d p)) w2)
theorem Ls.imp {P P' : List D → Prop} (h : Ls X ρ es c1 P) (hc : c1 ≤ c2) (hP : ∀ d, P d → P' d) : Ls X ρ es c2 P' := pa_imp h fun σ H Q ⟨G, L, bx, x, hb, q⟩ =>
  ⟨G, L, bx, x, hb.le hc, fun v H' d s p w => q v H' d (s.mono (fun _ z => z) hc) (hP d p) w⟩
theorem L1.cons {d : D} {ds : List D} (ha : E1 X ρ e d) (hr : L1 X ρ es ds) (hd : isDat d = true := by rfl) (hs : starEach (e :: es) X.env = (false, eval e X.env) :: starEach es X.env := by rfl) : L1 X ρ (e :: es) (d :: ds) :=
  Ls.imp (Ls.cons (c1 := 0) (c2 := 0) ha (P2 := fun _ r => r = ds) (fun _ _ => hr) (fun _ z => z ▸ hd) hs) (Nat.le_refl _) fun z ⟨d', r, e, p1, p2⟩ => by rw [e, p1, p2]
theorem L1.star {p : Pos} {d : D} {ds ds1 : List D} (ha : E1 X ρ e d) (hd : d = .tuple ds1 ∨ d = .list ds1) (hr : L1 X ρ es ds) (hs : starEach (.Starred e p :: es) X.env = (true, eval e X.env) :: starEach es X.env := by rfl) : L1 X ρ (.Starred e p :: es) (ds1 ++ ds) := by
  refine pa_imp (StX.pa_star ha hr hs) fun σ H Q ⟨G, L, bx, x, hb, q⟩ => ?_
  refine ⟨G, L, bx, x, (bx_ne (c2 := 0) hb).1, fun v H1 d' s p w => ?_⟩
  subst p
  have fin : ∀ (a : Addr) (xs : List V), DqAll X.K (mask (L ++ G) H1) xs ds1 → tLs X.K ρ 0 (· = ds) σ H1 fun ys H2 => Q (xs ++ ys) H2 := fun a xs w1 =>
    ⟨G, L, bx.add 0, x.step s, bx0 hb, fun vs H2 ds' s2 p2 w2 => by
      subst p2
      exact q (xs ++ vs) H2 _ (s.trans s2) rfl (dpa_append (dpa_mono (s2.mask (x.step s).bM) _ _ w1) w2)⟩
  rcases hd with rfl | rfl
  · obtain ⟨a, xs, rfl, w0, w1⟩ := w.tuple
    exact ⟨a, xs, rfl, .inl w0.out.sq, fin a xs w1⟩
  · obtain ⟨a, xs, rfl, w0, w1⟩ := w.list
    exact ⟨a, xs, rfl, .inr (SqL.of (mask_at w0).2), fin a xs w1⟩
/-- a new object that reads as data -/
theorem new_out {K : PySem.W.Frag} {M : List Addr} {H : Hp} {p : Addr} {o : HO} (al : ∀ a ∈ M, Hid (H a)) (np : H p = none) : p ∉ M ∧ mask M (upd H p o) p = some o := by
  have h : p ∉ M := fun z => (al p z).ne np
  exact ⟨h, by rw [mask_out h, upd_same]⟩
theorem Dv.newT {K : PySem.W.Frag} {M : List Addr} {H : Hp} {p : Addr} {vs : List V} {ds : List D} (al : ∀ a ∈ M, Hid (H a)) (np : H p = none) (w : DqAll K (mask M H) vs ds) (hh : isHold ds = false) : Dv K (mask M (upd H p (.tup vs))) (.ref p) (.tuple ds) :=
  .dat (.tup (.inl ⟨hh, (new_out (K := K) al np).2⟩) (dpa_mono (same_mask' (same_upd np) M) _ _ w))
theorem Dv.newH {K : PySem.W.Frag} {M : List Addr} {H : Hp} {p : Addr} {vs : List V} {ds : List D} {o : Obj} (al : ∀ a ∈ M, Hid (H a)) (np : H p = none) (w : DqAll K (mask M H) vs ds) (hh : isHold ds = true) (ho : o.dict = none) : Dv K (mask M (upd H p (.frz o (.tup vs)))) (.ref p) (.tuple ds) :=
  .dat (.tup (.inr ⟨hh, o, ho, (new_out (K := K) al np).2⟩) (dpa_mono (same_mask' (same_upd np) M) _ _ w))
theorem Dv.newL {K : PySem.W.Frag} {M : List Addr} {H : Hp} {p : Addr} {vs : List V} {ds : List D} (al : ∀ a ∈ M, Hid (H a)) (np : H p = none) (w : DqAll K (mask M H) vs ds) : Dv K (mask M (upd H p (.lst vs))) (.ref p) (.list ds) :=
  .dat (.lst (new_out (K := K) al np).2 (dpa_mono (same_mask' (same_upd np) M) _ _ w))
theorem Ev.tup {k} {Pl : List D → Prop} (h : Ls X ρ es c Pl) (hz : ∀ ds, Pl ds → ds.length ≤ sizeLine) (hh : ∀ ds, Pl ds → isHold ds = false) : Ev X ρ (.Tuple es k pos) c (fun d => ∃ ds, d = .tuple ds ∧ Pl ds) := by
  refine pe_imp (pe_tup h) fun σ H Q ⟨G, L, bx, x, hb, q⟩ => ⟨G, L, bx, x, hb, fun vs H1 ds s p w => ⟨by rw [dpa_len w]; exact hz ds p, fun a na => ?_⟩⟩
  exact q _ _ _ (Stp.andSame (x.step s) s (same_upd na)) ⟨ds, rfl, p⟩ (Dv.newT (x.step s).alM na w (hh ds p))
theorem Ev.lst {Pl : List D → Prop} (h : Ls X ρ es c Pl) (hz : ∀ ds, Pl ds → ds.length ≤ sizeLine) : Ev X ρ (.List es pos) c (fun d => ∃ ds, d = .list ds ∧ Pl ds) := by
  refine pe_imp (pe_lst h) fun σ H Q ⟨G, L, bx, x, hb, q⟩ => ⟨G, L, bx, x, hb, fun vs H1 ds s p w => ⟨by rw [dpa_len w]; exact hz ds p, fun a na => ?_⟩⟩
  exact q _ _ _ (Stp.andSame (x.step s) s (same_upd na)) ⟨ds, rfl, p⟩ (Dv.newL (x.step s).alM na w)
theorem E1.tup {k} {ds : List D} (h : L1 X ρ es ds) (hz : ds.length ≤ sizeLine := by decide) (hh : isHold ds = false := by rfl) : E1 X ρ (.Tuple es k pos) (.tuple ds) :=
  Ev.imp (Ev.tup h (fun _ z => z ▸ hz) fun _ z => z ▸ hh) (Nat.le_refl _) fun _ ⟨_, e, e2⟩ => by rw [e, e2]
/-- a display whose object is known -/
theorem pe_tupH {k} {t : TA} (h : PA X es t) : PE X (.Tuple es k pos) (fun σ H Q => t σ H fun xs H1 => xs.length ≤ sizeLine ∧ ∀ p o, H1 p = none → o.dict = none → Q (.ref p) (upd H1 p (.frz o (.tup xs)))) := by
  refine ⟨fun pins s σ H Q I hq => ?_⟩
  refine wpAny_Tuple_spliced (thn (h.run pos pins s σ H _ I hq) fun us s1 ⟨xs, H1, J, r, z, q⟩ => ⟨by rw [← r.length]; exact z, ?_⟩)
  refine ⟨.ref s1.heap.objs.size, _, J.laid (t' := s1.toks) (o := .frz { cls := .type "tuple", data := .seq us.toArray } (.tup xs)) (fun b u e => Heap.get?_push_of_some _ e) (Nat.le_refl _) ⟨Heap.get?_push_size _ rfl, z, us, r, _, Heap.get?_push_size _ rfl, rfl, _, rfl⟩, rfl, q _ _ (J.hok.fresh (Nat.le_refl _)) rfl⟩
theorem E1.tupH {k} {ds : List D} (h : L1 X ρ es ds) (hz : ds.length ≤ sizeLine := by decide) (hh : isHold ds = true := by rfl) : E1 X ρ (.Tuple es k pos) (.tuple ds) := by
  refine pe_imp (pe_tupH h) fun σ H Q ⟨G, L, bx, x, hb, q⟩ => ⟨G, L, bx, x, hb, fun vs H1 r s p w => ⟨by rw [dpa_len w, p]; exact hz, fun a o na ho => ?_⟩⟩
  subst p
  exact q _ _ _ (Stp.andSame (x.step s) s (same_upd na)) rfl (Dv.newH (x.step s).alM na w hh ho)
theorem E1.lst {ds : List D} (h : L1 X ρ es ds) (hz : ds.length ≤ sizeLine := by decide) : E1 X ρ (.List es pos) (.list ds) :=
  Ev.imp (Ev.lst h fun _ z => z ▸ hz) (Nat.le_refl _) fun _ ⟨_, e, e2⟩ => by rw [e, e2]
/-! ### operators, comparisons, subscripts -/
theorem two {ta tb : TE} {P1 : D → Prop} {P2 : D → D → Prop} {r : R2} (ha : ta = tE X.K ρ c1 P1) (hb : tb = fun σ H Q => ∃ d : {d // P1 d}, tE X.K ρ c2 (P2 d.1) σ H Q)
    (hr : ∀ d1 d2, P1 d1 → P2 d1 d2 → ∀ (M : List Addr) (H : Hp) (x y : V) (Q : VK), (∀ a ∈ M, Hid (H a)) → Dv X.K (mask M H) x d1 → Dv X.K (mask M H) y d2 → (∀ v H' d, Same H H' → P d → Dv X.K (mask M H') v d → Q v H') → r x y H Q)
    (σ : L2.St) (H : Hp) (Q : VK) (h : tE X.K ρ (c1 + c2) P σ H Q) : tOp r ta tb σ H Q := by
  subst ha hb
  obtain ⟨G, L, bx, x, hb, q⟩ := h
  refine ⟨G, L, bx, x, (bx_ne hb).1, fun v H1 d s p w => ⟨⟨d, p⟩, G, L, bx.add c1, x.step s, (bx_ne hb).2, fun u H2 d2 s2 p2 w2 => ?_⟩⟩
  have x2 := (x.step s).step s2
  refine hr d d2 p p2 (L ++ G) H2 v u Q x2.alM (w.mono (s2.mask (x.step s).bM)) w2 fun y H3 d3 s3 p3 w3 => q y H3 d3 ?_ p3 w3
  have z := (s.trans s2).trans (Stp.same (bx := bx.add (c1 + c2)) (ρ := ρ) (σ := σ) (G := G) (L := L) (K := X.K) (by
    cases bx with
    | none => exact x2
    | some p => obtain ⟨b, n⟩ := p; simpa [Bx.add, Nat.add_assoc] using x2) s3)
  simpa using z
theorem Ev.op {op : Operator} {P1 : D → Prop} {P2 : D → D → Prop} (ha : Ev X ρ a c1 P1) (hb : ∀ d1, P1 d1 → Ev X ρ b c2 (P2 d1)) (ho : ∀ d1 d2, P1 d1 → P2 d1 d2 → OpOk X (binaryOp op) d1 d2 P) : Ev X ρ (.BinOp a op b pos) (c1 + c2) P :=
  pe_imp (pe_op opr_any ha (pe_any (ι := {d // P1 d}) fun d => hb d.1 d.2)) (two rfl rfl fun d1 d2 p1 p2 M H x y Q => ho d1 d2 p1 p2 M H x y Q)
theorem E1.op {op : Operator} {d1 d2 d : D} (ha : E1 X ρ a d1) (hb : E1 X ρ b d2) (ho : OpOk X (binaryOp op) d1 d2 (· = d)) : E1 X ρ (.BinOp a op b pos) d :=
  Ev.op (c1 := 0) (c2 := 0) (P2 := fun _ z => z = d2) ha (fun _ _ => hb) fun _ _ e e2 => by rw [e, e2]; exact ho
theorem Ev.cmp {op : CmpOp} {P1 : D → Prop} {P2 : D → D → Prop} (ha : Ev X ρ a c1 P1) (hb : ∀ d1, P1 d1 → Ev X ρ b c2 (P2 d1)) (ho : ∀ d1 d2, P1 d1 → P2 d1 d2 → OpOk X (compareOp op) d1 d2 P) (hm : behindInMarks op b = false := by first | exact nomark _ | rfl) :
    Ev X ρ (.Compare a [op] [b] pos) (c1 + c2) P :=
  pe_imp (pe_cmpR opr_any ha (pe_any (ι := {d // P1 d}) fun d => hb d.1 d.2) hm) (two rfl rfl fun d1 d2 p1 p2 M H x y Q => ho d1 d2 p1 p2 M H x y Q)
theorem E1.cmp {op : CmpOp} {d1 d2 d : D} (ha : E1 X ρ a d1) (hb : E1 X ρ b d2) (ho : OpOk X (compareOp op) d1 d2 (· = d)) (hm : behindInMarks op b = false := by first | exact nomark _ | rfl) : E1 X ρ (.Compare a [op] [b] pos) d :=
  Ev.cmp (c1 := 0) (c2 := 0) (P2 := fun _ z => z = d2) ha (fun _ _ => hb) (fun _ _ e e2 => by rw [e, e2]; exact ho) hm
theorem Ev.ix {P1 : D → Prop} {P2 : D → D → Prop} (ha : Ev X ρ a c1 P1) (hb : ∀ d1, P1 d1 → Ev X ρ b c2 (P2 d1)) (ho : ∀ d1 d2, P1 d1 → P2 d1 d2 → IxOk X d1 d2 P) (hs : PlainIx b := by exact fun _ _ => rfl) : Ev X ρ (.Subscript a b pos) (c1 + c2) P :=
  pe_imp (pe_ix ixr_any ha (pe_any (ι := {d // P1 d}) fun d => hb d.1 d.2) hs) (two rfl rfl fun d1 d2 p1 p2 M H x y Q => ho d1 d2 p1 p2 M H x y Q)
theorem E1.ix {d1 d2 d : D} (ha : E1 X ρ a d1) (hb : E1 X ρ b d2) (ho : IxOk X d1 d2 (· = d)) (hs : PlainIx b := by exact fun _ _ => rfl) : E1 X ρ (.Subscript a b pos) d :=
  Ev.ix (c1 := 0) (c2 := 0) (P2 := fun _ z => z = d2) ha (fun _ _ => hb) (fun _ _ e e2 => by rw [e, e2]; exact ho) hs
/-! ### calls of built-ins -/
variable {id : String} {T : String} {x : Str} {p : Pos}
theorem Ev.callB {Pl : List D → Prop} (ha : As X ρ (e :: es) c Pl) (ho : ∀ ds, Pl ds → CallOk X (.builtin id) ds P) (hm : X.mg x = none) (hv : bootBuiltins x = some (.builtin id)) (hg : Gl X x := by rfl) (hn : x ≠ "__name__" := by decide) (hdb : (x == ("__debug__" : Str)) = false := by decide)
    (he : starEach (e :: es) X.env = (false, eval e X.env) :: starEach es X.env := by rfl) (hpl : (backTo pos (starEach es X.env)).any (·.1) = false := by rfl) : Ev X ρ (.Call (.Name x p) (e :: es) [] pos) c P :=
  pe_imp (pe_callB callr_any hg hm hv ha hn hdb he hpl) fun σ H Q ⟨G, L, bx, x, hb, q⟩ => ⟨G, L, bx, x, hb, fun vs H1 ds s p w =>
    ho ds p (L ++ G) H1 vs Q (x.step s).alM w fun v H2 d s2 p2 w2 => q v H2 d (Stp.andSame (x.step s) s s2) p2 w2⟩
theorem Ev.callT {Pl : List D → Prop} (ha : As X ρ (e :: es) c Pl) (ho : ∀ ds, Pl ds → CallOk X (.type T) ds P) (hm : X.mg x = none) (hv : bootBuiltins x = some (.type T)) (hg : Gl X x := by rfl) (hn : x ≠ "__name__" := by decide) (hdb : (x == ("__debug__" : Str)) = false := by decide)
    (he : starEach (e :: es) X.env = (false, eval e X.env) :: starEach es X.env := by rfl) (hpl : (backTo pos (starEach es X.env)).any (·.1) = false := by rfl) : Ev X ρ (.Call (.Name x p) (e :: es) [] pos) c P :=
  pe_imp (pe_callTy callr_any hg hm hv ha hn hdb he hpl) fun σ H Q ⟨G, L, bx, x, hb, q⟩ => ⟨G, L, bx, x, hb, fun vs H1 ds s p w =>
    ho ds p (L ++ G) H1 vs Q (x.step s).alM w fun v H2 d s2 p2 w2 => q v H2 d (Stp.andSame (x.step s) s s2) p2 w2⟩
theorem E1.callB {ds : List D} {d : D} (ha : A1 X ρ (e :: es) ds) (ho : CallOk X (.builtin id) ds (· = d)) (hm : X.mg x = none) (hv : bootBuiltins x = some (.builtin id)) (hg : Gl X x := by rfl) (hn : x ≠ "__name__" := by decide) (hdb : (x == ("__debug__" : Str)) = false := by decide)
    (he : starEach (e :: es) X.env = (false, eval e X.env) :: starEach es X.env := by rfl) (hpl : (backTo pos (starEach es X.env)).any (·.1) = false := by rfl) : E1 X ρ (.Call (.Name x p) (e :: es) [] pos) d :=
  Ev.callB ha (fun _ z => z ▸ ho) hm hv hg hn hdb he hpl
theorem E1.callT {ds : List D} {d : D} (ha : A1 X ρ (e :: es) ds) (ho : CallOk X (.type T) ds (· = d)) (hm : X.mg x = none) (hv : bootBuiltins x = some (.type T)) (hg : Gl X x := by rfl) (hn : x ≠ "__name__" := by decide) (hdb : (x == ("__debug__" : Str)) = false := by decide)
    (he : starEach (e :: es) X.env = (false, eval e X.env) :: starEach es X.env := by rfl) (hpl : (backTo pos (starEach es X.env)).any (·.1) = false := by rfl) : E1 X ρ (.Call (.Name x p) (e :: es) [] pos) d :=
  Ev.callT ha (fun _ z => z ▸ ho) hm hv hg hn hdb he hpl
/-! ### tests -/
theorem Tv.imp {P P' : Bool → Prop} (h : Tv X ρ e c1 P) (hc : c1 ≤ c2) (hP : ∀ d, P d → P' d) : Tv X ρ e c2 P' := pt_imp h fun σ H Q ⟨G, L, bx, x, hb, q⟩ =>
  ⟨G, L, bx, x, hb.le hc, fun b H' s p => q b H' (s.mono (fun _ z => z) hc) (hP b p)⟩
theorem Tv.val {Pb : D → Prop} {P : Bool → Prop} (h : Ev X ρ e c Pb) (hP : ∀ d, Pb d → ∃ b, d = .bool b ∧ P b) (he : ∀ whole, isTrue e X.env whole = (do let v ← whole; standAt e.pos; holding [v] (truthy v)) := by intro _; rfl) : Tv X ρ e c P :=
  pt_imp (pt_val h he) fun σ H Q ⟨G, L, bx, x, hb, q⟩ => ⟨G, L, bx, x, hb, fun v H1 d s p w => by
    obtain ⟨b, rfl, pb⟩ := hP d p
    exact ⟨b, w.bool, q b H1 s pb⟩⟩
theorem T1.val {b : Bool} (h : E1 X ρ e (.bool b)) (he : ∀ whole, isTrue e X.env whole = (do let v ← whole; standAt e.pos; holding [v] (truthy v)) := by intro _; rfl) : T1 X ρ e b :=
  Tv.val h (fun d z => ⟨b, z, rfl⟩) he
/-- a comparison as a test -/
theorem Tv.cmp {op : CmpOp} {P1 : D → Prop} {P2 : D → D → Prop} {P : Bool → Prop} (ha : Ev X ρ a c1 P1) (hb : ∀ d1, P1 d1 → Ev X ρ b c2 (P2 d1)) (ho : ∀ d1 d2, P1 d1 → P2 d1 d2 → OpOk X (compareOp op) d1 d2 (fun d => ∃ b, d = .bool b ∧ P b)) (hm : behindInMarks op b = false := by first | exact nomark _ | rfl) :
    Tv X ρ (.Compare a [op] [b] pos) (c1 + c2) P :=
  pt_imp (pt_cmpR opr_any ha (pe_any (ι := {d // P1 d}) fun d => hb d.1 d.2) hm) fun σ H Q h => by
    refine two (P := fun d => ∃ b, d = .bool b ∧ P b) rfl rfl (fun d1 d2 p1 p2 M H x y Q => ho d1 d2 p1 p2 M H x y Q) σ H _ ?_
    obtain ⟨G, L, bx, x, hb, q⟩ := h
    refine ⟨G, L, bx, x, hb, fun v H1 d s p w => ?_⟩
    obtain ⟨b, rfl, pb⟩ := p
    exact ⟨b, w.bool, q b H1 s pb⟩
theorem T1.cmp {op : CmpOp} {d1 d2 : D} {k : Bool} (ha : E1 X ρ a d1) (hb : E1 X ρ b d2) (ho : OpOk X (compareOp op) d1 d2 (· = .bool k)) (hm : behindInMarks op b = false := by first | exact nomark _ | rfl) : T1 X ρ (.Compare a [op] [b] pos) k :=
  Tv.cmp (c1 := 0) (c2 := 0) (P2 := fun _ z => z = d2) ha (fun _ _ => hb) (fun _ _ e e2 => by
    rw [e, e2]
    intro M H x y Q al w1 w2 q
    exact ho M H x y Q al w1 w2 fun v H' d s p w => q v H' d s ⟨k, p, rfl⟩ w) hm
theorem T1.not {k : Bool} (h : T1 X ρ a k) : T1 X ρ (.UnaryOp .Not a pos) (!k) :=
  pt_imp (pt_not h) fun σ H Q ⟨G, L, bx, x, hb, q⟩ => ⟨G, L, bx, x, hb, fun b H1 s p => q (!b) H1 s (by rw [p])⟩
/-- chains of and, or -/
abbrev W1 (X : Cx) (ρ : En) (e : Expr) (b : Bool) : Prop := PW X e (tTs X.K ρ 0 (· = b))
theorem pw_imp {t t' : TT} (h : PW X e t) (f : ∀ σ H Q, t' σ H Q → t σ H Q) : PW X e t' := ⟨fun wh pins s σ H Q I q => h.run wh pins s σ H Q I (f σ H Q q)⟩
theorem W1.and1 {k : Bool} (h : T1 X ρ a k) : W1 X ρ (.BoolOp .And [a] pos) k := pw_and1 h
theorem W1.or1 {k : Bool} (h : T1 X ρ a k) : W1 X ρ (.BoolOp .Or [a] pos) k := pw_or1 h
theorem W1.and {k l : Bool} {rest : List Expr} (h : T1 X ρ a k) (h2 : k = true → W1 X ρ (.BoolOp .And (b :: rest) pos) l) : W1 X ρ (.BoolOp .And (a :: b :: rest) pos) (k && l) := by
  cases k with
  | true =>
    refine pw_imp (pw_and h (h2 rfl)) fun σ H Q ⟨G, L, bx, x, hb, q⟩ => ⟨G, L, bx, x, hb, fun b H1 s p => ?_⟩
    subst p
    rw [if_pos rfl]
    exact ⟨G, L, bx.add 0, x.step s, bx0 hb, fun b2 H2 s2 p2 => q b2 H2 (s.trans s2) (by rw [p2]; rfl)⟩
  | false =>
    refine ⟨fun wh pins s σ H Q I ⟨G, L, bx, x, hb, q⟩ => ?_⟩
    refine PyProof.Rows.isTrue_and (thn (h.run pins s σ H _ I ⟨G, L, bx, x, hb, fun b H1 s p => (⟨p, q b H1 s p⟩ : b = false ∧ Q b H1)⟩) fun c s1 e => ?_)
    obtain ⟨H1, I1, p, q1⟩ := e
    subst p
    exact ⟨H1, I1, q1⟩
theorem W1.or {k l : Bool} {rest : List Expr} (h : T1 X ρ a k) (h2 : k = false → W1 X ρ (.BoolOp .Or (b :: rest) pos) l) : W1 X ρ (.BoolOp .Or (a :: b :: rest) pos) (k || l) := by
  cases k with
  | false =>
    refine pw_imp (pw_or h (h2 rfl)) fun σ H Q ⟨G, L, bx, x, hb, q⟩ => ⟨G, L, bx, x, hb, fun b H1 s p => ?_⟩
    subst p
    rw [if_neg Bool.false_ne_true]
    exact ⟨G, L, bx.add 0, x.step s, bx0 hb, fun b2 H2 s2 p2 => q b2 H2 (s.trans s2) (by rw [p2]; rfl)⟩
  | true =>
    refine ⟨fun wh pins s σ H Q I ⟨G, L, bx, x, hb, q⟩ => ?_⟩
    refine PyProof.Rows.isTrue_or (thn (h.run pins s σ H _ I ⟨G, L, bx, x, hb, fun b H1 s p => (⟨p, q b H1 s p⟩ : b = true ∧ Q b H1)⟩) fun c s1 e => ?_)
    obtain ⟨H1, I1, p, q1⟩ := e
    subst p
    exact ⟨H1, I1, q1⟩
theorem W1.t {k : Bool} (h : W1 X ρ e k) : T1 X ρ e k := h.pt
/-- .. as values -/
theorem E1.and {k l : Bool} {rest : List Expr} (h : E1 X ρ a (.bool k)) (h2 : k = true → E1 X ρ (.BoolOp .And (b :: rest) pos) (.bool l)) : E1 X ρ (.BoolOp .And (a :: b :: rest) pos) (.bool (k && l)) := by
  cases k with
  | true =>
    refine pe_imp (pe_and h (h2 rfl)) fun σ H Q ⟨G, L, bx, x, hb, q⟩ => ⟨G, L, bx, x, hb, fun v H1 d s p w => ?_⟩
    subst p
    refine ⟨true, w.bool, ?_⟩
    rw [if_pos rfl]
    exact ⟨G, L, bx.add 0, x.step s, bx0 hb, fun b2 H2 d2 s2 p2 w2 => q b2 H2 d2 (s.trans s2) (by rw [p2]; rfl) w2⟩
  | false =>
    refine ⟨fun pins s σ H Q I ⟨G, L, bx, x, hb, q⟩ => ?_⟩
    refine PyProof.Rows.BoolOp_and (thn (h.run pins s σ H _ I ⟨G, L, bx, x, hb, fun v H1 d s p w => (⟨by subst p; exact w.bool, q v H1 d s p w⟩ : v = .bl false ∧ Q v H1)⟩) fun u s1 e => ?_)
    obtain ⟨v, H1, I1, r, p, q1⟩ := e
    subst p
    cases r
    exact wpAny_truthy_bool ⟨.bl false, H1, I1, rfl, q1⟩
theorem E1.or {k l : Bool} {rest : List Expr} (h : E1 X ρ a (.bool k)) (h2 : k = false → E1 X ρ (.BoolOp .Or (b :: rest) pos) (.bool l)) : E1 X ρ (.BoolOp .Or (a :: b :: rest) pos) (.bool (k || l)) := by
  cases k with
  | false =>
    refine pe_imp (pe_or h (h2 rfl)) fun σ H Q ⟨G, L, bx, x, hb, q⟩ => ⟨G, L, bx, x, hb, fun v H1 d s p w => ?_⟩
    subst p
    refine ⟨false, w.bool, ?_⟩
    rw [if_neg Bool.false_ne_true]
    exact ⟨G, L, bx.add 0, x.step s, bx0 hb, fun b2 H2 d2 s2 p2 w2 => q b2 H2 d2 (s.trans s2) (by rw [p2]; rfl) w2⟩
  | true =>
    refine ⟨fun pins s σ H Q I ⟨G, L, bx, x, hb, q⟩ => ?_⟩
    refine PyProof.Rows.BoolOp_or (thn (h.run pins s σ H _ I ⟨G, L, bx, x, hb, fun v H1 d s p w => (⟨by subst p; exact w.bool, q v H1 d s p w⟩ : v = .bl true ∧ Q v H1)⟩) fun u s1 e => ?_)
    obtain ⟨v, H1, I1, r, p, q1⟩ := e
    subst p
    cases r
    exact wpAny_truthy_bool ⟨.bl true, H1, I1, rfl, q1⟩
theorem E1.one {op} {d : D} (h : E1 X ρ a d) : E1 X ρ (.BoolOp op [a] pos) d := pe_one h
theorem E1.not {k : Bool} (h : E1 X ρ a (.bool k)) : E1 X ρ (.UnaryOp .Not a pos) (.bool (!k)) :=
  pe_imp (pe_not h) fun σ H Q ⟨G, L, bx, x, hb, q⟩ => ⟨G, L, bx, x, hb, fun v H1 d s p w => by
    subst p
    exact ⟨k, w.bool, q _ H1 _ s rfl (.dat (.bl _))⟩⟩
/-- a if t else b -/
theorem Ev.ifExp {t : Expr} {Pt : Bool → Prop} (ht : Tv X ρ t c1 Pt) (h1 : Pt true → Ev X ρ a c2 P) (h2 : Pt false → Ev X ρ b c2 P) : Ev X ρ (.IfExp t a b pos) (c1 + c2) P := by
  refine ⟨fun pins s σ H Q I ⟨G, L, bx, x, hb, q⟩ => ?_⟩
  refine wpAny_IfExp (thn (ht.run pins s σ H _ I ⟨G, L, bx, x, (bx_ne hb).1, fun k H1 s p => (⟨p, s⟩ : Pt k ∧ Stp [] bx c1 H H1)⟩) fun k s1 ⟨H1, I1, p, s⟩ => ?_)
  cases k with
  | true => exact (h1 p).run pins s1 σ H1 Q I1 ⟨G, L, bx.add c1, x.step s, (bx_ne hb).2, fun v H2 d s2 p2 w2 => q v H2 d (s.trans s2) p2 w2⟩
  | false => exact (h2 p).run pins s1 σ H1 Q I1 ⟨G, L, bx.add c1, x.step s, (bx_ne hb).2, fun v H2 d s2 p2 w2 => q v H2 d (s.trans s2) p2 w2⟩
theorem E1.ifExp {t : Expr} {k : Bool} {d : D} (ht : T1 X ρ t k) (h1 : k = true → E1 X ρ a d) (h2 : k = false → E1 X ρ b d) : E1 X ρ (.IfExp t a b pos) d :=
  Ev.ifExp (c1 := 0) (c2 := 0) ht (fun z => h1 z.symm) (fun z => h2 z.symm)
end
end Kl

set_option Elab.async false
set_option linter.all false
set_option maxRecDepth 100000
/-! Walks over data, targets, comprehensions. -/
namespace Kl
open PySem PySem.Spec L2

/-- what is walked gives the data ys, one after another, as long as M stands -/
structure WalkD (K : PySem.W.Frag) (J : It) (M : Hp) (ys : List D) : Prop where
  go : ∀ i H, i < ys.length → Same M H → J.go i H
  stop : ∀ H, Same M H → J.stop ys.length H
  yld : ∀ i H x H', i < ys.length → Same M H → J.yld i H x H' → Same H H' ∧ ∀ G : List Addr, (∀ a ∈ G, Hid (H a)) → Same M (mask G H) → ∃ d, ys[i]? = some d ∧ Dv K (mask G H') x d
theorem WalkD.mono {K : PySem.W.Frag} {J : It} {M M' : Hp} {ys : List D} (w : WalkD K J M ys) (e : Same M M') : WalkD K J M' ys :=
  ⟨fun i H hi s => w.go i H hi (e.trans s), fun H s => w.stop H (e.trans s), fun i H x H' hi s y =>
    ⟨(w.yld i H x H' hi (e.trans s) y).1, fun G al s' => (w.yld i H x H' hi (e.trans s) y).2 G al (e.trans s')⟩⟩
def tI (K : PySem.W.Frag) (ρ : En) (c : Nat) (P : List D → Prop) : TI := fun σ H R => ∃ G L bx, Ctx K G L bx σ H ρ ∧ BxOk bx c ∧
  ∀ J H' ys, Stp [] bx c H H' → P ys → WalkD K J (mask (L ++ G) H') ys → R J H'
abbrev Iv (X : Cx) (ρ : En) (tg e : Expr) (c : Nat) (P : List D → Prop) : Prop := PI X tg e (tI X.K ρ c P)
abbrev I1 (X : Cx) (ρ : En) (tg e : Expr) (ys : List D) : Prop := PI X tg e (tI X.K ρ 0 (· = ys))
section
variable {X : Cx} {ρ : En} {tg e : Expr} {c : Nat} {ys : List D}
theorem pi_imp {t t' : TI} (h : PI X tg e t) (f : ∀ σ H R, t' σ H R → t σ H R) : PI X tg e t' := ⟨fun pins s σ H R I q => h.run pins s σ H R I (f σ H R q)⟩
theorem walkD_list {K : PySem.W.Frag} {M : Hp} {a : Addr} {vs : List V} (h1 : M a = some (.lst vs)) (h2 : DqAll K M vs ys) : WalkD K (Itl K a) M ys := by
  have hl := dpa_len h2
  refine ⟨fun i H hi s => ?_, fun H s => ⟨vs, SqL.of (s _ _ h1), by omega⟩, fun i H x H' hi s y => ?_⟩
  · obtain ⟨d, hd⟩ : ∃ d, ys[i]? = some d := ⟨ys[i], by simp [hi]⟩
    obtain ⟨v, hv, _⟩ := dpa_get h2 hd
    exact ⟨vs, v, SqL.of (s _ _ h1), hv⟩
  · obtain ⟨rfl, y⟩ := y
    refine ⟨Same.refl _, fun G al s' => ?_⟩
    obtain ⟨d, hd, w⟩ := dpa_getV h2 (y vs (SqL.of (s _ _ h1)))
    exact ⟨d, hd, .dat (dp_mono s' _ _ w)⟩
theorem walkD_tup {K : PySem.W.Frag} {M : Hp} {a : Addr} {vs : List V} (h1 : TupAt M a vs ys) (h2 : DqAll K M vs ys) : WalkD K (Itt K a) M ys := by
  have hl := dpa_len h2
  refine ⟨fun i H hi s => ?_, fun H s => ⟨vs, (h1.mono s).sq, by omega⟩, fun i H x H' hi s y => ?_⟩
  · obtain ⟨d, hd⟩ : ∃ d, ys[i]? = some d := ⟨ys[i], by simp [hi]⟩
    obtain ⟨v, hv, _⟩ := dpa_get h2 hd
    exact ⟨vs, v, (h1.mono s).sq, hv⟩
  · obtain ⟨rfl, y⟩ := y
    refine ⟨Same.refl _, fun G al s' => ?_⟩
    obtain ⟨d, hd, w⟩ := dpa_getV h2 (y vs ((h1.mono s).sq))
    exact ⟨d, hd, .dat (dp_mono s' _ _ w)⟩
theorem Iv.list {P : List D → Prop} (h : Ev X ρ e c (fun d => ∃ ys, d = .list ys ∧ P ys)) : Iv X ρ tg e c P :=
  pi_imp (pi_list h) fun σ H R ⟨G, L, bx, x, hb, q⟩ => ⟨G, L, bx, x, hb, fun v H1 d s p w => by
    obtain ⟨ys, rfl, p⟩ := p
    obtain ⟨a, vs, rfl, h1, h2⟩ := w.list
    exact ⟨a, rfl, ⟨vs, SqL.of (mask_at h1).2⟩, q _ H1 ys s p (walkD_list h1 h2)⟩⟩
theorem Iv.tup {P : List D → Prop} (h : Ev X ρ e c (fun d => ∃ ys, d = .tuple ys ∧ P ys)) : Iv X ρ tg e c P :=
  pi_imp (pi_tup h) fun σ H R ⟨G, L, bx, x, hb, q⟩ => ⟨G, L, bx, x, hb, fun v H1 d s p w => by
    obtain ⟨ys, rfl, p⟩ := p
    obtain ⟨a, vs, rfl, h1, h2⟩ := w.tuple
    exact ⟨a, rfl, ⟨vs, h1.out.sq⟩, q _ H1 ys s p (walkD_tup h1 h2)⟩⟩
theorem I1.list (h : E1 X ρ e (.list ys)) : I1 X ρ tg e ys := Iv.list (Ev.imp h (Nat.le_refl _) fun d z => ⟨ys, z, rfl⟩)
theorem I1.tup (h : E1 X ρ e (.tuple ys)) : I1 X ρ tg e ys := Iv.tup (Ev.imp h (Nat.le_refl _) fun d z => ⟨ys, z, rfl⟩)
def rangeD (n : Nat) : List D := (List.range n).map fun (k : Nat) => PyData.int (k : Int)
theorem rangeD_len (n : Nat) : (rangeD n).length = n := by simp [rangeD]
theorem walkD_range {K : PySem.W.Frag} {M : Hp} {n : Nat} : WalkD K (Itr 0 n) M (rangeD n) := by
  refine ⟨fun i H hi s => (by simpa [rangeD] using hi : i < n), fun H s => by simp [Itr, rangeD], fun i H x H' hi s y => ?_⟩
  obtain ⟨rfl, rfl⟩ := y
  refine ⟨Same.refl _, fun G al s' => ⟨.int i, ?_, ?_⟩⟩
  · have hi' : i < n := by simpa [rangeD] using hi
    simp [rangeD, hi']
  · rw [Int.zero_add]
    exact .dat (.int i)
theorem Iv.range {a : Expr} {p pos : Pos} {P : Int → Prop} (h : Ev X ρ a c (fun d => ∃ n, d = .int n ∧ P n)) (hP : ∀ n, P n → -(2 ^ 62) ≤ n ∧ n < 2 ^ 62) (hm : X.mg "range" = none) (hg : Gl X "range" := by rfl) (hs : starEach [a] X.env = [(false, eval a X.env)] := by rfl) :
    Iv X ρ tg (.Call (.Name "range" p) [a] [] pos) c (fun ys => ∃ n, P n ∧ ys = rangeD n.toNat) :=
  pi_imp (pi_range1 hg hm (pa_cons h pa_nil (by rw [hs]; rfl)) hs) fun σ H R ⟨G, L, bx, x, hb, q⟩ => ⟨G, L, bx, x, hb, fun v H1 d s p w => by
    obtain ⟨n, rfl, p⟩ := p
    exact ⟨n, by rw [w.int], (hP n p).1, (hP n p).2, q _ H1 _ s ⟨n, p, rfl⟩ walkD_range⟩⟩
theorem I1.range {a : Expr} {p pos : Pos} {n : Nat} (h : E1 X ρ a (.int n)) (hn : n < 2 ^ 62) (hm : X.mg "range" = none) (hg : Gl X "range" := by rfl) (hs : starEach [a] X.env = [(false, eval a X.env)] := by rfl) :
    I1 X ρ tg (.Call (.Name "range" p) [a] [] pos) (rangeD n) :=
  pi_imp (Iv.range (P := fun z => z = n) (Ev.imp h (Nat.le_refl _) fun d z => ⟨n, z, rfl⟩) (fun z e => by subst e; omega) hm hg hs) fun σ H R ⟨G, L, bx, x, hb, q⟩ => ⟨G, L, bx, x, hb, fun J H' ys s p w => by
    obtain ⟨m, rfl, rfl⟩ := p
    exact q J H' _ s (by simp) w⟩
end

/-! ### targets -/
theorem wipe_get (σ : L2.St) : ∀ (vs : List Nat) (i : Nat), (wipe σ vs)[i]? = if i ∈ vs then σ[i]?.map fun _ => none else σ[i]?
  | [], i => by simp [wipe]
  | v :: vs, i => by
    unfold wipe
    rw [List.getElem?_set]
    by_cases e : v = i
    · subst e
      simp only [List.mem_cons, true_or, if_true, wipe_length]
      by_cases h : v < σ.length
      · simp [h]
      · simp [h]
    · rw [if_neg e, wipe_get σ vs i]
      simp only [List.mem_cons, Ne.symm e, false_or]
theorem wipe_wipe (σ : L2.St) (vs : List Nat) : wipe (wipe σ vs) vs = wipe σ vs := by
  apply List.ext_getElem?
  intro i
  rw [wipe_get, wipe_get]
  by_cases e : i ∈ vs
  · rw [if_pos e, if_pos e]
    cases σ[i]? <;> rfl
  · rw [if_neg e, if_neg e]
theorem wipe_set {σ : L2.St} {vs : List Nat} {i : Nat} {y : Option V} (h : i ∈ vs) : wipe (σ.set i y) vs = wipe σ vs := by
  apply List.ext_getElem?
  intro j
  rw [wipe_get, wipe_get]
  by_cases e : j ∈ vs
  · rw [if_pos e, if_pos e, List.getElem?_set]
    by_cases z : i = j
    · subst z
      rw [if_pos rfl]
      by_cases hl : i < σ.length <;> simp [hl]
    · rw [if_neg z]
  · rw [if_neg e, if_neg e, List.getElem?_set_ne (fun z => by subst z; exact e h)]
def wipeR (ρ : En) : List Nat → En
  | [] => ρ
  | v :: vs => (wipeR ρ vs).set v none
theorem wipeR_some {ρ : En} {i : Nat} {x : Sl} : ∀ {vs : List Nat}, (wipeR ρ vs)[i]? = some (some x) → ρ[i]? = some (some x) ∧ i ∉ vs
  | [], h => ⟨h, by simp⟩
  | v :: vs, h => by
    unfold wipeR at h
    by_cases hi : v = i
    · subst hi
      by_cases hv : v < (wipeR ρ vs).length
      · rw [List.getElem?_set_self hv] at h; cases h
      · rw [List.getElem?_eq_none (by simpa using hv)] at h; cases h
    · rw [List.getElem?_set_ne hi] at h
      obtain ⟨h1, h2⟩ := wipeR_some h
      exact ⟨h1, by simp only [List.mem_cons, not_or]; exact ⟨fun e => hi e.symm, h2⟩⟩
theorem wipeR_len (ρ : En) : ∀ vs : List Nat, (wipeR ρ vs).length = ρ.length
  | [] => rfl
  | v :: vs => by unfold wipeR; rw [List.length_set, wipeR_len ρ vs]
theorem Ctx.wipe {K : PySem.W.Frag} {G L : List Addr} {bx : Bx} {σ : L2.St} {H : Hp} {ρ : En} {vs : List Nat} (x : Ctx K G L bx σ H ρ) (h0 : 0 ∉ vs) : Ctx K G L bx (L2.wipe σ vs) H (wipeR ρ vs) where
  len := by rw [wipeR_len, wipe_length]; exact x.len
  al := x.al
  dat := fun i d e => by
    obtain ⟨e1, e2⟩ := wipeR_some e
    obtain ⟨v, h1, h2⟩ := x.dat i d e1
    exact ⟨v, by rw [wipe_get, if_neg e2]; exact h1, h2⟩
  own := fun i o e => by
    obtain ⟨e1, e2⟩ := wipeR_some e
    obtain ⟨p, u, h1, h2, h3, h4⟩ := x.own i o e1
    exact ⟨p, u, by rw [wipe_get, if_neg e2]; exact h1, h2, h3, h4⟩
  dis := fun i j o o' p e e' f f' => by
    obtain ⟨e1, e2⟩ := wipeR_some e
    obtain ⟨e1', e2'⟩ := wipeR_some e'
    rw [wipe_get, if_neg e2] at f
    rw [wipe_get, if_neg e2'] at f'
    exact x.dis i j o o' p e1 e1' f f'
  box := fun b n e => by
    obtain ⟨h1, h2, h3, h4⟩ := x.box b n e
    exact ⟨h1, h2, by rw [wipe_get, if_neg h0]; exact h3, h4⟩
/-- a value laid into a slot -/
theorem Ctx.set {K : PySem.W.Frag} {G L : List Addr} {bx : Bx} {σ : L2.St} {H : Hp} {ρ : En} {i : Nat} {v : V} {d : D} (x : Ctx K G L bx σ H ρ) (hi : 0 < i) (w : Dv K (mask (L ++ G) H) v d) : Ctx K G L bx (σ.set i (some v)) H (ρ.set i (some (.dat d))) := by
  have old : ∀ (j : Nat) (s : Sl), j ≠ i → (ρ.set i (some (.dat d)))[j]? = some (some s) → ρ[j]? = some (some s) := fun j s hj e => by
    rw [List.getElem?_set_ne (Ne.symm hj)] at e; exact e
  have own : ∀ (j : Nat) (o : OV), (ρ.set i (some (.dat d)))[j]? = some (some (.own o)) → j ≠ i := fun j o e z => by
    subst z
    by_cases hl : j < ρ.length
    · rw [List.getElem?_set_self hl] at e; cases e
    · rw [List.getElem?_eq_none (by simpa using hl)] at e; cases e
  refine ⟨by rw [List.length_set, List.length_set]; exact x.len, x.al, fun j d' e => ?_, fun j o e => ?_, fun j k o o' p e e' f f' => ?_, fun b n e => ?_⟩
  · by_cases hj : j = i
    · subst hj
      by_cases hl : j < ρ.length
      · rw [List.getElem?_set_self hl] at e
        cases e
        exact ⟨v, by rw [List.getElem?_set_self (Nat.lt_of_lt_of_le hl x.len)], w⟩
      · rw [List.getElem?_eq_none (by simpa using hl)] at e; cases e
    · obtain ⟨v', h1, h2⟩ := x.dat j d' (old j _ hj e)
      exact ⟨v', by rw [List.getElem?_set_ne (Ne.symm hj)]; exact h1, h2⟩
  · have hj := own j o e
    obtain ⟨p, u, h1, h2⟩ := x.own j o (old j _ hj e)
    exact ⟨p, u, by rw [List.getElem?_set_ne (Ne.symm hj)]; exact h1, h2⟩
  · have hj := own j o e
    have hk := own k o' e'
    rw [List.getElem?_set_ne (Ne.symm hj)] at f
    rw [List.getElem?_set_ne (Ne.symm hk)] at f'
    exact x.dis j k o o' p (old j _ hj e) (old k _ hk e') f f'
  · obtain ⟨h1, h2, h3, h4⟩ := x.box b n e
    exact ⟨h1, h2, by rw [List.getElem?_set_ne (Nat.ne_of_gt hi)]; exact h3, h4⟩

/-- a slot emptied -/
theorem Ctx.unset {K : PySem.W.Frag} {G L : List Addr} {bx : Bx} {σ : L2.St} {H : Hp} {ρ : En} {i : Nat} {v : V} (x : Ctx K G L bx σ H ρ) (hi : 0 < i) : Ctx K G L bx (σ.set i (some v)) H (ρ.set i none) := by
  have old : ∀ (j : Nat) (s : Sl), (ρ.set i none)[j]? = some (some s) → j ≠ i ∧ ρ[j]? = some (some s) := fun j s e => by
    by_cases z : i = j
    · subst z
      by_cases hl : i < ρ.length
      · rw [List.getElem?_set_self hl] at e; cases e
      · rw [List.getElem?_eq_none (by simpa using hl)] at e; cases e
    · rw [List.getElem?_set_ne z] at e
      exact ⟨Ne.symm z, e⟩
  refine ⟨by rw [List.length_set, List.length_set]; exact x.len, x.al, fun j d' e => ?_, fun j o e => ?_, fun j k o o' p e e' f f' => ?_, fun b n e => ?_⟩
  · obtain ⟨hj, e⟩ := old j _ e
    obtain ⟨v', h1, h2⟩ := x.dat j d' e
    exact ⟨v', by rw [List.getElem?_set_ne (Ne.symm hj)]; exact h1, h2⟩
  · obtain ⟨hj, e⟩ := old j _ e
    obtain ⟨p, u, h1, h2⟩ := x.own j o e
    exact ⟨p, u, by rw [List.getElem?_set_ne (Ne.symm hj)]; exact h1, h2⟩
  · obtain ⟨hj, e⟩ := old j _ e
    obtain ⟨hk, e'⟩ := old k _ e'
    rw [List.getElem?_set_ne (Ne.symm hj)] at f
    rw [List.getElem?_set_ne (Ne.symm hk)] at f'
    exact x.dis j k o o' p e e' f f'
  · obtain ⟨h1, h2, h3, h4⟩ := x.box b n e
    exact ⟨h1, h2, by rw [List.getElem?_set_ne (Nat.ne_of_gt hi)]; exact h3, h4⟩
/-- a target takes d: the slots behind it; S: the slots that it may store -/
def TgOk (K : PySem.W.Frag) (g : TG) (S : List Nat) (ρ : En) (d : D) (ρ' : En) : Prop := ∀ (G L : List Addr) (bx : Bx) (σ : L2.St) (H : Hp) (x : V) (Q : L2.St → Hp → Prop), Ctx K G L bx σ H ρ → Dv K (mask (L ++ G) H) x d →
  (∀ σ', Ctx K G L bx σ' H ρ' → (∀ vs : List Nat, (∀ i ∈ S, i ∈ vs) → wipe σ' vs = wipe σ vs) → Q σ' H) → g x σ H Q
theorem TgOk.name {K : PySem.W.Frag} {ρ : En} {d : D} (i : Nat) (hi : 0 < i := by decide) : TgOk K (gName i) [i] ρ d (ρ.set i (some (.dat d))) := fun G L bx σ H x Q c w q =>
  q _ (c.set hi w) fun vs h => wipe_set (h i (by simp))
theorem TgOk.tup2 {K : PySem.W.Frag} {ρ : En} {d1 d2 : D} (i j : Nat) (hi : 0 < i := by decide) (hj : 0 < j := by decide) : TgOk K (gTup K 2 (gCons (gName i) (gCons (gName j) gNil))) [i, j] ρ (.tuple [d1, d2]) ((ρ.set i (some (.dat d1))).set j (some (.dat d2))) := fun G L bx σ H x Q c w q => by
  obtain ⟨a, vs, rfl, h1, h2⟩ := w.tuple
  cases h2 with
  | cons w1 h2 =>
    cases h2 with
    | cons w2 h3 =>
      cases h3
      refine ⟨a, _, rfl, h1.out.sq, rfl, _, _, rfl, _, _, rfl, rfl, ?_⟩
      exact q _ ((c.set hi (.dat w1)).set hj (.dat w2)) fun vs h => by rw [wipe_set (h j (by simp)), wipe_set (h i (by simp))]
theorem TgOk.tup3 {K : PySem.W.Frag} {ρ : En} {d1 d2 d3 : D} (i j k : Nat) (hi : 0 < i := by decide) (hj : 0 < j := by decide) (hk : 0 < k := by decide) :
    TgOk K (gTup K 3 (gCons (gName i) (gCons (gName j) (gCons (gName k) gNil)))) [i, j, k] ρ (.tuple [d1, d2, d3]) (((ρ.set i (some (.dat d1))).set j (some (.dat d2))).set k (some (.dat d3))) := fun G L bx σ H x Q c w q => by
  obtain ⟨a, vs, rfl, h1, h2⟩ := w.tuple
  cases h2 with
  | cons w1 h2 =>
    cases h2 with
    | cons w2 h2 =>
      cases h2 with
      | cons w3 h3 =>
        cases h3
        refine ⟨a, _, rfl, h1.out.sq, rfl, _, _, rfl, _, _, rfl, _, _, rfl, rfl, ?_⟩
        exact q _ (((c.set hi (.dat w1)).set hj (.dat w2)).set hk (.dat w3)) fun vs h => by rw [wipe_set (h k (by simp)), wipe_set (h j (by simp)), wipe_set (h i (by simp))]

/-! ### what a comprehension makes -/
inductive Picks {α : Type} (p : α → Bool) (Pe : α → D → Prop) : List α → List D → Prop
  | nil : Picks p Pe [] []
  | skip {xs : List α} {rs : List D} {x : α} : Picks p Pe xs rs → p x = false → Picks p Pe (xs ++ [x]) rs
  | take {xs : List α} {rs : List D} {x : α} {r : D} : Picks p Pe xs rs → p x = true → Pe x r → Picks p Pe (xs ++ [x]) (rs ++ [r])
theorem Picks.eq {α : Type} {p : α → Bool} {f : α → D} {xs : List α} {rs : List D} (h : Picks p (fun x r => r = f x) xs rs) : rs = (xs.filter p).map f := by
  induction h with
  | nil => rfl
  | skip _ hp ih => rw [List.filter_append, List.map_append, ← ih]; simp [hp]
  | take _ hp e ih => rw [List.filter_append, List.map_append, ← ih]; simp [hp, e]
theorem Picks.len {α : Type} {p : α → Bool} {Pe : α → D → Prop} {xs : List α} {rs : List D} (h : Picks p Pe xs rs) : rs.length ≤ xs.length := by
  induction h with
  | nil => exact Nat.le_refl _
  | skip _ _ ih => rw [List.length_append]; omega
  | take _ _ _ ih => rw [List.length_append, List.length_append]; simpa using ih
/-- a new object of ours is laid -/
theorem Ctx.hide {K : PySem.W.Frag} {G L : List Addr} {bx : Bx} {σ : L2.St} {H : Hp} {ρ : En} {D : Addr} {o : HO} (x : Ctx K G L bx σ H ρ) (hD : H D = none) (ho : Hid (some o) := by exact trivial) : Ctx K G (D :: L) bx σ (upd H D o) ρ ∧ Same (mask (L ++ G) H) (mask ((D :: L) ++ G) (upd H D o)) := by
  have sm : Same (mask (L ++ G) H) (mask ((D :: L) ++ G) (upd H D o)) := fun a u e => by
    obtain ⟨e1, e2⟩ := mask_at e
    have ne : a ≠ D := ne_of_none e2 hD
    rw [mask_out (by simp only [List.cons_append, List.mem_cons, not_or]; exact ⟨ne, e1⟩), upd_ne ne]
    exact e2
  refine ⟨⟨x.len, fun a ha => ?_, fun i d e => ?_, fun i u e => ?_, x.dis, fun b n e => ?_⟩, sm⟩
  · by_cases z : a = D
    · subst z; rw [upd_same]; exact ho
    · rw [upd_ne z]
      exact x.al a (ha.elim .inl fun q => (List.mem_cons.mp q).elim (fun q => absurd q z) .inr)
  · obtain ⟨v, h1, h2⟩ := x.dat i d e
    exact ⟨v, h1, h2.mono sm⟩
  · obtain ⟨p, u', h1, h2, h3, h4⟩ := x.own i u e
    exact ⟨p, u', h1, ⟨List.mem_cons_of_mem _ h2.1, h2.2⟩, (by rw [upd_ne (ne_of_none h3 hD)]; exact h3), h4.mono sm⟩
  · obtain ⟨h1, h2, h3, x0, y0, z0, h4, h5⟩ := x.box b n e
    have ne : b ≠ D := ne_of_none h4 hD
    exact ⟨h1, by simp only [List.mem_cons, not_or]; exact ⟨ne, h2⟩, h3, x0, y0, z0, by rw [upd_ne ne]; exact h4, h5⟩
/-- an object of ours that no slot owns is changed -/
theorem Ctx.poke {K : PySem.W.Frag} {G L : List Addr} {bx : Bx} {σ : L2.St} {H : Hp} {ρ : En} {D : Addr} {o : HO} (x : Ctx K G L bx σ H ρ) (hD : D ∈ L) (hn : ∀ (i : Nat) (u : OV), ρ[i]? = some (some (.own u)) → σ[i]? ≠ some (some (.ref D))) (ho : Hid (some o) := by exact trivial) : Ctx K G L bx σ (upd H D o) ρ := by
  have sm : mask (L ++ G) (upd H D o) = mask (L ++ G) H := mask_upd_in (List.mem_append_left _ hD)
  refine ⟨x.len, fun a ha => ?_, fun i d e => ?_, fun i u e => ?_, x.dis, fun b n e => ?_⟩
  · by_cases z : a = D
    · subst z; rw [upd_same]; exact ho
    · rw [upd_ne z]; exact x.al a ha
  · rw [sm]; exact x.dat i d e
  · obtain ⟨p, u', h1, h2, h3, h4⟩ := x.own i u e
    have ne : p ≠ D := fun z => hn i u e (z ▸ h1)
    exact ⟨p, u', h1, h2, by rw [upd_ne ne]; exact h3, by rw [sm]; exact h4⟩
  · obtain ⟨h1, h2, h3, x0, y0, z0, h4, h5⟩ := x.box b n e
    have ne : b ≠ D := fun z => h2 (z ▸ hD)
    exact ⟨h1, h2, h3, x0, y0, z0, by rw [upd_ne ne]; exact h4, h5⟩
theorem Stp.poke {bx : Bx} {c : Nat} {H H' : Hp} {D : Addr} {o : HO} (h : Stp [] bx c H H') (hD : H D = none) (hb : ∀ b n, bx = some (b, n) → b ≠ D) : Stp [] bx c H (upd H' D o) := by
  cases bx with
  | none => exact fun a u z e => by rw [upd_ne (ne_of_none e hD)]; exact h a u z e
  | some p =>
    obtain ⟨x0, y0, z0, h4, h5⟩ := h.2
    exact ⟨fun a u z nb e => by rw [upd_ne (ne_of_none e hD)]; exact h.1 a u z nb e, x0, y0, z0, by rw [upd_ne (hb p.1 p.2 rfl)]; exact h4, h5⟩
section
variable {X : Cx} {ρ : En}
/-- the reading of a comprehension -/
theorem lc_read0 {K : PySem.W.Frag} {α : Type} {en : α → D} {xs : List α} {p : α → Bool} {Pe : α → D → Prop} {c2 ct : Nat} {own : List (Str × Nat)} {g : TG} {S : List Nat} {ρx : α → En}
    (hT : ∀ x ∈ xs, TgOk K g S (wipeR ρ (own.map (·.2))) (en x) (ρx x)) (hS : ∀ i ∈ S, i ∈ own.map (·.2)) (hd : ∀ x ∈ xs, ∀ r, Pe x r → isDat r = true) (hz : xs.length ≤ sizeLine) (hct : xs.length * c2 ≤ ct) (h0 : 0 ∉ own.map (·.2))
    (σ : L2.St) (H : Hp) (Q : VK) (h : ∃ G L bx, Ctx K G L bx σ H ρ ∧ BxOk bx ct ∧ ∀ D H' acc rs, Stp [] bx ct H H' → H D = none → D ∉ L ++ G → H' D = some (.lst acc) → DqAll K (mask (D :: (L ++ G)) H') acc rs → Picks p Pe xs rs → Q (.ref D) H') :
    tLc (tI K ρ 0 (· = xs.map en)) g (fun σ H Q => ∃ x : {x // x ∈ xs}, tTs K (ρx x.1) 0 (· = p x.1) σ H Q) (fun σ H Q => ∃ x : {x // x ∈ xs ∧ p x = true}, tE K (ρx x.1) c2 (Pe x.1) σ H Q) (own.map (·.2)) σ H Q := by
  obtain ⟨G, L, bx, x, hb, q⟩ := h
  refine ⟨G, L, bx, x, hb.le (Nat.zero_le _), fun J H1 ys s1 e1 w1 D nD => ?_⟩
  subst e1
  have x1 := x.step s1
  have hl : (xs.map en).length = xs.length := List.length_map _
  have nb : ∀ b n, bx = some (b, n) → b ≠ D := fun b n e => by
    obtain ⟨_, _, _, x0, y0, z0, h4, _⟩ := x1.box b n (by rw [e]; rfl)
    exact ne_of_none h4 nD
  have nDH : H D = none := by
    cases z : H D with
    | none => rfl
    | some o => exact absurd nD (s1.liveN (by rw [z]; simp))
  obtain ⟨x2, sm2⟩ := x1.hide (o := .lst []) nD
  have x3 := x2.wipe (vs := own.map (·.2)) h0
  have nown : ∀ (i : Nat) (u : OV), (wipeR ρ (own.map (·.2)))[i]? = some (some (.own u)) → (wipe σ (own.map (·.2)))[i]? ≠ some (some (.ref D)) := fun i u e z => by
    obtain ⟨e1, e2⟩ := wipeR_some e
    rw [wipe_get, if_neg e2] at z
    obtain ⟨p', u', h1, h2, h3, _⟩ := x1.own i u e1
    rw [z] at h1
    cases h1
    rw [nD] at h3
    cases h3
  have ad0 : bx.add 0 = bx := by
    cases bx with
    | none => rfl
    | some p => rfl
  rw [ad0] at x1 x2 x3
  refine ⟨fun i m H2 => m = xs.length - i ∧ i ≤ xs.length ∧ ∃ acc rs, Stp [] bx (i * c2) H H2 ∧ Ctx K G (D :: L) (bx.add (i * c2)) (wipe σ (own.map (·.2))) H2 (wipeR ρ (own.map (·.2))) ∧ H2 D = some (.lst acc) ∧
    DqAll K (mask ((D :: L) ++ G) H2) acc rs ∧ Picks p Pe (xs.take i) rs ∧ Same (mask (L ++ G) H1) (mask ((D :: L) ++ G) H2), ⟨xs.length, rfl, Nat.zero_le _, [], [], ?_, ?_, upd_same, .nil, .nil, sm2⟩, ?_⟩
  · rw [Nat.zero_mul]; exact s1.poke nDH nb
  · rw [Nat.zero_mul, ad0]; exact x3
  rintro i m H2 ⟨rfl, hi, acc, rs, st, x4, eD, wa, pk, sm⟩
  have lz := pk.len
  rw [List.length_take] at lz
  have la := dpa_len wa
  by_cases hlt : i < xs.length
  · refine .inr ⟨w1.go i H2 (by rw [hl]; exact hlt) (sm.trans (mask_same _ _)), fun H' => ∃ acc rs, Stp [] bx ((i + 1) * c2) H H' ∧ Ctx K G (D :: L) (bx.add ((i + 1) * c2)) (wipe σ (own.map (·.2))) H' (wipeR ρ (own.map (·.2))) ∧ H' D = some (.lst acc) ∧
      DqAll K (mask ((D :: L) ++ G) H') acc rs ∧ Picks p Pe (xs.take (i + 1)) rs ∧ Same (mask (L ++ G) H1) (mask ((D :: L) ++ G) H'), fun H' h => ⟨xs.length - (i + 1), by omega, rfl, hlt, h⟩, fun v H3 y => ?_⟩
    obtain ⟨sm3, wy⟩ := w1.yld i H2 v H3 (by rw [hl]; exact hlt) (sm.trans (mask_same _ _)) y
    obtain ⟨d, hd', wv⟩ := wy ((D :: L) ++ G) x4.alM sm
    have hx : xs[i]? = some xs[i] := List.getElem?_eq_getElem hlt
    have ed : d = en xs[i] := by
      rw [List.getElem?_map, hx] at hd'
      exact (Option.some.inj hd').symm
    subst ed
    have hm : xs[i] ∈ xs := List.getElem_mem hlt
    have tk : xs.take (i + 1) = xs.take i ++ [xs[i]] := by rw [List.take_add_one, hx]; rfl
    have s3 : Stp [] (bx.add (i * c2)) 0 H2 H3 := Stp.same x4 sm3
    have ad1 : (bx.add (i * c2)).add 0 = bx.add (i * c2) := by
      cases bx with
      | none => rfl
      | some p => rfl
    have x5 := x4.step s3
    rw [ad1] at x5
    have st3 : Stp [] bx (i * c2) H H3 := by simpa using st.trans s3
    refine hT _ hm G (D :: L) _ _ H3 v _ x5 wv fun σ' x6 hw => ⟨(hw _ hS).trans (wipe_wipe _ _), ?_⟩
    refine ⟨⟨_, hm⟩, G, D :: L, _, x6, ?_, fun b H4 s4 pb => ?_⟩
    · exact (bx_ne (c1 := i * c2) (c2 := 0) (hb.le (Nat.le_trans (by simpa using Nat.mul_le_mul_right c2 (Nat.le_of_lt hlt)) hct))).2
    subst pb
    have x7 := x6.step s4
    have x7w := x5.step s4
    rw [ad1] at x7 x7w
    have st4 : Stp [] bx (i * c2) H H4 := by simpa using st3.trans s4
    have sm4 : Same (mask ((D :: L) ++ G) H2) (mask ((D :: L) ++ G) H4) := (s3.mask x4.bM).trans (s4.mask x5.bM)
    have eD4 : H4 D = some (.lst acc) := s4.at (fun b n e => by
      cases bx with
      | none => cases e
      | some p => cases e; exact Ne.symm (nb p.1 p.2 rfl)) (sm3 _ _ eD)
    cases hp : p xs[i] with
    | false =>
      rw [if_neg Bool.false_ne_true]
      refine ⟨acc, rs, st4.mono (fun _ z => z) (Nat.mul_le_mul_right _ (Nat.le_succ _)), ?_, eD4, dpa_mono sm4 _ _ wa, by rw [tk]; exact pk.skip hp, sm.trans sm4⟩
      have z := x7w.box
      exact ⟨x7w.len, x7w.al, x7w.dat, x7w.own, x7w.dis, fun b n e => by
        cases bx with
        | none => cases e
        | some p =>
          cases e
          obtain ⟨h1, h2, h3, h4⟩ := z p.1 (p.2 + i * c2) rfl
          exact ⟨h1, h2, h3, h4.le (Nat.add_le_add_left (Nat.mul_le_mul_right _ (Nat.le_succ _)) _)⟩⟩
    | true =>
      rw [if_pos rfl]
      have cb : BxOk bx (i * c2 + c2) := hb.le (Nat.le_trans (by
        have := Nat.mul_le_mul_right c2 (show i + 1 ≤ xs.length from hlt)
        rw [Nat.succ_mul] at this
        exact this) hct)
      refine ⟨⟨_, hm, hp⟩, G, D :: L, _, x7, (bx_ne cb).2, fun r H5 d s5 pr wr => ⟨acc, ?_, ?_, ?_⟩⟩
      · exact s5.at (fun b n e => by
          cases bx with
          | none => cases e
          | some p => cases e; exact Ne.symm (nb p.1 p.2 rfl)) eD4
      · omega
      have x8 := x7w.step s5
      have ad2 : (bx.add (i * c2)).add c2 = bx.add ((i + 1) * c2) := by
        cases bx with
        | none => rfl
        | some p => show some (p.1, p.2 + i * c2 + c2) = some (p.1, p.2 + (i + 1) * c2); rw [Nat.succ_mul, Nat.add_assoc]
      rw [ad2] at x8
      have sm5 : Same (mask ((D :: L) ++ G) H4) (mask ((D :: L) ++ G) H5) := s5.mask x7.bM
      have dm : mask ((D :: L) ++ G) (upd H5 D (.lst (acc ++ [r]))) = mask ((D :: L) ++ G) H5 := mask_upd_in (by simp)
      refine ⟨acc ++ [r], rs ++ [d], ?_, x8.poke (by simp) nown, upd_same, ?_, by rw [tk]; exact pk.take hp pr, ?_⟩
      · have z := st4.trans s5
        rw [← Nat.succ_mul] at z
        exact z.poke nDH nb
      · rw [dm]
        exact dpa_snoc (dpa_mono (sm4.trans sm5) _ _ wa) (wr.dp' (hd _ hm _ pr))
      · rw [dm]
        exact sm.trans (sm4.trans sm5)
  · have e : i = xs.length := by omega
    subst e
    refine .inl ⟨by rw [← hl]; exact w1.stop H2 (sm.trans (mask_same _ _)), ?_⟩
    rw [List.take_of_length_le (Nat.le_refl _)] at pk
    exact q D H2 acc rs (st.mono (fun _ z => z) hct) nDH (fun z => (x1.alM D z).ne nD) eD wa pk
theorem lc_read {K : PySem.W.Frag} {α : Type} {en : α → D} {xs : List α} {p : α → Bool} {Pe : α → D → Prop} {c2 ct : Nat} {own : List (Str × Nat)} {g : TG} {S : List Nat} {ρx : α → En}
    (hT : ∀ x ∈ xs, TgOk K g S (wipeR ρ (own.map (·.2))) (en x) (ρx x)) (hS : ∀ i ∈ S, i ∈ own.map (·.2)) (hd : ∀ x ∈ xs, ∀ r, Pe x r → isDat r = true) (hz : xs.length ≤ sizeLine) (hct : xs.length * c2 ≤ ct) (h0 : 0 ∉ own.map (·.2))
    (σ : L2.St) (H : Hp) (Q : VK) (h : tE K ρ ct (fun d => ∃ rs, d = .list rs ∧ Picks p Pe xs rs) σ H Q) :
    tLc (tI K ρ 0 (· = xs.map en)) g (fun σ H Q => ∃ x : {x // x ∈ xs}, tTs K (ρx x.1) 0 (· = p x.1) σ H Q) (fun σ H Q => ∃ x : {x // x ∈ xs ∧ p x = true}, tE K (ρx x.1) c2 (Pe x.1) σ H Q) (own.map (·.2)) σ H Q := by
  obtain ⟨G, L, bx, x, hb, q⟩ := h
  refine lc_read0 hT hS hd hz hct h0 σ H Q ⟨G, L, bx, x, hb, fun D H' acc rs st nDH hDM eD wa pk => ?_⟩
  refine q _ H' _ st ⟨rs, rfl, pk⟩ (.dat (.lst ?_ (dpa_mono (mask_mono fun a h => List.mem_cons_of_mem _ h) _ _ wa)))
  rw [mask_out hDM]
  exact eD
theorem Ev.lc {α : Type} {en : α → D} {xs : List α} {p : α → Bool} {Pe : α → D → Prop} {c2 ct : Nat} {elt tg iter : Expr} {ifs : List Expr} {scope : Scope} {own : List (Str × Nat)} {pos : Pos} {g : TG} {S : List Nat} {ρx : α → En}
    (hi : I1 X ρ tg iter (xs.map en)) (ok : BlkOk X.N X.env.scope scope own)
    (hg : ∀ (s : Shared) (H : Hp) (C : Addr) (cl : List (Str × Addr)) (fp : List Addr), PG (X.blk s H scope (compEnvC scope cl C X.env) fp) tg g)
    (hT : ∀ x ∈ xs, TgOk X.K g S (wipeR ρ (own.map (·.2))) (en x) (ρx x)) (hS : ∀ i ∈ S, i ∈ own.map (·.2))
    (ht : ∀ x ∈ xs, ∀ (s : Shared) (H : Hp) (C : Addr) (cl : List (Str × Addr)) (fp : List Addr), PTs (X.blk s H scope (compEnvC scope cl C X.env) fp) ifs (tTs X.K (ρx x) 0 (· = p x)))
    (he : ∀ x ∈ xs, p x = true → ∀ (s : Shared) (H : Hp) (C : Addr) (cl : List (Str × Addr)) (fp : List Addr), Ev (X.blk s H scope (compEnvC scope cl C X.env) fp) (ρx x) elt c2 (Pe x))
    (hd : ∀ x ∈ xs, ∀ r, Pe x r → isDat r = true) (hz : xs.length ≤ sizeLine) (hct : xs.length * c2 ≤ ct) (h0 : 0 ∉ own.map (·.2)) (hc : X.calm = true) (hN : X.N.Nodup) (hs : ∀ x, foldedSetIterable iter X.env x = pure x := by intro _; rfl) :
    Ev X ρ (.ListComp elt [⟨tg, iter, ifs, 0⟩] scope pos) ct (fun d => ∃ rs, d = .list rs ∧ Picks p Pe xs rs) := by
  exact pe_imp (pe_lc hc hN hi ok hg (fun s H C cl fp => pts_any fun x : {x // x ∈ xs} => ht x.1 x.2 s H C cl fp) (fun s H C cl fp => pe_any fun x : {x // x ∈ xs ∧ p x = true} => he x.1 x.2.1 x.2.2 s H C cl fp) hs) (lc_read hT hS hd hz hct h0)
/-- name = [..] on one line, the name a local -/
theorem ps_setLcD {α : Type} {en : α → D} {xs : List α} {p : α → Bool} {Pe : α → D → Prop} {c2 ct : Nat} {elt tg iter : Expr} {ifs : List Expr} {scope : Scope} {own : List (Str × Nat)} {pos spos py : Pos} {g : TG} {S : List Nat} {ρx : α → En} {i : Nat} {y : Str}
    (hi : I1 X ρ tg iter (xs.map en)) (ok : BlkOk X.N X.env.scope scope own)
    (hg : ∀ (s : Shared) (H : Hp) (C : Addr) (cl : List (Str × Addr)) (fp : List Addr), PG (X.blk s H scope (compEnvC scope cl C X.env) fp) tg g)
    (hT : ∀ x ∈ xs, TgOk X.K g S (wipeR ρ (own.map (·.2))) (en x) (ρx x)) (hS : ∀ i ∈ S, i ∈ own.map (·.2))
    (ht : ∀ x ∈ xs, ∀ (s : Shared) (H : Hp) (C : Addr) (cl : List (Str × Addr)) (fp : List Addr), PTs (X.blk s H scope (compEnvC scope cl C X.env) fp) ifs (tTs X.K (ρx x) 0 (· = p x)))
    (he : ∀ x ∈ xs, p x = true → ∀ (s : Shared) (H : Hp) (C : Addr) (cl : List (Str × Addr)) (fp : List Addr), Ev (X.blk s H scope (compEnvC scope cl C X.env) fp) (ρx x) elt c2 (Pe x))
    (hd : ∀ x ∈ xs, ∀ r, Pe x r → isDat r = true) (hz : xs.length ≤ sizeLine) (hct : xs.length * c2 ≤ ct) (h0 : 0 ∉ own.map (·.2)) (hc : X.calm = true) (hN : X.N.Nodup)
    (hy : X.N[i]? = some y) (hyl : X.env.scope.names.lookup y = some .local) (hsw : swapsWith (.ListComp elt [⟨tg, iter, ifs, 0⟩] scope pos) (some (.Name y py)) spos.line X.env = pure true) (hs : ∀ x, foldedSetIterable iter X.env x = pure x := by intro _; rfl) :
    PS X (.Assign [.Name y py] (.ListComp elt [⟨tg, iter, ifs, 0⟩] scope pos) spos) (tAsg (tE X.K ρ ct (fun d => ∃ rs, d = .list rs ∧ Picks p Pe xs rs)) (gName i)) :=
  ps_imp (ps_setLc hc hN hy hyl hsw hi ok hg (fun s H C cl fp => pts_any fun x : {x // x ∈ xs} => ht x.1 x.2 s H C cl fp) (fun s H C cl fp => pe_any fun x : {x // x ∈ xs ∧ p x = true} => he x.1 x.2.1 x.2.2 s H C cl fp) hs)
    fun D σ H h => lc_read hT hS hd hz hct h0 σ H _ h
end
end Kl

set_option Elab.async false
set_option linter.all false
set_option maxRecDepth 100000
/-! Statements over data, loops, defs and their promises. -/
namespace Kl
open PySem PySem.Spec L2

theorem Bx.add_add (bx : Bx) (c c' : Nat) : (bx.add c).add c' = bx.add (c + c') := by
  cases bx with
  | none => rfl
  | some p => show some (p.1, p.2 + c + c') = some (p.1, p.2 + (c + c')); rw [Nat.add_assoc]
theorem Bx.add0 (bx : Bx) : bx.add 0 = bx := by
  cases bx with
  | none => rfl
  | some p => rfl
theorem Ctx.up {K : PySem.W.Frag} {G L : List Addr} {bx : Bx} {σ : L2.St} {H : Hp} {ρ : En} {c c' : Nat} (x : Ctx K G L (bx.add c) σ H ρ) (h : c ≤ c') : Ctx K G L (bx.add c') σ H ρ :=
  ⟨x.len, x.al, x.dat, x.own, x.dis, fun b n e => by
    cases bx with
    | none => cases e
    | some p =>
      cases e
      obtain ⟨h1, h2, h3, h4⟩ := x.box p.1 (p.2 + c) rfl
      exact ⟨h1, h2, h3, h4.le (by omega)⟩⟩
section
variable {X : Cx} {ρ : En} {c c1 c2 : Nat} {e : Expr} {st : Stmt} {rest sts : List Stmt} {O : Out → Prop} {P : D → Prop} {d : D}
theorem tSt.imp {K : PySem.W.Frag} {O O' : Out → Prop} {c c' : Nat} (hc : c ≤ c') (hO : ∀ o, O o → O' o) {Dn : Ends} {σ : L2.St} {H : Hp} (h : tSt K ρ c' O' Dn σ H) : tSt K ρ c O Dn σ H := by
  obtain ⟨G, L, bx, x, hb, qn, qr⟩ := h
  exact ⟨G, L, bx, x, hb.le hc, fun L' σ' H' ρ' s h1 h2 o x' => qn L' σ' H' ρ' (s.mono (fun _ z => z) hc) h1 h2 (hO _ o) (x'.up hc), fun v H' d s o w => qr v H' d (s.mono (fun _ z => z) hc) (hO _ o) w⟩
theorem Svs.imp {O' : Out → Prop} {c' : Nat} (h : Svs X ρ sts c O) (hc : c ≤ c') (hO : ∀ o, O o → O' o) : Svs X ρ sts c' O' := pss_imp h fun Dn σ H q => q.imp hc hO
theorem Sv.imp {O' : Out → Prop} {c' : Nat} (h : Sv X ρ st c O) (hc : c ≤ c') (hO : ∀ o, O o → O' o) : Sv X ρ st c' O' := ps_imp h fun Dn σ H q => q.imp hc hO
theorem none_back {L : List Addr} {bx : Bx} {H H' : Hp} {a : Addr} (s : Stp L bx c H H') (hL : ∀ a ∈ L, Hid (H' a)) (h : H' a = none) : H a = none := by
  cases z : H a with
  | none => rfl
  | some o =>
    exfalso
    by_cases ha : a ∈ L
    · exact (hL a ha).ne h
    · cases bx with
      | none => rw [s a o ha z] at h; cases h
      | some p =>
        by_cases e : a = p.1
        · obtain ⟨x, y, w, h0, _⟩ := s.2
          rw [e, h0] at h
          cases h
        · rw [s.1 a o ha e z] at h; cases h
theorem Stp.trans' {L L' : List Addr} {bx : Bx} {H H1 H' : Hp} (h : Stp L bx c1 H H1) (h' : Stp L' (bx.add c1) c2 H1 H') (hL' : ∀ a ∈ L', a ∈ L ∨ H a = none) : Stp L bx (c1 + c2) H H' := by
  cases bx with
  | none => exact fun a o z e => h' a o (fun q => (hL' a q).elim z fun n => by rw [n] at e; cases e) (h a o z e)
  | some p =>
    obtain ⟨b, n⟩ := p
    exact ⟨fun a o z nb e => h'.1 a o (fun q => (hL' a q).elim z fun n => by rw [n] at e; cases e) nb (h.1 a o z nb e), by rw [← Nat.add_assoc]; exact h'.2⟩
/-- one statement, then the rest -/
theorem Svs.cons {O1 : Out → Prop} (h1 : Sv X ρ st c1 O1) (h2 : ∀ ρ', O1 (.nx ρ') → Svs X ρ' rest c2 O) (h3 : ∀ d, O1 (.rt d) → O (.rt d)) : Svs X ρ (st :: rest) (c1 + c2) O := by
  refine pss_imp (pss_cons h1 (pss_any fun r : {r // O1 (.nx r)} => h2 r.1 r.2)) fun Dn σ H ⟨G, L, bx, x, hb, qn, qr⟩ => ?_
  refine ⟨G, L, bx, x, (bx_ne hb).1, fun L1 σ1 H1 ρ1 s1 a1 b1 o1 x1 => ⟨⟨ρ1, o1⟩, G, L1, bx.add c1, x1, (bx_ne hb).2, fun L2 σ2 H2 ρ2 s2 a2 b2 o2 x2 => ?_, fun v H2 d s2 o2 w2 => ?_⟩, fun v H1 d s1 o1 w1 => ?_⟩
  · have lv : ∀ a ∈ L, Hid (H1 a) := fun a ha => x1.al a (.inr (a1 a ha))
    rw [Bx.add_add] at x2
    exact qn L2 σ2 H2 ρ2 (s1.trans' s2 b1) (fun a ha => a2 a (a1 a ha)) (fun a ha => (b2 a ha).elim (b1 a) fun n => .inr (none_back s1 lv n)) o2 x2
  · exact qr v H2 d (s1.trans' s2 b1) o2 w2
  · exact qr v H1 d (s1.mono (fun _ z => z) (Nat.le_add_right _ _)) (h3 d o1) w1
theorem Svs.nil (h : O (.nx ρ)) : Svs X ρ [] 0 O := pss_imp pss_nil fun Dn σ H ⟨G, L, bx, x, hb, qn, qr⟩ =>
  qn L σ H ρ ((Stp.refl x).mono (fun _ z => by cases z) (Nat.le_refl _)) (fun _ z => z) (fun _ z => .inl z) h (by rw [Bx.add0]; exact x)
/-- a value into a slot -/
theorem sv_asg_read {K : PySem.W.Frag} {i : Nat} (hi : 0 < i) {Dn : Ends} {σ : L2.St} {H : Hp} (h : tSt K ρ c (fun o => ∃ d, P d ∧ o = .nx (ρ.set i (some (.dat d)))) Dn σ H) : tAsg (tE K ρ c P) (gName i) Dn σ H := by
  obtain ⟨G, L, bx, x, hb, qn, qr⟩ := h
  exact ⟨G, L, bx, x, hb, fun v H1 d s p w => qn L _ H1 _ (s.mono (fun _ z => by cases z) (Nat.le_refl _)) (fun _ z => z) (fun _ z => .inl z) ⟨d, p, rfl⟩ ((x.step s).set hi w)⟩
theorem Sv.asg (i : Nat) {x : Str} {pos pos' : Pos} (he : Ev X ρ e c P) (hN : X.N.Nodup) (hi : X.N[i]? = some x := by rfl) (hx : Loc X.env.scope x := by first | exact Or.inl rfl | exact Or.inr rfl) (h0 : 0 < i := by decide) (hs : swapsWith e (some (.Name x pos')) pos.line X.env = pure false := by rfl)
    (hf : X.fn x = true ∨ X.env.scope.names.lookup x = some .local := by first | exact .inl rfl | exact .inr rfl) : Sv X ρ (.Assign [.Name x pos'] e pos) c (fun o => ∃ d, P d ∧ o = .nx (ρ.set i (some (.dat d)))) :=
  ps_imp (ps_set hN hi hx he hs hf) fun Dn σ H q => sv_asg_read h0 q
theorem Svs.asg1 (i : Nat) {x : Str} {pos pos' : Pos} (he : E1 X ρ e d) (hN : X.N.Nodup) (h : Svs X (ρ.set i (some (.dat d))) rest c O) (hi : X.N[i]? = some x := by rfl) (hx : Loc X.env.scope x := by first | exact Or.inl rfl | exact Or.inr rfl) (h0 : 0 < i := by decide) (hs : swapsWith e (some (.Name x pos')) pos.line X.env = pure false := by rfl)
    (hf : X.fn x = true ∨ X.env.scope.names.lookup x = some .local := by first | exact .inl rfl | exact .inr rfl) : Svs X ρ (.Assign [.Name x pos'] e pos :: rest) c O :=
  Svs.imp (Svs.cons (Sv.asg i he hN hi hx h0 hs hf) (fun ρ' ⟨d', e1, e2⟩ => by cases e2; rw [e1]; exact h) fun d' ⟨_, _, e2⟩ => by cases e2) (by omega) fun _ z => z
theorem Svs.asg (i : Nat) {x : Str} {pos pos' : Pos} (he : Ev X ρ e c1 P) (hN : X.N.Nodup) (h : ∀ d, P d → Svs X (ρ.set i (some (.dat d))) rest c2 O) (hi : X.N[i]? = some x := by rfl) (hx : Loc X.env.scope x := by first | exact Or.inl rfl | exact Or.inr rfl) (h0 : 0 < i := by decide) (hs : swapsWith e (some (.Name x pos')) pos.line X.env = pure false := by rfl)
    (hf : X.fn x = true ∨ X.env.scope.names.lookup x = some .local := by first | exact .inl rfl | exact .inr rfl) : Svs X ρ (.Assign [.Name x pos'] e pos :: rest) (c1 + c2) O :=
  Svs.cons (Sv.asg i he hN hi hx h0 hs hf) (fun ρ' ⟨d', e1, e2⟩ => by cases e2; exact h d' e1) fun d' ⟨_, _, e2⟩ => by cases e2
/-- a, .. = a value -/
theorem Sv.asgT {tg : Expr} {pos : Pos} {g : TG} {S : List Nat} {ρ' : D → En} (he : Ev X ρ e c P) (hg : PG X tg g) (hT : ∀ d, P d → TgOk X.K g S ρ d (ρ' d)) (hs : swapsWithSole [tg] e pos.line X.env = pure false := by rfl) (hw : swappedStores [tg] e X.env = pure none := by rfl)
    (h1 : (assignEach [tg] X.env).map (·.2) = [assign tg X.env] := by rfl) : Sv X ρ (.Assign [tg] e pos) c (fun o => ∃ d, P d ∧ o = .nx (ρ' d)) :=
  ps_imp (ps_asg he hg hs hw h1) fun Dn σ H ⟨G, L, bx, x, hb, qn, qr⟩ => ⟨G, L, bx, x, hb, fun v H1 d s p w =>
    hT d p G L _ σ H1 v _ (x.step s) w fun σ' x' _ => qn L σ' H1 _ (s.mono (fun _ z => by cases z) (Nat.le_refl _)) (fun _ z => z) (fun _ z => .inl z) ⟨d, p, rfl⟩ x'⟩
theorem Sv.setLc {α : Type} {en : α → D} {xs : List α} {p : α → Bool} {Pe : α → D → Prop} {c2 ct : Nat} {elt tg iter : Expr} {ifs : List Expr} {scope : Scope} {own : List (Str × Nat)} {pos spos py : Pos} {g : TG} {S : List Nat} {ρx : α → En} (i : Nat) {y : Str}
    (hi : I1 X ρ tg iter (xs.map en)) (ok : BlkOk X.N X.env.scope scope own)
    (hg : ∀ (s : Shared) (H : Hp) (C : Addr) (cl : List (Str × Addr)) (fp : List Addr), PG (X.blk s H scope (compEnvC scope cl C X.env) fp) tg g)
    (hT : ∀ x ∈ xs, TgOk X.K g S (wipeR ρ (own.map (·.2))) (en x) (ρx x)) (hS : ∀ i ∈ S, i ∈ own.map (·.2))
    (ht : ∀ x ∈ xs, ∀ (s : Shared) (H : Hp) (C : Addr) (cl : List (Str × Addr)) (fp : List Addr), PTs (X.blk s H scope (compEnvC scope cl C X.env) fp) ifs (tTs X.K (ρx x) 0 (· = p x)))
    (he : ∀ x ∈ xs, p x = true → ∀ (s : Shared) (H : Hp) (C : Addr) (cl : List (Str × Addr)) (fp : List Addr), Ev (X.blk s H scope (compEnvC scope cl C X.env) fp) (ρx x) elt c2 (Pe x))
    (hd : ∀ x ∈ xs, ∀ r, Pe x r → isDat r = true) (hz : xs.length ≤ sizeLine) (hct : xs.length * c2 ≤ ct) (h0 : 0 ∉ own.map (·.2)) (hc : X.calm = true) (hN : X.N.Nodup)
    (hy : X.N[i]? = some y) (hyl : X.env.scope.names.lookup y = some .local) (hsw : swapsWith (.ListComp elt [⟨tg, iter, ifs, 0⟩] scope pos) (some (.Name y py)) spos.line X.env = pure true) (h00 : 0 < i) (hs : ∀ x, foldedSetIterable iter X.env x = pure x := by intro _; rfl) :
    Sv X ρ (.Assign [.Name y py] (.ListComp elt [⟨tg, iter, ifs, 0⟩] scope pos) spos) ct (fun o => ∃ d, (∃ rs, d = .list rs ∧ Picks p Pe xs rs) ∧ o = .nx (ρ.set i (some (.dat d)))) :=
  ps_imp (ps_setLcD hi ok hg hT hS ht he hd hz hct h0 hc hN hy hyl hsw hs) fun Dn σ H q => sv_asg_read h00 q
theorem Sv.ret {pos : Pos} (he : Ev X ρ e c P) : Sv X ρ (.Return (some e) pos) c (fun o => ∃ d, P d ∧ o = .rt d) :=
  ps_imp (ps_ret he) fun Dn σ H ⟨G, L, bx, x, hb, qn, qr⟩ => ⟨G, L, bx, x, hb, fun v H1 d s p w =>
    qr v H1 d (s.mono (fun _ z => by cases z) (Nat.le_refl _)) ⟨d, p, rfl⟩ (w.mono (mask_mono fun a h => List.mem_append_right _ h))⟩
theorem Svs.ret1 {pos : Pos} (he : E1 X ρ e d) (h : O (.rt d)) : Svs X ρ (.Return (some e) pos :: rest) c O :=
  Svs.imp (Svs.cons (c2 := c) (Sv.ret he) (fun ρ' ⟨_, _, e2⟩ => by cases e2) fun d' ⟨_, e1, e2⟩ => by cases e2; rw [e1]; exact h) (by omega) fun _ z => z
theorem Svs.ret {pos : Pos} (he : Ev X ρ e c P) (h : ∀ d, P d → O (.rt d)) : Svs X ρ (.Return (some e) pos :: rest) c O :=
  Svs.imp (Svs.cons (c2 := 0) (Sv.ret he) (fun ρ' ⟨_, _, e2⟩ => by cases e2) fun d' ⟨_, e1, e2⟩ => by cases e2; exact h _ e1) (Nat.le_refl _) fun _ z => z
theorem Sv.expr {pos : Pos} (he : Ev X ρ e c P) (hs : swapsWith e none pos.line X.env = pure false := by rfl) : Sv X ρ (.Expr e pos) c (fun o => o = .nx ρ) :=
  ps_imp (ps_expr he hs) fun Dn σ H ⟨G, L, bx, x, hb, qn, qr⟩ => ⟨G, L, bx, x, hb, fun v H1 d s p w =>
    qn L σ H1 ρ (s.mono (fun _ z => by cases z) (Nat.le_refl _)) (fun _ z => z) (fun _ z => .inl z) rfl (x.step s)⟩
theorem Svs.expr1 {pos : Pos} (he : E1 X ρ e d) (h : Svs X ρ rest c O) (hs : swapsWith e none pos.line X.env = pure false := by rfl) : Svs X ρ (.Expr e pos :: rest) c O :=
  Svs.imp (Svs.cons (Sv.expr he hs) (fun ρ' e => by cases e; exact h) fun d' e => by cases e) (by omega) fun _ z => z
/-- if, then what follows -/
theorem Sv.ifS {t : Expr} {a b : List Stmt} {pos : Pos} {Pt : Bool → Prop} (ht : Tv X ρ t c1 Pt) (h1 : Pt true → Svs X ρ a c2 O) (h2 : Pt false → Svs X ρ b c2 O) : Sv X ρ (.If t a b pos) (c1 + c2) O := by
  refine ⟨fun pins s σ H Dn I ⟨G, L, bx, x, hb, qn, qr⟩ => ?_⟩
  refine wpAny_If (thn (ht.run pins s σ H _ I ⟨G, L, bx, x, (bx_ne hb).1, fun k H1 s p => (⟨p, s⟩ : Pt k ∧ Stp [] bx c1 H H1)⟩) fun k s1 ⟨H1, I1, p, s⟩ => ?_)
  have x1 := x.step s
  have go : tSt X.K ρ c2 O Dn σ H1 := ⟨G, L, bx.add c1, x1, (bx_ne hb).2, fun L' σ' H' ρ' s2 a2 b2 o2 x2 => by
      rw [Bx.add_add] at x2
      exact qn L' σ' H' ρ' ((s.mono (L' := L) (fun _ z => by cases z) (Nat.le_refl _)).trans s2) a2 (fun a ha => (b2 a ha).imp id fun n => none_back (L := []) s (fun _ z => by cases z) n) o2 x2,
    fun v H' d s2 o2 w2 => qr v H' d ((s.mono (L' := L) (fun _ z => by cases z) (Nat.le_refl _)).trans s2) o2 w2⟩
  cases k with
  | true => exact (h1 p).run pins s1 σ H1 Dn I1 go
  | false => exact (h2 p).run pins s1 σ H1 Dn I1 go
theorem Svs.ifS {t : Expr} {a b : List Stmt} {pos : Pos} {k : Bool} (ht : T1 X ρ t k) (h1 : k = true → Svs X ρ (a ++ []) 0 (fun o => ∃ d, o = .rt d ∧ O o)) (h2 : k = false → Svs X ρ rest c O) (hb : b = []) (ha : a ++ [] = a := by rfl) : Svs X ρ (.If t a b pos :: rest) c O := by
  subst hb
  rw [ha] at h1
  have h : Sv X ρ (.If t a [] pos) (0 + 0) (fun o => (∃ d, o = .rt d ∧ O o) ∨ (k = false ∧ o = .nx ρ)) :=
    Sv.ifS ht (fun e => Svs.imp (h1 e.symm) (Nat.le_refl _) fun o z => .inl z) fun e => Svs.nil (.inr ⟨e.symm, rfl⟩)
  refine Svs.imp (Svs.cons h (fun ρ' z => ?_) fun d z => ?_) (Nat.le_of_eq (Nat.zero_add _)) fun _ z => z
  · rcases z with ⟨d, e, _⟩ | ⟨e, e2⟩
    · cases e
    · cases e2; exact h2 e
  · rcases z with ⟨d', e, q⟩ | ⟨_, e⟩
    · exact q
    · cases e
/-- a for over data: Jv holds of the slots at each turn -/
theorem Sv.for {tg iter : Expr} {body : List Stmt} {pos : Pos} {g : TG} {S : List Nat} {ys : List D} {Jv : Nat → En → Prop} {bind : Nat → En → En} {c0 ct : Nat} (hi : I1 X ρ tg iter ys) (hg : PG X tg g) (h0 : Jv 0 ρ)
    (hT : ∀ i d ρ', ys[i]? = some d → Jv i ρ' → TgOk X.K g S ρ' d (bind i ρ'))
    (hb : ∀ i ρ', i < ys.length → Jv i ρ' → Svs X (bind i ρ') body c0 (fun o => match o with | .nx ρ2 => Jv (i + 1) ρ2 | .rt d => O (.rt d)))
    (hn : ∀ ρ', Jv ys.length ρ' → O (.nx ρ')) (hct : ys.length * c0 ≤ ct) (hp : PassesOwn (model X.prog X.w) X.A X.env X.xe) (hc : X.calm = true) (hs : ∀ x, foldedSetIterable iter X.env x = pure x := by intro _; rfl) : Sv X ρ (.For tg iter body [] pos) ct O := by
  have hB := pss_any fun r : {r : Nat × En // r.1 < ys.length ∧ Jv r.1 r.2} => hb r.1.1 r.1.2 r.2.1 r.2.2
  refine ps_imp (ps_for hp hc hi hg hB hs) fun Dn σ H ⟨G, L, bx, x, hb', qn, qr⟩ => ?_
  refine ⟨G, L, bx, x, hb'.le (Nat.zero_le _), fun J H1 ys' s1 e1 w1 => ?_⟩
  subst e1
  have x1 := x.step s1
  rw [Bx.add0] at x1
  have s1L : Stp L bx 0 H H1 := s1.mono (fun _ z => by cases z) (Nat.le_refl _)
  refine ⟨fun i m σ2 H2 => m = ys'.length - i ∧ i ≤ ys'.length ∧ ∃ L2 ρ2, Stp L bx (i * c0) H H2 ∧ (∀ a ∈ L, a ∈ L2) ∧ (∀ a ∈ L2, a ∈ L ∨ H a = none) ∧ Ctx X.K G L2 (bx.add (i * c0)) σ2 H2 ρ2 ∧ Jv i ρ2 ∧ Same (mask (L ++ G) H1) (mask (L2 ++ G) H2),
    ⟨ys'.length, rfl, Nat.zero_le _, L, ρ, by rw [Nat.zero_mul]; exact s1L, fun _ z => z, fun _ z => .inl z, by rw [Nat.zero_mul, Bx.add0]; exact x1, h0, Same.refl _⟩, ?_⟩
  rintro i m σ2 H2 ⟨rfl, hi', L2, ρ2, s2, a2, b2, x2, j2, sm2⟩
  by_cases hlt : i < ys'.length
  · refine .inr ⟨w1.go i H2 hlt (sm2.trans (mask_same _ _)), fun σ3 H3 => ∃ L3 ρ3, Stp L bx ((i + 1) * c0) H H3 ∧ (∀ a ∈ L, a ∈ L3) ∧ (∀ a ∈ L3, a ∈ L ∨ H a = none) ∧ Ctx X.K G L3 (bx.add ((i + 1) * c0)) σ3 H3 ρ3 ∧ Jv (i + 1) ρ3 ∧ Same (mask (L ++ G) H1) (mask (L3 ++ G) H3),
      fun σ3 H3 h => ⟨ys'.length - (i + 1), by omega, rfl, hlt, h⟩, fun v H3 y => ?_⟩
    obtain ⟨sm3, wy⟩ := w1.yld i H2 v H3 hlt (sm2.trans (mask_same _ _)) y
    obtain ⟨d, hd, wv⟩ := wy (L2 ++ G) x2.alM sm2
    have s3 : Stp [] (bx.add (i * c0)) 0 H2 H3 := Stp.same x2 sm3
    have x3 := x2.step s3
    rw [Bx.add0] at x3
    have s3L : Stp L bx (i * c0) H H3 := by
      have z := s2.trans (s3.mono (L' := L) (fun _ z => by cases z) (Nat.le_refl _))
      simpa using z
    have cb : BxOk bx (i * c0 + c0) := hb'.le (Nat.le_trans (by
      have := Nat.mul_le_mul_right c0 (show i + 1 ≤ ys'.length from hlt)
      rw [Nat.succ_mul] at this
      exact this) hct)
    have ad : (bx.add (i * c0)).add c0 = bx.add ((i + 1) * c0) := by rw [Bx.add_add, Nat.succ_mul]
    refine hT i d ρ2 hd j2 G L2 _ σ2 H3 v _ x3 wv fun σ4 x4 _ => ⟨⟨(i, ρ2), hlt, j2⟩, G, L2, _, x4, (bx_ne cb).2, ?_, ?_⟩
    · intro L5 σ5 H5 ρ5 s5 a5 b5 o5 x5
      rw [ad] at x5
      refine ⟨L5, ρ5, ?_, fun a ha => a5 a (a2 a ha), fun a ha => (b5 a ha).elim (b2 a) fun n => .inr (none_back s3L (fun a ha => x3.al a (.inr (a2 a ha))) n), x5, o5, ?_⟩
      · rw [Nat.succ_mul]
        exact s3L.trans' s5 b2
      · intro a o e
        have e2 := sm2 a o e
        obtain ⟨n2, e2'⟩ := mask_at e2
        have n5 : a ∉ L5 ++ G := fun z => (List.mem_append.mp z).elim (fun z => (b5 a z).elim (fun q => n2 (List.mem_append_left _ q)) fun n => by rw [sm3 _ _ e2'] at n; cases n) fun z => n2 (List.mem_append_right _ z)
        rw [mask_out n5]
        have nL : a ∉ L2 := fun z => n2 (List.mem_append_left _ z)
        cases bx with
        | none => exact s5 a o nL (sm3 _ _ e2')
        | some p =>
          refine s5.1 a o nL (fun z => n2 (List.mem_append_right _ ?_)) (sm3 _ _ e2')
          rw [z]
          exact (x2.box p.1 (p.2 + i * c0) rfl).1
    · intro v5 H5 d5 s5 o5 w5
      refine qr v5 H5 d5 ?_ o5 w5
      have z := s3L.trans' s5 b2
      exact z.mono (fun _ z => z) (by
        have := Nat.mul_le_mul_right c0 (show i + 1 ≤ ys'.length from hlt)
        rw [Nat.succ_mul] at this
        omega)
  · have e : i = ys'.length := by omega
    subst e
    exact .inl ⟨w1.stop H2 (sm2.trans (mask_same _ _)), qn L2 σ2 H2 ρ2 (s2.mono (fun _ z => z) hct) a2 b2 (hn _ j2) (x2.up hct)⟩
end
end Kl

set_option Elab.async false
set_option linter.all false
set_option maxRecDepth 100000
/-! Operations over data. -/
namespace Kl
open PySem PySem.Spec L2
theorem bt_len : bootBuiltins "len" = some (.builtin "len") := by decide +kernel
theorem bt_sum : bootBuiltins "sum" = some (.builtin "sum") := by decide +kernel
theorem bt_all : bootBuiltins "all" = some (.builtin "all") := by decide +kernel
theorem bt_any : bootBuiltins "any" = some (.builtin "any") := by decide +kernel
theorem bt_min : bootBuiltins "min" = some (.builtin "min") := by decide +kernel
theorem bt_max : bootBuiltins "max" = some (.builtin "max") := by decide +kernel
theorem bt_abs : bootBuiltins "abs" = some (.builtin "abs") := by decide +kernel
theorem bt_sorted : bootBuiltins "sorted" = some (.builtin "sorted") := by decide +kernel
theorem bt_isinstance : bootBuiltins "isinstance" = some (.builtin "isinstance") := by decide +kernel
theorem bt_int : bootBuiltins "int" = some (.type "int") := by decide +kernel
theorem bt_list : bootBuiltins "list" = some (.type "list") := by decide +kernel
theorem bt_tuple : bootBuiltins "tuple" = some (.type "tuple") := by decide +kernel
theorem bt_set : bootBuiltins "set" = some (.type "set") := by decide +kernel
theorem bt_dict : bootBuiltins "dict" = some (.type "dict") := by decide +kernel
section
variable {X : Cx} {i j : Int} {P : D → Prop}
/-! ### whole numbers -/
theorem ok_I0 {f : Value → Value → Sem Value} {g : Int → Int → V} {d : Int → Int → D} (h : OpR X f (rI0 g)) (hv : ∀ i j, vOf (d i j) = some (g i j)) : OpOk X f (.int i) (.int j) (· = d i j) := fun M H x y Q al w1 w2 q =>
  ⟨_, h, i, j, w1.int, w2.int, q _ H _ (Same.refl _) rfl (.dat (dp_ofFlat (hv i j)))⟩
theorem ok_I {f : Value → Value → Sem Value} {C : Int → Int → Prop} {g : Int → Int → V} {d : Int → Int → D} (h : OpR X f (rI C g)) (hv : ∀ i j, vOf (d i j) = some (g i j)) (hc : C i j) : OpOk X f (.int i) (.int j) (· = d i j) := fun M H x y Q al w1 w2 q =>
  ⟨_, h, i, j, w1.int, w2.int, hc, q _ H _ (Same.refl _) rfl (.dat (dp_ofFlat (hv i j)))⟩
theorem o_add : OpOk X (binaryOp .Add) (.int i) (.int j) (· = .int (i + j)) := ok_I0 (d := fun i j => .int (i + j)) op_add fun _ _ => rfl
theorem o_sub : OpOk X (binaryOp .Sub) (.int i) (.int j) (· = .int (i - j)) := ok_I0 (d := fun i j => .int (i - j)) op_sub fun _ _ => rfl
theorem o_mul (h : CMul i j) : OpOk X (binaryOp .Mult) (.int i) (.int j) (· = .int (i * j)) := ok_I (d := fun i j => .int (i * j)) op_mul (fun _ _ => rfl) h
theorem o_div (h : CDiv i j) : OpOk X (binaryOp .FloorDiv) (.int i) (.int j) (· = .int (i / j)) := ok_I (d := fun i j => .int (i / j)) op_fdiv (fun _ _ => rfl) h
theorem o_mod (h : 0 < j) : OpOk X (binaryOp .Mod) (.int i) (.int j) (· = .int (i % j)) := ok_I (d := fun i j => .int (i % j)) op_mod (fun _ _ => rfl) h
theorem o_pow (h : CPow i j) : OpOk X (binaryOp .Pow) (.int i) (.int j) (· = .int (i ^ j.toNat)) := ok_I (d := fun i j => .int (i ^ j.toNat)) op_pow (fun _ _ => rfl) h
theorem o_lt : OpOk X (compareOp .Lt) (.int i) (.int j) (· = .bool (decide (i < j))) := ok_I0 (d := fun i j => .bool (decide (i < j))) op_lt fun _ _ => rfl
theorem o_le : OpOk X (compareOp .LtE) (.int i) (.int j) (· = .bool (decide (i ≤ j))) := ok_I0 (d := fun i j => .bool (decide (i ≤ j))) op_le fun _ _ => rfl
theorem o_gt : OpOk X (compareOp .Gt) (.int i) (.int j) (· = .bool (decide (i > j))) := ok_I0 (d := fun i j => .bool (decide (i > j))) op_gt fun _ _ => rfl
theorem o_ge : OpOk X (compareOp .GtE) (.int i) (.int j) (· = .bool (decide (i ≥ j))) := ok_I0 (d := fun i j => .bool (decide (i ≥ j))) op_ge fun _ _ => rfl
/-! ### == of flat data -/
theorem ok_flatEq {d1 d2 : D} {v1 v2 : V} (h1 : vOf d1 = some v1) (h2 : vOf d2 = some v2) (hs : scal v1 v2 = true) : OpOk X (compareOp .Eq) d1 d2 (· = .bool (decide (v1 = v2))) := fun M H x y Q al w1 w2 q => by
  have e1 : x = v1 := dp_flat (w1.dp' (by cases d1 <;> first | rfl | cases h1)) h1
  have e2 : y = v2 := dp_flat (w2.dp' (by cases d2 <;> first | rfl | cases h2)) h2
  subst e1 e2
  exact ⟨_, op_eq, hs, q _ H _ (Same.refl _) rfl (.dat (.bl _))⟩
theorem ok_flatNe {d1 d2 : D} {v1 v2 : V} (h1 : vOf d1 = some v1) (h2 : vOf d2 = some v2) (hs : scal v1 v2 = true) : OpOk X (compareOp .NotEq) d1 d2 (· = .bool (!decide (v1 = v2))) := fun M H x y Q al w1 w2 q => by
  have e1 : x = v1 := dp_flat (w1.dp' (by cases d1 <;> first | rfl | cases h1)) h1
  have e2 : y = v2 := dp_flat (w2.dp' (by cases d2 <;> first | rfl | cases h2)) h2
  subst e1 e2
  exact ⟨_, op_ne, hs, q _ H _ (Same.refl _) rfl (.dat (.bl _))⟩
theorem ok_cast {f : Value → Value → Sem Value} {d1 d2 d d' : D} (h : OpOk X f d1 d2 (· = d)) (e : d = d') : OpOk X f d1 d2 (· = d') := e ▸ h
theorem o_eqI : OpOk X (compareOp .Eq) (.int i) (.int j) (· = .bool (decide (i = j))) := ok_cast (ok_flatEq rfl rfl rfl) (congrArg _ (by simp))
theorem o_neI : OpOk X (compareOp .NotEq) (.int i) (.int j) (· = .bool (decide (i ≠ j))) := ok_cast (ok_flatNe rfl rfl rfl) (congrArg _ (by simp))
theorem o_eqS {a b : Str} : OpOk X (compareOp .Eq) (.str a) (.str b) (· = .bool (decide (a = b))) := ok_cast (ok_flatEq rfl rfl rfl) (congrArg _ (by simp))
theorem o_neS {a b : Str} : OpOk X (compareOp .NotEq) (.str a) (.str b) (· = .bool (decide (a ≠ b))) := ok_cast (ok_flatNe rfl rfl rfl) (congrArg _ (by simp))
theorem o_eqB {a b : Bool} : OpOk X (compareOp .Eq) (.bool a) (.bool b) (· = .bool (a == b)) := ok_cast (ok_flatEq rfl rfl rfl) (congrArg _ (by cases a <;> cases b <;> rfl))
theorem o_neB {a b : Bool} : OpOk X (compareOp .NotEq) (.bool a) (.bool b) (· = .bool (a != b)) := ok_cast (ok_flatNe rfl rfl rfl) (congrArg _ (by cases a <;> cases b <;> rfl))
/-- an int or None -/
def optD : Option Nat → D
  | none => .none
  | some n => .int n
theorem o_eqO {a : Option Nat} {j : Nat} : OpOk X (compareOp .Eq) (optD a) (.int j) (· = .bool (decide (a = some j))) := by
  cases a with
  | none => exact ok_cast (ok_flatEq rfl rfl rfl) (congrArg _ (by simp))
  | some n => exact ok_cast o_eqI (congrArg _ (by rw [Bool.eq_iff_iff]; simp; omega))
theorem o_neO {a : Option Nat} {j : Int} : OpOk X (compareOp .NotEq) (optD a) (.int j) (· = .bool (!decide (∃ n : Nat, a = some n ∧ (n : Int) = j))) := by
  cases a with
  | none => exact ok_cast (ok_flatNe rfl rfl rfl) (congrArg _ (by simp))
  | some n => exact ok_cast o_neI (congrArg _ (by rw [Bool.eq_iff_iff]; simp))
theorem o_neO' {a : Option Nat} {j : Int} : OpOk X (compareOp .NotEq) (.int j) (optD a) (· = .bool (!decide (∃ n : Nat, a = some n ∧ (n : Int) = j))) := by
  cases a with
  | none => exact ok_cast (ok_flatNe rfl rfl rfl) (congrArg _ (by simp))
  | some n => exact ok_cast o_neI (congrArg _ (by rw [Bool.eq_iff_iff]; simp; omega))
/-- is None -/
def isN : D → Bool
  | .none => true
  | _ => false
theorem o_isN {d : D} : OpOk X (compareOp .Is) d .none (· = .bool (isN d)) := fun M H x y Q al w1 w2 q => by
  refine ⟨_, op_isN, w2.isNon, ?_⟩
  have e : decide (x = V.non) = isN d := by
    cases w1 with
    | dat w => cases w <;> rfl
    | tab _ _ => rfl
    | lck _ _ => rfl
    | scr _ => rfl
  rw [e]
  exact q _ H _ (Same.refl _) rfl (.dat (.bl _))
/-! ### in, of texts -/
theorem inV_strs (s : Str) : ∀ ss : List Str, inV (.str s) (ss.map .str) = decide (s ∈ ss)
  | [] => rfl
  | t :: ss => by
    have ih : (ss.map V.str).any (fun y => eqV y (.str s)) = decide (s ∈ ss) := inV_strs s ss
    show ((t == s) || (ss.map V.str).any fun y => eqV y (.str s)) = decide (s ∈ t :: ss)
    rw [ih, Bool.eq_iff_iff, Bool.or_eq_true, beq_iff_eq, decide_eq_true_iff, decide_eq_true_iff, List.mem_cons, eq_comm (a := t)]
theorem flat_strs : ∀ ss : List Str, (ss.map V.str).all flatV = true
  | [] => rfl
  | _ :: ss => by rw [List.map_cons, List.all_cons, flat_strs ss]; rfl
theorem strs_at {K : PySem.W.Frag} {M : List Addr} {H : Hp} {y : V} {d : D} {ss : List Str} (w : Dv K (mask M H) y d) (hd : d = .tuple (ss.map .str) ∨ d = .list (ss.map .str)) : ∃ p, y = .ref p ∧ (SqL K H p (ss.map .str) ∨ SqT K H p (ss.map .str)) := by
  rcases hd with rfl | rfl
  · obtain ⟨a, vs, rfl, h1, h2⟩ := w.tuple
    rw [dpa_strs h2] at h1
    exact ⟨a, rfl, .inr (h1.out.sq)⟩
  · obtain ⟨a, vs, rfl, h1, h2⟩ := w.list
    rw [dpa_strs h2] at h1
    exact ⟨a, rfl, .inl (SqL.of (mask_at h1).2)⟩
theorem o_in {s : Str} {d : D} {ss : List Str} (hd : d = .tuple (ss.map .str) ∨ d = .list (ss.map .str) := by first | exact .inl rfl | exact .inr rfl) : OpOk X (compareOp .In) (.str s) d (· = .bool (decide (s ∈ ss))) := fun M H x y Q al w1 w2 q => by
  obtain ⟨p, rfl, h⟩ := strs_at w2 hd
  refine ⟨_, op_in_seq, p, ss.map .str, rfl, h, by rw [w1.str]; rfl, flat_strs ss, ?_⟩
  rw [w1.str, inV_strs]
  exact q _ H _ (Same.refl _) rfl (.dat (.bl _))
theorem o_notIn {s : Str} {d : D} {ss : List Str} (hd : d = .tuple (ss.map .str) ∨ d = .list (ss.map .str) := by first | exact .inl rfl | exact .inr rfl) : OpOk X (compareOp .NotIn) (.str s) d (· = .bool (decide (s ∉ ss))) := fun M H x y Q al w1 w2 q => by
  obtain ⟨p, rfl, h⟩ := strs_at w2 hd
  refine ⟨_, op_notIn_seq, p, ss.map .str, rfl, h, by rw [w1.str]; rfl, flat_strs ss, ?_⟩
  rw [w1.str, inV_strs]
  refine q _ H _ (Same.refl _) (congrArg _ ?_) (.dat (.bl _))
  simp
/-! ### == of data; in, of data -/
theorem o_eqD {d e : D} (hu : X.A.units + 64 < cLine) (sd : SeqAt.shaped d = true) (se : SeqAt.shaped e = true) (id : isDat d = true) (ie : isDat e = true) : OpOk X (compareOp .Eq) d e (· = .bool (PyData.eqv d e)) := fun M H x y Q al w1 w2 q =>
  ⟨_, op_eqD hu, d, e, dq_dp _ _ (dp_mono (mask_same _ _) _ _ (w1.dp' id)), dq_dp _ _ (dp_mono (mask_same _ _) _ _ (w2.dp' ie)), sd, se, q _ H _ (Same.refl _) rfl (.dat (.bl _))⟩
theorem o_neD {d e : D} (hu : X.A.units + 64 < cLine) (sd : SeqAt.shaped d = true) (se : SeqAt.shaped e = true) (id : isDat d = true) (ie : isDat e = true) : OpOk X (compareOp .NotEq) d e (· = .bool (!PyData.eqv d e)) := fun M H x y Q al w1 w2 q =>
  ⟨_, op_neD hu, d, e, dq_dp _ _ (dp_mono (mask_same _ _) _ _ (w1.dp' id)), dq_dp _ _ (dp_mono (mask_same _ _) _ _ (w2.dp' ie)), sd, se, q _ H _ (Same.refl _) rfl (.dat (.bl _))⟩
theorem o_notInD {d : D} {ds : List D} (hu : X.A.units + 65 < cLine) (sd : SeqAt.shaped d = true) (se : SeqAt.shaped (.list ds) = true) (id : isDat d = true) : OpOk X (compareOp .NotIn) d (.list ds) (· = .bool (!ds.any fun z => PyData.eqv z d)) := fun M H x y Q al w1 w2 q =>
  ⟨_, op_notInD hu, d, ds, dq_dp _ _ (dp_mono (mask_same _ _) _ _ (w1.dp' id)), dq_dp _ _ (dp_mono (mask_same _ _) _ _ (w2.dp' rfl)), sd, se, q _ H _ (Same.refl _) rfl (.dat (.bl _))⟩
/-! ### lists, tuples put together -/
theorem o_cat {xs ys : List D} (hz : xs.length + ys.length ≤ sizeLine) : OpOk X (binaryOp .Add) (.list xs) (.list ys) (· = .list (xs ++ ys)) := fun M H x y Q al w1 w2 q => by
  obtain ⟨a, vs, rfl, h1, h2⟩ := w1.list
  obtain ⟨b, us, rfl, h3, h4⟩ := w2.list
  refine ⟨_, op_cat, a, b, vs, us, rfl, rfl, (mask_at h1).2, (mask_at h3).2, by rw [dpa_len h2, dpa_len h4]; exact hz, fun p np => ?_⟩
  exact q _ _ _ (same_upd np) rfl (Dv.newL al np (dpa_append h2 h4))
theorem o_catT {xs ys : List D} (hz : xs.length + ys.length ≤ sizeLine) (hh : isHold (xs ++ ys) = false) : OpOk X (binaryOp .Add) (.tuple xs) (.tuple ys) (· = .tuple (xs ++ ys)) := fun M H x y Q al w1 w2 q => by
  obtain ⟨a, vs, rfl, h1, h2⟩ := w1.tuple
  obtain ⟨b, us, rfl, h3, h4⟩ := w2.tuple
  refine ⟨_, op_catA, a, b, vs, us, rfl, rfl, h1.out.sq, h3.out.sq, by rw [dpa_len h2, dpa_len h4]; exact hz, fun e => ?_, fun _ e => ?_, fun _ _ p np => ?_⟩
  · subst e
    cases h2
    exact q _ H _ (Same.refl _) rfl (.dat (.tup h3 h4))
  · subst e
    cases h4
    exact q _ H _ (Same.refl _) rfl (by rw [List.append_nil]; exact .dat (.tup h1 h2))
  · exact q _ _ _ (same_upd np) rfl (Dv.newT al np (dpa_append h2 h4) hh)
theorem dpa_rep {K : PySem.W.Frag} {M : Hp} {vs : List V} {ds : List D} (h : DqAll K M vs ds) : ∀ n : Nat, DqAll K M (List.replicate n vs).flatten (List.replicate n ds).flatten
  | 0 => .nil
  | n + 1 => by
    rw [List.replicate_succ, List.replicate_succ, List.flatten_cons, List.flatten_cons]
    exact dpa_append h (dpa_rep h n)
theorem o_rep {xs : List D} {n : Nat} (hn : n < 2 ^ 62) (hz : xs.length * n ≤ sizeLine) : OpOk X (binaryOp .Mult) (.list xs) (.int n) (· = .list (List.replicate n xs).flatten) := fun M H x y Q al w1 w2 q => by
  obtain ⟨a, vs, rfl, h1, h2⟩ := w1.list
  refine ⟨_, op_rep, a, n, vs, rfl, w2.int, (mask_at h1).2, by omega, by omega, by rw [dpa_len h2]; simpa using hz, fun p np => ?_⟩
  exact q _ _ _ (same_upd np) rfl (Dv.newL al np (by simpa using dpa_rep h2 n))
/-! ### subscripts -/
theorem x_nat {d dd : D} {ds : List D} {k : Nat} {i : Int} (hd : d = .tuple ds ∨ d = .list ds) (hk : ds[k]? = some dd) (hi : i = k) : IxOk X d (.int i) (· = dd) := fun M H x y Q al w1 w2 q => by
  subst hi
  rcases hd with rfl | rfl
  · obtain ⟨a, vs, rfl, h1, h2⟩ := w1.tuple
    obtain ⟨v, hv, w⟩ := dpa_get h2 hk
    exact ⟨_, ix_tup, a, vs, k, v, rfl, w2.int, h1.out.sq, atI_nat hv, q v H _ (Same.refl _) rfl (.dat w)⟩
  · obtain ⟨a, vs, rfl, h1, h2⟩ := w1.list
    obtain ⟨v, hv, w⟩ := dpa_get h2 hk
    exact ⟨_, ix_list, a, vs, k, v, rfl, w2.int, SqL.of (mask_at h1).2, atI_nat hv, q v H _ (Same.refl _) rfl (.dat w)⟩
theorem x_t {dd : D} {ds : List D} (k : Nat) (hk : ds[k]? = some dd := by rfl) : IxOk X (.tuple ds) (.int (k : Int)) (· = dd) := x_nat (.inl rfl) hk rfl
theorem x_l {dd : D} {ds : List D} (k : Nat) (hk : ds[k]? = some dd := by rfl) : IxOk X (.list ds) (.int (k : Int)) (· = dd) := x_nat (.inr rfl) hk rfl
/-! ### calls -/
theorem p1 {K : PySem.W.Frag} {M : Hp} {xs : List V} {d : D} (h : Paired (Dv K M) xs [d]) : ∃ v, xs = [v] ∧ Dv K M v d := by
  cases h with
  | cons h t => cases t; exact ⟨_, rfl, h⟩
theorem p2 {K : PySem.W.Frag} {M : Hp} {xs : List V} {d e : D} (h : Paired (Dv K M) xs [d, e]) : ∃ v w, xs = [v, w] ∧ Dv K M v d ∧ Dv K M w e := by
  cases h with
  | cons h t =>
    cases t with
    | cons h2 t => cases t; exact ⟨_, _, rfl, h, h2⟩
theorem c_len {d : D} {ds : List D} (hd : d = .tuple ds ∨ d = .list ds := by first | exact .inl rfl | exact .inr rfl) : CallOk X (.builtin "len") [d] (· = .int ds.length) := fun M H xs Q al w q => by
  obtain ⟨v, rfl, w'⟩ := p1 w
  rcases hd with rfl | rfl
  · obtain ⟨a, vs, rfl, h1, h2⟩ := w'.tuple
    refine ⟨_, call_len_seq, a, vs, rfl, .inr (h1.out.sq), ?_⟩
    rw [dpa_len h2]
    exact q _ H _ (Same.refl _) rfl (.dat (.int _))
  · obtain ⟨a, vs, rfl, h1, h2⟩ := w'.list
    refine ⟨_, call_len_seq, a, vs, rfl, .inl (SqL.of (mask_at h1).2), ?_⟩
    rw [dpa_len h2]
    exact q _ H _ (Same.refl _) rfl (.dat (.int _))
theorem c_sum {ns : List Int} (hc : X.calm = true) : CallOk X (.builtin "sum") [.list (ns.map .int)] (· = .int ns.sum) := fun M H xs Q al w q => by
  obtain ⟨v, rfl, w'⟩ := p1 w
  obtain ⟨a, vs, rfl, h1, h2⟩ := w'.list
  rw [dpa_ints h2] at h1
  exact ⟨_, cr_sum hc, a, ns, rfl, SqL.of (mask_at h1).2, q _ H _ (Same.refl _) rfl (.dat (.int _))⟩
theorem c_all {bs : List Bool} (hc : X.calm = true) : CallOk X (.builtin "all") [.list (bs.map .bool)] (· = .bool (bs.all id)) := fun M H xs Q al w q => by
  obtain ⟨v, rfl, w'⟩ := p1 w
  obtain ⟨a, vs, rfl, h1, h2⟩ := w'.list
  rw [dpa_bools h2] at h1
  exact ⟨_, cr_all hc, a, bs, rfl, SqL.of (mask_at h1).2, q _ H _ (Same.refl _) rfl (.dat (.bl _))⟩
theorem c_any {bs : List Bool} (hc : X.calm = true) : CallOk X (.builtin "any") [.list (bs.map .bool)] (· = .bool (bs.any id)) := fun M H xs Q al w q => by
  obtain ⟨v, rfl, w'⟩ := p1 w
  obtain ⟨a, vs, rfl, h1, h2⟩ := w'.list
  rw [dpa_bools h2] at h1
  exact ⟨_, cr_any hc, a, bs, rfl, SqL.of (mask_at h1).2, q _ H _ (Same.refl _) rfl (.dat (.bl _))⟩
theorem c_min2 (hc : X.calm = true) : CallOk X (.builtin "min") [.int i, .int j] (· = .int (if j < i then j else i)) := fun M H xs Q al w q => by
  obtain ⟨v, u, rfl, w1, w2⟩ := p2 w
  exact ⟨_, call_min2 hc, i, j, by rw [w1.int, w2.int], q _ H _ (Same.refl _) rfl (.dat (.int _))⟩
theorem c_max2 (hc : X.calm = true) : CallOk X (.builtin "max") [.int i, .int j] (· = .int (if j > i then j else i)) := fun M H xs Q al w q => by
  obtain ⟨v, u, rfl, w1, w2⟩ := p2 w
  exact ⟨_, call_max2 hc, i, j, by rw [w1.int, w2.int], q _ H _ (Same.refl _) rfl (.dat (.int _))⟩
theorem c_abs : CallOk X (.builtin "abs") [.int i] (· = .int (if i < 0 then -i else i)) := fun M H xs Q al w q => by
  obtain ⟨v, rfl, w'⟩ := p1 w
  exact ⟨_, call_abs, i, by rw [w'.int], q _ H _ (Same.refl _) rfl (.dat (.int _))⟩
theorem c_int : CallOk X (.type "int") [.int i] (· = .int i) := fun M H xs Q al w q => by
  obtain ⟨v, rfl, w'⟩ := p1 w
  exact ⟨_, call_int1, .inl ⟨i, by rw [w'.int], q _ H _ (Same.refl _) rfl (.dat (.int _))⟩⟩
theorem c_intB {b : Bool} : CallOk X (.type "int") [.bool b] (· = .int (if b then 1 else 0)) := fun M H xs Q al w q => by
  obtain ⟨v, rfl, w'⟩ := p1 w
  exact ⟨_, call_int1, .inr ⟨b, by rw [w'.bool], q _ H _ (Same.refl _) rfl (.dat (.int _))⟩⟩
/-- tuple(a list), the object known -/
theorem cr_tupleH : CallR X (.type "tuple") (fun xs H Q => ∃ p ys, xs = [.ref p] ∧ SqL X.K H p ys ∧ ∀ l o, H l = none → o.dict = none → Q (.ref l) (upd H l (.frz o (.tup ys)))) := by
  intro pins s σ H xs us Q I r h
  obtain ⟨p, ys, rfl, hq, q⟩ := h
  obtain ⟨u, rfl, rx⟩ : ∃ u, us = [u] ∧ RelV (.ref p) u := by
    cases r with
    | cons h t => cases t; exact ⟨_, rfl, h⟩
  cases rx
  obtain ⟨its, rv, pl, hz⟩ := I.list hq
  have hlen := rv.length
  refine call_tuple_list pl.isList (fun h' kp => ?_) (by simp only [List.size_toArray]; omega)
  have J : Inv X pins σ H { s with heap := h' } := I.kept (t' := s.toks) kp
  refine ⟨.ref h'.objs.size, _, J.laid (t' := s.toks) (o := .frz { cls := .type "tuple", data := .seq its.toArray } (.tup ys)) (fun b o e => Heap.get?_push_of_some _ e) (Nat.le_refl _) ⟨Heap.get?_push_size _ rfl, hz, its, rv, _, Heap.get?_push_size _ rfl, rfl, _, rfl⟩, rfl, q _ _ (J.hok.fresh (Nat.le_refl _)) rfl⟩
theorem c_tuple {ds : List D} : CallOk X (.type "tuple") [.list ds] (· = .tuple ds) := fun M H xs Q al w q => by
  obtain ⟨v, rfl, w'⟩ := p1 w
  obtain ⟨a, vs, rfl, h1, h2⟩ := w'.list
  cases hh : isHold ds with
  | false => exact ⟨_, call_tuple_of, a, vs, rfl, .inl ⟨SqL.of (mask_at h1).2, fun l nl => q _ _ _ (same_upd nl) rfl (Dv.newT al nl h2 hh)⟩⟩
  | true => exact ⟨_, cr_tupleH, a, vs, rfl, SqL.of (mask_at h1).2, fun l o nl ho => q _ _ _ (same_upd nl) rfl (Dv.newH al nl h2 hh ho)⟩
theorem c_tupleT {ds : List D} : CallOk X (.type "tuple") [.tuple ds] (· = .tuple ds) := fun M H xs Q al w q => by
  obtain ⟨v, rfl, w'⟩ := p1 w
  obtain ⟨a, vs, rfl, h1, h2⟩ := w'.tuple
  exact ⟨_, call_tuple_of, a, vs, rfl, .inr ⟨h1.out.sq, q _ H _ (Same.refl _) rfl w'⟩⟩
theorem c_list {d : D} {ds : List D} (hd : d = .tuple ds ∨ d = .list ds := by first | exact .inl rfl | exact .inr rfl) : CallOk X (.type "list") [d] (· = .list ds) := fun M H xs Q al w q => by
  obtain ⟨v, rfl, w'⟩ := p1 w
  rcases hd with rfl | rfl
  · obtain ⟨a, vs, rfl, h1, h2⟩ := w'.tuple
    exact ⟨_, call_list_of, a, vs, rfl, .inr (h1.out.sq), fun l nl => q _ _ _ (same_upd nl) rfl (Dv.newL al nl h2)⟩
  · obtain ⟨a, vs, rfl, h1, h2⟩ := w'.list
    exact ⟨_, call_list_of, a, vs, rfl, .inl (SqL.of (mask_at h1).2), fun l nl => q _ _ _ (same_upd nl) rfl (Dv.newL al nl h2)⟩
end
end Kl

set_option Elab.async false
set_option linter.all false
set_option maxRecDepth 100000
/-! Defs, their promises over data, calls; comprehensions in short. -/
namespace Kl
open PySem PySem.Spec L2

/-- a def called with data: what it hands back, nothing changed -/
def spP (K : PySem.W.Frag) {τ : Type} (enc : τ → List D) (ok : τ → Prop) (res : τ → D → Prop) : Sp := fun vs H Q _ => ∃ (M : List Addr) (t : τ), (∀ a ∈ M, Hid (H a)) ∧ Paired (Dv K (mask M H)) vs (enc t) ∧ ok t ∧
  ∀ v H' d, Same H H' → res t d → Dv K (mask M H') v d → Q v H'
/-- a def called with a box and data: at most c takes -/
def spR (K : PySem.W.Frag) {τ : Type} (c : Nat) (enc : τ → List D) (ok : τ → Prop) (res : τ → D → Prop) : Sp := fun vs H Q _ => ∃ (M : List Addr) (t : τ) (b : Addr) (n : Nat) (us : List V), vs = .ref b :: us ∧ b ∈ M ∧ BoxAt H b n ∧ n + c ≤ 1000000 ∧ (∀ a ∈ M, Hid (H a)) ∧ Paired (Dv K (mask M H)) us (enc t) ∧ ok t ∧
  ∀ v H' d, Stp [] (some (b, n)) c H H' → res t d → Dv K (mask M H') v d → Q v H'
def slots (ds : List D) (m : Nat) : En := ds.map (fun d => some (.dat d)) ++ List.replicate (m - ds.length) none
/-- the name x of the module is a def of such a promise -/
def Fn (P : Program) (w : World) (K : PySem.W.Frag) (mg : Str → Option Value) (base : Heap) (k : Nat) (x : Str) (ps : List Str) (sp : Sp) : Prop := ∃ (f : Addr) (fd : FuncData), mg x = some (.ref f) ∧ PySem.W.keepIn K (.ref f) = true ∧ Binds K fd ps [] ∧ FnOk P w K mg base CX0 k f fd ps sp
theorem paired_get {α β : Type} {F : α → β → Prop} : ∀ {xs : List α} {ys : List β} {i : Nat} {y : β}, Paired F xs ys → ys[i]? = some y → ∃ x, xs[i]? = some x ∧ F x y
  | _, _, _, _, .nil, e => by simp at e
  | _, _, 0, _, .cons r _, e => by simp at e; subst e; exact ⟨_, rfl, r⟩
  | _, _, i + 1, y, .cons _ t, e => by
    obtain ⟨u, h1, h2⟩ := paired_get (i := i) (y := y) t (by simpa using e)
    exact ⟨u, by simpa using h1, h2⟩
theorem start_get {N : List Str} {vs : List V} {i : Nat} {v : V} (h : vs[i]? = some v) : (L2.start N vs)[i]? = some (some v) := by
  have hi : i < vs.length := (List.getElem?_eq_some_iff.mp h).1
  unfold L2.start
  rw [List.getElem?_append_left (by simpa using hi), List.getElem?_map, h]
  rfl
theorem slots_get {ds : List D} {m i : Nat} {s : Sl} (h : (slots ds m)[i]? = some (some s)) : ∃ d, s = .dat d ∧ ds[i]? = some d := by
  unfold slots at h
  by_cases hi : i < ds.length
  · rw [List.getElem?_append_left (by simpa using hi), List.getElem?_map, List.getElem?_eq_getElem hi] at h
    cases h
    exact ⟨_, rfl, List.getElem?_eq_getElem hi⟩
  · rw [List.getElem?_append_right (by simpa using hi)] at h
    rw [List.getElem?_replicate] at h
    split at h <;> cases h
section
variable {P : Program} {w : World} {K : PySem.W.Frag} {mg : Str → Option Value} {base : Heap}
theorem okP {τ : Type} {enc : τ → List D} {ok : τ → Prop} {res : τ → D → Prop} {x qual : Str} {st : Stmt} {f : Addr} {fd : FuncData} {N ps : List Str} {k : Nat} (F : Fun K x qual st f fd) (S : FnScope N ps (defScope st)) (hl : ∀ t, (enc t).length = ps.length) (hz : ps.length ≤ N.length)
    (h : ∀ t, ok t → ∀ (cdv : Value) (A : Around) (outer : List Env) (s : Shared) (H : Hp) (E : XK), Room k (A.deeper (PyProof.Rows.envOfC qual (defScope st) s.heap.objs.size f cdv)) →
      Svs (cxOf CX0 P w K mg base N qual (defScope st) f cdv A outer s H E).nox (slots (enc t) N.length) (defBody st) 0 (fun o => match o with | .rt d => res t d | .nx _ => res t .none)) : FnOk P w K mg base CX0 (k + 1) f fd ps (spP K enc ok res) := by
  refine F.ok S (fun vs H Q E h => ?_) (fun cdv A outer s H vs Q E hr hsp => ?_)
  · obtain ⟨M, t, _, w, _⟩ := h
    rw [Paired.length w, hl]
  · obtain ⟨M, t, al, w, o, q⟩ := hsp
    have hv : vs.length = (enc t).length := Paired.length w
    refine ⟨_, h t o cdv A outer s H E hr, M, [], none, ⟨?_, fun a ha => ha.elim (al a) (fun z => by cases z), fun i d e => ?_, fun i u e => ?_, fun i j u u' p e => ?_, (fun b n e => by cases e)⟩, rfl, fun L' σ' H' ρ' st' _ _ o' x' => ?_, fun v H' d st' o' w' => ?_⟩
    · unfold slots L2.start
      simp only [List.length_append, List.length_map, List.length_replicate]
      omega
    · obtain ⟨d', e1, e2⟩ := slots_get e
      cases e1
      obtain ⟨v, h1, h2⟩ := paired_get w e2
      exact ⟨v, start_get h1, h2⟩
    · obtain ⟨d', e1, _⟩ := slots_get e
      cases e1
    · obtain ⟨d', e1, _⟩ := slots_get e
      cases e1
    · exact q .non H' .none (fun a u e => st' a u (by simp) e) o' (.dat .non)
    · exact q v H' d (fun a u e => st' a u (by simp) e) o' w'
theorem okR {τ : Type} {c : Nat} {enc : τ → List D} {ok : τ → Prop} {res : τ → D → Prop} {x qual : Str} {st : Stmt} {f : Addr} {fd : FuncData} {N ps : List Str} {k : Nat} (F : Fun K x qual st f fd) (S : FnScope N ps (defScope st)) (hl : ∀ t, (enc t).length + 1 = ps.length) (hz : ps.length ≤ N.length)
    (h : ∀ t, ok t → ∀ (cdv : Value) (A : Around) (outer : List Env) (s : Shared) (H : Hp) (E : XK), Room k (A.deeper (PyProof.Rows.envOfC qual (defScope st) s.heap.objs.size f cdv)) →
      Svs (cxOf CX0 P w K mg base N qual (defScope st) f cdv A outer s H E).nox (none :: slots (enc t) (N.length - 1)) (defBody st) c (fun o => match o with | .rt d => res t d | .nx _ => res t .none)) : FnOk P w K mg base CX0 (k + 1) f fd ps (spR K c enc ok res) := by
  refine F.ok S (fun vs H Q E h => ?_) (fun cdv A outer s H vs Q E hr hsp => ?_)
  · obtain ⟨M, t, b, n, us, rfl, _, _, _, _, w, _⟩ := h
    rw [List.length_cons, Paired.length w, hl]
  · obtain ⟨M, t, b, n, us, rfl, hb, hB, hn, al, w, o, q⟩ := hsp
    have hv : us.length = (enc t).length := Paired.length w
    have hl' := hl t
    have tail : ∀ {i : Nat} {s : Sl}, (none :: slots (enc t) (N.length - 1))[i]? = some (some s) → ∃ j d, i = j + 1 ∧ s = .dat d ∧ (enc t)[j]? = some d := fun {i s} e => by
      cases i with
      | zero => cases e
      | succ j =>
        obtain ⟨d, e1, e2⟩ := slots_get (by simpa using e)
        exact ⟨j, d, rfl, e1, e2⟩
    refine ⟨_, h t o cdv A outer s H E hr, M, [], some (b, n), ⟨?_, fun a ha => ha.elim (al a) (fun z => by cases z), fun i d e => ?_, fun i u e => ?_, fun i j u u' p e => ?_, fun b' n' e => ?_⟩, hn, fun L' σ' H' ρ' st' _ _ o' x' => ?_, fun v H' d st' o' w' => ?_⟩
    · unfold slots L2.start
      simp only [List.length_append, List.length_map, List.length_replicate, List.length_cons]
      omega
    · obtain ⟨j, d', rfl, e1, e2⟩ := tail e
      cases e1
      obtain ⟨v, h1, h2⟩ := paired_get w e2
      exact ⟨v, start_get (by simpa using h1), h2⟩
    · obtain ⟨j, d', _, e1, _⟩ := tail e
      cases e1
    · obtain ⟨j, d', _, e1, _⟩ := tail e
      cases e1
    · cases e
      exact ⟨hb, by simp, start_get rfl, hB⟩
    · exact q .non H' .none st' o' (.dat .non)
    · exact q v H' d st' o' w'
theorem Fn.mono {j k : Nat} {x : Str} {ps : List Str} {sp : Sp} (F : Fn P w K mg base j x ps sp) (h : j ≤ k) : Fn P w K mg base k x ps sp := by
  obtain ⟨f, fd, h1, h2, h3, h4⟩ := F
  exact ⟨f, fd, h1, h2, h3, h4.mono h⟩
end
/-! ### calls -/
section
variable {X : Cx} {ρ : En} {c : Nat} {P : D → Prop} {e : Expr} {es : List Expr} {pos p : Pos} {x : Str} {ps : List Str} {k : Nat} {τ : Type} {enc : τ → List D} {ok : τ → Prop} {res : τ → D → Prop}
theorem Ev.callF {Pl : List D → Prop} (F : Fn X.prog X.w X.K X.mg X.base k x ps (spP X.K enc ok res)) (hr : Room k X.A) (ha : As X ρ (e :: es) c Pl) (ht : ∀ ds, Pl ds → ∃ t, ds = enc t ∧ ok t ∧ ∀ d, res t d → P d) (hg : Gl X x := by rfl)
    (hdb : (x == ("__debug__" : Str)) = false := by decide) (he : starEach (e :: es) X.env = (false, eval e X.env) :: starEach es X.env := by rfl) (hpl : (backTo pos (starEach es X.env)).any (·.1) = false := by rfl) : Ev X ρ (.Call (.Name x p) (e :: es) [] pos) c P := by
  obtain ⟨f, fd, hm, hk, hb, FF⟩ := F
  refine pe_imp (pe_call FF hr hg hm hk hb .nil pass0 ha hdb he hpl) fun σ H Q ⟨G, L, bx, x, hb', q⟩ => ⟨G, L, bx, x, hb', fun vs H1 ds s p w => ?_⟩
  obtain ⟨t, rfl, o, r⟩ := ht ds p
  refine ⟨L ++ G, t, (x.step s).alM, by rw [List.append_nil]; exact w, o, fun v H2 d s2 rd w2 => q v H2 d (Stp.andSame (x.step s) s s2) (r d rd) w2⟩
theorem E1.callF {ds : List D} {d : D} (F : Fn X.prog X.w X.K X.mg X.base k x ps (spP X.K enc ok res)) (hr : Room k X.A) (ha : A1 X ρ (e :: es) ds) (t : τ) (hd : ds = enc t) (o : ok t) (r : ∀ d', res t d' → d' = d) (hg : Gl X x := by rfl)
    (hdb : (x == ("__debug__" : Str)) = false := by decide) (he : starEach (e :: es) X.env = (false, eval e X.env) :: starEach es X.env := by rfl) (hpl : (backTo pos (starEach es X.env)).any (·.1) = false := by rfl) : E1 X ρ (.Call (.Name x p) (e :: es) [] pos) d :=
  Ev.callF F hr ha (fun _ z => ⟨t, z.trans hd, o, r⟩) hg hdb he hpl
theorem Ev.callF0 (F : Fn X.prog X.w X.K X.mg X.base k x ps (spP X.K enc ok res)) (hr : Room k X.A) (t : τ) (hd : enc t = []) (o : ok t) (r : ∀ d', res t d' → P d') (hg : Gl X x := by rfl)
    (hdb : (x == ("__debug__" : Str)) = false := by decide) : Ev X ρ (.Call (.Name x p) [] [] pos) 0 P := by
  obtain ⟨f, fd, hm, hk, hb, FF⟩ := F
  refine pe_imp (pe_call0 FF hr hg hm hk hb .nil pass0 hdb) fun σ H Q ⟨G, L, bx, x, hb', q⟩ => ?_
  exact ⟨L ++ G, t, x.alM, by rw [hd]; exact .nil, o, fun v H2 d s2 rd w2 => q v H2 d (Stp.same x s2) (r d rd) w2⟩
/-- a def that takes from the box -/
theorem Ev.callR {cf : Nat} {Pl : List D → Prop} {xb : Str} {pb : Pos} (F : Fn X.prog X.w X.K X.mg X.base k x ps (spR X.K cf enc ok res)) (hr : Room k X.A) (ha : As X ρ es c Pl) (ht : ∀ ds, Pl ds → ∃ t, ds = enc t ∧ ok t ∧ ∀ d, res t d → P d) (hN : X.N[0]? = some xb := by rfl) (hcf : 0 < cf := by decide)
    (hv : Vis X.env.scope xb := by first | exact Or.inl rfl | exact Or.inr (Or.inl rfl) | exact Or.inr (Or.inr rfl)) (hg : Gl X x := by rfl) (hd1 : (xb == ("__debug__" : Str)) = false := by decide) (hcd : (xb == ("__classdict__" : Str)) = false := by decide)
    (hdb : (x == ("__debug__" : Str)) = false := by decide) (he : starEach (.Name xb pb :: es) X.env = (false, eval (.Name xb pb) X.env) :: starEach es X.env := by rfl) (hpl : (backTo pos (starEach es X.env)).any (·.1) = false := by rfl) : Ev X ρ (.Call (.Name x p) (.Name xb pb :: es) [] pos) (c + cf) P := by
  obtain ⟨f, fd, hm, hk, hb, FF⟩ := F
  refine pe_imp (pe_call FF hr hg hm hk hb .nil pass0 (pa_cons (pe_var (i := 0) hN hv hd1 hcd) ha he) hdb he hpl) fun σ H Q ⟨G, L, bx, x, hb', q⟩ => ?_
  obtain ⟨b, n, rfl⟩ : ∃ b n, bx = some (b, n) := by
    cases bx with
    | none =>
      have : c + cf = 0 := hb'
      omega
    | some p => exact ⟨p.1, p.2, rfl⟩
  obtain ⟨h1, h2, h3, h4⟩ := x.box b n rfl
  refine ⟨_, h3, G, L, some (b, n), x, (bx_ne hb').1, fun vs H1 ds s p w => ?_⟩
  obtain ⟨t, rfl, o, r⟩ := ht ds p
  have x1 := x.step s
  have hn : n + (c + cf) ≤ 1000000 := hb'
  exact ⟨L ++ G, t, b, n + c, vs, by rw [List.append_nil], List.mem_append_right _ h1, s.2, by omega, x1.alM, w, o, fun v H2 d s2 rd w2 => q v H2 d (s.trans s2) (r d rd) w2⟩
end
/-! ### tests of a comprehension; comprehensions without takes -/
section
variable {X : Cx} {ρ : En}
theorem Ts.nil : PTs X [] (tTs X.K ρ 0 (· = true)) := pts_imp pts_nil fun σ H Q ⟨G, L, bx, x, hb, q⟩ => q true H (Stp.refl x) rfl
theorem Ts.one {a : Expr} {k : Bool} (h : T1 X ρ a k) : PTs X [a] (tTs X.K ρ 0 (· = k)) := pts_one h
/-- [elt for tg in iter if t] -/
theorem E1.lcIf {α : Type} {en : α → D} {xs : List α} {p : α → Bool} {f : α → D} {elt tg iter t : Expr} {scope : Scope} (own : List (Str × Nat)) {pos : Pos} {g : TG} {S : List Nat} {ρx : α → En}
    (hi : I1 X ρ tg iter (xs.map en))
    (hg : ∀ (s : Shared) (H : Hp) (C : Addr) (cl : List (Str × Addr)) (fp : List Addr), PG (X.blk s H scope (compEnvC scope cl C X.env) fp) tg g)
    (hT : ∀ x ∈ xs, TgOk X.K g S (wipeR ρ (own.map (·.2))) (en x) (ρx x))
    (ht : ∀ x ∈ xs, ∀ (s : Shared) (H : Hp) (C : Addr) (cl : List (Str × Addr)) (fp : List Addr), T1 (X.blk s H scope (compEnvC scope cl C X.env) fp) (ρx x) t (p x))
    (he : ∀ x ∈ xs, p x = true → ∀ (s : Shared) (H : Hp) (C : Addr) (cl : List (Str × Addr)) (fp : List Addr), E1 (X.blk s H scope (compEnvC scope cl C X.env) fp) (ρx x) elt (f x))
    (hz : xs.length ≤ sizeLine) (hN : X.N.Nodup) (ok : BlkOk X.N X.env.scope scope own := by exact blkOk_by (by kernel_rfl)) (hc : X.calm = true := by rfl) (hd : ∀ x, isDat (f x) = true := by intro _; rfl) (hS : ∀ i ∈ S, i ∈ own.map (·.2) := by decide) (h0 : 0 ∉ own.map (·.2) := by decide) (hs : ∀ x, foldedSetIterable iter X.env x = pure x := by intro _; rfl) :
    E1 X ρ (.ListComp elt [⟨tg, iter, [t], 0⟩] scope pos) (.list ((xs.filter p).map f)) :=
  Ev.imp (Ev.lc (Pe := fun x r => r = f x) (c2 := 0) (ct := 0) hi ok hg hT hS (fun x hx s H C cl fp => Ts.one (ht x hx s H C cl fp)) he (fun x _ r e => by rw [e]; exact hd x) hz (by omega) h0 hc hN hs) (Nat.le_refl _) fun d ⟨rs, e, pk⟩ => by rw [e, pk.eq]
/-- [elt for tg in iter] -/
theorem E1.lcAll {α : Type} {en : α → D} {xs : List α} {f : α → D} {elt tg iter : Expr} {scope : Scope} (own : List (Str × Nat)) {pos : Pos} {g : TG} {S : List Nat} {ρx : α → En}
    (hi : I1 X ρ tg iter (xs.map en))
    (hg : ∀ (s : Shared) (H : Hp) (C : Addr) (cl : List (Str × Addr)) (fp : List Addr), PG (X.blk s H scope (compEnvC scope cl C X.env) fp) tg g)
    (hT : ∀ x ∈ xs, TgOk X.K g S (wipeR ρ (own.map (·.2))) (en x) (ρx x))
    (he : ∀ x ∈ xs, ∀ (s : Shared) (H : Hp) (C : Addr) (cl : List (Str × Addr)) (fp : List Addr), E1 (X.blk s H scope (compEnvC scope cl C X.env) fp) (ρx x) elt (f x))
    (hz : xs.length ≤ sizeLine) (hN : X.N.Nodup) (ok : BlkOk X.N X.env.scope scope own := by exact blkOk_by (by kernel_rfl)) (hc : X.calm = true := by rfl) (hd : ∀ x, isDat (f x) = true := by intro _; rfl) (hS : ∀ i ∈ S, i ∈ own.map (·.2) := by decide) (h0 : 0 ∉ own.map (·.2) := by decide) (hs : ∀ x, foldedSetIterable iter X.env x = pure x := by intro _; rfl) :
    E1 X ρ (.ListComp elt [⟨tg, iter, [], 0⟩] scope pos) (.list (xs.map f)) :=
  Ev.imp (Ev.lc (p := fun _ => true) (Pe := fun x r => r = f x) (c2 := 0) (ct := 0) hi ok hg hT hS (fun x hx s H C cl fp => Ts.nil) (fun x hx _ s H C cl fp => he x hx s H C cl fp) (fun x _ r e => by rw [e]; exact hd x) hz (by omega) h0 hc hN hs) (Nat.le_refl _) fun d ⟨rs, e, pk⟩ => by
    rw [e, pk.eq, List.filter_eq_self.mpr (fun _ _ => rfl)]
end
end Kl

set_option Elab.async false
set_option linter.all false
set_option maxRecDepth 100000
/-! sorted over data, the empty tuple among them too. -/
namespace Kl
open PySem PySem.Spec L2
section
variable {prog : Program} {w : World} {A : Around} {E : Value → Shared → Prop} {s : Shared}
open PySem.W PyProof.Rows in
theorem one_tup {a b : Value} {xs ys : List PyData} {as bs : List Addr} {Q : Bool → Shared → Prop} (ra : Reads s.heap a (.tuple xs) as) (rb : Reads s.heap b (.tuple ys) bs) (hal : alikeAll xs ys = true) (hu : A.units + min (PyData.tuple xs).depth (PyData.tuple ys).depth < cLine)
    (hq : Q (dataLt (.tuple xs) (.tuple ys)) s) : wpAny (model prog w) A (oneLt' true a b) Q E s := by
  cases ra with
  | @tuple l o vs n _ as₁ h1 h2 h3 h4 =>
  cases rb with
  | @tuple l' o' vs' n' _ bs₁ k1 k2 k3 k4 =>
  have m1 : vs.size = xs.length := by simpa using SeqAt.ReadsAll.length _ _ _ h4
  have m2 : vs'.size = ys.length := by simpa using SeqAt.ReadsAll.length _ _ _ k4
  rw [dataLt_tuple, ← firstLt_toks xs ys hal, ← m1, ← m2] at hq
  rw [oneLt'_eq]
  simp only [if_true]
  obtain ⟨cls, dd, data, sl⟩ := o
  obtain ⟨cls2, dd2, data2, sl2⟩ := o'
  simp only at h2 h3 k2 k3
  subst h2 h3 k2 k3
  refine wpAny_bind (wpAny_cRoomFor (SeqAt.room_here hu) ?_)
  refine wpAny_bind (wpAny_callSpecialIfBound?_slot (T := "tuple") ⟨_, h1, rfl⟩ F.slot_tuple_lt ?_)
  refine call_meets F.slot_tuple_lt ⟨_, h1, rfl⟩ F.entry_tuple_lt (F.args_tuple_lt_2 _ _) (SeqAt.tuple_ltAt l l' vs vs' n n' dd dd2 sl sl2 (SeqAt.pairEq xs ys) (fun j => dataLt (xs.getD j .none) (ys.getD j .none))) ⟨h1, k1, fun j j1 j2 => ?_, fun j j1 j2 hj => ?_, ?_⟩
  · have z := eqAt_alikeAll xs ys A.in1 s vs.toList vs'.toList _ _ h4 k4 hal (SeqAt.room_in hu) j (by simpa using j1) (by simpa using j2)
    simpa using z
  · have z := rcLt_alikeAll xs ys A.in1 s vs.toList vs'.toList _ _ h4 k4 hal (SeqAt.room_in hu) j (by simpa using j1) (by simpa using j2) hj
    simpa using z
  · exact wpAny_truthy_bool hq

open PySem.W PyProof.Rows in
theorem firsts_tup {M : Model} : ∀ (vs : List Value) (ds : List PyData), EachIs (fun v d => ∃ as, Reads s.heap v d as) vs ds → (∀ d ∈ ds, ∃ xs, d = .tuple xs) → ∀ (Q : List (Option Value) → Shared → Prop),
    (∀ fs : List (Option Value), (∀ r, ds = .tuple [] :: r → ∃ gs, fs = none :: gs) → Q fs s) → wpAny M A (vs.mapM firstOfTuple') Q E s
  | _, _, .nil, _, Q, h => by
    rw [List.mapM_nil]
    exact wpAny_pure (h [] fun r z => by cases z)
  | _, _, .cons (a := v) (b := d) (as := vs) (bs := ds) ⟨as, r⟩ t, ht, Q, h => by
    obtain ⟨xs, rfl⟩ := ht d List.mem_cons_self
    rw [List.mapM_cons]
    refine wpAny_bind ?_
    rw [kas_first_eq]
    cases r with
    | @tuple l o its n _ _ h1 h2 h3 h4 =>
    refine wpAny_bind (Looks.here (show Looks M s.heap (typeOf (.ref l)) o.cls from (Looks.ld h1).andThen .now) ?_)
    rw [h2, if_neg (by first | decide | simp)]
    refine wpAny_bind (listItems_at h1 h3 (wpAny_pure ?_))
    refine wpAny_bind (firsts_tup vs ds t (fun d hd => ht d (List.mem_cons_of_mem _ hd)) _ fun fs _ => wpAny_pure (h (its[0]? :: fs) fun r z => ?_))
    injection z with z1 z2
    injection z1 with z1
    subst z1
    have : its.toList = [] := by
      generalize its.toList = tl at h4
      cases h4
      rfl
    have e : its = #[] := by
      cases its
      simp only at this
      rw [this]
    subst e
    exact ⟨fs, rfl⟩
open PySem.W PyProof.Rows in
theorem kind_tup0 {M : Model} {vs : List Value} {ds : List PyData} {Q : SortKind → Shared → Prop} (e : EachIs (fun v d => ∃ as, Reads s.heap v d as) vs (.tuple [] :: ds)) (ht : ∀ d ∈ ds, ∃ xs, d = .tuple xs) (h : Q oneType' s) : wpAny M A (keyKind' vs.toArray) Q E s := by
  have ht' : ∀ d ∈ (PyData.tuple [] :: ds), ∃ xs, d = .tuple xs := fun d hd => (List.mem_cons.mp hd).elim (fun z => ⟨[], z⟩) (ht d)
  rw [keyKind'_eq, List.mapM_toArray, map_eq_pure_bind]
  refine wpAny_bind (wpAny_bind (firsts_tup vs _ e ht' _ fun fs hf => wpAny_pure ?_))
  obtain ⟨gs, rfl⟩ := hf _ rfl
  rw [if_neg (by simp), if_neg (by simp)]
  rw [oneTypeOnly'_eq, List.mapM_toArray, map_eq_pure_bind]
  have hT : ∀ v ∈ vs, Looks M s.heap (typeOf v) (.type "tuple") := fun v hv => by
    obtain ⟨d, hd, as, r⟩ := e.left v hv
    obtain ⟨xs, rfl⟩ := ht' d hd
    exact looks_reads r
  refine wpAny_bind (wpAny_bind (wpAny_bind (kas_mapM (r := Value.type "tuple") _ (fun v hv Q' hq => (hT v hv).here hq) (wpAny_pure ?_))))
  obtain ⟨v₁, rest, rfl⟩ : ∃ v₁ rest, vs = v₁ :: rest := by
    cases e with
    | cons _ _ => exact ⟨_, _, rfl⟩
  have hall : ((List.map (fun _ => Value.type "tuple") (v₁ :: rest)).toArray.all fun x => x == Value.type "tuple") = true := by
    simp only [List.all_toArray, List.all_map, List.all_eq_true]
    intro _ _
    exact beq_self_eq_true _
  have h0 : (List.map (fun _ => Value.type "tuple") (v₁ :: rest)).toArray[0]? = some (Value.type "tuple") := by simp
  rw [h0]
  simp only [hall, if_true]
  exact wpAny_pure (wpAny_pure h)
/-- what can be sorted: all tuples with an item; no tuples; tuples, the first one empty -/
def CanSort (ds : List PyData) : Prop := PySem.W.Sortable ds ∨ ∃ r, ds = .tuple [] :: r ∧ ∀ d ∈ r, ∃ xs, d = .tuple xs
open PySem.W PyProof.Rows in
theorem sortsAt {vs : List Value} {ds : List PyData} (e : EachIs (fun v d => ∃ as, Reads s.heap v d as) vs ds) (hal : AllAlike ds) (hk : CanSort ds) (hu : ∀ d, d ∈ ds → A.units + d.depth < cLine) : SortsAt prog w A s (dataKind s.heap ds) vs := by
  rcases hk with hk | ⟨r, rfl, ht⟩
  · exact SortsAt.data e hal hk hu
  · have ht' : ∀ d ∈ (PyData.tuple [] :: r), ∃ xs, d = .tuple xs := fun d hd => (List.mem_cons.mp hd).elim (fun z => ⟨[], z⟩) (ht d)
    refine ⟨fun v hv => ?_, oneType', ?_, fun h2 E Q hq => kind_tup0 e ht hq⟩
    · obtain ⟨d, hd, as, r⟩ := e.left v hv
      exact ⟨_, dataKind_some hal hd r⟩
    · intro E x y a b Q ha hb hq
      obtain ⟨d, as, hd, ra, rfl⟩ := dataKind_inv ha
      obtain ⟨d', as', hd', rb, rfl⟩ := dataKind_inv hb
      obtain ⟨xs, rfl⟩ := ht' d hd
      obtain ⟨ys, rfl⟩ := ht' d' hd'
      rw [keyLt'_oneType]
      exact one_tup ra rb (by simpa [alike] using hal _ hd _ hd') (Nat.lt_of_le_of_lt (Nat.add_le_add_left (Nat.min_le_left _ _) _) (hu _ hd)) hq
open PySem.W PyProof.Rows in
theorem sorted_all {β : Type} {R : Value → β → Prop} {enc : β → PyData} {vs : List Value} {bs : List β} {l : Addr} {Q : Value → Shared → Prop} (hl : s.heap.IsList l vs.toArray) (e : EachIs R vs bs) (er : EachIs (fun v b => ∃ as, Reads s.heap v (enc b) as) vs bs) (hal : AllAlike (bs.map enc)) (hk : CanSort (bs.map enc)) (hL : bs.length ≤ sizeLine)
    (hu : ∀ b, b ∈ bs → A.units + 2 + (enc b).depth < cLine) (h : ∀ out, out.length = bs.length → EachIs R out (bs.mergeSort (dataLe false enc)) → Q (.ref (s.heap.objs.size + 1)) { s with heap := sortedAll s.heap vs (List.toArray out) }) :
    wpAny (model prog w) A (call (.builtin "sorted") [.ref l]) Q E s := by
  have er' : EachIs (fun v b => ∃ as, Reads (sortingHeap (copyHeap s.heap vs) (s.heap.objs.size + 1) vs) v (enc b) as) vs bs := er.mono fun _ _ ⟨as, r⟩ => ⟨as, PyProof.Rows.Reads.keeps (fun _ _ => sorting_copy_old) r⟩
  refine sorted_vals (κ := dataKind (sortingHeap (copyHeap s.heap vs) (s.heap.objs.size + 1) vs) (bs.map enc)) hl (sortsAt (s := { s with heap := sortingHeap (copyHeap s.heap vs) (s.heap.objs.size + 1) vs }) (each_map (R := fun v d => ∃ as, Reads (sortingHeap (copyHeap s.heap vs) (s.heap.objs.size + 1) vs) v d as) enc er') hal hk fun d hd => ?_) (by rw [e.length]; exact hL)
    (h _ (by rw [sortVals_length false rfl]; exact e.length) (sortVals_data false e er' hal))
  obtain ⟨b, hb, rfl⟩ := List.mem_map.mp hd
  exact hu b hb
end
theorem each_paired {α β : Type} {F : α → β → Prop} : ∀ {xs : List α} {ys : List β}, PySem.W.EachIs F xs ys → Paired F xs ys
  | _, _, .nil => .nil
  | _, _, .cons h t => .cons h (each_paired t)
theorem each_of {K : PySem.W.Frag} {M : Hp} {β : Type} {enc : β → D} : ∀ {vs : List V} {us : List Value} {bs : List β}, DqAll K M vs (bs.map enc) → Vals vs us → PySem.W.EachIs (fun u b => ∃ v, RelV v u ∧ Dq K M v (enc b)) us bs
  | _, _, [], h, r => by
    cases h
    cases r
    exact .nil
  | _, _, b :: bs, h, r => by
    cases h with
    | cons h1 h2 =>
      cases r with
      | cons r1 r2 => exact .cons ⟨_, r1, h1⟩ (each_of h2 r2)
theorem of_each {K : PySem.W.Frag} {M : Hp} {β : Type} {enc : β → D} : ∀ {us : List Value} {bs : List β}, PySem.W.EachIs (fun u b => ∃ v, RelV v u ∧ Dq K M v (enc b)) us bs → ∃ vs, Vals vs us ∧ DqAll K M vs (bs.map enc)
  | _, _, .nil => ⟨[], .nil, .nil⟩
  | _, _, .cons ⟨v, r, h⟩ t => by
    obtain ⟨vs, h1, h2⟩ := of_each t
    exact ⟨v :: vs, .cons r h1, .cons h h2⟩
section
variable {X : Cx} {β : Type} {enc : β → D} {bs : List β}
def rSortedAny (K : PySem.W.Frag) (enc : β → D) (bs : List β) : List V → Hp → VK → Prop := fun xs H Q => ∃ (a : Addr) (vs : List V) (M : Hp), xs = [.ref a] ∧ H a = some (.lst vs) ∧ Same M H ∧ DqAll K M vs (bs.map enc) ∧
  ∀ p vs', H p = none → DqAll K M vs' ((bs.mergeSort (PySem.W.dataLe false enc)).map enc) → Q (.ref p) (upd H p (.lst vs'))
theorem cr_sortedAny (hal : PySem.W.AllAlike (bs.map enc)) (hk : CanSort (bs.map enc)) (hL : bs.length ≤ sizeLine) (hd : ∀ b ∈ bs, (enc b).depth ≤ 32) (hu : X.A.units + 64 < cLine) : CallR X (.builtin "sorted") (rSortedAny X.K enc bs) := by
  intro pins s σ H xs us Q I r h
  obtain ⟨a, vs, M, rfl, ha, sm, wd, q⟩ := h
  obtain ⟨u, rfl, ru⟩ : ∃ u, us = [u] ∧ RelV (.ref a) u := by
    cases r with
    | cons h t => cases t; exact ⟨_, rfl, h⟩
  cases ru
  obtain ⟨its, rv, hl, hz⟩ := I.list (SqL.of ha)
  have e1 := each_of wd rv
  refine sorted_all (R := fun u b => ∃ v, RelV v u ∧ Dq X.K M v (enc b)) hl.isList e1 (e1.mono fun u b ⟨v, r1, w1⟩ => Dp.reads I _ _ _ (dq_dp _ _ (dp_mono sm _ _ w1)) r1) hal hk hL (fun b hb => by have := hd b hb; omega) fun out hlen eo => ?_
  obtain ⟨vs', rv', wd'⟩ := of_each eo
  obtain ⟨ep, he⟩ := PyProof.Rows.sortedAll_at s.heap its out.toArray
  refine ⟨.ref (s.heap.objs.size + 1), upd H (s.heap.objs.size + 1) (.lst vs'), I.laid (t' := s.toks) (fun _ _ => PyProof.Rows.sortedAll_old) (Nat.le_succ _) ⟨?_, out, ep, rv', he⟩, rfl, q _ _ (I.hok.fresh (Nat.le_succ _)) wd'⟩
  rw [Vals.length rv', hlen]
  exact hL
theorem c_sorted (hal : PySem.W.AllAlike (bs.map enc)) (hk : CanSort (bs.map enc)) (hL : bs.length ≤ sizeLine) (hd : ∀ b ∈ bs, (enc b).depth ≤ 32) (hu : X.A.units + 64 < cLine) :
    CallOk X (.builtin "sorted") [.list (bs.map enc)] (· = .list ((bs.mergeSort (PySem.W.dataLe false enc)).map enc)) := fun M H xs Q al w q => by
  obtain ⟨v, rfl, w'⟩ := p1 w
  obtain ⟨a, vs, rfl, h1, h2⟩ := w'.list
  exact ⟨_, cr_sortedAny hal hk hL hd hu, a, vs, mask M H, rfl, (mask_at h1).2, mask_same _ _, h2, fun p vs' np w2 => q _ _ _ (same_upd np) rfl (Dv.newL al np w2)⟩
end
end Kl

set_option Elab.async false
set_option linter.all false
set_option maxRecDepth 100000
set_option maxHeartbeats 4000000
/-! sorted(set(xs)) of texts. -/
namespace Kl
open PySem PySem.Spec L2
def txOf (e : Int × Value) : Str := match e.2 with
  | .str x _ => x
  | _ => Str.empty
def TxE (w : World) (e : Int × Value) : Prop := ∃ x tk, e.2 = Value.str x tk ∧ e.1 = hashStr w x
def SetSt (w : World) (h : Heap) (a : Addr) (S : Str → Prop) (n : Nat) : Prop := ∃ (ob : Obj) (rows : Array (Int × Value)) (ep : Nat) (tab : SetTable), h.get? a = some ob ∧ ob.ExactSet ∧ ob.data = .set rows ep tab ∧ (∀ e ∈ rows.toList, TxE w e) ∧ (rows.toList.map txOf).Nodup ∧
  (∀ x, S x ↔ x ∈ rows.toList.map txOf) ∧ rows.size ≤ n ∧ tab.fits rows.size = true ∧ Ris tab.place.toList ∧ (w.params.followText "set-order" = true ∨ tab.led = true)
section
variable {P : Program} {w : World} {h h' : Heap} {a : Addr} {S : Str → Prop} {n : Nat}
theorem SetSt.keep (R : SetSt w h a S n) (k : ∀ o, h.get? a = some o → h'.get? a = some o) : SetSt w h' a S n := by
  obtain ⟨ob, rows, ep, tab, ho, r⟩ := R
  exact ⟨ob, rows, ep, tab, k ob ho, r⟩
theorem tx_elems {l : List (Int × Value)} (g : ∀ e ∈ l, TxE w e) : ElemsOf (strKind P w) l := fun e he => by
  obtain ⟨x, tk, h1, h2⟩ := g e he
  exact ⟨⟨x, by rw [h1]; exact strKind_is P w x tk, h2⟩, by rw [h1] <;> rfl⟩
theorem tx_is {e : Int × Value} (g : TxE w e) (x : Str) : (strKind P w).is x e.2 = true ↔ txOf e = x := by
  obtain ⟨y, tk, h1, _⟩ := g
  unfold txOf
  rw [h1]
  show (Value.isStrOf x (Value.str y tk) = true) ↔ y = x
  simp [Value.isStrOf]
theorem tx_mem {l : List (Int × Value)} (g : ∀ e ∈ l, TxE w e) (x : Str) : x ∈ l.map txOf ↔ ∃ e ∈ l, (strKind P w).is x e.2 = true := by
  rw [List.mem_map]
  constructor
  · rintro ⟨e, he, q⟩
    exact ⟨e, he, (tx_is (g e he) x).2 q⟩
  · rintro ⟨e, he, q⟩
    exact ⟨e, he, (tx_is (g e he) x).1 q⟩
end
section
variable {P : Program} {w : World} {A : Around} {E : Value → Shared → Prop} {s : Shared} {a : Addr} {S : Str → Prop} {n : Nat}
theorem tx_tail {gave : Bool → Sem Unit} (hg : ∀ (b : Bool) (s₁ : Shared) (Q' : Unit → Shared → Prop), Q' () s₁ → wpAny (model P w) A (gave b) Q' E s₁)
    {ob : Obj} {rows : Array (Int × Value)} {ep : Nat} {tab : SetTable} (ho : s.heap.get? a = some ob) (hex : ob.ExactSet) (hd : ob.data = .set rows ep tab)
    {rows1 : Array (Int × Value)} {tab1 : SetTable} {S' : Str → Prop} (g1 : ∀ e ∈ rows1.toList, TxE w e) (nd1 : (rows1.toList.map txOf).Nodup) (m1 : ∀ x, S' x ↔ x ∈ rows1.toList.map txOf)
    (hb1 : rows1.size < scanBound) (hf1 : tab1.fits rows1.size = true) (hr1 : Ris tab1.place.toList) (hl1 : w.params.followText "set-order" = true ∨ tab1.led = true) {wasDummy : Bool} {R : Option Bool → Shared → Prop}
    (hR : ∀ h', Heap.SameBut a s.heap h' → SetSt w h' a S' rows1.size → R (some true) { s with heap := h' }) :
    wpAny (model P w) A (do
        storeSet a rows1 tab1
        if (!wasDummy && tab1.tooFull) = true then do
            gave (relayAll tab1 rows1 (SetTable.grown rows1.size)).2.2
            storeSet a (relayAll tab1 rows1 (SetTable.grown rows1.size)).1 (relayAll tab1 rows1 (SetTable.grown rows1.size)).2.1
            pure (some true)
          else pure (some true)) R E s := by
  refine wpAny_bind (wpAny_storeSet_of ho hd ?_ (fits_of_scanBound hb1))
  have ho1 := store_at (es' := rows1) (t' := tab1) ho hd
  have sb1 := Heap.SameBut.update s.heap a (Obj.putSet rows1 tab1)
  split
  · have pm := relayAll_perm tab1 rows1 (SetTable.grown rows1.size)
    have hf2 := relayAll_fits tab1 rows1 (SetTable.grown rows1.size)
    have hr2 := relayAll_ris tab1 rows1 (SetTable.grown rows1.size)
    have hl2 := relayAll_led tab1 rows1 (SetTable.grown rows1.size)
    generalize relayAll tab1 rows1 (SetTable.grown rows1.size) = W at pm hf2 hr2 hl2 ⊢
    obtain ⟨rows2, tab2, gv⟩ := W
    dsimp only at pm hf2 hr2 hl2 ⊢
    have hsz : rows2.size = rows1.size := by rw [← Array.length_toList, pm.length_eq, Array.length_toList]
    refine wpAny_bind (hg _ _ _ ?_)
    refine wpAny_bind (wpAny_storeSet_of ho1 rfl ?_ (fits_of_scanBound (by rw [hsz]; exact hb1)))
    have ho2 := store_at (es' := rows2) (t' := tab2) ho1 rfl
    refine wpAny_pure (hR _ (sb1.trans (Heap.SameBut.update _ a _)) ?_)
    exact ⟨_, rows2, _, tab2, ho2, hex, rfl, fun e he => g1 e (pm.mem_iff.mp he), (pm.map txOf).nodup_iff.mpr nd1, fun x => (m1 x).trans (pm.map txOf).mem_iff.symm, Nat.le_of_eq hsz, hf2, hr2, hl1.imp id fun z => by rw [hl2]; exact z⟩
  · exact wpAny_pure (hR _ sb1 ⟨_, rows1, _, tab1, ho1, hex, rfl, g1, nd1, m1, Nat.le_refl _, hf1, hr1, hl1⟩)
theorem tx_add {x : Str} {tk : Tok} {Q : Bool → Shared → Prop} (R : SetSt w s.heap a S n) (room : n + 1 < scanBound)
    (hQ : ∀ b h', Heap.SameBut a s.heap h' → SetSt w h' a (fun y => S y ∨ y = x) (n + 1) → Q b { s with heap := h' }) :
    wpAny (model P w) A (setAddHashed a (.str x tk) ((strKind P w).hash x)) Q E s := by
  obtain ⟨ob, rows, ep, tab, ho, hex, hd, g, nd, hm, hn, hf, hr, hl⟩ := R
  have hkey : (strKind P w).is x (.str x tk) = true := strKind_is P w x tk
  have hsc : (Value.str x tk).scannable = true := rfl
  have hel : ElemsOf (strKind P w) rows.toList := tx_elems g
  have hb : rows.size < scanBound := by omega
  unfold setAddHashed setAddHashedIn
  refine wpAny_holding (wpAny_bind (wpAny_setState_of ho hd hf ?_))
  dsimp only
  rw [byScan_of hsc hb hel]
  simp only [↓reduceIte]
  unfold setAddByScan
  refine wpAny_bind ?_
  refine wpAny_bind (wpAny_rule ?_)
  refine wpAny_bind (wpAny_setScan_of hkey ho hd hf hel ?_)
  cases hfi : List.findIdx? (fun e => (strKind P w).is x e.2) rows.toList with
  | some j =>
    dsimp only
    obtain ⟨hj, pj, _⟩ := List.findIdx?_eq_some_iff_getElem.mp hfi
    have hSx : S x := (hm x).2 ((tx_mem (P := P) (w := w) g x).2 ⟨rows.toList[j], List.getElem_mem hj, pj⟩)
    refine wpAny_pure (wpAny_pure (hQ false s.heap (Heap.SameBut.refl a s.heap) ⟨ob, rows, ep, tab, ho, hex, hd, g, nd, fun y => ?_, by omega, hf, hr, hl⟩))
    rw [← hm y]
    exact ⟨fun z => z.elim id fun e => by rw [e]; exact hSx, .inl⟩
  | none =>
    dsimp only
    have hnx : x ∉ rows.toList.map txOf := fun z => by
      obtain ⟨e, he, q⟩ := (tx_mem (P := P) (w := w) g x).1 z
      have c := List.findIdx?_eq_none_iff.mp hfi e he
      rw [q] at c
      cases c
    have hgw : ∀ (b : Bool) {s₁ : Shared} {Q' : Unit → Shared → Prop}, Q' () s₁ → wpAny (model P w) A (match b with | true => rule "set.scan.the-table-gave-way" | false => pure ()) Q' E s₁ :=
      fun b s₁ Q' q => by cases b <;> first | exact wpAny_pure q | exact wpAny_rule q
    have pm := layNew_perm tab rows ((strKind P w).hash x) (.str x tk)
    have f1 := layNew_fits tab rows ((strKind P w).hash x) (.str x tk)
    have r1 := layNew_ris tab rows ((strKind P w).hash x) (.str x tk) hr
    have l1 := layNew_led tab rows ((strKind P w).hash x) (.str x tk)
    generalize layNew tab rows ((strKind P w).hash x) (.str x tk) = W at pm f1 r1 l1 ⊢
    obtain ⟨rows1, tab1, wasDummy, gv⟩ := W
    dsimp only at pm f1 r1 l1 ⊢
    rw [Array.toList_push] at pm
    have pc : rows1.toList.Perm (((strKind P w).hash x, Value.str x tk) :: rows.toList) := pm.trans (List.perm_append_singleton _ _)
    have pk : (rows1.toList.map txOf).Perm (x :: rows.toList.map txOf) := pc.map txOf
    have g1 : ∀ e ∈ rows1.toList, TxE w e := fun e he => by
      rcases List.mem_cons.mp (pc.mem_iff.mp he) with z | z
      · rw [z]; exact ⟨x, tk, rfl, rfl⟩
      · exact g e z
    have nd1 : (rows1.toList.map txOf).Nodup := pk.nodup_iff.mpr (List.nodup_cons.mpr ⟨hnx, nd⟩)
    have m1 : ∀ y, (S y ∨ y = x) ↔ y ∈ rows1.toList.map txOf := fun y => by
      rw [hm y, pk.mem_iff, List.mem_cons]
      exact Or.comm
    have hsz : rows1.size = rows.size + 1 := by rw [← Array.length_toList, pc.length_eq, List.length_cons, Array.length_toList]
    have hb1 : rows1.size < scanBound := by rw [hsz]; omega
    have hled : w.params.followText "set-order" = true ∨ tab1.led = true := hl.imp id fun z => by rw [l1]; exact z
    have fin : ∀ h', Heap.SameBut a s.heap h' → SetSt w h' a (fun y => S y ∨ y = x) rows1.size → Q true { s with heap := h' } := fun h' sb r => by
      obtain ⟨ob', rows', ep', tab', q1, q2, q3, q4, q5, q6, q7, q8⟩ := r
      exact hQ true h' sb ⟨ob', rows', ep', tab', q1, q2, q3, q4, q5, q6, by omega, q8⟩
    refine wpAny_bind (hgw _ ?_)
    split
    · refine wpAny_bind ?_
      rw [hashByValue_scannable 8 hsc]
      refine wpAny_pure ?_
      refine tx_tail ?_ ho hex hd g1 nd1 m1 hb1 ?_ ?_ ?_ ?_
      · intro b s₁ Q' q; cases b <;> first | exact wpAny_pure q | exact wpAny_rule q
      · first | (split <;> first | exact f1 | exact SetTable.fits_plain_off f1) | exact f1
      · first | (split <;> exact r1) | exact r1
      · first | (split <;> exact hled) | exact hled
      · intro h' sb r; dsimp only; exact wpAny_pure (fin h' sb r)
    · refine wpAny_bind (wpAny_pure ?_)
      simp only [↓reduceIte]
      refine tx_tail ?_ ho hex hd g1 nd1 m1 hb1 f1 r1 hled ?_
      · intro b s₁ Q' q; cases b <;> first | exact wpAny_pure q | exact wpAny_rule q
      · intro h' sb r; dsimp only; exact wpAny_pure (fin h' sb r)
theorem tx_fresh {h : Heap} {a : Addr} (ho : h.get? a = some { cls := .type "set", dict := none, data := .set #[] 0 (.fresh 0 0 (!w.params.followText "set-order")) }) : SetSt w h a (fun _ => False) 0 :=
  ⟨_, #[], 0, _, ho, ⟨rfl, rfl, rfl⟩, rfl, (fun e he => by simp at he), (by simp), (fun x => by simp), (Nat.le_refl _), (by rfl), List.Pairwise.nil, by
    show _ ∨ (!w.params.followText "set-order") = true
    cases w.params.followText "set-order"
    · exact .inr rfl
    · exact .inl rfl⟩
theorem SetSt.congr {h : Heap} {S' : Str → Prop} (R : SetSt w h a S n) (e : ∀ y, S' y ↔ S y) : SetSt w h a S' n := by
  obtain ⟨ob, rows, ep, tab, q1, q2, q3, q4, q5, q6, q7⟩ := R
  exact ⟨ob, rows, ep, tab, q1, q2, q3, q4, q5, fun y => (e y).trans (q6 y), q7⟩
/-- the loop of set(xs) -/
theorem tx_update {I : Addr} {fp wr : List Addr} {Gs : Array GenState → Array GenState → Prop} {m : Nat} {Pv : Nat → Value → Prop} {St : Nat → Shared → Prop} {R : Result → Shared → Prop}
    (W : WalksS P w A.in1 I fp wr Gs m Pv St) (T : Addr) (hT : T ∉ fp) (xs : List Str) (hm : m = xs.length) (hb : xs.length + 1 < scanBound) (hval : ∀ i v, Pv i v → ∃ x t, xs[i]? = some x ∧ v = .str x t) :
    ∀ (left i : Nat) (s : Shared), m - i = left → i ≤ m → St i s → SetSt w s.heap T (fun y => y ∈ xs.take i) i →
      (∀ s', Moved (T :: wr) Gs s s' → SetSt w s'.heap T (fun y => y ∈ xs) m → R (.ok (.ret .none)) s') →
      codeAny (model P w) A (.builtin "set.update.loop" ⟨[.ref T, .ref I], []⟩) R s := by
  have hTw : T ∉ wr := fun h => hT (W.sub _ h)
  have hsub : ∀ b ∈ wr, b ∈ T :: wr := fun b hb => List.mem_cons_of_mem _ hb
  intro left
  induction left with
  | zero =>
    intro i s hl hi hst hS hR
    obtain rfl : i = m := by omega
    refine codeAny_builtin PyProof.Rows.F.entry_set_update_loop ?_
    rw [Around.under_plainId PyProof.Rows.F.plain_set_update_loop _]
    show wpAny _ A.in1 (pyNext (.ref I) >>= _) _ _ s
    refine wpAny_bind (W.done s _ _ hst fun s' mv => ?_)
    show wpAny _ A.in1 (ret Value.none) _ _ s'
    rw [List.take_of_length_le (Nat.le_of_eq hm.symm)] at hS
    exact wpAny_pure (hR s' (mv.mono hsub) (hS.keep fun o e => mv.heap T o hTw e))
  | succ left ih =>
    intro i s hl hi hst hS hR
    have hlt : i < m := by omega
    refine codeAny_builtin PyProof.Rows.F.entry_set_update_loop ?_
    rw [Around.under_plainId PyProof.Rows.F.plain_set_update_loop _]
    show wpAny _ A.in1 (pyNext (.ref I) >>= _) _ _ s
    refine wpAny_bind (W.item i s _ _ hlt hst fun v s' hP hst' mv => ?_)
    obtain ⟨x, t, hx, rfl⟩ := hval i v hP
    have hS' : SetSt w s'.heap T (fun y => y ∈ xs.take i) i := hS.keep fun o e => mv.heap T o hTw e
    show wpAny _ A.in1 (holding [Value.str x t] (setAdd T (.str x t)) >>= _) _ _ s'
    refine wpAny_bind (wpAny_holding ?_)
    unfold setAdd
    refine wpAny_holding ?_
    refine wpAny_bind ((strKind P w).pyHash (k := x) (strKind_is _ _ _ _) ?_)
    refine tx_add (s := { s' with toks := s'.toks + 1 }) hS' (by omega) fun b h' sb hS2 => ?_
    have hS3 : SetSt w h' T (fun y => y ∈ xs.take (i + 1)) (i + 1) := hS2.congr fun y => by
      rw [List.take_add_one, hx]
      simp [List.mem_append]
    refine wpAny_pure ⟨plainId_quiet PyProof.Rows.F.plain_set_update_loop _, ih (i + 1) _ (by omega) hlt (W.frame _ s' _ _ hst' (Nat.le_succ _) fun c hc o e => ?_) hS3 fun s'' mv' hS4 => ?_⟩
    · rw [sb.2 c (fun z : c = T => hT (by rw [← z]; exact hc))]; exact e
    · refine hR s'' (Moved.trans W.gtrans ((mv.mono hsub).then_heap (Nat.le_succ _) fun c o hc e => ?_) mv') hS4
      rw [sb.2 c (fun z : c = T => hc (by rw [z]; exact List.mem_cons_self))]; exact e
end
end Kl

set_option Elab.async false
set_option linter.all false
set_option maxRecDepth 100000
/-! The data of the law, its defs by places. -/
namespace Kl
open PySem PySem.Spec L2
abbrev Nm := Str
structure Line where
  name : Nm
  start : Nm
  goal : Nm
  most : Int
  key : Nm
structure Net where
  yards : List (Nm × Int)
  lines : List Line
  custs : List (Nm × Nm)
abbrev Hold := List (Nm × List Nm)
abbrev nmsT (ss : List Nm) : D := .tuple (ss.map .str)
abbrev nmsL (ss : List Nm) : D := .list (ss.map .str)
def yardD (y : Nm × Int) : D := .tuple [.str y.1, .int y.2]
def lineD (l : Line) : D := .tuple [.str l.name, .str l.start, .str l.goal, .int l.most, .str l.key]
def custD (y : Nm × Nm) : D := .tuple [.str y.1, .str y.2]
def netD (n : Net) : D := .tuple [.tuple (n.yards.map yardD), .tuple (n.lines.map lineD), .tuple (n.custs.map custD)]
def heldD (p : Nm × List Nm) : D := .tuple [.str p.1, nmsT p.2]
abbrev holdD (h : Hold) : D := .tuple (h.map heldD)
def topS (i : Nat) : Stmt := PySem.Challenge.pw_keyedlines_k78_whole_hands_one_by_one.main.body.getD i (.Pass ⟨0, 0, 0, 0⟩)
end Kl

set_option Elab.async false
set_option linter.all false
/-! The order of texts; sets of texts as rising lists. -/
namespace Kl
open PySem
theorem str_ext {a b : Str} (h : a.cps.toList = b.cps.toList) : a = b := by
  cases a; cases b
  simp only at h
  congr 1
  exact Array.ext' h
def ltN (a b : Nm) : Bool := decide (a.cps.toList < b.cps.toList)
theorem ltN_irrefl (a : Nm) : ltN a a = false := by
  unfold ltN
  exact decide_eq_false (List.lt_irrefl _)
theorem ltN_trans {a b c : Nm} (h : ltN a b = true) (h' : ltN b c = true) : ltN a c = true := by
  unfold ltN at *
  exact decide_eq_true (List.lt_trans (of_decide_eq_true h) (of_decide_eq_true h'))
theorem ltN_tri {a b : Nm} (h : ltN a b = false) (h' : ltN b a = false) : a = b := by
  unfold ltN at *
  have h1 := of_decide_eq_false h
  have h2 := of_decide_eq_false h'
  exact str_ext (List.le_antisymm (List.not_lt.mp h2) (List.not_lt.mp h1))
theorem ltN_asymm {a b : Nm} (h : ltN a b = true) : ltN b a = false := by
  cases e : ltN b a with
  | false => rfl
  | true =>
    have := ltN_trans h e
    rw [ltN_irrefl] at this
    cases this
theorem ltN_ne {a b : Nm} (h : ltN a b = true) : a ≠ b := fun e => by
  subst e
  rw [ltN_irrefl] at h
  cases h
abbrev Rise (l : List Nm) : Prop := l.Pairwise (fun a b => ltN a b = true)
theorem rise_ext : ∀ {l m : List Nm}, Rise l → Rise m → (∀ x, x ∈ l ↔ x ∈ m) → l = m
  | [], [], _, _, _ => rfl
  | [], y :: m, _, _, h => by have := (h y).2 List.mem_cons_self; cases this
  | x :: l, [], _, _, h => by have := (h x).1 List.mem_cons_self; cases this
  | x :: l, y :: m, h1, h2, h => by
    obtain ⟨a1, b1⟩ := List.pairwise_cons.mp h1
    obtain ⟨a2, b2⟩ := List.pairwise_cons.mp h2
    have e : x = y := by
      rcases List.mem_cons.mp ((h x).1 List.mem_cons_self) with e | e
      · exact e
      · rcases List.mem_cons.mp ((h y).2 List.mem_cons_self) with e' | e'
        · exact e'.symm
        · have u := a2 x e
          have v := a1 y e'
          rw [ltN_asymm u] at v
          cases v
    subst e
    rw [rise_ext b1 b2 fun z => ?_]
    constructor
    · intro hz
      rcases List.mem_cons.mp ((h z).1 (List.mem_cons_of_mem _ hz)) with e | e
      · subst e
        exact absurd rfl (ltN_ne (a1 z hz))
      · exact e
    · intro hz
      rcases List.mem_cons.mp ((h z).2 (List.mem_cons_of_mem _ hz)) with e | e
      · subst e
        exact absurd rfl (ltN_ne (a2 z hz))
      · exact e
theorem rise_nodup {l : List Nm} (h : Rise l) : l.Nodup := h.imp fun h => ltN_ne h
def insN (x : Nm) : List Nm → List Nm
  | [] => [x]
  | y :: ys => if x = y then y :: ys else if ltN x y = true then x :: y :: ys else y :: insN x ys
theorem mem_insN (x z : Nm) : ∀ l : List Nm, z ∈ insN x l ↔ z = x ∨ z ∈ l
  | [] => by simp [insN]
  | y :: ys => by
    unfold insN
    split
    · rename_i e
      subst e
      simp
    · split
      · simp
      · rw [List.mem_cons, mem_insN x z ys, List.mem_cons]
        constructor
        · rintro (h | h | h)
          · exact .inr (.inl h)
          · exact .inl h
          · exact .inr (.inr h)
        · rintro (h | h | h)
          · exact .inr (.inl h)
          · exact .inl h
          · exact .inr (.inr h)
theorem rise_insN (x : Nm) : ∀ {l : List Nm}, Rise l → Rise (insN x l)
  | [], _ => by simp [insN, Rise]
  | y :: ys, h => by
    obtain ⟨a, b⟩ := List.pairwise_cons.mp h
    unfold insN
    split
    · exact h
    · rename_i ne
      split
      · rename_i lt
        refine List.pairwise_cons.mpr ⟨fun z hz => ?_, h⟩
        rcases List.mem_cons.mp hz with e | e
        · subst e; exact lt
        · exact ltN_trans lt (a z e)
      · rename_i nlt
        refine List.pairwise_cons.mpr ⟨fun z hz => ?_, rise_insN x b⟩
        rcases (mem_insN x z ys).1 hz with e | e
        · subst e
          cases e2 : ltN y z with
          | true => rfl
          | false => exact absurd (ltN_tri (by simpa using nlt) e2) ne
        · exact a z e
def setOf (l : List Nm) : List Nm := l.foldr insN []
theorem mem_setOf {l : List Nm} {z : Nm} : z ∈ setOf l ↔ z ∈ l := by
  unfold setOf
  induction l with
  | nil => simp
  | cons x l ih => rw [List.foldr_cons, mem_insN, ih, List.mem_cons]
theorem rise_setOf (l : List Nm) : Rise (setOf l) := by
  unfold setOf
  induction l with
  | nil => exact List.Pairwise.nil
  | cons x l ih => rw [List.foldr_cons]; exact rise_insN x ih
theorem setOf_eq {l m : List Nm} (h : Rise m) (e : ∀ x, x ∈ m ↔ x ∈ l) : setOf l = m := rise_ext (rise_setOf l) h fun x => by rw [mem_setOf, e]
theorem setOf_rise {l : List Nm} (h : Rise l) : setOf l = l := setOf_eq h fun _ => Iff.rfl
theorem setOf_congr {l m : List Nm} (h : ∀ x, x ∈ l ↔ x ∈ m) : setOf l = setOf m := rise_ext (rise_setOf l) (rise_setOf m) fun x => by rw [mem_setOf, mem_setOf, h]
end Kl

set_option Elab.async false
set_option linter.all false
set_option maxRecDepth 100000
set_option maxHeartbeats 4000000
/-! sorted(set(xs)) of texts, over data. -/
namespace Kl
open PySem PySem.Spec L2
abbrev newSet (w : World) : Obj := { cls := .type "set", dict := none, data := .set #[] 0 (.fresh 0 0 (!w.params.followText "set-order")) }
section
variable {P : Program} {w : World} {A : Around} {E : Value → Shared → Prop} {s : Shared}
open PyProof.Rows in
theorem call_set_txt {l : Addr} {its : Array Value} (xs : List Str) {Q : Value → Shared → Prop} (hh : A.handled = none) (hl : s.heap.IsList l its) (hit : Vals (xs.map V.str) its.toList) (hfew : xs.length + 1 < scanBound)
    (h : ∀ (h' : Heap) (tk : Nat), SetSt w h' s.heap.objs.size (fun y => y ∈ xs) xs.length → (∀ b o, s.heap.get? b = some o → h'.get? b = some o) → Q (.ref s.heap.objs.size) { s with heap := h', toks := tk }) :
    wpAny (model P w) A (call (.type "set") [.ref l]) Q E s := by
  have hsz : its.size = xs.length := by
    have q := Vals.length hit
    simp only [List.length_map, Array.length_toList] at q
    exact q.symm
  obtain ⟨c, tl, hmro⟩ := F.called_set.mro
  have hmade := F.called_set.made
  have hsub := F.called_set.sub
  refine wpAny_call (codeAny_of_tree ?_)
  show wpAny _ _ (callAny (.type "set") _) _ _ _
  refine wpAny_pure ⟨Code.quiet_builtin _ (by decide +kernel), codeAny_builtin F.entry_type_call ?_⟩
  rw [Around.under_plain (weight_type_call_type "set" [.ref l] []) rfl]
  have notT := F.called_set.notType
  have canC := F.called_set.canCreate
  have hct := F.typeCall_set_1 (.ref l)
  repeat (any_goals (first | assumption | wp_step))
  refine codeAny_mono (code_set_led1 (.ref l) (E := E) (Q₁ := fun ob s₁ => ob = .ref s.heap.objs.size ∧ s₁ = { s with heap := s.heap.push (newSet w) }) ⟨rfl, rfl⟩) fun r s₁ hr => ?_
  cases r with
  | error e => exact hr
  | ok fl =>
    cases fl with
    | ret obj =>
      obtain ⟨rfl, rfl⟩ := hr
      have hS : (s.heap.push (newSet w)).get? s.heap.objs.size = some (newSet w) := Heap.get?_push_size _ rfl
      have hT : Shared.TypeIs { s with heap := s.heap.push (newSet w) } (.ref s.heap.objs.size) "set" := ⟨_, hS, rfl⟩
      have hli := F.called_set.init.lookup
      have hbi := F.called_set.init.bind (.ref s.heap.objs.size)
      repeat (any_goals (first | assumption | wp_step))
      refine codeAny_mono (codeAny_call_builtin (R := wants (fun r s₂ => r = .none ∧ ∃ h' tk, s₂ = { s with heap := h', toks := tk } ∧ SetSt w h' s.heap.objs.size (fun y => y ∈ xs) xs.length ∧ (∀ b o, s.heap.get? b = some o → h'.get? b = some o)) E)
        F.called_set.init.plain F.entry_set_init (check_set_init_1 hT ?_)) fun r₂ s₂ hr₂ => ?_
      · obtain ⟨⟨lcls, ldict, ldata, lslots⟩, hol, hcl, nl, hdl⟩ := hl
        simp only at hcl hdl
        subst hcl; subst hdl
        have hol' : (s.heap.push (newSet w)).get? l = some { cls := .type "list", dict := ldict, data := .seq its nl, slots := lslots } := Heap.get?_push_of_some _ hol
        have hsls := F.sub_list_set
        have hslf := F.sub_list_frozenset
        have hne : (Value.type "list" == Value.type "dict") = false := by decide
        have hl1 : (s.heap.push (newSet w)).IsList l its := ⟨_, hol', rfl, nl, rfl⟩
        unfold Builtin.«set.__init__» noKeywords Builtin.Frozenset.updateFrom
        generalize hPI : pyIter = PI
        wp_walk
        subst hPI
        refine wpAny_pyIter_list hl1 ?_
        refine wpAny_bind (wpAny_runValue ?_)
        have hlS : l < s.heap.objs.size := Heap.lt_size hol
        have hh3 : A.in1.in1.in1.handled = none := by simp [hh]
        have neI : l ≠ (s.heap.push (newSet w)).objs.size := by
          rw [Heap.size_push]; exact Nat.ne_of_lt (Nat.lt_succ_of_lt hlS)
        have outI : s.heap.objs.size ∉ [(s.heap.push (newSet w)).objs.size, l] := by
          rw [Heap.size_push]; simp only [List.mem_cons, List.mem_singleton, List.not_mem_nil, or_false, not_or]
          exact ⟨Nat.ne_of_lt (Nat.lt_succ_self _), Nat.ne_of_gt hlS⟩
        have hval : ∀ (i : Nat) (v : Value), its[i]? = some v → ∃ x t, xs[i]? = some x ∧ v = .str x t := fun i v hv => by
          have hi : i < xs.length := by rw [← hsz]; exact (Array.getElem?_eq_some_iff.mp hv).1
          obtain ⟨u, hu, ru⟩ := hit.get (i := i) (x := .str xs[i]) (by rw [List.getElem?_map, List.getElem?_eq_getElem hi]; rfl)
          rw [Array.getElem?_toList, hv] at hu
          cases hu
          obtain ⟨t, rfl⟩ := ru
          exact ⟨xs[i], t, List.getElem?_eq_getElem hi, rfl⟩
        refine tx_update ((Walks.list hh3 _ l neI its).toS) s.heap.objs.size outI xs hsz hfew hval (its.size - 0) 0 _ (by omega) (Nat.zero_le _) ⟨⟨_, Heap.get?_push_size _ rfl, rfl, rfl⟩, (hl1.push _)⟩ ?hS0 ?hR
        case hS0 =>
          exact (tx_fresh (Heap.get?_push_of_some _ hS)).congr fun y => by simp
        case hR =>
          intro s' mv hS'
          obtain ⟨h', g2, d', tk', os'⟩ := s'
          have eg : g2 = s.gens := mv.gens
          have ed : d' = s.drawn := mv.drawn
          have eo : os' = s.os := mv.os
          subst eg; subst ed; subst eo
          show wpAny _ _ _ _ _ _
          refine wpAny_pure ?_
          show wpAny _ _ (ret Value.none) _ _ _
          rw [hsz] at hS'
          refine wpAny_pure ⟨rfl, h', tk', rfl, hS', fun b o e => ?_⟩
          have hb0 : b < s.heap.objs.size := Heap.lt_size e
          exact mv.heap b o (by simp only [List.mem_cons, List.mem_singleton, List.not_mem_nil, or_false, not_or]; exact ⟨Nat.ne_of_lt hb0, by rw [Heap.size_push]; exact Nat.ne_of_lt (Nat.lt_succ_of_lt hb0)⟩) (Heap.get?_push_of_some _ (Heap.get?_push_of_some _ e))
      · cases r₂ with
        | error e => exact hr₂
        | ok fl₂ =>
          cases fl₂ with
          | ret r =>
            obtain ⟨rfl, h', tk, rfl, hS', hk'⟩ := hr₂
            repeat (any_goals (first | assumption | wp_step))
            exact h _ _ hS' hk'
          | _ => exact hr₂.elim
    | _ => exact hr.elim
theorem txs_of (l : List Value) (h : ∀ v ∈ l, ∃ x tk, v = Value.str x tk) : ∃ zs : List Str, PySem.W.EachIs (fun v x => ∃ tk, v = Value.str x tk) l zs ∧ zs = l.map fun v => txOf (0, v) := by
  induction l with
  | nil => exact ⟨[], .nil, rfl⟩
  | cons v l ih =>
    obtain ⟨x, tk, rfl⟩ := h v List.mem_cons_self
    obtain ⟨zs, h1, h2⟩ := ih fun u hu => h u (List.mem_cons_of_mem _ hu)
    exact ⟨x :: zs, .cons ⟨tk, rfl⟩ h1, by rw [List.map_cons, ← h2]; rfl⟩
theorem le_rise {l : List Str} (h : l.Nodup) : Rise (l.mergeSort (PySem.W.dataLe false (fun x => PyData.str x))) := by
  have e : PySem.W.dataLe false (fun x : Str => PyData.str x) = fun a b => !ltN b a := by
    rw [show (fun x : Str => PyData.str x) = fun x => PyData.str (id x) from rfl, PySem.W.dataLe_str]
    funext a b
    unfold ltN
    rw [Bool.eq_iff_iff]
    simp [List.not_lt]
  rw [e]
  have s := List.pairwise_mergeSort (le := fun a b : Str => !ltN b a) (fun a b c h1 h2 => by
      cases z : ltN c a with
      | false => rfl
      | true =>
        exfalso
        simp only [Bool.not_eq_true'] at h1 h2
        cases q : ltN a b with
        | true => rw [ltN_trans z q] at h2; cases h2
        | false =>
          have := ltN_tri q h1
          subst this
          rw [z] at h2
          cases h2) (fun a b => by
      cases z : ltN b a with
      | false => rfl
      | true => rw [ltN_asymm z]; rfl) l
  have nd : (l.mergeSort fun a b : Str => !ltN b a).Nodup := (List.mergeSort_perm l _).nodup_iff.mpr h
  exact (s.and nd).imp fun {a b} ⟨h1, h2⟩ => by
    cases z : ltN a b with
    | true => rfl
    | false => exact absurd (ltN_tri z (by simpa using h1)) h2
open PyProof.Rows PySem.W in
theorem sorted_set_txt {a : Addr} {xs : List Str} {n : Nat} {Q : Value → Shared → Prop} (R : SetSt w s.heap a (fun y => y ∈ xs) n) (hn : n < scanBound) (hh : A.handled = none) (hu : A.units + 8 < cLine)
    (hQ : ∀ s' p (out : List Value) (c : Nat), (∀ b o, s.heap.get? b = some o → s'.heap.get? b = some o) → s'.gens = s.gens → s'.os = s.os → s.heap.objs.size ≤ p → s'.heap.get? p = some (seqObj "list" out.toArray c) → Vals ((setOf xs).map V.str) out → Q (.ref p) s') :
    wpAny (model P w) A (call (.builtin "sorted") [.ref a]) Q E s := by
  obtain ⟨ob, rows, ep, tab, ho, hex, hd, g, nd, hm, hb, hf, hr, hl⟩ := R
  refine Calls.call_function_entry kind_sorted plain_sorted entry_sorted (args_sorted1 _) ?_
  unfold Builtin.«sorted»
  refine wpAny_bind (m := checkCount "sorted" 1 1 _) (wpAny_pure ?_)
  refine wpAny_bind (collect_set (A := A.in1) hh ⟨ob, ho, hex.1, hd⟩ hf (by omega) hr hl fun s1 vs k1 hz g1 o1 pm => ?_)
  have hvl : vs.length = rows.size := by rw [pm.length_eq, List.length_map, Array.length_toList]
  have hbz : vs.length ≤ sizeLine := by rw [hvl]; exact fits_of_scanBound (by omega)
  obtain ⟨zs, ez, hzs⟩ := txs_of vs fun v hv => by
    obtain ⟨e, he, q⟩ := List.mem_map.mp (pm.mem_iff.mp hv)
    obtain ⟨x, tk, h1, _⟩ := g e he
    exact ⟨x, tk, by rw [← q]; exact h1⟩
  have pz : zs.Perm (rows.toList.map txOf) := by
    have q := pm.map fun v => txOf (0, v)
    rw [← hzs, List.map_map] at q
    exact q
  have er : ∀ h : Heap, EachIs (fun v d => ∃ as, Reads h v d as) vs (zs.map fun x => PyData.str x) := fun h => each_map (R := fun v d => ∃ as, Reads h v d as) (fun x => PyData.str x) (ez.mono fun v x ⟨tk, e⟩ => ⟨[], by rw [e]; exact .str x tk⟩)
  have al : AllAlike (zs.map fun x => PyData.str x) := AllAlike.of fun _ _ => rfl
  refine wpAny_bind (wpAny_newList ?_ hbz)
  have hoL : (s1.heap.push (seqObj "list" vs.toArray 0)).get? s1.heap.objs.size = some (seqObj "list" vs.toArray 0) := Heap.get?_push_size _ rfl
  refine wpAny_bind (wpAny_holding (wpAny_call_entry slot_list_sort ⟨_, hoL, rfl⟩ entry_list_sort (list_sort_vals (κ := dataKind (sortingHeap (s1.heap.push (seqObj "list" vs.toArray 0)) s1.heap.objs.size vs) (zs.map fun x => PyData.str x)) hoL
    (sortsAt (er _) al (.inl (Sortable.others fun _ => ⟨by simp, by simp⟩)) fun d hd => ?_) hbz ⟨_, rfl, ?_⟩) (args_list_sort _)))
  · obtain ⟨x, _, rfl⟩ := List.mem_map.mp hd
    show A.in1.in1.units + 0 < cLine
    simp only [Around.in1]
    omega
  obtain ⟨c, hc⟩ := sortedHeap_at (vs := vs) (out := (sortVals (dataKind (sortingHeap (s1.heap.push (seqObj "list" vs.toArray 0)) s1.heap.objs.size vs) (zs.map fun x => PyData.str x)) false vs vs).toArray) hoL
  have eo := sortVals_data (h' := sortingHeap (s1.heap.push (seqObj "list" vs.toArray 0)) s1.heap.objs.size vs) (enc := fun x : Str => PyData.str x) false ez (ez.mono fun v x ⟨tk, e⟩ => ⟨[], by rw [e]; exact .str x tk⟩) al
  have em : zs.mergeSort (dataLe false fun x => PyData.str x) = setOf xs := by
    refine (setOf_eq (le_rise (pz.nodup_iff.mpr nd)) fun x => ?_).symm
    rw [(List.mergeSort_perm zs _).mem_iff, pz.mem_iff, ← hm x]
  rw [em] at eo
  refine wpAny_pure ⟨_, rfl, hQ _ s1.heap.objs.size _ c (fun b u e => ?_) g1 o1 hz hc ?_⟩
  · have q := k1 b u e
    have hlt := Heap.lt_size q
    show (sortedHeap (s1.heap.push (seqObj "list" vs.toArray 0)) s1.heap.objs.size vs _).get? b = some u
    rw [sortedHeap_old (Nat.ne_of_lt hlt) (by rw [size_push']; exact Nat.lt_succ_of_lt hlt)]
    exact Heap.get?_push_of_some _ q
  · exact each_vals eo
where
  each_vals : ∀ {us : List Value} {zs : List Str}, PySem.W.EachIs (fun v x => ∃ tk, v = Value.str x tk) us zs → Vals (zs.map V.str) us
    | _, _, .nil => .nil
    | _, _, .cons ⟨tk, e⟩ t => .cons ⟨tk, e⟩ (each_vals t)
end
end Kl

set_option Elab.async false
set_option linter.all false
set_option maxRecDepth 100000
/-! sorted(set(xs)), slices, isinstance over data. -/
namespace Kl
open PySem PySem.Spec L2
def TxO (w : World) (a : Addr) (ss : List Str) : HO := .ext fun h => SetSt w h a (fun y => y ∈ ss) ss.length
theorem txO_new {w : World} {P : Program} {H : Hp} {h : Heap} {a : Addr} {ss : List Str} (R : SetSt w h a (fun y => y ∈ ss) ss.length) : ObjOk P w H h a (TxO w a ss) := by
  have ⟨o, _, _, _, ho, _⟩ := R
  exact ⟨R, ⟨o, ho⟩, fun h1 h2 p k => p.keep k⟩
section
variable {X : Cx} {ρ : En}
def rSetTx (w : World) : List V → Hp → VK → Prop := fun xs H Q => ∃ (a : Addr) (ss : List Str), xs = [.ref a] ∧ H a = some (.lst (ss.map .str)) ∧ ss.length + 1 < scanBound ∧ ∀ p, H p = none → Q (.ref p) (upd H p (TxO w p ss))
theorem cr_setTx (hc : X.calm = true) : CallR X (.type "set") (rSetTx X.w) := by
  intro pins s σ H xs us Q I r h
  obtain ⟨a, ss, rfl, ha, hf, q⟩ := h
  obtain ⟨u, rfl, ru⟩ : ∃ u, us = [u] ∧ RelV (.ref a) u := by
    cases r with
    | cons h t => cases t; exact ⟨_, rfl, h⟩
  cases ru
  obtain ⟨its, rv, hl, hz⟩ := I.list (SqL.of ha)
  refine call_set_txt ss (I.ok.hd hc) hl.isList rv hf fun h' tk R k => ?_
  exact ⟨.ref s.heap.objs.size, upd H s.heap.objs.size (TxO X.w s.heap.objs.size ss), I.laid (t' := tk) k (Nat.le_refl _) (txO_new R), rfl, q _ (I.hok.fresh (Nat.le_refl _))⟩
def rSortTx (w : World) : List V → Hp → VK → Prop := fun xs H Q => ∃ (a : Addr) (ss : List Str), xs = [.ref a] ∧ H a = some (TxO w a ss) ∧ ss.length + 1 < scanBound ∧ ∀ p, H p = none → Q (.ref p) (upd H p (.lst ((setOf ss).map .str)))
theorem setOf_len (l : List Nm) : (setOf l).length ≤ l.length := by
  unfold setOf
  induction l with
  | nil => exact Nat.le_refl _
  | cons x l ih =>
    rw [List.foldr_cons, List.length_cons]
    have : ∀ (l : List Nm), (insN x l).length ≤ l.length + 1 := fun l => by
      induction l with
      | nil => exact Nat.le_refl _
      | cons y l ih =>
        unfold insN
        split
        · exact Nat.le_succ _
        · split
          · exact Nat.le_refl _
          · rw [List.length_cons, List.length_cons]; omega
    exact Nat.le_trans (this _) (Nat.succ_le_succ ih)
theorem cr_sortTx (hc : X.calm = true) (hu : X.A.units + 64 < cLine) : CallR X (.builtin "sorted") (rSortTx X.w) := by
  intro pins s σ H xs us Q I r h
  obtain ⟨a, ss, rfl, ha, hf, q⟩ := h
  obtain ⟨u, rfl, ru⟩ : ∃ u, us = [u] ∧ RelV (.ref a) u := by
    cases r with
    | cons h t => cases t; exact ⟨_, rfl, h⟩
  cases ru
  have R : SetSt X.w s.heap a (fun y => y ∈ ss) ss.length := (I.hok a _ ha).1
  refine sorted_set_txt R (by omega) (I.ok.hd hc) (by omega) fun s' p out c k g o hp hg hv => ?_
  have hn : H p = none := I.hok.fresh hp
  have hlen : ((setOf ss).map V.str).length ≤ sizeLine := by
    rw [List.length_map]
    have h1 := setOf_len ss
    have h2 := fits_of_scanBound (n := ss.length) (by omega)
    omega
  have J : Inv X pins σ (upd H p (.lst ((setOf ss).map .str))) { s with heap := s'.heap, gens := s'.gens, drawn := s'.drawn, toks := s'.toks } :=
    I.call (ch := []) (Un.laid k hp hn) (I.hok.laid k hp ⟨hlen, out, c, hv, hg⟩) (by rw [g]; exact I.bare) (fun _ z => nomatch z)
  have e : s' = { s with heap := s'.heap, gens := s'.gens, drawn := s'.drawn, toks := s'.toks } := by
    cases s'
    cases s
    cases o
    rfl
  rw [e]
  exact ⟨.ref p, _, J, rfl, q p hn⟩
/-- sorted(set(e)) -/
theorem E1.sortedSet {e : Expr} {ss : List Nm} {p p2 pos pos2 : Pos} (h : E1 X ρ e (nmsL ss)) (hf : ss.length ≤ 4000) (hu : X.A.units + 64 < cLine) (m1 : X.mg "sorted" = none) (m2 : X.mg "set" = none) (hc : X.calm = true := by rfl) (g1 : Gl X "sorted" := by rfl) (g2 : Gl X "set" := by rfl)
    (he : starEach [.Call (.Name "set" p2) [e] [] pos2] X.env = (false, eval (.Call (.Name "set" p2) [e] [] pos2) X.env) :: starEach [] X.env := by rfl) (he2 : starEach [e] X.env = (false, eval e X.env) :: starEach [] X.env := by rfl) (hpl : (backTo pos (starEach [] X.env)).any (·.1) = false := by rfl) (hpl2 : (backTo pos2 (starEach [] X.env)).any (·.1) = false := by rfl) :
    E1 X ρ (.Call (.Name "sorted" p) [.Call (.Name "set" p2) [e] [] pos2] [] pos) (nmsL (setOf ss)) := by
  refine pe_imp (pe_callB (cr_sortTx hc hu) g1 m1 bt_sorted (pa_cons (pe_callTy (cr_setTx hc) g2 m2 bt_set (pa_cons h pa_nil he2) (he := he2) (hpl := hpl2)) pa_nil he) (he := he) (hpl := hpl)) fun σ H Q ⟨G, L, bx, x, hb, q⟩ => ?_
  refine ⟨G, L, bx, x, hb, fun v H1 d s p w => ?_⟩
  subst p
  obtain ⟨a, vs, rfl, h1, h2⟩ := w.list
  rw [dpa_strs h2] at h1
  have hb' : ss.length + 1 < scanBound := by
    have : scanBound = 4096 := rfl
    omega
  refine ⟨a, ss, rfl, (mask_at h1).2, hb', fun p1 n1 => ⟨p1, ss, rfl, upd_same, hb', fun p2 n2 => ?_⟩⟩
  have x1 := x.step s
  have sm1 : Same H1 (upd H1 p1 (TxO X.w p1 ss)) := same_upd n1
  have s2 := Stp.andSame x1 s sm1
  have x2 := x.step s2
  exact q _ _ _ (Stp.andSame x2 s2 (same_upd n2)) rfl (Dv.newL x2.alM n2 (dpa_ofStrs _))
/-! ### slices -/
theorem E1.sliceQ {e : Expr} {pos p2 : Pos} {dd : D} {ds : List D} {i j : Option Int} {lo? hi? : Option Expr} (h : E1 X ρ e dd) (hq : ∀ (M : Hp) (v : V), Dv X.K M v dd → ∃ a vs, v = .ref a ∧ SqL X.K M a vs ∧ DqAll X.K M vs ds) (hl : (lo? = none ∧ i = none) ∨ ∃ (le : Expr) (k : Int), lo? = some le ∧ i = some k ∧ E1 X ρ le (.int k)) (hh : (hi? = none ∧ j = none) ∨ ∃ (he : Expr) (k : Int), hi? = some he ∧ j = some k ∧ E1 X ρ he (.int k)) :
    E1 X ρ (.Subscript e (.Slice lo? hi? none p2) pos) (.list ((ds.drop (HT.sIx ds.length 0 i)).take (HT.sIx ds.length ds.length j - HT.sIx ds.length 0 i))) := by
  have hlo : PO X lo? (fun σ H Q => ∃ G L bx, Ctx X.K G L bx σ H ρ ∧ BxOk bx 0 ∧ ∀ o H', Stp [] bx 0 H H' → o = i → Q o H') := by
    rcases hl with ⟨rfl, rfl⟩ | ⟨le, k, rfl, rfl, hk⟩
    · refine ⟨fun pins s σ H Q I h => ?_⟩
      obtain ⟨G, L, bx, x, hb, q⟩ := h
      exact (po_none (X := X)).run pins s σ H Q I (q none H (Stp.refl x) rfl)
    · refine ⟨fun pins s σ H Q I h => ?_⟩
      obtain ⟨G, L, bx, x, hb, q⟩ := h
      exact (po_some hk).run pins s σ H Q I ⟨G, L, bx, x, hb, fun v H1 d s p w => by subst p; exact ⟨k, w.int, q _ H1 s rfl⟩⟩
  have hhi : PO X hi? (fun σ H Q => ∃ G L bx, Ctx X.K G L bx σ H ρ ∧ BxOk bx 0 ∧ ∀ o H', Stp [] bx 0 H H' → o = j → Q o H') := by
    rcases hh with ⟨rfl, rfl⟩ | ⟨le, k, rfl, rfl, hk⟩
    · refine ⟨fun pins s σ H Q I h => ?_⟩
      obtain ⟨G, L, bx, x, hb, q⟩ := h
      exact (po_none (X := X)).run pins s σ H Q I (q none H (Stp.refl x) rfl)
    · refine ⟨fun pins s σ H Q I h => ?_⟩
      obtain ⟨G, L, bx, x, hb, q⟩ := h
      exact (po_some hk).run pins s σ H Q I ⟨G, L, bx, x, hb, fun v H1 d s p w => by subst p; exact ⟨k, w.int, q _ H1 s rfl⟩⟩
  refine pe_imp (pe_slice sl_list h hlo hhi) fun σ H Q ⟨G, L, bx, x, hb, q⟩ => ⟨G, L, bx, x, hb, fun v H1 d s p w => ?_⟩
  subst p
  have x1 := x.step s
  refine ⟨G, L, bx.add 0, x1, bx0 hb, fun o H2 s2 e2 => ⟨G, L, (bx.add 0).add 0, x1.step s2, bx0 (bx0 hb), fun o' H3 s3 e3 => ?_⟩⟩
  subst e2 e3
  have x2 := x1.step s2
  have sm := (s2.mask x1.bM).trans (s3.mask x2.bM)
  obtain ⟨a, vs, rfl, h1, h2⟩ := hq _ v (w.mono sm)
  refine ⟨a, vs, rfl, sqL_mono (mask_same _ _) h1, fun p np => ?_⟩
  have st := (s.trans s2).trans (by rw [← Bx.add_add]; exact s3)
  have x3 := x.step st
  refine q _ _ _ (Stp.andSame x3 st (same_upd np)) rfl ?_
  unfold cutV
  rw [dpa_len h2]
  exact Dv.newL x3.alM np (dpa_take _ (dpa_drop _ h2))
theorem Ev.slice {e : Expr} {pos p2 : Pos} {ds : List D} {i j : Option Int} {lo? hi? : Option Expr} (h : E1 X ρ e (.list ds)) (hl : (lo? = none ∧ i = none) ∨ ∃ (le : Expr) (k : Int), lo? = some le ∧ i = some k ∧ E1 X ρ le (.int k)) (hh : (hi? = none ∧ j = none) ∨ ∃ (he : Expr) (k : Int), hi? = some he ∧ j = some k ∧ E1 X ρ he (.int k)) :
    E1 X ρ (.Subscript e (.Slice lo? hi? none p2) pos) (.list ((ds.drop (HT.sIx ds.length 0 i)).take (HT.sIx ds.length ds.length j - HT.sIx ds.length 0 i))) :=
  E1.sliceQ h (fun M v w => by obtain ⟨a, vs, e, h1, h2⟩ := w.list; exact ⟨a, vs, e, SqL.of h1, h2⟩) hl hh
theorem E1.sliceScr {e : Expr} {pos p2 : Pos} {ns : List Int} {i j : Option Int} {lo? hi? : Option Expr} (h : E1 X ρ e (scrD ns)) (hl : (lo? = none ∧ i = none) ∨ ∃ (le : Expr) (k : Int), lo? = some le ∧ i = some k ∧ E1 X ρ le (.int k)) (hh : (hi? = none ∧ j = none) ∨ ∃ (he : Expr) (k : Int), hi? = some he ∧ j = some k ∧ E1 X ρ he (.int k)) :
    E1 X ρ (.Subscript e (.Slice lo? hi? none p2) pos) (.list (((ns.map PyData.int).drop (HT.sIx (ns.map PyData.int).length 0 i)).take (HT.sIx (ns.map PyData.int).length (ns.map PyData.int).length j - HT.sIx (ns.map PyData.int).length 0 i))) :=
  E1.sliceQ h (fun M v w => by obtain ⟨a, e, h1⟩ := w.script; exact ⟨a, _, e, h1, dpa_ofInts ns⟩) hl hh
end
end Kl

set_option Elab.async false
set_option linter.all false
set_option maxRecDepth 100000
/-! zip of a tuple and a list, enumerate of a tuple, over data. -/
namespace Kl
open PySem PySem.Spec L2
section
variable {P : Program} {w : World} {K : PySem.W.Frag} {elts : List Expr} {kk : Nat} {tpos : Pos}
/-- a tuple of two, given out anew, as a turn -/
theorem turn_pair {J : It} {it : Addr} {fp : List Addr} {tn : Nat → Heap → Prop} (mem : it ∈ fp) (obj : ∀ i h, tn i h → ∀ b ∈ fp, ∃ o, h.get? b = some o ∧ ∀ v, o.data ≠ .cell v)
    (keep : ∀ i h h', tn i h → (∀ b ∈ fp, ∀ o, h.get? b = some o → h'.get? b = some o) → tn i h')
    (step : ∀ (X : Cx), X.prog = P → X.w = w → X.K = K → X.calm = true → ∀ (i : Nat) (pins : List (Addr × Obj)) (s : Shared) (σ : L2.St) (H : Hp), Inv X pins σ H s → tn i s.heap → J.go i H →
      ∃ (n : Nat) (Y : Nat → Heap → Value → Heap → Prop) (St : Nat → Heap → Prop) (fp' wr : List Addr), GoesN P w X.A (.Tuple elts kk tpos) it fp' wr n Y St ∧ i < n ∧ St i s.heap ∧ (∀ b ∈ wr, b ∈ fp) ∧
        ∀ v h', Y i s.heap v h' → St (i + 1) h' → ∃ (T : Addr) (x y : V) (u u2 : Value), v = .ref T ∧ s.heap.objs.size ≤ T ∧ RelV x u ∧ RelV y u2 ∧ h'.IsTuple T #[u, u2] ∧ J.yld i H (.ref T) (upd H T (.tup [x, y])) ∧ tn (i + 1) h')
    (last : ∀ (X : Cx), X.prog = P → X.w = w → X.K = K → X.calm = true → ∀ (i : Nat) (pins : List (Addr × Obj)) (s : Shared) (σ : L2.St) (H : Hp), Inv X pins σ H s → tn i s.heap → J.stop i H →
      ∃ (n : Nat) (Y : Nat → Heap → Value → Heap → Prop) (St : Nat → Heap → Prop) (fp' wr : List Addr), GoesN P w X.A (.Tuple elts kk tpos) it fp' wr n Y St ∧ St n s.heap ∧ (∀ b ∈ wr, b ∈ fp))
    (self : ∀ (A : Around) (i : Nat) (s : Shared) (Q : Value → Shared → Prop) (E : Value → Shared → Prop), tn i s.heap → Q (.ref it) s → wpAny (model P w) A (pyIter (.ref it)) Q E s) : Turn P w K (.Tuple elts kk tpos) J fp it tn where
  mem := mem
  obj := obj
  keep := keep
  item := by
    intro X hP hw hK hc i pins s σ H E I hf st hg
    obtain ⟨n, Y, St, fp', wr, W, hi, hst, hwr, out⟩ := step X hP hw hK hc i pins s σ H I st hg
    refine W.goes i s _ E hi hst fun v h' tk hY hst' hk htk => ?_
    obtain ⟨T, x, y, u, u2, rfl, hT, r1, r2, ht, hy, st'⟩ := out v h' hY hst'
    subst hP hw hK
    have new : ObjOk X.prog X.w (upd H T (.tup [x, y])) h' T (.tup [x, y]) := ⟨by show 2 ≤ sizeLine; decide, [u, u2], .cons r1 (.cons r2 .nil), ht⟩
    have I1 : Inv X pins σ (upd H T (.tup [x, y])) { s with heap := h', toks := tk } := I.turnedNew (ch := fp) (fun c o hb q => hk c o (fun z => hb (hwr c z)) q) hf hT new
    refine ⟨.ref T, _, I1, rfl, hy, st', fun b hb => ?_⟩
    have hlt : b < s.heap.objs.size := by
      obtain ⟨o, e, _⟩ := obj i _ st b hb
      exact Heap.lt_size e
    rw [upd_ne (Nat.ne_of_lt (Nat.lt_of_lt_of_le hlt hT))]
    exact (hf b hb).1
  done := by
    intro X hP hw hK hc i pins s σ H E I hf st hg
    obtain ⟨n, Y, St, fp', wr, W, hst, hwr⟩ := last X hP hw hK hc i pins s σ H I st hg
    refine W.stops s _ E hst fun h' tk hk htk => ?_
    subst hP hw hK
    exact I.turnedL (ch := fp) (fun c o hb q => hk c o (fun z => hb (hwr c z)) q) hf
  self := self
/-- the tuple at a and the list at b, item by item -/
def ItzM (K : PySem.W.Frag) (a b : Addr) : It :=
  ⟨fun i H => ∃ (xs ys : List V) (x y : V), SqT K H a xs ∧ SqL K H b ys ∧ xs[i]? = some x ∧ ys[i]? = some y,
    fun i H v H' => ∃ T x y, v = .ref T ∧ H T = none ∧ H' = upd H T (.tup [x, y]) ∧ (∀ xs, SqT K H a xs → xs[i]? = some x) ∧ ∀ ys, SqL K H b ys → ys[i]? = some y,
    fun i H => ∃ xs ys : List V, SqT K H a xs ∧ SqL K H b ys ∧ i = min xs.length ys.length⟩
def tnM (z TI TO i1 i2 a b : Addr) : Nat → Heap → Prop := fun i h => IsZip h z TI TO .none ∧ IsTupOf2 h TI (.ref i1) (.ref i2) ∧ (∃ a1 a2, IsTupOf2 h TO a1 a2) ∧ h.IsTupleIter i1 a i ∧ h.IsListIter i2 b i
theorem turn_zipM {a b z TI TO i1 i2 : Addr} (S : ZipSep2 z TI TO i1 i2 [i1, a] [i2, b]) (ne1 : a ≠ i1) (ne2 : b ≠ i2) : Turn P w K (.Tuple elts kk tpos) (ItzM K a b) [z, TI, TO, i1, i2] z (tnM z TI TO i1 i2 a b) := by
  have wrs : ∀ b ∈ [z, TO, i1, i2], b ∈ [z, TI, TO, i1, i2] := fun b hb => by
    simp only [List.mem_cons, List.not_mem_nil, or_false] at hb ⊢
    rcases hb with h | h | h | h
    · exact .inl h
    · exact .inr (.inr (.inl h))
    · exact .inr (.inr (.inr (.inl h)))
    · exact .inr (.inr (.inr (.inr h)))
  refine turn_pair (by simp) (fun i h st c hc => ?_) (fun i h h' st k => ?_) (fun X hP hw hK hcm i pins s σ H I st hg => ?_) (fun X hP hw hK hcm i pins s σ H I st hg => ?_) (fun A i s Q E st h => wpAny_pyIter_zip st.1 h)
  · obtain ⟨hz, hTI, ⟨x, y, hTO⟩, ⟨o1, e1, _, d1⟩, ⟨o2, e2, _, d2⟩⟩ := st
    simp only [List.mem_cons, List.not_mem_nil, or_false] at hc
    rcases hc with q | q | q | q | q
    · rw [q]; exact ⟨_, hz, fun v q => nomatch q⟩
    · rw [q]; exact ⟨_, hTI, fun v q => nomatch q⟩
    · rw [q]; exact ⟨_, hTO, fun v q => nomatch q⟩
    · rw [q]; exact ⟨o1, e1, fun v q => by rw [d1] at q; cases q⟩
    · rw [q]; exact ⟨o2, e2, fun v q => by rw [d2] at q; cases q⟩
  · obtain ⟨hz, hTI, ⟨x, y, hTO⟩, h1, h2⟩ := st
    exact ⟨k z (by simp) _ hz, k TI (by simp) _ hTI, ⟨x, y, k TO (by simp) _ hTO⟩, h1.at fun o q => k i1 (by simp) o q, h2.at fun o q => k i2 (by simp) o q⟩
  · subst hP hw hK
    obtain ⟨xs, ys, x, y, qx, qy, hx, hy⟩ := hg
    obtain ⟨its, rv, p, _⟩ := I.tuple qx
    obtain ⟨its2, rv2, p2, _⟩ := I.list qy
    obtain ⟨u, hu, ru⟩ := rv.get hx
    obtain ⟨u2, hu2, ru2⟩ := rv2.get hy
    have l1 : i < its.length := by
      rcases Nat.lt_or_ge i its.length with h | h
      · exact h
      · rw [List.getElem?_eq_none h] at hu; cases hu
    have l2 : i < its2.length := by
      rcases Nat.lt_or_ge i its2.length with h | h
      · exact h
      · rw [List.getElem?_eq_none h] at hu2; cases hu2
    have hh : X.A.in1.handled = none := I.ok.hd hcm
    have pT : s.heap.IsTuple a its.toArray := p
    have pL : s.heap.IsList b its2.toArray := p2.isList
    obtain ⟨st1, st2, st3, st4, st5⟩ := st
    refine ⟨_, _, _, _, _, GoesN.zip2 S (Draws.tuple hh i1 a ne1 its.toArray) (Draws.list hh i2 b ne2 its2.toArray), ?_, ⟨st1, st2, st3, ⟨st4, pT⟩, st5, pL⟩, wrs, ?_⟩
    · simp only [List.size_toArray]; omega
    · rintro v h' ⟨T, x', y', rfl, hT, e1, e2, ht⟩ ⟨t1, t2, t3, t4, t5⟩
      have e1 : its[i]? = some x' := by simpa using e1
      have e2 : its2[i]? = some y' := by simpa using e2
      rw [hu] at e1
      rw [hu2] at e2
      cases e1
      cases e2
      exact ⟨T, x, y, u, u2, rfl, hT, ru, ru2, ht, ⟨T, x, y, rfl, I.hok.fresh hT, rfl, fun l hl => by rw [I.tuple_inj hl qx]; exact hx, fun l hl => by rw [I.list_inj hl qy]; exact hy⟩, t1, t2, t3, t4.1, t5.1⟩
  · subst hP hw hK
    obtain ⟨xs, ys, qx, qy, hi⟩ := hg
    obtain ⟨its, rv, p, _⟩ := I.tuple qx
    obtain ⟨its2, rv2, p2, _⟩ := I.list qy
    have hh : X.A.in1.handled = none := I.ok.hd hcm
    have pT : s.heap.IsTuple a its.toArray := p
    have pL : s.heap.IsList b its2.toArray := p2.isList
    have l1 := rv.length
    have l2 := rv2.length
    have e : min its.toArray.size its2.toArray.size = i := by simp only [List.size_toArray]; omega
    subst e
    obtain ⟨st1, st2, st3, st4, st5⟩ := st
    exact ⟨_, _, _, _, _, GoesN.zip2 S (Draws.tuple hh i1 a ne1 its.toArray) (Draws.list hh i2 b ne2 its2.toArray), ⟨st1, st2, st3, ⟨st4, pT⟩, st5, pL⟩, wrs⟩
end
end Kl

set_option Elab.async false
set_option linter.all false
set_option maxRecDepth 100000
/-! zip over data. -/
namespace Kl
open PySem PySem.Spec L2
def iZipM (K : PySem.W.Frag) (ta : TA) : TI := fun σ H R => ta σ H fun vs H1 => ∃ a b xs ys, vs = [.ref a, .ref b] ∧ SqT K H1 a xs ∧ SqL K H1 b ys ∧ R (ItzM K a b) H1
open PyProof.Rows in
theorem pi_zipM {X : Cx} {e e2 : Expr} {ta : TA} {p pos tpos : Pos} {elts : List Expr} {kk : Nat} (hg : Gl X "zip") (hm : X.mg "zip" = none) (ha : PA X [e, e2] ta)
    (hs : starEach [e, e2] X.env = (false, eval e X.env) :: starEach [e2] X.env := by rfl) (hpl : (backTo pos (starEach [e2] X.env)).any (·.1) = false := by rfl) :
    PI X (.Tuple elts kk tpos) (.Call (.Name "zip" p) [e, e2] [] pos) (iZipM X.K ta) := by
  refine ⟨fun pins s σ H R I h => ?_⟩
  refine Call_ (ld_blt I hg hm PyProof.Rows.boot_zip (PyProof.Rows.callWith_type1 (thn (ha.run pos pins s σ H _ I h) fun us s1 ⟨vs, H1, I1, r1, q1⟩ => ?_) hs hpl))
  obtain ⟨a, b, xs, ys, ex, hqx, hqy, q⟩ := q1
  subst ex
  cases r1 with
  | cons r rr =>
    cases rr with
    | cons r' rr =>
      cases rr
      cases r
      cases r'
      obtain ⟨its, rv, p1, _⟩ := I1.tuple hqx
      obtain ⟨its2, rv2, p2, _⟩ := I1.list hqy
      have pT : s1.heap.IsTuple a its.toArray := p1
      have pL : s1.heap.IsList b its2.toArray := p2.isList
      obtain ⟨o1, ho1, _⟩ := id pT
      obtain ⟨o2, ho2, _⟩ := id pL
      have la : a < s1.heap.objs.size := Heap.lt_size ho1
      have lb : b < s1.heap.objs.size := Heap.lt_size ho2
      refine zip_begins2 (begins_tuple a its.toArray) (begins_list b its2.toArray) pT pL fun h' hz hTI hTO h1 h2 hsz hk => wpAny_pyIter_zip hz ?_
      have I2 : Inv X pins σ H1 { s1 with heap := h' } := I1.kept (t' := s1.toks) hk
      refine ⟨s1.heap.objs.size + 4, [s1.heap.objs.size + 4, s1.heap.objs.size + 2, s1.heap.objs.size + 3, s1.heap.objs.size, s1.heap.objs.size + 1], _, _, H1, rfl, I2, turn_zipM (zip_sep2 (fp1 := [a]) (fp2 := [b]) (by simpa using la) (by simpa using lb)) ?_ ?_, ⟨hz, hTI, ⟨_, _, hTO⟩, ⟨_, h1, rfl, rfl⟩, ⟨_, h2, rfl, rfl⟩⟩, ?_, q⟩
      · exact Nat.ne_of_lt la
      · exact Nat.ne_of_lt (Nat.lt_succ_of_lt lb)
      · intro c hcm
        have hle : s1.heap.objs.size ≤ c := by
          have e' : c = s1.heap.objs.size + 4 ∨ c = s1.heap.objs.size + 2 ∨ c = s1.heap.objs.size + 3 ∨ c = s1.heap.objs.size ∨ c = s1.heap.objs.size + 1 := by simpa using hcm
          rcases e' with z | z | z | z | z
          · rw [z]; exact Nat.le_add_right _ _
          · rw [z]; exact Nat.le_add_right _ _
          · rw [z]; exact Nat.le_add_right _ _
          · rw [z]; exact Nat.le_refl _
          · rw [z]; exact Nat.le_add_right _ _
        exact I1.fpOk hle (I1.hok.fresh hle)

/-! ### over data -/
def zipD (ds es : List D) : List D := List.zipWith (fun d e => PyData.tuple [d, e]) ds es
theorem zipD_get {ds es : List D} {i : Nat} {d e : D} (h1 : ds[i]? = some d) (h2 : es[i]? = some e) : (zipD ds es)[i]? = some (.tuple [d, e]) := by
  unfold zipD
  rw [List.getElem?_zipWith, h1, h2]
theorem zipD_len (ds es : List D) : (zipD ds es).length = min ds.length es.length := by
  unfold zipD
  exact List.length_zipWith
/-- new pairs of two rows -/
theorem walkD_pair {K : PySem.W.Frag} {J : It} {M : Hp} {n : Nat} {G : Hp → Prop} {xs ys : List V} {ds es : List D} (w : Walk J n G (YPair (fun i => xs[i]?) (fun i => ys[i]?))) (hG : ∀ H, Same M H → G H) (hn : n = min ds.length es.length) (h1 : DqAll K M xs ds) (h2 : DqAll K M ys es) (hh : ∀ d e, PyData.tuple [d, e] ∈ zipD ds es → isHold [d, e] = false) : WalkD K J M (zipD ds es) := by
  refine ⟨fun i H hi s => w.goes i H (by rw [zipD_len] at hi; omega) (hG H s), fun H s => by rw [zipD_len, ← hn]; exact w.stops H (hG H s), fun i H x H' hi s y => ?_⟩
  obtain ⟨T, v, u, rfl, hT, rfl, e1, e2⟩ := w.yields i H x H' (by rw [zipD_len] at hi; omega) (hG H s) y
  refine ⟨same_upd hT, fun G' al s' => ?_⟩
  obtain ⟨d, hd, w1⟩ := dpa_getV h1 e1
  obtain ⟨e, he, w2⟩ := dpa_getV h2 e2
  exact ⟨_, zipD_get hd he, Dv.newT al hT (.cons (dp_mono s' _ _ w1) (.cons (dp_mono s' _ _ w2) .nil)) (hh _ _ (List.mem_of_getElem? (zipD_get hd he)))⟩
theorem walk_zipM {K : PySem.W.Frag} {a b : Addr} {xs ys : List V} {n : Nat} (hn : n = min xs.length ys.length) : Walk (ItzM K a b) n (fun H => SqT K H a xs ∧ SqL K H b ys) (YPair (fun i => xs[i]?) (fun i => ys[i]?)) := by
  subst hn
  refine ⟨fun i _ hi q => ?_, fun _ q => ⟨xs, ys, q.1, q.2, rfl⟩, fun i H v H' _ q y => ?_⟩
  · have h1 : i < xs.length := by omega
    have h2 : i < ys.length := by omega
    exact ⟨xs, ys, xs[i], ys[i], q.1, q.2, by simp [h1], by simp [h2]⟩
  · obtain ⟨T, x, z, h1, h2, h3, h4, h5⟩ := y
    exact ⟨T, x, z, h1, h2, h3, h4 xs q.1, h5 ys q.2⟩
theorem walk_zipT {K : PySem.W.Frag} {a b : Addr} {xs ys : List V} {n : Nat} (hn : n = min xs.length ys.length) : Walk (RZ.ItzT K a b) n (fun H => SqT K H a xs ∧ SqT K H b ys) (YPair (fun i => xs[i]?) (fun i => ys[i]?)) := by
  subst hn
  refine ⟨fun i _ hi q => ?_, fun _ q => ⟨xs, ys, q.1, q.2, by omega⟩, fun i H v H' _ q y => ?_⟩
  · have h1 : i < xs.length := by omega
    have h2 : i < ys.length := by omega
    exact ⟨xs, ys, xs[i], ys[i], q.1, q.2, by simp [h1], by simp [h2]⟩
  · obtain ⟨T, x, z, h1, h2, h3, h4, h5⟩ := y
    exact ⟨T, x, z, h1, h2, h3, h4 xs q.1, h5 ys q.2⟩
section
variable {X : Cx} {ρ : En} {e e2 : Expr} {ds es : List D} {p pos tpos : Pos} {elts : List Expr} {kk : Nat}
theorem paired2 {α β : Type} {R : α → β → Prop} {xs : List α} {a b : β} (h : Paired R xs [a, b]) : ∃ x y, xs = [x, y] ∧ R x a ∧ R y b := by
  cases h with
  | cons h1 h =>
    cases h with
    | cons h2 h =>
      cases h
      exact ⟨_, _, rfl, h1, h2⟩
theorem I1.zipTT (h1 : E1 X ρ e (.tuple ds)) (h2 : E1 X ρ e2 (.tuple es)) (hh : ∀ d e, PyData.tuple [d, e] ∈ zipD ds es → isHold [d, e] = false) (hm : X.mg "zip" = none) (hg : Gl X "zip" := by rfl) (hs : starEach [e, e2] X.env = (false, eval e X.env) :: starEach [e2] X.env := by rfl) (hs2 : starEach [e2] X.env = (false, eval e2 X.env) :: starEach [] X.env := by rfl) (hpl : (backTo pos (starEach [e2] X.env)).any (·.1) = false := by rfl) :
    I1 X ρ (.Tuple elts kk tpos) (.Call (.Name "zip" p) [e, e2] [] pos) (zipD ds es) :=
  pi_imp (RZ.pi_zipA hg hm (A1.cons h1 (A1.cons h2 A1.nil hs2) hs) hs hpl) fun σ H R ⟨G, L, bx, x, hb, q⟩ => ⟨G, L, bx, x, hb, fun vs H1 ds' s ep w => by
    subst ep
    obtain ⟨x1, x2, rfl, w1, w2⟩ := paired2 w
    obtain ⟨a, xs, rfl, w1, d1⟩ := w1.tuple
    obtain ⟨b, ys, rfl, w2, d2⟩ := w2.tuple
    refine ⟨a, b, xs, ys, rfl, .inr ⟨w1.out.sq, w2.out.sq, q _ H1 _ s rfl (walkD_pair (walk_zipT rfl) (fun H sm => ⟨(w1.mono sm).sq, (w2.mono sm).sq⟩) ?_ d1 d2 hh)⟩⟩
    rw [dpa_len d1, dpa_len d2]⟩
theorem I1.zipLL (h1 : E1 X ρ e (.list ds)) (h2 : E1 X ρ e2 (.list es)) (hh : ∀ d e, PyData.tuple [d, e] ∈ zipD ds es → isHold [d, e] = false) (hm : X.mg "zip" = none) (hg : Gl X "zip" := by rfl) (hs : starEach [e, e2] X.env = (false, eval e X.env) :: starEach [e2] X.env := by rfl) (hs2 : starEach [e2] X.env = (false, eval e2 X.env) :: starEach [] X.env := by rfl) (hpl : (backTo pos (starEach [e2] X.env)).any (·.1) = false := by rfl) :
    I1 X ρ (.Tuple elts kk tpos) (.Call (.Name "zip" p) [e, e2] [] pos) (zipD ds es) :=
  pi_imp (RZ.pi_zipA hg hm (A1.cons h1 (A1.cons h2 A1.nil hs2) hs) hs hpl) fun σ H R ⟨G, L, bx, x, hb, q⟩ => ⟨G, L, bx, x, hb, fun vs H1 ds' s ep w => by
    subst ep
    obtain ⟨x1, x2, rfl, w1, w2⟩ := paired2 w
    obtain ⟨a, xs, rfl, w1, d1⟩ := w1.list
    obtain ⟨b, ys, rfl, w2, d2⟩ := w2.list
    refine ⟨a, b, xs, ys, rfl, .inl ⟨SqL.of (mask_at w1).2, SqL.of (mask_at w2).2, q _ H1 _ s rfl (walkD_pair (walk_zip rfl) (fun H sm => ⟨SqL.of (sm _ _ w1), SqL.of (sm _ _ w2)⟩) ?_ d1 d2 hh)⟩⟩
    rw [dpa_len d1, dpa_len d2]⟩
theorem I1.zipTL (h1 : E1 X ρ e (.tuple ds)) (h2 : E1 X ρ e2 (.list es)) (hh : ∀ d e, PyData.tuple [d, e] ∈ zipD ds es → isHold [d, e] = false) (hm : X.mg "zip" = none) (hg : Gl X "zip" := by rfl) (hs : starEach [e, e2] X.env = (false, eval e X.env) :: starEach [e2] X.env := by rfl) (hs2 : starEach [e2] X.env = (false, eval e2 X.env) :: starEach [] X.env := by rfl) (hpl : (backTo pos (starEach [e2] X.env)).any (·.1) = false := by rfl) :
    I1 X ρ (.Tuple elts kk tpos) (.Call (.Name "zip" p) [e, e2] [] pos) (zipD ds es) :=
  pi_imp (pi_zipM hg hm (A1.cons h1 (A1.cons h2 A1.nil hs2) hs) hs hpl) fun σ H R ⟨G, L, bx, x, hb, q⟩ => ⟨G, L, bx, x, hb, fun vs H1 ds' s ep w => by
    subst ep
    obtain ⟨x1, x2, rfl, w1, w2⟩ := paired2 w
    obtain ⟨a, xs, rfl, w1, d1⟩ := w1.tuple
    obtain ⟨b, ys, rfl, w2, d2⟩ := w2.list
    refine ⟨a, b, xs, ys, rfl, w1.out.sq, SqL.of (mask_at w2).2, q _ H1 _ s rfl (walkD_pair (walk_zipM rfl) (fun H sm => ⟨(w1.mono sm).sq, SqL.of (sm _ _ w2)⟩) ?_ d1 d2 hh)⟩
    rw [dpa_len d1, dpa_len d2]⟩
end
end Kl

set_option Elab.async false
set_option linter.all false
set_option maxRecDepth 100000
/-! enumerate over data. -/
namespace Kl
open PySem PySem.Spec L2
set_option maxHeartbeats 1000000 in
/-- enumerate(v) makes two things: what iter(v) is, and itself -/
theorem enum1_made {v : Value} {o : Obj} {B : Heap → Prop} (b : Begins v o B) :
    Meets (Builtin.«enumerate.__new__» ⟨[.type "enumerate", v], []⟩) (fun _ R s => B s.heap ∧
      R (.ok (.ret (.ref (s.heap.push o).objs.size)))
        { s with heap := Heap.push (s.heap.push o) { cls := .type "enumerate", data := .fields #[.none, .bool false, .ref s.heap.objs.size, rawInt 0, .none, .none] } }) :=
  .of_wp fun prog w A R s ⟨h1, h⟩ => by
    obtain ⟨hp, g, d, tk, os⟩ := s
    have hsub := sub_enumerate
    have go : ∀ {A' : Around} {E Q : Value → Shared → Prop}, Q (.ref hp.objs.size) ⟨hp.push o, g, d, tk, os⟩ → wpAny (model prog w) A' (pyIter v) Q E ⟨hp, g, d, tk, os⟩ :=
      fun z => b.iter prog w _ _ ⟨hp, g, d, tk, os⟩ _ h1 z
    wp_walk using go
    refine wpAny_stack_any fun st => wpAny_pure ?_
    split
    · rename_i c _ _ _ _ _
      cases (c == Value.type "enumerate") <;> (wp_walk using go; exact ⟨_, rfl, h⟩)
    · wp_walk using go; exact ⟨_, rfl, h⟩
theorem enum1_call {prog : Program} {w : World} {A : Around} {E Q : Value → Shared → Prop} {s : Shared} {v : Value} {o : Obj} {B : Heap → Prop} (b : Begins v o B) (h1 : B s.heap)
    (h : ∀ h', IsEnum h' (s.heap.objs.size + 1) s.heap.objs.size 0 .none → h'.get? s.heap.objs.size = some o → (∀ c u, s.heap.get? c = some u → h'.get? c = some u) → Q (.ref (s.heap.objs.size + 1)) { s with heap := h' }) :
    wpAny (model prog w) A (call (.type "enumerate") [v]) Q E s := by
  refine callType_new F.called_enumerate (by decide) (F.typeCall_enumerate_1 _) (F.newCall_enumerate_1 _) (fun obj => F.args_object_init_2 obj _) F.entry_enumerate_new (enum1_made b) ⟨h1, ?_⟩
  have hz : (s.heap.push o).objs.size = s.heap.objs.size + 1 := Heap.size_push ..
  have he := Heap.get?_push_size (s.heap.push o) (o := { cls := .type "enumerate", data := .fields #[.none, .bool false, .ref s.heap.objs.size, rawInt 0, .none, .none] }) rfl
  rw [hz] at he
  show _ ∧ _
  rw [hz]
  exact ⟨⟨_, he, rfl⟩, h _ he (Heap.get?_push_of_some _ (Heap.get?_push_size _ b.free)) fun c u x => Heap.get?_push_of_some _ (Heap.get?_push_of_some _ x)⟩
/-- the tuple at a with its places -/
def IteT (K : PySem.W.Frag) (a : Addr) : It :=
  ⟨fun i H => ∃ (xs : List V) (x : V), SqT K H a xs ∧ xs[i]? = some x,
    fun i H v H' => ∃ T x, v = .ref T ∧ H T = none ∧ H' = upd H T (.tup [.int (i : Nat), x]) ∧ ∀ xs, SqT K H a xs → xs[i]? = some x,
    fun i H => ∃ xs : List V, SqT K H a xs ∧ i = xs.length⟩
section
variable {P : Program} {w : World} {K : PySem.W.Frag} {elts : List Expr} {kk : Nat} {tpos : Pos}
theorem turn_enumT {a e it : Addr} (h1 : e ≠ it) (h2 : e ≠ a) (h3 : a ≠ it) : Turn P w K (.Tuple elts kk tpos) (IteT K a) [e, it] e (fun i h => (∃ old, IsEnum h e it (0 + (i : Int)) old) ∧ h.IsTupleIter it a i) := by
  have G := fun (A : Around) (hh : A.in1.handled = none) (vs : Array Value) => GoesN.enumFrom (prog := P) (w := w) (elts := elts) (x1 := kk) (pos := tpos) 0 (Draws.tuple hh it a h3 vs) e h1 (by simp; exact ⟨h1, h2⟩) (by simp)
  refine turn_pair (by simp) (fun i h st c hc => ?_) (fun i h h' st k => ?_) (fun X hP hw hK hcm i pins s σ H I st hg => ?_) (fun X hP hw hK hcm i pins s σ H I st hg => ?_) (fun A i s Q E st h => let ⟨⟨_, he⟩, _⟩ := st; wpAny_pyIter_enum he h)
  · obtain ⟨⟨old, he⟩, ⟨o2, e2, _, d2⟩⟩ := st
    simp only [List.mem_cons, List.not_mem_nil, or_false] at hc
    rcases hc with q | q
    · rw [q]; exact ⟨_, he, fun v q => nomatch q⟩
    · rw [q]; exact ⟨o2, e2, fun v q => by rw [d2] at q; cases q⟩
  · obtain ⟨⟨old, he⟩, h2⟩ := st
    exact ⟨⟨old, k e (by simp) _ he⟩, h2.at fun o q => k it (by simp) o q⟩
  · subst hP hw hK
    obtain ⟨xs, x, qx, hx⟩ := hg
    obtain ⟨its, rv, p, _⟩ := I.tuple qx
    obtain ⟨u, hu, ru⟩ := rv.get hx
    have l1 : i < its.length := by
      rcases Nat.lt_or_ge i its.length with h | h
      · exact h
      · rw [List.getElem?_eq_none h] at hu; cases hu
    have pT : s.heap.IsTuple a its.toArray := p
    refine ⟨_, _, _, _, _, G X.A (I.ok.hd hcm) its.toArray, by simpa using l1, ⟨st.1, st.2, pT⟩, fun b hb => hb, ?_⟩
    rintro v h' ⟨T, t, x', rfl, hT, e1, ht⟩ ⟨t1, t2⟩
    have e1 : its[i]? = some x' := by simpa using e1
    rw [hu] at e1
    cases e1
    exact ⟨T, .int (i : Nat), x, _, u, rfl, hT, ⟨t, rfl⟩, ru, by rw [Int.zero_add] at ht; exact ht, ⟨T, x, rfl, I.hok.fresh hT, rfl, fun l hl => by rw [I.tuple_inj hl qx]; exact hx⟩, t1, t2.1⟩
  · subst hP hw hK
    obtain ⟨xs, qx, hi⟩ := hg
    obtain ⟨its, rv, p, _⟩ := I.tuple qx
    have pT : s.heap.IsTuple a its.toArray := p
    have l1 := rv.length
    have e : its.toArray.size = i := by simp only [List.size_toArray]; omega
    subst e
    exact ⟨_, _, _, _, _, G X.A (I.ok.hd hcm) its.toArray, ⟨st.1, st.2, pT⟩, fun b hb => hb⟩
end
def iEnumT (K : PySem.W.Frag) (ta : TA) : TI := fun σ H R => ta σ H fun vs H1 => ∃ a xs, vs = [.ref a] ∧ SqT K H1 a xs ∧ R (IteT K a) H1
open PyProof.Rows in
theorem pi_enumT {X : Cx} {e : Expr} {ta : TA} {p pos tpos : Pos} {elts : List Expr} {kk : Nat} (hg : Gl X "enumerate") (hm : X.mg "enumerate" = none) (ha : PA X [e] ta) (hs : starEach [e] X.env = [(false, eval e X.env)] := by rfl) :
    PI X (.Tuple elts kk tpos) (.Call (.Name "enumerate" p) [e] [] pos) (iEnumT X.K ta) := by
  refine ⟨fun pins s σ H R I h => ?_⟩
  refine Call_ (ld_blt I hg hm boot_enumerate (PyProof.Rows.callWith_type1 (thn (ha.run pos pins s σ H _ I h) fun us s1 ⟨vs, H1, I1, r1, q1⟩ => ?_) hs rfl))
  obtain ⟨a, xs, ex, hqx, q⟩ := q1
  subst ex
  cases r1 with
  | cons r rr =>
    cases rr
    cases r
    obtain ⟨its, rv, p1, _⟩ := I1.tuple hqx
    have pT : s1.heap.IsTuple a its.toArray := p1
    obtain ⟨o1, ho1, _⟩ := id pT
    have la : a < s1.heap.objs.size := Heap.lt_size ho1
    refine enum1_call (begins_tuple a its.toArray) pT fun h' hz h1 hk => wpAny_pyIter_enum hz ?_
    have I2 : Inv X pins σ H1 { s1 with heap := h' } := I1.kept (t' := s1.toks) hk
    refine ⟨s1.heap.objs.size + 1, [s1.heap.objs.size + 1, s1.heap.objs.size], _, _, H1, rfl, I2, turn_enumT (Nat.succ_ne_self _) (Nat.ne_of_gt (Nat.lt_succ_of_lt la)) (Nat.ne_of_lt la), ⟨⟨_, hz⟩, ⟨_, h1, rfl, rfl⟩⟩, ?_, q⟩
    intro c hcm
    have hle : s1.heap.objs.size ≤ c := by
      rcases List.mem_cons.mp hcm with z | z
      · rw [z]; exact Nat.le_add_right _ _
      · rw [List.mem_singleton.mp z]; exact Nat.le_refl _
    exact I1.fpOk hle (I1.hok.fresh hle)
def enumD (ds : List D) : List D := zipD (rangeD ds.length) ds
theorem enumD_len (ds : List D) : (enumD ds).length = ds.length := by rw [enumD, zipD_len, rangeD_len, Nat.min_self]
theorem enumD_get {ds : List D} {i : Nat} {d : D} (h : ds[i]? = some d) : (enumD ds)[i]? = some (.tuple [.int i, d]) := by
  have hi : i < ds.length := by
    rcases Nat.lt_or_ge i ds.length with z | z
    · exact z
    · rw [List.getElem?_eq_none z] at h; cases h
  refine zipD_get ?_ h
  unfold rangeD
  rw [List.getElem?_map, List.getElem?_range hi]
  rfl
theorem walkD_enum {K : PySem.W.Frag} {J : It} {M : Hp} {n : Nat} {G : Hp → Prop} {xs : List V} {ds : List D} (w : Walk J n G (YPair (fun i => some (.int (i : Nat))) (fun i => xs[i]?))) (hG : ∀ H, Same M H → G H) (hn : n = ds.length) (h1 : DqAll K M xs ds) : WalkD K J M (enumD ds) := by
  subst hn
  refine ⟨fun i H hi s => w.goes i H (by rw [enumD_len] at hi; exact hi) (hG H s), fun H s => by rw [enumD_len]; exact w.stops H (hG H s), fun i H x H' hi s y => ?_⟩
  obtain ⟨T, v, u, rfl, hT, rfl, e1, e2⟩ := w.yields i H x H' (by rw [enumD_len] at hi; exact hi) (hG H s) y
  refine ⟨same_upd hT, fun G' al s' => ?_⟩
  obtain ⟨d, hd, w1⟩ := dpa_getV h1 e2
  cases e1
  exact ⟨_, enumD_get hd, Dv.newT al hT (.cons (.int _) (.cons (dp_mono s' _ _ w1) .nil)) rfl⟩
theorem walk_enumT {K : PySem.W.Frag} {a : Addr} {xs : List V} : Walk (IteT K a) xs.length (fun H => SqT K H a xs) (YPair (fun i => some (.int (i : Nat))) (fun i => xs[i]?)) := by
  refine ⟨fun i _ hi q => ⟨xs, xs[i], q, by simp [hi]⟩, fun _ q => ⟨xs, q, rfl⟩, fun i H v H' _ q y => ?_⟩
  obtain ⟨T, x, h1, h2, h3, h4⟩ := y
  exact ⟨T, .int (i : Nat), x, h1, h2, h3, rfl, h4 xs q⟩
section
variable {X : Cx} {ρ : En} {e : Expr} {ds es : List D} {p pos tpos : Pos} {elts : List Expr} {kk c : Nat}
theorem paired1 {α β : Type} {R : α → β → Prop} {xs : List α} {a : β} (h : Paired R xs [a]) : ∃ x, xs = [x] ∧ R x a := by
  cases h with
  | cons h1 h =>
    cases h
    exact ⟨_, rfl, h1⟩
theorem I1.enumT (h1 : E1 X ρ e (.tuple ds)) (hm : X.mg "enumerate" = none) (hg : Gl X "enumerate" := by rfl) (hs : starEach [e] X.env = (false, eval e X.env) :: starEach [] X.env := by rfl) :
    I1 X ρ (.Tuple elts kk tpos) (.Call (.Name "enumerate" p) [e] [] pos) (enumD ds) :=
  pi_imp (pi_enumT hg hm (A1.cons h1 A1.nil hs) hs) fun σ H R ⟨G, L, bx, x, hb, q⟩ => ⟨G, L, bx, x, hb, fun vs H1 ds' s ep w => by
    subst ep
    obtain ⟨x1, rfl, w1⟩ := paired1 w
    obtain ⟨a, xs, rfl, w1, d1⟩ := w1.tuple
    exact ⟨a, xs, rfl, w1.out.sq, q _ H1 _ s rfl (walkD_enum walk_enumT (fun H sm => (w1.mono sm).sq) (dpa_len d1) d1)⟩⟩
theorem Iv.enumL {Pl : List D → Prop} (h1 : Ev X ρ e c (fun d => ∃ ds, d = .list ds ∧ Pl ds)) (hm : X.mg "enumerate" = none) (hg : Gl X "enumerate" := by rfl) (hs : starEach [e] X.env = (false, eval e X.env) :: starEach [] X.env := by rfl) :
    Iv X ρ (.Tuple elts kk tpos) (.Call (.Name "enumerate" p) [e] [] pos) c (fun ys => ∃ ds, Pl ds ∧ ys = enumD ds) :=
  pi_imp (pi_enum hg hm (As.cons (c2 := 0) h1 (fun _ _ => A1.nil) hs) hs) fun σ H R ⟨G, L, bx, x, hb, q⟩ => ⟨G, L, bx, x, hb, fun vs H1 ds' s ep w => by
    obtain ⟨d, r, rfl, ⟨ds, rfl, p1⟩, rfl⟩ := ep
    obtain ⟨x1, rfl, w1⟩ := paired1 w
    obtain ⟨a, xs, rfl, w1, d1⟩ := w1.list
    exact ⟨a, xs, rfl, SqL.of (mask_at w1).2, q _ H1 _ s ⟨ds, p1, rfl⟩ (walkD_enum walk_enum (fun H sm => SqL.of (sm _ _ w1)) (dpa_len d1) d1)⟩⟩
theorem I1.enumL (h1 : E1 X ρ e (.list ds)) (hm : X.mg "enumerate" = none) (hg : Gl X "enumerate" := by rfl) (hs : starEach [e] X.env = (false, eval e X.env) :: starEach [] X.env := by rfl) :
    I1 X ρ (.Tuple elts kk tpos) (.Call (.Name "enumerate" p) [e] [] pos) (enumD ds) :=
  pi_imp (Iv.enumL (Pl := (· = ds)) (Ev.imp h1 (Nat.le_refl _) fun d z => ⟨ds, z, rfl⟩) hm hg hs) fun σ H R ⟨G, L, bx, x, hb, q⟩ => ⟨G, L, bx, x, hb, fun J H' ys s p w => q J H' ys s (by obtain ⟨z, rfl, rfl⟩ := p; rfl) w⟩
end
end Kl

set_option Elab.async false
set_option linter.all false
set_option maxRecDepth 100000
/-! Things of one's own: made, read, frozen. -/
namespace Kl
open PySem PySem.Spec L2

/-- a value for a slot; N: what is made and is ours -/
def SlAt (K : PySem.W.Frag) (H0 H : Hp) (M : List Addr) (v : V) : Sl → List Addr → Prop
  | .dat d, N => N = [] ∧ Dv K (mask M H) v d
  | .own o, N => ∃ p u, v = .ref p ∧ N = [p] ∧ H0 p = none ∧ H p = some u ∧ Hid (some u) ∧ OwnAt K (mask (p :: M) H) u o
def tG (K : PySem.W.Frag) (ρ : En) (c : Nat) (P : Sl → Prop) : TE := fun σ H Q => ∃ G L bx, Ctx K G L bx σ H ρ ∧ BxOk bx c ∧
  ∀ v H' s N, Stp [] bx c H H' → P s → SlAt K H H' (L ++ G) v s N → Q v H'
abbrev Gv (X : Cx) (ρ : En) (e : Expr) (c : Nat) (P : Sl → Prop) : Prop := PE X e (tG X.K ρ c P)
abbrev G1 (X : Cx) (ρ : En) (e : Expr) (s : Sl) : Prop := PE X e (tG X.K ρ 0 (· = s))
section
variable {K : PySem.W.Frag} {G L : List Addr} {bx : Bx} {σ : L2.St} {H H' : Hp} {ρ : En} {c c' : Nat} {v : V} {sl : Sl} {N : List Addr}
theorem Stp.noneB (s : Stp [] bx c H H') {a : Addr} (h : H' a = none) : H a = none := by
  cases z : H a with
  | none => rfl
  | some o => exact absurd h (s.liveN (by rw [z]; simp))
theorem Ctx.stepG (x : Ctx K G L bx σ H ρ) (s : Stp [] bx c H H') (w : SlAt K H H' (L ++ G) v sl N) : Ctx K G (N ++ L) (bx.add c) σ H' ρ ∧ Same (mask (L ++ G) H) (mask ((N ++ L) ++ G) H') := by
  cases sl with
  | dat d =>
    obtain ⟨rfl, _⟩ := w
    exact ⟨x.step s, s.mask x.bM⟩
  | own o =>
    obtain ⟨p, u, rfl, rfl, np, hp, hh, ho⟩ := w
    have x1 := x.step s
    have sm : Same (mask (L ++ G) H) (mask (([p] ++ L) ++ G) H') := fun a u e => by
      obtain ⟨e1, e2⟩ := mask_at e
      have ne : a ≠ p := ne_of_none e2 np
      rw [mask_out (by simp only [List.cons_append, List.nil_append, List.mem_cons, not_or]; exact ⟨ne, e1⟩)]
      exact s.at (fun b n z q => e1 (q ▸ x.bM b n z)) e2
    refine ⟨⟨x.len, fun a ha => ?_, fun i d e => ?_, fun i u e => ?_, x.dis, fun b n e => ?_⟩, sm⟩
    · rcases ha with z | z
      · exact x1.al a (.inl z)
      · rcases List.mem_cons.mp z with z | z
        · rw [z, hp]; exact hh
        · exact x1.al a (.inr z)
    · obtain ⟨v, h1, h2⟩ := x.dat i d e
      exact ⟨v, h1, h2.mono sm⟩
    · obtain ⟨p', u', h1, h2, h3, h4⟩ := x.own i u e
      exact ⟨p', u', h1, ⟨List.mem_cons_of_mem _ h2.1, h2.2⟩, s.at (fun b n z q => (x.box b n z).2.1 (q ▸ h2.1)) h3, h4.mono sm⟩
    · obtain ⟨h1, h2, h3, h4⟩ := x1.box b n e
      refine ⟨h1, fun z => (List.mem_cons.mp z).elim (fun z => ?_) h2, h3, h4⟩
      cases bx with
      | none => cases e
      | some q =>
        cases e
        obtain ⟨_, _, _, a0, b0, c0, h5, _⟩ := x.box q.1 q.2 rfl
        rw [z, np] at h5
        cases h5
/-- a value of ours or data into a slot -/
theorem Ctx.setO {i : Nat} {p : Addr} {u : HO} {o : OV} (x : Ctx K G L bx σ H ρ) (hi : 0 < i) (hp : p ∈ L ∧ p ∉ G) (hu : H p = some u) (ho : OwnAt K (mask (L ++ G) H) u o) (hd : ∀ (j : Nat) (o' : OV), j ≠ i → ρ[j]? = some (some (.own o')) → σ[j]? ≠ some (some (.ref p))) :
    Ctx K G L bx (σ.set i (some (.ref p))) H (ρ.set i (some (.own o))) := by
  have at_i : ∀ {s : Sl}, (ρ.set i (some (.own o)))[i]? = some (some s) → s = .own o ∧ i < ρ.length := fun {s} e => by
    by_cases hl : i < ρ.length
    · rw [List.getElem?_set_self hl] at e; cases e; exact ⟨rfl, hl⟩
    · rw [List.getElem?_eq_none (by simpa using hl)] at e; cases e
  have off : ∀ {j : Nat} {s : Sl}, j ≠ i → (ρ.set i (some (.own o)))[j]? = some (some s) → ρ[j]? = some (some s) := fun {j s} hj e => by
    rw [List.getElem?_set_ne (Ne.symm hj)] at e; exact e
  refine ⟨by rw [List.length_set, List.length_set]; exact x.len, x.al, fun j d e => ?_, fun j o' e => ?_, fun j k o1 o2 q e1 e2 f1 f2 => ?_, fun b n e => ?_⟩
  · by_cases hj : j = i
    · subst hj
      cases (at_i e).1
    · obtain ⟨v, h1, h2⟩ := x.dat j d (off hj e)
      exact ⟨v, by rw [List.getElem?_set_ne (Ne.symm hj)]; exact h1, h2⟩
  · by_cases hj : j = i
    · subst hj
      obtain ⟨e1, e2⟩ := at_i e
      cases e1
      exact ⟨p, u, by rw [List.getElem?_set_self (Nat.lt_of_lt_of_le e2 x.len)], hp, hu, ho⟩
    · obtain ⟨p', u', h1, h2⟩ := x.own j o' (off hj e)
      exact ⟨p', u', by rw [List.getElem?_set_ne (Ne.symm hj)]; exact h1, h2⟩
  · by_cases hj : j = i
    · by_cases hk : k = i
      · rw [hj, hk]
      · subst hj
        rw [List.getElem?_set_self (Nat.lt_of_lt_of_le (at_i e1).2 x.len)] at f1
        cases f1
        rw [List.getElem?_set_ne (Ne.symm hk)] at f2
        exact absurd f2 (hd k o2 hk (off hk e2))
    · by_cases hk : k = i
      · subst hk
        rw [List.getElem?_set_self (Nat.lt_of_lt_of_le (at_i e2).2 x.len)] at f2
        cases f2
        rw [List.getElem?_set_ne (Ne.symm hj)] at f1
        exact absurd f1 (hd j o1 hj (off hj e1))
      · rw [List.getElem?_set_ne (Ne.symm hj)] at f1
        rw [List.getElem?_set_ne (Ne.symm hk)] at f2
        exact x.dis j k o1 o2 q (off hj e1) (off hk e2) f1 f2
  · obtain ⟨h1, h2, h3, h4⟩ := x.box b n e
    exact ⟨h1, h2, by rw [List.getElem?_set_ne (Nat.ne_of_gt hi)]; exact h3, h4⟩
/-- behind e, its value in slot i -/
theorem Ctx.setG {i : Nat} (x : Ctx K G L bx σ H ρ) (s : Stp [] bx c H H') (hi : 0 < i) (w : SlAt K H H' (L ++ G) v sl N) : Ctx K G (N ++ L) (bx.add c) (σ.set i (some v)) H' (ρ.set i (some sl)) := by
  obtain ⟨x1, sm⟩ := x.stepG s w
  cases sl with
  | dat d =>
    obtain ⟨rfl, w⟩ := w
    exact x1.set hi w
  | own o =>
    obtain ⟨p, u, rfl, rfl, np, hp, hh, ho⟩ := w
    refine x1.setO hi ⟨by simp, fun z => (x.al p (.inl z)).ne np⟩ hp ho fun j o' _ e f => ?_
    obtain ⟨p', u', h1, h2, h3, h4⟩ := x.own j o' e
    rw [h1] at f
    cases f
    rw [np] at h3
    cases h3
theorem SlAt.newN (w : SlAt K H H' (L ++ G) v sl N) : ∀ a ∈ N, H a = none := by
  cases sl with
  | dat d => obtain ⟨rfl, _⟩ := w; simp
  | own o =>
    obtain ⟨p, u, rfl, rfl, np, _⟩ := w
    simpa using np
end
section
variable {X : Cx} {ρ : En} {c c1 c2 : Nat} {e : Expr} {es : List Expr} {P : Sl → Prop} {pos : Pos} {O : Out → Prop} {rest : List Stmt}
theorem Gv.imp {P' : Sl → Prop} (h : Gv X ρ e c1 P) (hc : c1 ≤ c2) (hP : ∀ s, P s → P' s) : Gv X ρ e c2 P' := pe_imp h fun σ H Q ⟨G, L, bx, x, hb, q⟩ =>
  ⟨G, L, bx, x, hb.le hc, fun v H' d N s p w => q v H' d N (s.mono (fun _ z => z) hc) (hP d p) w⟩
theorem Gv.dat {Pd : D → Prop} (h : Ev X ρ e c Pd) : Gv X ρ e c (fun s => ∃ d, s = .dat d ∧ Pd d) := pe_imp h fun σ H Q ⟨G, L, bx, x, hb, q⟩ =>
  ⟨G, L, bx, x, hb, fun v H' d s p w => q v H' (.dat d) [] s ⟨d, rfl, p⟩ ⟨rfl, w⟩⟩
theorem G1.dat {d : D} (h : E1 X ρ e d) : G1 X ρ e (.dat d) := Gv.imp (Gv.dat h) (Nat.le_refl _) fun s ⟨d', e1, e2⟩ => by rw [e1, e2]
/-- a fresh list -/
theorem slat_list {K : PySem.W.Frag} {M : List Addr} {H0 H1 : Hp} {p : Addr} {vs : List V} {ds : List D} (n0 : H0 p = none) (np : H1 p = none) (w : DqAll K (mask M H1) vs ds) : SlAt K H0 (upd H1 p (.lst vs)) M (.ref p) (.own (.l ds)) [p] := by
  refine ⟨p, .lst vs, rfl, rfl, n0, upd_same, trivial, ?_⟩
  refine dpa_mono (fun a o e => ?_) _ _ w
  obtain ⟨e1, e2⟩ := mask_at e
  have ne : a ≠ p := ne_of_none e2 np
  rw [mask_out (by simp only [List.mem_cons, not_or]; exact ⟨ne, e1⟩), upd_ne ne]
  exact e2
theorem Gv.lst {Pl : List D → Prop} (h : Ls X ρ es c Pl) (hz : ∀ ds, Pl ds → ds.length ≤ sizeLine) : Gv X ρ (.List es pos) c (fun s => ∃ ds, s = .own (.l ds) ∧ Pl ds) := by
  refine pe_imp (pe_lst h) fun σ H Q ⟨G, L, bx, x, hb, q⟩ => ⟨G, L, bx, x, hb, fun vs H1 ds s p w => ⟨by rw [dpa_len w]; exact hz ds p, fun a na => ?_⟩⟩
  exact q _ _ _ [a] (Stp.andSame (x.step s) s (same_upd na)) ⟨ds, rfl, p⟩ (slat_list (s.noneB na) na w)
theorem G1.lst {ds : List D} (h : L1 X ρ es ds) (hz : ds.length ≤ sizeLine := by decide) : G1 X ρ (.List es pos) (.own (.l ds)) :=
  Gv.imp (Gv.lst h fun _ z => z ▸ hz) (Nat.le_refl _) fun _ ⟨_, e, e2⟩ => by rw [e, e2]
theorem G1.dictT : G1 X ρ (.Dict [] [] pos) (.own (.t [])) :=
  pe_imp pe_dnewT fun σ H Q ⟨G, L, bx, x, hb, q⟩ p np => q _ _ _ [p] (Stp.andSame (x.step (Stp.refl x)) (Stp.refl x) (same_upd np)) rfl ⟨p, .dT [], rfl, rfl, np, upd_same, trivial, rfl, fun e h => by cases h⟩
/-- a call that makes a list -/
def CallNew (X : Cx) (f : Value) (ds : List D) (P : List D → Prop) : Prop := ∀ (M : List Addr) (H : Hp) (xs : List V) (Q : VK), (∀ a ∈ M, Hid (H a)) → Paired (Dv X.K (mask M H)) xs ds →
  (∀ p vs ys, H p = none → P ys → DqAll X.K (mask M H) vs ys → Q (.ref p) (upd H p (.lst vs))) → ∃ r, CallR X f r ∧ r xs H Q
theorem Gv.callT {T : String} {x : Str} {p : Pos} {Pl : List D → Prop} {Py : List D → Prop} (ha : As X ρ (e :: es) c Pl) (ho : ∀ ds, Pl ds → CallNew X (.type T) ds Py) (hm : X.mg x = none) (hv : bootBuiltins x = some (.type T)) (hg : Gl X x := by rfl) (hn : x ≠ "__name__" := by decide) (hdb : (x == ("__debug__" : Str)) = false := by decide)
    (he : starEach (e :: es) X.env = (false, eval e X.env) :: starEach es X.env := by rfl) (hpl : (backTo pos (starEach es X.env)).any (·.1) = false := by rfl) : Gv X ρ (.Call (.Name x p) (e :: es) [] pos) c (fun s => ∃ ds, s = .own (.l ds) ∧ Py ds) :=
  pe_imp (pe_callTy callr_any hg hm hv ha hn hdb he hpl) fun σ H Q ⟨G, L, bx, x, hb, q⟩ => ⟨G, L, bx, x, hb, fun vs H1 ds s p w =>
    ho ds p (L ++ G) H1 vs Q (x.step s).alM w fun a us ys na p2 w2 => q _ _ _ [a] (Stp.andSame (x.step s) s (same_upd na)) ⟨ys, rfl, p2⟩ (slat_list (s.noneB na) na w2)⟩
/-- an operation that makes a list -/
def OpNew (X : Cx) (f : Value → Value → Sem Value) (d1 d2 : D) (P : List D → Prop) : Prop := ∀ (M : List Addr) (H : Hp) (x y : V) (Q : VK), (∀ a ∈ M, Hid (H a)) → Dv X.K (mask M H) x d1 → Dv X.K (mask M H) y d2 →
  (∀ p vs ys, H p = none → P ys → DqAll X.K (mask M H) vs ys → Q (.ref p) (upd H p (.lst vs))) → ∃ r, OpR X f r ∧ r x y H Q
theorem G1.op {a b : Expr} {op : Operator} {d1 d2 : D} {ds : List D} (ha : E1 X ρ a d1) (hb : E1 X ρ b d2) (ho : OpNew X (binaryOp op) d1 d2 (· = ds)) : G1 X ρ (.BinOp a op b pos) (.own (.l ds)) := by
  refine pe_imp (pe_op opr_any ha hb) fun σ H Q ⟨G, L, bx, x, hb, q⟩ => ?_
  refine ⟨G, L, bx, x, hb, fun v H1 d s p w => ⟨G, L, bx.add 0, x.step s, bx0 hb, fun u H2 d2' s2 p2 w2 => ?_⟩⟩
  subst p
  subst p2
  have x2 := (x.step s).step s2
  refine ho (L ++ G) H2 v u Q x2.alM (w.mono (s2.mask (x.step s).bM)) w2 fun a us ys na p2 w3 => ?_
  subst p2
  have z := s.trans s2
  rw [Nat.add_zero] at z
  refine q _ _ _ [a] ?_ rfl (slat_list (z.noneB na) na w3)
  exact Stp.andSame (x.step z) z (same_upd na)
/-! ### into slots -/
theorem Sv.asgG (i : Nat) {x : Str} {pos pos' : Pos} (he : Gv X ρ e c P) (hN : X.N.Nodup) (hi : X.N[i]? = some x := by rfl) (hx : Loc X.env.scope x := by first | exact Or.inl rfl | exact Or.inr rfl) (h0 : 0 < i := by decide) (hs : swapsWith e (some (.Name x pos')) pos.line X.env = pure false := by rfl)
    (hf : X.fn x = true ∨ X.env.scope.names.lookup x = some .local := by first | exact .inl rfl | exact .inr rfl) : Sv X ρ (.Assign [.Name x pos'] e pos) c (fun o => ∃ s, P s ∧ o = .nx (ρ.set i (some s))) :=
  ps_imp (ps_set hN hi hx he hs hf) fun Dn σ H ⟨G, L, bx, x, hb, qn, qr⟩ => ⟨G, L, bx, x, hb, fun v H1 d N s p w =>
    qn (N ++ L) _ H1 _ (s.mono (fun _ z => by cases z) (Nat.le_refl _)) (fun a z => List.mem_append_right _ z) (fun a z => (List.mem_append.mp z).elim (fun z => .inr (w.newN a z)) .inl) ⟨d, p, rfl⟩ (x.setG s h0 w)⟩
theorem Svs.asgG (i : Nat) {x : Str} {pos pos' : Pos} {s : Sl} (he : G1 X ρ e s) (hN : X.N.Nodup) (h : Svs X (ρ.set i (some s)) rest c O) (hi : X.N[i]? = some x := by rfl) (hx : Loc X.env.scope x := by first | exact Or.inl rfl | exact Or.inr rfl) (h0 : 0 < i := by decide) (hs : swapsWith e (some (.Name x pos')) pos.line X.env = pure false := by rfl)
    (hf : X.fn x = true ∨ X.env.scope.names.lookup x = some .local := by first | exact .inl rfl | exact .inr rfl) : Svs X ρ (.Assign [.Name x pos'] e pos :: rest) c O :=
  Svs.imp (Svs.cons (Sv.asgG i he hN hi hx h0 hs hf) (fun ρ' ⟨d', e1, e2⟩ => by cases e2; rw [e1]; exact h) fun d' ⟨_, _, e2⟩ => by cases e2) (by omega) fun _ z => z
/-- two of them: in plain names -/
def tGG (K : PySem.W.Frag) (ρ : En) (c1 c2 : Nat) (P1 P2 : Sl → Prop) (k : V → V → L2.St → Hp → Prop) : L2.St → Hp → Prop := fun σ H => tG K ρ c1 P1 σ H fun v H1 => tG K ρ c2 P2 σ H1 fun u H2 => k v u σ H2
theorem par_read {K : PySem.W.Frag} {P1 P2 : Sl → Prop} {i j : Nat} (hij : i ≠ j) (h0 : 0 < i) (h1 : 0 < j) {Dn : Ends} {σ : L2.St} {H : Hp} (h : tSt K ρ (c1 + c2) (fun o => ∃ s1 s2, P1 s1 ∧ P2 s2 ∧ o = .nx ((ρ.set i (some s1)).set j (some s2))) Dn σ H) :
    tG K ρ c1 P1 σ H fun v H1 => tG K ρ c2 P2 σ H1 fun u H2 => Dn.nx ((σ.set i (some v)).set j (some u)) H2 := by
  obtain ⟨G, L, bx, x, hb, qn, qr⟩ := h
  refine ⟨G, L, bx, x, (bx_ne hb).1, fun v H1 sl N s p w => ?_⟩
  obtain ⟨x1, sm⟩ := x.stepG s w
  refine ⟨G, N ++ L, bx.add c1, x1, (bx_ne hb).2, fun u H2 sl2 N2 s2 p2 w2 => ?_⟩
  obtain ⟨x2, sm2⟩ := x1.stepG s2 w2
  have newN : ∀ a ∈ N ++ L, a ∈ L ∨ H a = none := fun a z => (List.mem_append.mp z).elim (fun z => .inr (w.newN a z)) .inl
  have st := s.trans s2
  rw [Bx.add_add] at x2
  refine qn (N2 ++ (N ++ L)) _ H2 _ (st.mono (fun _ z => by cases z) (Nat.le_refl _)) (fun a z => List.mem_append_right _ (List.mem_append_right _ z)) (fun a z => (List.mem_append.mp z).elim (fun z => .inr (s.noneB (w2.newN a z))) (newN a)) ⟨sl, sl2, p, p2, rfl⟩ ?_
  have hA : ∃ ρ', ρ' = ρ.set i (some sl) ∧ Ctx K G (N2 ++ (N ++ L)) (bx.add (c1 + c2)) (σ.set i (some v)) H2 ρ' := by
    refine ⟨_, rfl, ?_⟩
    cases sl with
    | dat d =>
      obtain ⟨rfl, w⟩ := w
      refine x2.set h0 (w.mono ?_)
      have := sm2
      simpa using this
    | own o =>
      obtain ⟨p, u, rfl, rfl, np, hp, hh, ho⟩ := w
      refine x2.setO h0 ⟨by simp, fun z => (x.al p (.inl z)).ne np⟩ (s2.at (fun b n z q => (x1.box b n z).2.1 (by rw [← q]; simp)) hp) (ho.mono ?_) fun j' o' _ e f => ?_
      · have := sm2
        simpa using this
      · obtain ⟨p', u', g1, g2, g3, g4⟩ := x.own j' o' e
        rw [g1] at f
        cases f
        rw [np] at g3
        cases g3
  obtain ⟨ρ', rfl, xA⟩ := hA
  cases sl2 with
  | dat d =>
    obtain ⟨rfl, w2⟩ := w2
    exact xA.set h1 w2
  | own o =>
    obtain ⟨p2', u2, rfl, rfl, np2, hp2, hh2, ho2⟩ := w2
    refine xA.setO h1 ⟨by simp, fun z => (x1.al p2' (.inl z)).ne np2⟩ hp2 ho2 fun j' o' hj e f => ?_
    by_cases hji : j' = i
    · subst hji
      cases sl with
      | dat d =>
        by_cases hl : j' < ρ.length
        · rw [List.getElem?_set_self hl] at e; cases e
        · rw [List.getElem?_eq_none (by simpa using hl)] at e; cases e
      | own o1 =>
        obtain ⟨p, u, rfl, rfl, np, hp, hh, ho⟩ := w
        have hl : j' < σ.length := by
          by_cases hl : j' < σ.length
          · exact hl
          · rw [List.getElem?_eq_none (by simpa using hl)] at f; cases f
        rw [List.getElem?_set_self hl] at f
        cases f
        rw [hp] at np2
        cases np2
    · rw [List.getElem?_set_ne (Ne.symm hji)] at e f
      obtain ⟨p', u', g1, g2, g3, g4⟩ := x1.own j' o' e
      rw [g1] at f
      cases f
      rw [np2] at g3
      cases g3
end
end Kl

set_option Elab.async false
set_option linter.all false
set_option maxRecDepth 100000
/-! Two names at once; freezing; a list that grows. -/
namespace Kl
open PySem PySem.Spec L2
theorem Stp.andSameL {K : PySem.W.Frag} {G L L' : List Addr} {bx : Bx} {σ : L2.St} {H H1 H' : Hp} {ρ : En} {c : Nat} (x : Ctx K G L' (bx.add c) σ H1 ρ) (s : Stp L bx c H H1) (h : Same H1 H') : Stp L bx c H H' := by
  have z := s.trans ((Stp.same x h).mono (L' := L) (fun _ z => by cases z) (Nat.le_refl _))
  simpa using z
section
variable {X : Cx} {ρ : En} {c c1 c2 : Nat} {e a b : Expr} {es : List Expr} {P1 P2 : Sl → Prop} {pos : Pos} {O : Out → Prop} {rest : List Stmt}
theorem pa_two (h1 : Gv X ρ a c1 P1) (h2 : Gv X ρ b c2 P2) (hs : starEach [a, b] X.env = (false, eval a X.env) :: starEach [b] X.env := by rfl) (hs2 : starEach [b] X.env = (false, eval b X.env) :: starEach [] X.env := by rfl) :
    PA X [a, b] (fun σ H Q => tG X.K ρ c1 P1 σ H fun v H1 => tG X.K ρ c2 P2 σ H1 fun u H2 => Q [v, u] H2) :=
  pa_cons h1 (pa_cons h2 pa_nil hs2) hs
theorem Sv.par (i j : Nat) {x y : Str} {px py pt : Pos} {kt k2 pt2} (h1 : Gv X ρ a c1 P1) (h2 : Gv X ρ b c2 P2) (hc : X.calm = true) (hN : X.N.Nodup)
    (hw : swappedStores [.Tuple [.Name x px, .Name y py] kt pt] (.Tuple [a, b] k2 pt2) X.env = pure (some [x, y])) (hi : X.N[i]? = some x := by rfl) (hj : X.N[j]? = some y := by rfl) (hij : i ≠ j := by decide) (hi0 : 0 < i := by decide) (hj0 : 0 < j := by decide)
    (hx : X.env.scope.names.lookup x = some .local := by rfl) (hy : X.env.scope.names.lookup y = some .local := by rfl)
    (hs : swapsWithSole [.Tuple [.Name x px, .Name y py] kt pt] (.Tuple [a, b] k2 pt2) pos.line X.env = pure false := by rfl)
    (hs1 : starEach [a, b] X.env = (false, eval a X.env) :: starEach [b] X.env := by rfl) (hs2 : starEach [b] X.env = (false, eval b X.env) :: starEach [] X.env := by rfl) :
    Sv X ρ (.Assign [.Tuple [.Name x px, .Name y py] kt pt] (.Tuple [a, b] k2 pt2) pos) (c1 + c2) (fun o => ∃ s1 s2, P1 s1 ∧ P2 s2 ∧ o = .nx ((ρ.set i (some s1)).set j (some s2))) :=
  ps_imp (ps_par hc hN hi hj hij hx hy (pa_two h1 h2 hs1 hs2) hw hs) fun Dn σ H h => by
    obtain ⟨G, L, bx, x, hb, q⟩ := par_read hij hi0 hj0 h
    refine ⟨G, L, bx, x, hb, fun v H1 sl N s p w => ?_⟩
    obtain ⟨G, L, bx, x, hb, q⟩ := q v H1 sl N s p w
    exact ⟨G, L, bx, x, hb, fun u H2 sl2 N2 s2 p2 w2 => ⟨v, u, rfl, q u H2 sl2 N2 s2 p2 w2⟩⟩
theorem Svs.par (i j : Nat) {s1 s2 : Sl} {x y : Str} {px py pt : Pos} {kt k2 pt2} (h1 : G1 X ρ a s1) (h2 : G1 X ρ b s2) (hc : X.calm = true) (hN : X.N.Nodup)
    (hw : swappedStores [.Tuple [.Name x px, .Name y py] kt pt] (.Tuple [a, b] k2 pt2) X.env = pure (some [x, y])) (h : Svs X ((ρ.set i (some s1)).set j (some s2)) rest c O) (hi : X.N[i]? = some x := by rfl) (hj : X.N[j]? = some y := by rfl) (hij : i ≠ j := by decide) (hi0 : 0 < i := by decide) (hj0 : 0 < j := by decide)
    (hx : X.env.scope.names.lookup x = some .local := by rfl) (hy : X.env.scope.names.lookup y = some .local := by rfl)
    (hs : swapsWithSole [.Tuple [.Name x px, .Name y py] kt pt] (.Tuple [a, b] k2 pt2) pos.line X.env = pure false := by rfl)
    (hs1 : starEach [a, b] X.env = (false, eval a X.env) :: starEach [b] X.env := by rfl) (hs2 : starEach [b] X.env = (false, eval b X.env) :: starEach [] X.env := by rfl) :
    Svs X ρ (.Assign [.Tuple [.Name x px, .Name y py] kt pt] (.Tuple [a, b] k2 pt2) pos :: rest) c O :=
  Svs.imp (Svs.cons (Sv.par i j h1 h2 hc hN hw hi hj hij hi0 hj0 hx hy hs hs1 hs2) (fun ρ' ⟨t1, t2, e1, e2, e3⟩ => by cases e3; rw [e1, e2]; exact h) fun d' ⟨_, _, _, _, e2⟩ => by cases e2) (by omega) fun _ z => z
/-- .. where a block sees one of them -/
theorem Sv.parC (i j : Nat) {x y : Str} {px py pt : Pos} {kt k2 pt2} (h1 : Gv X ρ a c1 P1) (h2 : Gv X ρ b c2 P2) (hc : X.calm = true) (hN : X.N.Nodup)
    (hw : swappedStores [.Tuple [.Name x px, .Name y py] kt pt] (.Tuple [a, b] k2 pt2) X.env = pure none := by rfl) (hi : X.N[i]? = some x := by rfl) (hj : X.N[j]? = some y := by rfl) (hij : i ≠ j := by decide) (hi0 : 0 < i := by decide) (hj0 : 0 < j := by decide)
    (hx : Loc X.env.scope x := by first | exact Or.inl rfl | exact Or.inr rfl) (hy : Loc X.env.scope y := by first | exact Or.inl rfl | exact Or.inr rfl)
    (hs : swapsWithSole [.Tuple [.Name x px, .Name y py] kt pt] (.Tuple [a, b] k2 pt2) pos.line X.env = pure false := by rfl)
    (hs1 : starEach [a, b] X.env = (false, eval a X.env) :: starEach [b] X.env := by rfl) (hs2 : starEach [b] X.env = (false, eval b X.env) :: starEach [] X.env := by rfl)
    (hfx : X.fn x = true ∨ X.env.scope.names.lookup x = some .local := by first | exact .inl rfl | exact .inr rfl) (hfy : X.fn y = true ∨ X.env.scope.names.lookup y = some .local := by first | exact .inl rfl | exact .inr rfl)
    (ha : (assignEach [.Tuple [.Name x px, .Name y py] kt pt] X.env).map (·.2) = [assign (.Tuple [.Name x px, .Name y py] kt pt) X.env] := by rfl)
    (hn : (assignEach [.Name x px, .Name y py] X.env).length = 2 := by rfl) (hst : (assignEach [.Name x px, .Name y py] X.env).findIdx? (·.1) = none := by rfl)
    (hg1 : (assignEach (.Name x px :: [.Name y py]) X.env).map (·.2) = assign (.Name x px) X.env :: (assignEach [.Name y py] X.env).map (·.2) := by rfl)
    (hg2 : (assignEach (.Name y py :: []) X.env).map (·.2) = assign (.Name y py) X.env :: (assignEach [] X.env).map (·.2) := by rfl) :
    Sv X ρ (.Assign [.Tuple [.Name x px, .Name y py] kt pt] (.Tuple [a, b] k2 pt2) pos) (c1 + c2) (fun o => ∃ s1 s2, P1 s1 ∧ P2 s2 ∧ o = .nx ((ρ.set i (some s1)).set j (some s2))) :=
  ps_imp (ps_asg (pe_tup (pa_two h1 h2 hs1 hs2)) (pg_tup hc (pgs_cons (pg_name hN hi hx hfx) (pgs_cons (pg_name hN hj hy hfy) pgs_nil hg2) hg1) hn hst) hs hw ha) fun Dn σ H h => by
    have h' : tSt X.K ρ (c1 + c2) (fun o => ∃ s1 s2, P1 s1 ∧ P2 s2 ∧ o = .nx ((ρ.set i (some s1)).set j (some s2))) { Dn with nx := fun σ' H' => ∀ p ws, H' p = none → Dn.nx σ' (upd H' p (.tup ws)) } σ H := by
      obtain ⟨G, L, bx, x, hb, qn, qr⟩ := h
      refine ⟨G, L, bx, x, hb, fun L' σ' H' ρ' s m1 m2 o x' p ws np => ?_, qr⟩
      refine qn L' σ' _ ρ' (Stp.andSameL x' s (same_upd np)) m1 m2 o ?_
      have := x'.step (Stp.same x' (same_upd (o := .tup ws) np))
      simpa [Bx.add0] using this
    obtain ⟨G, L, bx, x, hb, q⟩ := par_read hij hi0 hj0 h'
    refine ⟨G, L, bx, x, hb, fun v H1 sl N s p w => ?_⟩
    obtain ⟨G, L, bx, x, hb, q⟩ := q v H1 sl N s p w
    exact ⟨G, L, bx, x, hb, fun u H2 sl2 N2 s2 p2 w2 => ⟨by show 2 ≤ sizeLine; decide, fun r nr => ⟨r, [v, u], rfl, SqT.of upd_same, rfl, v, [u], rfl, u, [], rfl, rfl, q u H2 sl2 N2 s2 p2 w2 r _ nr⟩⟩⟩
theorem Svs.parC (i j : Nat) {s1 s2 : Sl} {x y : Str} {px py pt : Pos} {kt k2 pt2} (h1 : G1 X ρ a s1) (h2 : G1 X ρ b s2) (hc : X.calm = true) (hN : X.N.Nodup) (h : Svs X ((ρ.set i (some s1)).set j (some s2)) rest c O)
    (hw : swappedStores [.Tuple [.Name x px, .Name y py] kt pt] (.Tuple [a, b] k2 pt2) X.env = pure none := by rfl) (hi : X.N[i]? = some x := by rfl) (hj : X.N[j]? = some y := by rfl) (hij : i ≠ j := by decide) (hi0 : 0 < i := by decide) (hj0 : 0 < j := by decide)
    (hx : Loc X.env.scope x := by first | exact Or.inl rfl | exact Or.inr rfl) (hy : Loc X.env.scope y := by first | exact Or.inl rfl | exact Or.inr rfl)
    (hs : swapsWithSole [.Tuple [.Name x px, .Name y py] kt pt] (.Tuple [a, b] k2 pt2) pos.line X.env = pure false := by rfl)
    (hs1 : starEach [a, b] X.env = (false, eval a X.env) :: starEach [b] X.env := by rfl) (hs2 : starEach [b] X.env = (false, eval b X.env) :: starEach [] X.env := by rfl)
    (hfx : X.fn x = true ∨ X.env.scope.names.lookup x = some .local := by first | exact .inl rfl | exact .inr rfl) (hfy : X.fn y = true ∨ X.env.scope.names.lookup y = some .local := by first | exact .inl rfl | exact .inr rfl)
    (ha : (assignEach [.Tuple [.Name x px, .Name y py] kt pt] X.env).map (·.2) = [assign (.Tuple [.Name x px, .Name y py] kt pt) X.env] := by rfl)
    (hn : (assignEach [.Name x px, .Name y py] X.env).length = 2 := by rfl) (hst : (assignEach [.Name x px, .Name y py] X.env).findIdx? (·.1) = none := by rfl)
    (hg1 : (assignEach (.Name x px :: [.Name y py]) X.env).map (·.2) = assign (.Name x px) X.env :: (assignEach [.Name y py] X.env).map (·.2) := by rfl)
    (hg2 : (assignEach (.Name y py :: []) X.env).map (·.2) = assign (.Name y py) X.env :: (assignEach [] X.env).map (·.2) := by rfl) :
    Svs X ρ (.Assign [.Tuple [.Name x px, .Name y py] kt pt] (.Tuple [a, b] k2 pt2) pos :: rest) c O :=
  Svs.imp (Svs.cons (Sv.parC i j h1 h2 hc hN hw hi hj hij hi0 hj0 hx hy hs hs1 hs2 hfx hfy ha hn hst hg1 hg2) (fun ρ' ⟨t1, t2, e1, e2, e3⟩ => by cases e3; rw [e1, e2]; exact h) fun d' ⟨_, _, _, _, e2⟩ => by cases e2) (by omega) fun _ z => z
/-! ### freezing -/
/-- what is ours, read as data -/
def frD : OV → Option D
  | .l ds => some (.list ds)
  | .t es => some (tabD es)
  | .k _ => none
theorem Ctx.freeze {K : PySem.W.Frag} {G L : List Addr} {bx : Bx} {σ : L2.St} {H : Hp} {i : Nat} {o : OV} {d : D} (x : Ctx K G L bx σ H ρ) (hi : 0 < i) (e : ρ[i]? = some (some (.own o))) (f : frD o = some d) :
    ∃ L', (∀ a ∈ L', a ∈ L) ∧ Ctx K G L' bx σ H (ρ.set i (some (.dat d))) ∧ Same (mask (L ++ G) H) (mask (L' ++ G) H) := by
  obtain ⟨p, u, h1, ⟨h2, hG⟩, h3, h4⟩ := x.own i o e
  have hs : ∀ a ∈ L.filter (fun a => decide (a ≠ p)), a ∈ L := fun a z => (List.mem_filter.mp z).1
  have sm : Same (mask (L ++ G) H) (mask (L.filter (fun a => decide (a ≠ p)) ++ G) H) := mask_mono fun a z => by
    rcases List.mem_append.mp z with z | z
    · exact List.mem_append_left _ (hs a z)
    · exact List.mem_append_right _ z
  have off : ∀ {j : Nat} {s : Sl}, j ≠ i → (ρ.set i (some (.dat d)))[j]? = some (some s) → ρ[j]? = some (some s) := fun {j s} hj e => by
    rw [List.getElem?_set_ne (Ne.symm hj)] at e; exact e
  have hil : i < ρ.length := (List.getElem?_eq_some_iff.mp e).1
  refine ⟨_, hs, ⟨by rw [List.length_set]; exact x.len, fun a ha => x.al a (ha.imp_right (hs a)), fun j d' e' => ?_, fun j o' e' => ?_, fun j k o1 o2 q e1 e2 f1 f2 => ?_, fun b n e' => ?_⟩, sm⟩
  · by_cases hj : j = i
    · subst hj
      rw [List.getElem?_set_self hil] at e'
      cases e'
      refine ⟨_, h1, ?_⟩
      have hM : mask (L.filter (fun a => decide (a ≠ p)) ++ G) H p = some u := by
        rw [mask_out]
        · exact h3
        · simp [hG]
      cases u <;> cases o <;> first
        | exact absurd h4 id
        | cases f
      · exact .dat (.lst hM (dpa_mono sm _ _ h4))
      · obtain ⟨e1, e2⟩ := h4
        subst e1
        exact .tab (.inl hM) e2
    · obtain ⟨v, h1, h2⟩ := x.dat j d' (off hj e')
      exact ⟨v, h1, h2.mono sm⟩
  · by_cases hj : j = i
    · subst hj
      rw [List.getElem?_set_self hil] at e'
      cases e'
    · obtain ⟨p', u', g1, ⟨g2, gG⟩, g3, g4⟩ := x.own j o' (off hj e')
      refine ⟨p', u', g1, ⟨List.mem_filter.mpr ⟨g2, ?_⟩, gG⟩, g3, g4.mono sm⟩
      simp only [decide_eq_true_eq]
      intro z
      subst z
      exact hj (x.dis j i o' o p' (off hj e') e g1 h1)
  · by_cases hj : j = i
    · subst hj
      rw [List.getElem?_set_self hil] at e1
      cases e1
    · by_cases hk : k = i
      · subst hk
        rw [List.getElem?_set_self hil] at e2
        cases e2
      · exact x.dis j k o1 o2 q (off hj e1) (off hk e2) f1 f2
  · obtain ⟨g1, g2, g3, g4⟩ := x.box b n e'
    exact ⟨g1, fun z => g2 (hs b z), g3, g4⟩
/-- read as data; what comes of it is flat -/
theorem Ev.flat (i : Nat) {o : OV} {d : D} {P : D → Prop} (hi : 0 < i) (e1 : ρ[i]? = some (some (.own o))) (f : frD o = some d) (h : Ev X (ρ.set i (some (.dat d))) e c P) (hP : ∀ d, P d → (vOf d).isSome = true) : Ev X ρ e c P := by
  refine pe_imp h fun σ H Q ⟨G, L, bx, x, hb, q⟩ => ?_
  obtain ⟨L', _, x', _⟩ := x.freeze hi e1 f
  refine ⟨G, L', bx, x', hb, fun v H1 d1 s p w => q v H1 d1 s p ?_⟩
  obtain ⟨y, hy⟩ := Option.isSome_iff_exists.mp (hP d1 p)
  have wq : Dq X.K (mask (L' ++ G) H1) v d1 := w.dp fun es z => by rw [z] at hy; cases hy
  rw [dp_flat wq hy]
  exact .dat (dp_ofFlat hy)
theorem E1.flat (i : Nat) {o : OV} {d d1 : D} (h : E1 X (ρ.set i (some (.dat d))) e d1) (e1 : ρ[i]? = some (some (.own o)) := by rfl) (f : frD o = some d := by rfl) (hP : (vOf d1).isSome = true := by rfl) (hi : 0 < i := by decide) : E1 X ρ e d1 :=
  Ev.flat i hi e1 f h fun _ z => z ▸ hP
theorem T1.flat (i : Nat) {o : OV} {d : D} {k : Bool} (h : T1 X (ρ.set i (some (.dat d))) e k) (e1 : ρ[i]? = some (some (.own o)) := by rfl) (f : frD o = some d := by rfl) (hi : 0 < i := by decide) : T1 X ρ e k := by
  refine pt_imp h fun σ H Q ⟨G, L, bx, x, hb, q⟩ => ?_
  obtain ⟨L', _, x', _⟩ := x.freeze hi e1 f
  exact ⟨G, L', bx, x', hb, fun b H1 s p => q b H1 s p⟩
/-- frozen for good: what follows hands something back -/
theorem Svs.freeze (i : Nat) {o : OV} {d : D} (h : Svs X (ρ.set i (some (.dat d))) rest c (fun o => ∃ d, o = .rt d ∧ O o)) (e1 : ρ[i]? = some (some (.own o)) := by rfl) (f : frD o = some d := by rfl) (hi : 0 < i := by decide) : Svs X ρ rest c O := by
  refine pss_imp h fun Dn σ H ⟨G, L, bx, x, hb, qn, qr⟩ => ?_
  obtain ⟨L', hL, x', _⟩ := x.freeze hi e1 f
  refine ⟨G, L', bx, x', hb, fun L2 σ' H' ρ' s m1 m2 o x2 => ?_, fun v H' d s o w => qr v H' d (s.mono hL (Nat.le_refl _)) ?_ w⟩
  · obtain ⟨_, e, _⟩ := o
    cases e
  · obtain ⟨_, _, o⟩ := o
    exact o
/-! ### a thing of ours is changed -/
theorem Ctx.mut {K : PySem.W.Frag} {G L : List Addr} {bx : Bx} {σ : L2.St} {H : Hp} {i : Nat} {o o' : OV} {p : Addr} {u' : HO} (x : Ctx K G L bx σ H ρ) (hi : 0 < i) (e : ρ[i]? = some (some (.own o))) (h1 : σ[i]? = some (some (.ref p))) (ho : OwnAt K (mask (L ++ G) H) u' o') (hh : Hid (some u')) :
    Ctx K G L bx σ (upd H p u') (ρ.set i (some (.own o'))) ∧ Stp L bx 0 H (upd H p u') := by
  obtain ⟨p', u, g1, ⟨h2, hG⟩, h3, h4⟩ := x.own i o e
  rw [h1] at g1
  cases g1
  have sm : mask (L ++ G) (upd H p u') = mask (L ++ G) H := mask_upd_in (List.mem_append_left _ h2)
  have off : ∀ {j : Nat} {s : Sl}, j ≠ i → (ρ.set i (some (.own o')))[j]? = some (some s) → ρ[j]? = some (some s) := fun {j s} hj e => by
    rw [List.getElem?_set_ne (Ne.symm hj)] at e; exact e
  have hil : i < ρ.length := (List.getElem?_eq_some_iff.mp e).1
  refine ⟨⟨by rw [List.length_set]; exact x.len, fun a ha => ?_, fun j d e' => ?_, fun j o2 e' => ?_, fun j k o1 o2 q e1 e2 f1 f2 => ?_, fun b n e' => ?_⟩, ?_⟩
  · by_cases z : a = p
    · subst z; rw [upd_same]; exact hh
    · rw [upd_ne z]; exact x.al a ha
  · rw [sm]
    by_cases hj : j = i
    · subst hj
      rw [List.getElem?_set_self hil] at e'
      cases e'
    · exact x.dat j d (off hj e')
  · rw [sm]
    by_cases hj : j = i
    · subst hj
      rw [List.getElem?_set_self hil] at e'
      cases e'
      exact ⟨p, u', h1, ⟨h2, hG⟩, upd_same, ho⟩
    · obtain ⟨p', u2, g1, g2, g3, g4⟩ := x.own j o2 (off hj e')
      have ne : p' ≠ p := fun z => by
        subst z
        exact hj (x.dis j i o2 o p' (off hj e') e g1 h1)
      exact ⟨p', u2, g1, g2, by rw [upd_ne ne]; exact g3, g4⟩
  · have get : ∀ {m : Nat} {o3 : OV}, (ρ.set i (some (.own o')))[m]? = some (some (.own o3)) → ∃ o4, ρ[m]? = some (some (.own o4)) := fun {m o3} z => by
      by_cases hm : m = i
      · subst hm; exact ⟨o, e⟩
      · exact ⟨o3, off hm z⟩
    obtain ⟨_, e1⟩ := get e1
    obtain ⟨_, e2⟩ := get e2
    exact x.dis j k _ _ q e1 e2 f1 f2
  · obtain ⟨g1, g2, g3, a0, b0, c0, g4, g5⟩ := x.box b n e'
    have ne : b ≠ p := fun z => g2 (z ▸ h2)
    exact ⟨g1, g2, g3, a0, b0, c0, by rw [upd_ne ne]; exact g4, g5⟩
  · cases bx with
    | none => exact fun a o z e => by rw [upd_ne (fun q : a = p => z (by rw [q]; exact h2))]; exact e
    | some q =>
      obtain ⟨g1, g2, g3, a0, b0, c0, g4, g5⟩ := x.box q.1 q.2 rfl
      have ne : q.1 ≠ p := fun z => g2 (z ▸ h2)
      exact ⟨fun a o z nb e => by rw [upd_ne (fun q : a = p => z (by rw [q]; exact h2))]; exact e, a0, b0, c0, by rw [upd_ne ne]; exact g4, g5⟩
end
end Kl

set_option Elab.async false
set_option linter.all false
set_option maxRecDepth 100000
/-! Lists of ours that grow, shrink, are written. -/
namespace Kl
open PySem PySem.Spec L2
section
variable {X : Cx} {ρ : En} {c c1 c2 : Nat} {e ie : Expr} {es : List Expr} {P : D → Prop} {pos cp ap xp xp2 ap2 cp2 : Pos} {O : Out → Prop} {rest : List Stmt} {ds : List D}
theorem Ls.one (he : Ev X ρ e c P) (hd : ∀ d, P d → isDat d = true) (hs : starEach [e] X.env = (false, eval e X.env) :: starEach [] X.env := by rfl) : Ls X ρ [e] c (fun r => ∃ d, r = [d] ∧ P d) :=
  Ls.imp (Ls.cons (c2 := 0) (P2 := fun _ r => r = []) he (fun _ _ => L1.nil) hd hs) (Nat.le_refl _) fun r ⟨d, r', e1, p, e2⟩ => ⟨d, by rw [e1, e2], p⟩
/-- a list of ours stands -/
theorem Ctx.lst {K : PySem.W.Frag} {G L : List Addr} {bx : Bx} {σ : L2.St} {H : Hp} {i : Nat} (x : Ctx K G L bx σ H ρ) (e : ρ[i]? = some (some (.own (.l ds)))) : ∃ p vs, σ[i]? = some (some (.ref p)) ∧ H p = some (.lst vs) ∧ DqAll K (mask (L ++ G) H) vs ds := by
  obtain ⟨p, u, h1, _, h3, h4⟩ := x.own i _ e
  cases u with
  | lst vs => exact ⟨p, vs, h1, h3, h4⟩
  | _ => exact False.elim h4
theorem Sv.append (i : Nat) {x : Str} (h1 : ρ[i]? = some (some (.own (.l ds)))) (he : Ev X ρ e c P) (hd : ∀ d, P d → isDat d = true) (hz : ds.length < sizeLine) (hN : X.N[i]? = some x := by rfl) (hv : Vis X.env.scope x := by first | exact Or.inl rfl | exact Or.inr (Or.inl rfl) | exact Or.inr (Or.inr rfl)) (h0 : 0 < i := by decide)
    (hx : (x == ("__debug__" : Str)) = false := by decide) (hcd : (x == ("__classdict__" : Str)) = false := by decide)
    (hbase : attributeBase (.Name x xp) "append" X.env (eval (.Name x xp) X.env) = eval (.Name x xp) X.env := by rfl)
    (hfew : ((backTo cp (starEach (e :: []) X.env)).all (fun x => !x.1) && (backToKw cp (keywordEach [] X.env)).all (fun x => x.1.isSome)
      && decide ((e :: ([] : List Expr)).length + ([] : List Keyword).length + (if ([] : List Keyword).isEmpty then 0 else 1) < 30)) = true := by rfl)
    (hline : (ap.endLine == cp.line) = true := by rfl) (hs : starEach [e] X.env = (false, eval e X.env) :: starEach [] X.env := by rfl) (hplain : (backTo cp (starEach [] X.env)).any (·.1) = false := by rfl)
    (hsw : swapsWith (.Call (.Attribute (.Name x xp) "append" ap) [e] [] cp) none pos.line X.env = pure false := by rfl) :
    Sv X ρ (.Expr (.Call (.Attribute (.Name x xp) "append" ap) [e] [] cp) pos) c (fun o => ∃ d, P d ∧ o = .nx (ρ.set i (some (.own (.l (ds ++ [d])))))) := by
  refine ps_imp (ps_expr (pe_bm PySem.F.plainAttrs_list PySem.F.slot_list_append PySem.F.type_list_append mt_append (pe_var (i := i) hN hv hx hcd) (Ls.one he hd hs) hbase hfew hline hs hplain) hsw) fun Dn σ H ⟨G, L, bx, x, hb, qn, qr⟩ => ?_
  obtain ⟨p, vs, g1, g2, g3⟩ := x.lst h1
  refine ⟨_, g1, .inl ⟨rfl, vs, SqL.of g2⟩, G, L, bx, x, hb, fun us H1 r s q w => ?_⟩
  obtain ⟨d, rfl, pd⟩ := q
  have x1 := x.step s
  obtain ⟨p', ws, f1, f2, f3⟩ := x1.lst h1
  rw [g1] at f1
  cases f1
  cases w with
  | cons w1 w2 =>
    cases w2
    refine ⟨p, ws, _, rfl, rfl, f2, by rw [dpa_len f3]; exact hz, ?_⟩
    obtain ⟨x2, s2⟩ := x1.mut (o' := .l (ds ++ [d])) (u' := .lst (ws ++ [_])) h0 h1 g1 (dpa_snoc f3 w1) trivial
    have st := (s.mono (L' := L) (fun _ z => by cases z) (Nat.le_refl _)).trans s2
    exact qn L σ _ _ st (fun _ z => z) (fun _ z => .inl z) ⟨d, pd, rfl⟩ x2
theorem Svs.append (i : Nat) {x : Str} {d : D} (h1 : ρ[i]? = some (some (.own (.l ds)))) (he : E1 X ρ e d) (hz : ds.length < sizeLine) (h : Svs X (ρ.set i (some (.own (.l (ds ++ [d]))))) rest c O) (hd : isDat d = true := by rfl) (hN : X.N[i]? = some x := by rfl) (hv : Vis X.env.scope x := by first | exact Or.inl rfl | exact Or.inr (Or.inl rfl) | exact Or.inr (Or.inr rfl)) (h0 : 0 < i := by decide)
    (hx : (x == ("__debug__" : Str)) = false := by decide) (hcd : (x == ("__classdict__" : Str)) = false := by decide)
    (hbase : attributeBase (.Name x xp) "append" X.env (eval (.Name x xp) X.env) = eval (.Name x xp) X.env := by rfl)
    (hfew : ((backTo cp (starEach (e :: []) X.env)).all (fun x => !x.1) && (backToKw cp (keywordEach [] X.env)).all (fun x => x.1.isSome)
      && decide ((e :: ([] : List Expr)).length + ([] : List Keyword).length + (if ([] : List Keyword).isEmpty then 0 else 1) < 30)) = true := by rfl)
    (hline : (ap.endLine == cp.line) = true := by rfl) (hs : starEach [e] X.env = (false, eval e X.env) :: starEach [] X.env := by rfl) (hplain : (backTo cp (starEach [] X.env)).any (·.1) = false := by rfl)
    (hsw : swapsWith (.Call (.Attribute (.Name x xp) "append" ap) [e] [] cp) none pos.line X.env = pure false := by rfl) :
    Svs X ρ (.Expr (.Call (.Attribute (.Name x xp) "append" ap) [e] [] cp) pos :: rest) c O :=
  Svs.imp (Svs.cons (Sv.append i h1 he (fun _ z => z ▸ hd) hz hN hv h0 hx hcd hbase hfew hline hs hplain hsw) (fun ρ' ⟨d', e1, e2⟩ => by cases e2; rw [e1]; exact h) fun d' ⟨_, _, e2⟩ => by cases e2) (by omega) fun _ z => z
/-- found.append(pool.pop(e)) -/
theorem dpa_erase {K : PySem.W.Frag} {H : Hp} : ∀ {vs : List V} {ds : List D} (k : Nat), DqAll K H vs ds → DqAll K H (vs.eraseIdx k) (ds.eraseIdx k)
  | _, _, _, .nil => .nil
  | _, _, 0, .cons _ t => t
  | _, _, k + 1, .cons r t => .cons r (dpa_erase k t)
theorem Sv.appendPop (i j : Nat) {x y : Str} {ps : List D} (h1 : ρ[i]? = some (some (.own (.l ds)))) (h2 : ρ[j]? = some (some (.own (.l ps)))) (he : Ev X ρ e c (fun d => ∃ k : Nat, d = .int k ∧ k < ps.length)) (hz : ds.length < sizeLine) (hps : ps.length ≤ sizeLine) (hij : i ≠ j := by decide) (hN : X.N[i]? = some x := by rfl) (hN2 : X.N[j]? = some y := by rfl)
    (hv : Vis X.env.scope x := by first | exact Or.inl rfl | exact Or.inr (Or.inl rfl) | exact Or.inr (Or.inr rfl)) (hv2 : Vis X.env.scope y := by first | exact Or.inl rfl | exact Or.inr (Or.inl rfl) | exact Or.inr (Or.inr rfl)) (h0 : 0 < i := by decide) (h00 : 0 < j := by decide)
    (hx : (x == ("__debug__" : Str)) = false := by decide) (hcd : (x == ("__classdict__" : Str)) = false := by decide) (hx2 : (y == ("__debug__" : Str)) = false := by decide) (hcd2 : (y == ("__classdict__" : Str)) = false := by decide)
    (hbase : attributeBase (.Name x xp) "append" X.env (eval (.Name x xp) X.env) = eval (.Name x xp) X.env := by rfl) (hbase2 : attributeBase (.Name y xp2) "pop" X.env (eval (.Name y xp2) X.env) = eval (.Name y xp2) X.env := by rfl)
    (hfew : ((backTo cp (starEach (.Call (.Attribute (.Name y xp2) "pop" ap2) [e] [] cp2 :: []) X.env)).all (fun x => !x.1) && (backToKw cp (keywordEach [] X.env)).all (fun x => x.1.isSome)
      && decide ((.Call (.Attribute (.Name y xp2) "pop" ap2) [e] [] cp2 :: ([] : List Expr)).length + ([] : List Keyword).length + (if ([] : List Keyword).isEmpty then 0 else 1) < 30)) = true := by rfl)
    (hfew2 : ((backTo cp2 (starEach (e :: []) X.env)).all (fun x => !x.1) && (backToKw cp2 (keywordEach [] X.env)).all (fun x => x.1.isSome)
      && decide ((e :: ([] : List Expr)).length + ([] : List Keyword).length + (if ([] : List Keyword).isEmpty then 0 else 1) < 30)) = true := by rfl)
    (hline : (ap.endLine == cp.line) = true := by rfl) (hline2 : (ap2.endLine == cp2.line) = true := by rfl)
    (hs : starEach [.Call (.Attribute (.Name y xp2) "pop" ap2) [e] [] cp2] X.env = (false, eval (.Call (.Attribute (.Name y xp2) "pop" ap2) [e] [] cp2) X.env) :: starEach [] X.env := by rfl) (hs2 : starEach [e] X.env = (false, eval e X.env) :: starEach [] X.env := by rfl)
    (hplain : (backTo cp (starEach [] X.env)).any (·.1) = false := by rfl) (hplain2 : (backTo cp2 (starEach [] X.env)).any (·.1) = false := by rfl)
    (hsw : swapsWith (.Call (.Attribute (.Name x xp) "append" ap) [.Call (.Attribute (.Name y xp2) "pop" ap2) [e] [] cp2] [] cp) none pos.line X.env = pure false := by rfl) :
    Sv X ρ (.Expr (.Call (.Attribute (.Name x xp) "append" ap) [.Call (.Attribute (.Name y xp2) "pop" ap2) [e] [] cp2] [] cp) pos) c (fun o => ∃ k d, ps[k]? = some d ∧ o = .nx ((ρ.set j (some (.own (.l (ps.eraseIdx k))))).set i (some (.own (.l (ds ++ [d])))))) := by
  refine ps_imp (ps_expr (pe_bm PySem.F.plainAttrs_list PySem.F.slot_list_append PySem.F.type_list_append mt_append (pe_var (i := i) hN hv hx hcd)
    (pa_cons (pe_bm PySem.F.plainAttrs_list PySem.F.slot_list_pop PySem.F.type_list_pop mt_popAt (pe_var (i := j) hN2 hv2 hx2 hcd2) (Ls.one he (fun d ⟨k, e, _⟩ => by rw [e]; rfl) hs2) hbase2 hfew2 hline2 hs2 hplain2) pa_nil hs) hbase hfew hline hs hplain) hsw) fun Dn σ H ⟨G, L, bx, x, hb, qn, qr⟩ => ?_
  obtain ⟨p, vs, g1, g2, g3⟩ := x.lst h1
  obtain ⟨r, us, g4, g5, g6⟩ := x.lst h2
  refine ⟨_, g1, .inl ⟨rfl, vs, SqL.of g2⟩, _, g4, .inl ⟨rfl, us, SqL.of g5⟩, G, L, bx, x, hb, fun ws H1 rs s q w => ?_⟩
  obtain ⟨d0, rfl, k, rfl, hk⟩ := q
  have x1 := x.step s
  obtain ⟨p', vs', f1, f2, f3⟩ := x1.lst h1
  obtain ⟨r', us', f4, f5, f6⟩ := x1.lst h2
  rw [g1] at f1
  cases f1
  rw [g4] at f4
  cases f4
  cases w with
  | cons w1 w2 =>
    cases w2
    cases w1
    have hl := dpa_len f6
    obtain ⟨d, hd⟩ : ∃ d, ps[k]? = some d := ⟨ps[k], by simp [hk]⟩
    obtain ⟨y, hy, wy⟩ := dpa_get f6 hd
    have b1 : -(2 : Int) ^ 63 ≤ (k : Int) := by omega
    have b2 : (k : Int) < 2 ^ 63 := by
      have : sizeLine ≤ 2 ^ 62 := by decide
      omega
    refine ⟨r, us', (k : Int), k, y, rfl, rfl, f5, b1, b2, ?_, hy, ?_⟩
    · have := seqIndex_of (k := (k : Int)) (n := us'.length) (by omega) (by omega)
      simpa using this
    · obtain ⟨x2, s2⟩ := x1.mut (o' := .l (ps.eraseIdx k)) (u' := .lst (us'.eraseIdx k)) h00 h2 g4 (dpa_erase k f6) trivial
      have e1 : (ρ.set j (some (.own (.l (ps.eraseIdx k)))))[i]? = some (some (.own (.l ds))) := by rw [List.getElem?_set_ne (Ne.symm hij)]; exact h1
      obtain ⟨p2, vs2, k1, k2, k3⟩ := x2.lst e1
      rw [g1] at k1
      cases k1
      have sm : mask (L ++ G) (upd H1 r (.lst (us'.eraseIdx k))) = mask (L ++ G) H1 := mask_upd_in (List.mem_append_left _ ((x.own j _ h2).elim fun p' ⟨u, z1, z2, _⟩ => by rw [g4] at z1; cases z1; exact z2.1))
      refine ⟨p, vs2, y, rfl, rfl, k2, by rw [dpa_len k3]; exact hz, ?_⟩
      obtain ⟨x3, s3⟩ := x2.mut (o' := .l (ds ++ [d])) (u' := .lst (vs2 ++ [y])) h0 e1 g1 (dpa_snoc k3 (by rw [sm]; exact wy)) trivial
      have st := ((s.mono (L' := L) (fun _ z => by cases z) (Nat.le_refl _)).trans s2).trans (by simpa [Bx.add0] using s3)
      exact qn L σ _ _ st (fun _ z => z) (fun _ z => .inl z) ⟨k, d, hd, rfl⟩ (by simpa [Bx.add0] using x3)
/-- x[i] = e -/
theorem dpa_set {K : PySem.W.Frag} {H : Hp} {v : V} {d : D} (h : Dq K H v d) : ∀ {vs : List V} {ds : List D} (k : Nat), DqAll K H vs ds → DqAll K H (vs.set k v) (ds.set k d)
  | _, _, _, .nil => .nil
  | _, _, 0, .cons _ t => .cons h t
  | _, _, k + 1, .cons r t => .cons r (dpa_set h k t)
end
end Kl

set_option Elab.async false
set_option linter.all false
set_option maxRecDepth 100000
/-! Lists written; tables read and written. -/
namespace Kl
open PySem PySem.Spec L2
def putT (es : Tab) (k : List Str) (v : D) : Tab := if (es.any fun e => decide (e.1 = k)) = true then es.map (fun e => if e.1 = k then (e.1, v) else e) else es ++ [(k, v)]
def getT (es : Tab) (k : List Str) : Option D := (es.find? fun e => decide (e.1 = k)).map (·.2)
def putS (es : List (Str × D)) (k : Str) (v : D) : List (Str × D) := if (es.any fun e => decide (e.1 = k)) = true then es.map (fun e => if e.1 = k then (e.1, v) else e) else es ++ [(k, v)]
def getS (es : List (Str × D)) (k : Str) : Option D := (es.find? fun e => decide (e.1 = k)).map (·.2)
theorem inr_inj : ∀ {a b : List Str}, a.map (Sum.inr : Str → Key) = b.map Sum.inr → a = b
  | [], [], _ => rfl
  | [], _ :: _, h => by cases h
  | _ :: _, [], h => by cases h
  | x :: a, y :: b, h => by
    injection h with h1 h2
    injection h1 with h1
    rw [h1, inr_inj h2]
theorem inr_dec (a b : List Str) : decide (a.map (Sum.inr : Str → Key) = b.map Sum.inr) = decide (a = b) := by
  rw [Bool.eq_iff_iff, decide_eq_true_iff, decide_eq_true_iff]
  exact ⟨inr_inj, fun h => by rw [h]⟩
theorem tabH_any (es : Tab) (k : List Str) : ((tabH es).any fun kv => decide (kv.1 = k.map Sum.inr)) = es.any fun e => decide (e.1 = k) := by
  unfold tabH
  rw [List.any_map]
  congr 1
  funext e
  exact inr_dec e.1 k
theorem tabH_put (es : Tab) (k : List Str) (v : D) : tabH (putT es k v) = putK (tabH es) (k.map Sum.inr) ((vOf v).getD .non) := by
  unfold putT putK
  rw [tabH_any]
  by_cases h : (es.any fun e => decide (e.1 = k)) = true
  · rw [if_pos h, if_pos h]
    unfold tabH
    rw [List.map_map, List.map_map]
    apply List.map_congr_left
    intro e _
    show (fun e : List Str × D => (e.1.map Sum.inr, (vOf e.2).getD .non)) (if e.1 = k then (e.1, v) else e) = if e.1.map Sum.inr = k.map Sum.inr then _ else _
    by_cases z : e.1 = k
    · rw [if_pos z, if_pos (by rw [z])]
    · rw [if_neg z, if_neg (fun q => z (inr_inj q))]
  · rw [if_neg h, if_neg h]
    unfold tabH
    rw [List.map_append]
    rfl
theorem tabH_get (es : Tab) (k : List Str) : valV (tabH es) (k.map Sum.inr) = (getT es k).map fun d => (vOf d).getD .non := by
  unfold valV getT tabH
  rw [List.find?_map]
  have : ((fun kv : List Key × V => decide (kv.1 = k.map Sum.inr)) ∘ fun e : List Str × D => (e.1.map Sum.inr, (vOf e.2).getD .non)) = fun e => decide (e.1 = k) := by
    funext e
    exact inr_dec e.1 k
  rw [this]
  cases List.find? (fun e : List Str × D => decide (e.1 = k)) es <;> rfl
theorem TabOk.put {es : Tab} {k : List Str} {v : D} (h : TabOk es) (hv : (vOf v).isSome = true) : TabOk (putT es k v) := by
  intro e he
  unfold putT at he
  split at he
  · obtain ⟨x, hx, rfl⟩ := List.mem_map.mp he
    split
    · exact hv
    · exact h x hx
  · rcases List.mem_append.mp he with z | z
    · exact h e z
    · rw [List.mem_singleton.mp z]; exact hv
theorem kVs (k : List Str) : (k.map (Sum.inr : Str → Key)).map kV = k.map V.str := by
  rw [List.map_map]
  rfl
theorem getT_ok {es : Tab} {k : List Str} {d : D} (h : TabOk es) (e : getT es k = some d) : ∃ x, vOf d = some x := by
  unfold getT at e
  cases hf : es.find? (fun e => decide (e.1 = k)) with
  | none => rw [hf] at e; cases e
  | some p =>
    rw [hf] at e
    cases e
    exact Option.isSome_iff_exists.mp (h p (List.mem_of_find?_eq_some hf))
/-- a table as it stands -/
theorem Dv.rd {K : PySem.W.Frag} {H : Hp} {v : V} {d : D} {es : Tab} (h : Dv K H v d) (hd : d = tabD es ∨ d = lockD es) : ∃ a, v = .ref a ∧ Rd H a (.dT (tabH es)) ∧ TabOk es := by
  rcases hd with rfl | rfl
  · obtain ⟨a, es', rfl, h1, h2, h3⟩ := h.table
    rw [tabD_inj h3] at h1 h2
    exact ⟨a, rfl, h1, h2⟩
  · obtain ⟨a, o, es', rfl, h1, h2, h3⟩ := h.lock
    rw [lockD_inj h3] at h1 h2
    exact ⟨a, rfl, .inr ⟨o, h1⟩, h2⟩
theorem Rd.mk' {G : List Addr} {H : Hp} {a : Addr} {u : HO} (h : Rd (mask G H) a u) : Rd H a u := h.imp (fun h => (mask_at h).2) fun ⟨o, h⟩ => ⟨o, (mask_at h).2⟩
section
variable {X : Cx} {ρ : En} {c c1 c2 : Nat} {e ie a b : Expr} {es : List Expr} {P : D → Prop} {pos cp ap xp pos' : Pos} {O : Out → Prop} {rest : List Stmt} {ds : List D} {tb : Tab} {k : List Str}
theorem dget_tab {K : PySem.W.Frag} {M : List Addr} {H : Hp} {v u : V} {d : D} (w : Dv K (mask M H) v d) (hd : d = tabD tb ∨ d = lockD tb) (w2 : Dv K (mask M H) u (.tuple (k.map .str))) :
    ∃ a, v = .ref a ∧ TabOk tb ∧ DGet H a u ((getT tb k).map fun d => (vOf d).getD .non) := by
  obtain ⟨a, rfl, r, ok⟩ := w.rd hd
  obtain ⟨b, vs, rfl, h1, h2⟩ := w2.tuple
  have h1 := h1.tup (isHold_strs k)
  rw [dpa_strs h2] at h1
  refine ⟨a, rfl, ok, .inr ⟨tabH tb, k.map Sum.inr, b, Rd.mk' r, rfl, ?_, (tabH_get tb k).symm⟩⟩
  rw [kVs]
  exact (mask_at h1).2
theorem E1.getT {dt d : D} (ha : E1 X ρ a dt) (hd : dt = tabD tb ∨ dt = lockD tb) (hb : E1 X ρ b (.tuple (k.map .str))) (hg : Kl.getT tb k = some d) (hu : X.A.units + 1 < cLine) (hs : NoSl b := by exact fun _ _ => rfl) : E1 X ρ (.Subscript a b pos) d := by
  refine pe_imp (pe_dget hu ha hb hs) fun σ H Q ⟨G, L, bx, x, hb, q⟩ => ⟨G, L, bx, x, hb, fun v H1 d1 s p w => ?_⟩
  subst p
  refine ⟨G, L, bx.add 0, x.step s, bx0 hb, fun u H2 d2 s2 p2 w2 => ?_⟩
  subst p2
  have x2 := (x.step s).step s2
  obtain ⟨r, rfl, ok, g⟩ := dget_tab (w.mono (s2.mask (x.step s).bM)) hd w2
  obtain ⟨y, hy⟩ := getT_ok ok hg
  rw [hg] at g
  refine ⟨r, _, rfl, g, q _ H2 d (s.trans s2) rfl ?_⟩
  show Dv X.K _ ((vOf d).getD .non) d
  rw [hy]
  exact .dat (dp_ofFlat hy)
theorem T1.notinT {dt : D} (ha : E1 X ρ a (.tuple (k.map .str))) (hb : E1 X ρ b dt) (hd : dt = tabD tb ∨ dt = lockD tb) (hu : X.A.units + 1 < cLine) (hm : behindInMarks .NotIn b = false := by first | exact nomark _ | rfl) : T1 X ρ (.Compare a [.NotIn] [b] pos) (!(Kl.getT tb k).isSome) := by
  refine pt_imp (pt_cmp (pc_dnotin hu ha hb) hm) fun σ H Q ⟨G, L, bx, x, hb, q⟩ => ⟨G, L, bx, x, hb, fun v H1 d1 s p w => ?_⟩
  subst p
  refine ⟨G, L, bx.add 0, x.step s, bx0 hb, fun u H2 d2 s2 p2 w2 => ?_⟩
  subst p2
  obtain ⟨r, rfl, ok, g⟩ := dget_tab w2 hd (w.mono (s2.mask (x.step s).bM))
  exact ⟨r, _, rfl, g, _, rfl, q _ H2 (s.trans s2) (by rw [Option.isSome_map])⟩
/-- x[k] = e, x a table of ours -/
theorem Ctx.tbl {K : PySem.W.Frag} {G L : List Addr} {bx : Bx} {σ : L2.St} {H : Hp} {i : Nat} (x : Ctx K G L bx σ H ρ) (e : ρ[i]? = some (some (.own (.t tb)))) : ∃ p, σ[i]? = some (some (.ref p)) ∧ H p = some (.dT (tabH tb)) ∧ TabOk tb := by
  obtain ⟨p, u, h1, _, h3, h4⟩ := x.own i _ e
  cases u with
  | dT es' =>
    obtain ⟨e1, e2⟩ := h4
    rw [e1] at h3
    exact ⟨p, h1, h3, e2⟩
  | _ => exact False.elim h4
theorem Sv.putT (i : Nat) {x : Str} {kx : Expr} (h1 : ρ[i]? = some (some (.own (.t tb)))) (he : Ev X ρ e c P) (hd : ∀ d, P d → (vOf d).isSome = true) (hk : E1 X ρ kx (.tuple (k.map .str))) (hz : tb.length < sizeLine) (hu : X.A.units + 1 < cLine)
    (hs : swapsWith e (some (.Subscript (.Name x xp) kx pos')) pos.line X.env = pure false := by rfl) (hN : X.N[i]? = some x := by rfl) (hv : Vis X.env.scope x := by first | exact Or.inl rfl | exact Or.inr (Or.inl rfl) | exact Or.inr (Or.inr rfl)) (h0 : 0 < i := by decide)
    (hx : (x == ("__debug__" : Str)) = false := by decide) (hcd : (x == ("__classdict__" : Str)) = false := by decide) :
    Sv X ρ (.Assign [.Subscript (.Name x xp) kx pos'] e pos) c (fun o => ∃ d, P d ∧ o = .nx (ρ.set i (some (.own (.t (Kl.putT tb k d)))))) := by
  refine ps_imp (ps_dput hu (pe_var (i := i) hN hv hx hcd) hk he hs) fun Dn σ H ⟨G, L, bx, x, hb, qn, qr⟩ => ⟨G, L, bx, x, hb, fun v H1 d s p w => ?_⟩
  have x1 := x.step s
  obtain ⟨r, g1, g2, ok⟩ := x1.tbl h1
  refine ⟨_, g1, G, L, bx.add c, x1, (bx_ne (c2 := 0) hb).2, fun u H2 d2 s2 p2 w2 => ?_⟩
  subst p2
  have x2 := x1.step s2
  obtain ⟨r', g1', g2', _⟩ := x2.tbl h1
  rw [g1] at g1'
  cases g1'
  obtain ⟨b, vs, rfl, k1, k2⟩ := w2.tuple
  have k1 := k1.tup (isHold_strs k)
  rw [dpa_strs k2] at k1
  obtain ⟨y, hy⟩ := Option.isSome_iff_exists.mp (hd d p)
  have wq : Dq X.K (mask (L ++ G) H1) v d := w.dp fun es z => by rw [z] at hy; cases hy
  have ev : v = (vOf d).getD .non := by rw [hy]; exact dp_flat wq hy
  refine ⟨r, _, rfl, DPut.t (k := k.map Sum.inr) g2' (by rw [kVs]; exact (mask_at k1).2) (by unfold tabH; rw [List.length_map]; exact hz), ?_⟩
  rw [ev, ← tabH_put]
  obtain ⟨x3, s3⟩ := x2.mut (o' := .t (Kl.putT tb k d)) (u' := .dT (tabH (Kl.putT tb k d))) h0 h1 g1 ⟨rfl, ok.put (hd d p)⟩ trivial
  have st := ((s.trans s2).mono (L' := L) (fun _ z => by cases z) (Nat.le_refl _)).trans (by simpa [Bx.add_add] using s3)
  exact qn L σ _ _ st (fun _ z => z) (fun _ z => .inl z) ⟨d, p, rfl⟩ (by simpa [Bx.add_add] using x3)
/-! ### dicts with text keys -/
theorem put_paired {R : V → D → Prop} {v : V} {d : D} {k : Str} (h : R v d) : ∀ {kvs : List (Key × V)} {es : List (Str × D)}, Paired (fun (p : Key × V) (q : Str × D) => p.1 = Sum.inr q.1 ∧ R p.2 q.2) kvs es → Paired (fun (p : Key × V) (q : Str × D) => p.1 = Sum.inr q.1 ∧ R p.2 q.2) (putK kvs (Sum.inr k) v) (putS es k d) := by
  intro kvs es r
  have any : (kvs.any fun kv => decide (kv.1 = Sum.inr k)) = es.any fun e => decide (e.1 = k) := by
    induction r with
    | nil => rfl
    | cons h1 _ ih =>
      rw [List.any_cons, List.any_cons, ih, h1.1]
      congr 1
      rw [Bool.eq_iff_iff, decide_eq_true_iff, decide_eq_true_iff]
      exact ⟨fun z => Sum.inr.inj z, fun z => by rw [z]⟩
  unfold putK putS
  rw [any]
  by_cases hb : (es.any fun e => decide (e.1 = k)) = true
  · rw [if_pos hb, if_pos hb]
    clear hb any
    induction r with
    | nil => exact .nil
    | @cons p q _ _ h1 _ ih =>
      rw [List.map_cons, List.map_cons]
      refine .cons ?_ ih
      by_cases z : q.1 = k
      · rw [if_pos z, if_pos (by rw [h1.1, z])]
        exact ⟨h1.1, h⟩
      · rw [if_neg z, if_neg (fun e => z (Sum.inr.inj (h1.1.symm.trans e)))]
        exact h1
  · rw [if_neg hb, if_neg hb]
    clear hb any
    induction r with
    | nil => exact .cons ⟨rfl, h⟩ .nil
    | cons h1 _ ih => exact .cons h1 ih
theorem get_paired {R : V → D → Prop} {k : Str} {d : D} : ∀ {kvs : List (Key × V)} {es : List (Str × D)}, Paired (fun (p : Key × V) (q : Str × D) => p.1 = Sum.inr q.1 ∧ R p.2 q.2) kvs es → getS es k = some d → ∃ v, valV kvs (Sum.inr k) = some v ∧ R v d := by
  intro kvs es r e
  induction r with
  | nil => cases e
  | @cons p q _ _ h1 _ ih =>
    unfold getS at e
    unfold valV
    rw [List.find?_cons] at e ⊢
    by_cases z : q.1 = k
    · have : decide (p.1 = Sum.inr k) = true := by rw [h1.1, z]; simp
      rw [this]
      rw [show decide (q.1 = k) = true by simp [z]] at e
      cases e
      exact ⟨_, rfl, h1.2⟩
    · have : decide (p.1 = Sum.inr k) = false := by
        rw [h1.1]
        exact decide_eq_false fun e => z (Sum.inr.inj e)
      rw [this]
      rw [show decide (q.1 = k) = false by simp [z]] at e
      exact ih e
theorem Ctx.dct {K : PySem.W.Frag} {G L : List Addr} {bx : Bx} {σ : L2.St} {H : Hp} {i : Nat} {es : List (Str × D)} (x : Ctx K G L bx σ H ρ) (e : ρ[i]? = some (some (.own (.k es)))) :
    ∃ p kvs, σ[i]? = some (some (.ref p)) ∧ H p = some (.dK kvs) ∧ Paired (fun (p : Key × V) (q : Str × D) => p.1 = Sum.inr q.1 ∧ Dq K (mask (L ++ G) H) p.2 q.2) kvs es := by
  obtain ⟨p, u, h1, _, h3, h4⟩ := x.own i _ e
  cases u with
  | dK kvs => exact ⟨p, kvs, h1, h3, h4⟩
  | _ => exact False.elim h4
theorem paired_len {α β : Type} {R : α → β → Prop} : ∀ {xs : List α} {ys : List β}, Paired R xs ys → xs.length = ys.length
  | _, _, .nil => rfl
  | _, _, .cons _ h => congrArg (· + 1) (paired_len h)
theorem E1.getK (i : Nat) {x : Str} {kx : Expr} {s : Str} {d : D} {dd : List (Str × D)} (hk : E1 X ρ kx (.str s)) (hg : getS dd s = some d) (hu : X.A.units + 1 < cLine) (h1 : ρ[i]? = some (some (.own (.k dd))) := by rfl) (hs : NoSl kx := by exact fun _ _ => rfl) (hN : X.N[i]? = some x := by rfl) (hv : Vis X.env.scope x := by first | exact Or.inl rfl | exact Or.inr (Or.inl rfl) | exact Or.inr (Or.inr rfl))
    (hx : (x == ("__debug__" : Str)) = false := by decide) (hcd : (x == ("__classdict__" : Str)) = false := by decide) : E1 X ρ (.Subscript (.Name x xp) kx pos) d := by
  refine pe_imp (pe_dget hu (pe_var (i := i) hN hv hx hcd) hk hs) fun σ H Q ⟨G, L, bx, x, hb, q⟩ => ?_
  obtain ⟨r, kvs, g1, g2, g3⟩ := x.dct h1
  refine ⟨_, g1, G, L, bx, x, hb, fun u H2 d2 s2 p2 w2 => ?_⟩
  subst p2
  have x2 := x.step s2
  obtain ⟨r', kvs', g1', g2', g3'⟩ := x2.dct h1
  rw [g1] at g1'
  cases g1'
  obtain ⟨v, hv, w⟩ := get_paired g3' hg
  have e := w2.str
  subst e
  exact ⟨r, v, rfl, by have := DGet.k (k := Sum.inr s) g2'; rw [hv] at this; exact this, q v H2 d s2 rfl (.dat w)⟩
theorem Sv.putK (i : Nat) {x : Str} {kx : Expr} {s : Str} {dd : List (Str × D)} (h1 : ρ[i]? = some (some (.own (.k dd)))) (he : Ev X ρ e c P) (hd : ∀ d, P d → isDat d = true) (hk : E1 X ρ kx (.str s)) (hz : dd.length < sizeLine) (hu : X.A.units + 1 < cLine)
    (hs : swapsWith e (some (.Subscript (.Name x xp) kx pos')) pos.line X.env = pure false := by rfl) (hN : X.N[i]? = some x := by rfl) (hv : Vis X.env.scope x := by first | exact Or.inl rfl | exact Or.inr (Or.inl rfl) | exact Or.inr (Or.inr rfl)) (h0 : 0 < i := by decide)
    (hx : (x == ("__debug__" : Str)) = false := by decide) (hcd : (x == ("__classdict__" : Str)) = false := by decide) :
    Sv X ρ (.Assign [.Subscript (.Name x xp) kx pos'] e pos) c (fun o => ∃ d, P d ∧ o = .nx (ρ.set i (some (.own (.k (putS dd s d)))))) := by
  refine ps_imp (ps_dput hu (pe_var (i := i) hN hv hx hcd) hk he hs) fun Dn σ H ⟨G, L, bx, x, hb, qn, qr⟩ => ⟨G, L, bx, x, hb, fun v H1 d st p w => ?_⟩
  have x1 := x.step st
  obtain ⟨r, kvs, g1, g2, g3⟩ := x1.dct h1
  refine ⟨_, g1, G, L, bx.add c, x1, (bx_ne (c2 := 0) hb).2, fun u H2 d2 s2 p2 w2 => ?_⟩
  subst p2
  have x2 := x1.step s2
  obtain ⟨r', kvs', g1', g2', g3'⟩ := x2.dct h1
  rw [g1] at g1'
  cases g1'
  have e := w2.str
  subst e
  refine ⟨r, _, rfl, DPut.k (k := Sum.inr s) g2' (by rw [paired_len g3']; exact hz), ?_⟩
  obtain ⟨x3, s3⟩ := x2.mut (o' := .k (putS dd s d)) (u' := .dK (L2.putK kvs' (Sum.inr s) v)) h0 h1 g1 (put_paired ((w.mono (s2.mask x1.bM)).dp' (hd d p)) g3') trivial
  have st' := ((st.trans s2).mono (L' := L) (fun _ z => by cases z) (Nat.le_refl _)).trans (by simpa [Bx.add_add] using s3)
  exact qn L σ _ _ st' (fun _ z => z) (fun _ z => .inl z) ⟨d, p, rfl⟩ (by simpa [Bx.add_add] using x3)
/-! ### x[i] = e, x a list of ours -/
theorem ixN_of {n i : Nat} (h : i < n) : ixN n (i : Int) = some i := by
  unfold ixN
  simp [h]
theorem Sv.putL (i : Nat) {x : Str} {kx : Expr} {m : Nat} (h1 : ρ[i]? = some (some (.own (.l ds)))) (he : Ev X ρ e c P) (hd : ∀ d, P d → isDat d = true) (hk : E1 X ρ kx (.int (m : Nat))) (hm : m < ds.length)
    (hs : swapsWithSole [.Subscript (.Name x xp) kx pos'] e pos.line X.env = pure false := by rfl) (hw : swappedStores [.Subscript (.Name x xp) kx pos'] e X.env = pure none := by rfl) (hN : X.N[i]? = some x := by rfl) (hv : Vis X.env.scope x := by first | exact Or.inl rfl | exact Or.inr (Or.inl rfl) | exact Or.inr (Or.inr rfl)) (h0 : 0 < i := by decide)
    (hx : (x == ("__debug__" : Str)) = false := by decide) (hcd : (x == ("__classdict__" : Str)) = false := by decide)
    (ha : (assignEach [.Subscript (.Name x xp) kx pos'] X.env).map (·.2) = [assign (.Subscript (.Name x xp) kx pos') X.env] := by rfl)
    (hsub : ∀ v, assign (.Subscript (.Name x xp) kx pos') X.env v = (do
      let ov ← holding [v] (eval (.Name x xp) X.env)
      let iv ← holding [v, ov] (eval kx X.env)
      standAt pos'
      holding [v, ov, iv] (setItem ov iv v)
      release [v, ov, iv] []) := by intro _; rfl) :
    Sv X ρ (.Assign [.Subscript (.Name x xp) kx pos'] e pos) c (fun o => ∃ d, P d ∧ o = .nx (ρ.set i (some (.own (.l (ds.set m d)))))) := by
  refine ps_imp (ps_asg he (pg_sub (pe_var (i := i) hN hv hx hcd) hk set_list hsub) hs hw ha) fun Dn σ H ⟨G, L, bx, x, hb, qn, qr⟩ => ⟨G, L, bx, x, hb, fun v H1 d st p w => ?_⟩
  have x1 := x.step st
  obtain ⟨r, vs, g1, g2, g3⟩ := x1.lst h1
  refine ⟨_, g1, G, L, bx.add c, x1, (bx_ne (c2 := 0) hb).2, fun u H2 d2 s2 p2 w2 => ?_⟩
  subst p2
  have x2 := x1.step s2
  obtain ⟨r', vs', g1', g2', g3'⟩ := x2.lst h1
  rw [g1] at g1'
  cases g1'
  have e := w2.int
  subst e
  refine ⟨r, vs', (m : Int), m, rfl, rfl, g2', ixN_of (by rw [dpa_len g3']; exact hm), ?_⟩
  obtain ⟨x3, s3⟩ := x2.mut (o' := .l (ds.set m d)) (u' := .lst (vs'.set m v)) h0 h1 g1 (dpa_set ((w.mono (s2.mask x1.bM)).dp' (hd d p)) m g3') trivial
  have st' := ((st.trans s2).mono (L' := L) (fun _ z => by cases z) (Nat.le_refl _)).trans (by simpa [Bx.add_add] using s3)
  exact qn L σ _ _ st' (fun _ z => z) (fun _ z => .inl z) ⟨d, p, rfl⟩ (by simpa [Bx.add_add] using x3)
end
end Kl

set_option Elab.async false
set_option linter.all false
set_option maxRecDepth 100000
/-! Tables locked, walked by keys and by items. -/
namespace Kl
open PySem PySem.Spec L2
/-! ### data does not see a table -/
theorem noTup {M : Hp} {a : Addr} {u : HO} (e : M a = some u) (h1 : ∀ xs, u ≠ .tup xs) (h2 : ∀ o xs, u ≠ .frz o (.tup xs)) : ∀ vs ds, ¬TupAt M a vs ds := fun vs ds h => by
  rcases h with ⟨_, h⟩ | ⟨_, o, _, h⟩
  · rw [e] at h; exact h1 _ (Option.some.inj h)
  · rw [e] at h; exact h2 _ _ (Option.some.inj h)
mutual
theorem dq_upd {K : PySem.W.Frag} {M : Hp} {a : Addr} {o : HO} (h1 : ∀ xs, M a ≠ some (.lst xs)) (h2 : ∀ vs ds, ¬TupAt M a vs ds) : ∀ (d : D) (v : V), Dq K M v d → Dq K (upd M a o) v d
  | .none, _, h => by cases h; exact .non
  | .bool b, _, h => by cases h; exact .bl b
  | .int i, _, h => by cases h; exact .int i
  | .str x, _, h => by cases h; exact .str x
  | .list ds, _, h => by
    cases h with
    | lst hs ha =>
      refine .lst ?_ (dqa_upd h1 h2 ds _ ha)
      rw [upd_ne (fun z => by rw [z] at hs; exact h1 _ hs)]
      exact hs
  | .tuple ds, _, h => by
    cases h with
    | tup hs ha =>
      rename_i b vs
      have ne : b ≠ a := fun z => by rw [z] at hs; exact h2 _ _ hs
      exact .tup (hs.imp (fun h => ⟨h.1, by rw [upd_ne ne]; exact h.2⟩) fun ⟨h, o, g1, g2⟩ => ⟨h, o, g1, by rw [upd_ne ne]; exact g2⟩) (dqa_upd h1 h2 ds _ ha)
  | .dict _, _, h => by cases h
theorem dqa_upd {K : PySem.W.Frag} {M : Hp} {a : Addr} {o : HO} (h1 : ∀ xs, M a ≠ some (.lst xs)) (h2 : ∀ vs ds, ¬TupAt M a vs ds) : ∀ (ds : List D) (vs : List V), DqAll K M vs ds → DqAll K (upd M a o) vs ds
  | [], _, h => by cases h; exact .nil
  | d :: ds, _, h => by
    cases h with
    | cons g1 g2 => exact .cons (dq_upd h1 h2 d _ g1) (dqa_upd h1 h2 ds _ g2)
end
theorem mask_upd_out {G : List Addr} {H : Hp} {p : Addr} {o : HO} (h : p ∉ G) : mask G (upd H p o) = upd (mask G H) p o := by
  funext a
  by_cases e : a ∈ G
  · rw [mask_in e, upd_ne (fun z : a = p => h (by rw [← z]; exact e)), mask_in e]
  · rw [mask_out e]
    by_cases z : a = p
    · rw [z, upd_same, upd_same]
    · rw [upd_ne z, upd_ne z, mask_out e]
section
variable {K : PySem.W.Frag} {M : Hp} {a : Addr} {k : List (List Key × V)} {od : Obj}
theorem Dv.frz {v : V} {d : D} (h : Dv K M v d) (e : M a = some (.dT k)) : Dv K (upd M a (.frz od (.dT k))) v d := by
  cases h with
  | dat w => exact .dat (dq_upd (fun xs z => by rw [e] at z; cases z) (noTup e (fun _ z => by cases z) fun _ _ z => by cases z) _ _ w)
  | tab r ok =>
    rename_i b es
    refine .tab ?_ ok
    by_cases z : b = a
    · subst z
      rcases r with r | ⟨o, r⟩
      · rw [e] at r
        cases r
        exact .inr ⟨od, upd_same⟩
      · rw [e] at r
        cases r
    · exact r.imp (fun r => by rw [upd_ne z]; exact r) fun ⟨o, r⟩ => ⟨o, by rw [upd_ne z]; exact r⟩
  | lck r ok =>
    have r' : upd M a (.frz od (.dT k)) _ = some _ := (upd_ne (fun z => by rw [z, e] at r; cases r)).trans r
    exact .lck r' ok
  | scr r =>
    refine .scr ?_
    rcases r with (r | ⟨o, r⟩) | r
    · exact .inl (.inl ((upd_ne (fun z => by rw [z, e] at r; cases r)).trans r))
    · exact .inl (.inr ⟨o, (upd_ne (fun z => by rw [z, e] at r; cases r)).trans r⟩)
    · exact .inr r
theorem OwnAt.frz {u : HO} {o : OV} (h : OwnAt K M u o) (e : M a = some (.dT k)) : OwnAt K (upd M a (.frz od (.dT k))) u o := by
  have c1 : ∀ xs, M a ≠ some (.lst xs) := fun xs z => by rw [e] at z; cases z
  have c2 : ∀ vs ds, ¬TupAt M a vs ds := noTup e (fun _ z => by cases z) fun _ _ z => by cases z
  cases u <;> cases o <;> first
    | exact dqa_upd c1 c2 _ _ h
    | exact h
    | exact Paired.mapP h fun p q z => ⟨z.1, dq_upd c1 c2 _ _ z.2⟩
    | exact False.elim h
end
section
variable {X : Cx} {ρ : En} {c c1 c2 : Nat} {e ie a b : Expr} {es : List Expr} {P : D → Prop} {pos cp ap xp pos' : Pos} {O : Out → Prop} {rest : List Stmt} {ds : List D} {tb : Tab} {k : List Str}
/-- a table locked: the context while it is so -/
theorem Ctx.frz {K : PySem.W.Frag} {G L : List Addr} {bx : Bx} {σ : L2.St} {H : Hp} {a : Addr} {k : List (List Key × V)} {od : Obj} (x : Ctx K G L bx σ H ρ) (e : mask (L ++ G) H a = some (.dT k)) : Ctx K G L bx σ (upd H a (.frz od (.dT k))) ρ := by
  obtain ⟨na, hH⟩ := mask_at e
  have em := mask_upd_out (H := H) (o := .frz od (.dT k)) na
  refine ⟨x.len, fun b hb => ?_, fun i d e' => ?_, fun i o e' => ?_, x.dis, fun b n e' => ?_⟩
  · by_cases z : b = a
    · rw [z, upd_same]; exact trivial
    · rw [upd_ne z]; exact x.al b hb
  · obtain ⟨v, h1, h2⟩ := x.dat i d e'
    exact ⟨v, h1, by rw [em]; exact h2.frz e⟩
  · obtain ⟨p, u, h1, h2, h3, h4⟩ := x.own i o e'
    have ne : p ≠ a := fun z => na (List.mem_append_left _ (z ▸ h2.1))
    exact ⟨p, u, h1, h2, by rw [upd_ne ne]; exact h3, by rw [em]; exact h4.frz e⟩
  · obtain ⟨g1, g2, g3, a0, b0, c0, g4, g5⟩ := x.box b n e'
    have ne : b ≠ a := fun z => na (List.mem_append_right _ (z ▸ g1))
    exact ⟨g1, g2, g3, a0, b0, c0, by rw [upd_ne ne]; exact g4, g5⟩
/-- data laid over data in a slot: the same value -/
theorem Ctx.redat {K : PySem.W.Frag} {G L : List Addr} {bx : Bx} {σ : L2.St} {H : Hp} {i : Nat} {v : V} {d : D} (x : Ctx K G L bx σ H ρ) (hi : 0 < i) (h1 : σ[i]? = some (some v)) (w : Dv K (mask (L ++ G) H) v d) : Ctx K G L bx σ H (ρ.set i (some (.dat d))) := by
  have := x.set hi w
  have e : σ.set i (some v) = σ := by
    apply List.ext_getElem?
    intro j
    by_cases z : i = j
    · subst z
      have hl : i < σ.length := (List.getElem?_eq_some_iff.mp h1).1
      rw [List.getElem?_set_self hl, h1]
    · rw [List.getElem?_set_ne z]
  rw [e] at this
  exact this
/-- the expression runs while the table in slot i is locked -/
theorem Ev.lock (i : Nat) (h : Ev X (ρ.set i (some (.dat (lockD tb)))) e c P) (e1 : ρ[i]? = some (some (.dat (tabD tb))) := by rfl) (hi : 0 < i := by decide) (hP : ∀ d, P d → isDat d = true) : Ev X ρ e c P := by
  refine ⟨fun pins s σ H Q I ⟨G, L, bx, x, hb, q⟩ => ?_⟩
  obtain ⟨v, g1, w⟩ := x.dat i _ e1
  obtain ⟨a, rfl, r, ok⟩ := w.rd (.inl rfl)
  rcases r with r | ⟨o, r⟩
  · obtain ⟨na, hH⟩ := mask_at r
    obtain ⟨od, I1⟩ := I.lock hH trivial
    have em := mask_upd_out (H := H) (o := .frz od (.dT (tabH tb))) na
    have x1 := (x.frz (od := od) r).redat hi g1 (.lck (o := od) (by rw [em, upd_same]) ok)
    refine thn (h.run pins s σ _ (fun v H' => H' a = some (.frz od (.dT (tabH tb))) ∧ Q v (upd H' a (.dT (tabH tb)))) I1 ⟨G, L, bx, x1, hb, fun v H' d st p w' => ?_⟩) fun u s1 ⟨y, H1, I2, rv, e2, q2⟩ => ⟨y, _, I2.unlock e2 (I.nofrz hH trivial), rv, q2⟩
    have nb : ∀ b n, bx = some (b, n) → a ≠ b := fun b n z q => na (List.mem_append_right _ (q ▸ (x.box b n z).1))
    have ha : H' a = some (.frz od (.dT (tabH tb))) := st.at nb upd_same
    refine ⟨ha, q v _ d ?_ p ?_⟩
    · cases bx with
      | none =>
        intro b u _ e
        by_cases z : b = a
        · subst z
          rw [hH] at e
          cases e
          rw [upd_same]
        · rw [upd_ne z]
          exact st b u (by simp) (by rw [upd_ne z]; exact e)
      | some q0 =>
        obtain ⟨s1, a0, b0, c0, s2, s3⟩ := st
        refine ⟨fun b u _ nq e => ?_, a0, b0, c0, ?_, s3⟩
        · by_cases z : b = a
          · subst z
            rw [hH] at e
            cases e
            rw [upd_same]
          · rw [upd_ne z]
            exact s1 b u (by simp) nq (by rw [upd_ne z]; exact e)
        · rw [upd_ne (fun z => nb q0.1 q0.2 rfl z.symm)]
          exact s2
    · rw [mask_upd_out na]
      have em' : mask (L ++ G) H' a = some (.frz od (.dT (tabH tb))) := by rw [mask_out na]; exact ha
      exact .dat (dq_upd (fun xs z => by rw [em'] at z; cases z) (noTup em' (fun _ z => by cases z) fun _ _ z => by cases z) _ _ (w'.dp' (hP d p)))
  · have x1 := x.redat hi g1 (.lck (o := o) r ok)
    exact h.run pins s σ H Q I ⟨G, L, bx, x1, hb, q⟩
theorem E1.lock (i : Nat) {d : D} (h : E1 X (ρ.set i (some (.dat (lockD tb)))) e d) (e1 : ρ[i]? = some (some (.dat (tabD tb))) := by rfl) (hi : 0 < i := by decide) (hd : isDat d = true := by rfl) : E1 X ρ e d :=
  Ev.lock i h e1 hi fun _ z => z ▸ hd
/-! ### by keys -/
def keyD (k : List Str) : D := .tuple (k.map .str)
theorem key_at {K : PySem.W.Frag} {G : List Addr} {H : Hp} {q : Addr} {k : List Str} (al : ∀ a ∈ G, Hid (H a)) (h : H q = some (.tup ((k.map (Sum.inr : Str → Key)).map kV))) : Dq K (mask G H) (.ref q) (keyD k) := by
  rw [kVs] at h
  refine .tup (.inl ⟨isHold_strs k, ?_⟩) (dpa_ofStrs k)
  rw [mask_out (Hid.nt al h)]
  exact h
theorem tabH_at {tb : Tab} {i : Nat} {k : List Key} {v : V} (h : (tabH tb)[i]? = some (k, v)) : ∃ e, tb[i]? = some e ∧ k = e.1.map Sum.inr ∧ v = (vOf e.2).getD .non := by
  unfold tabH at h
  rw [List.getElem?_map] at h
  cases z : tb[i]? with
  | none => rw [z] at h; cases h
  | some e => rw [z] at h; cases h; exact ⟨e, rfl, rfl, rfl⟩
theorem walkD_keys {K : PySem.W.Frag} {M : Hp} {a : Addr} {o : Obj} (h : M a = some (.frz o (.dT (tabH tb)))) : WalkD K (Itkt a o (tabH tb)) M (tb.map fun e => keyD e.1) := by
  have w := walk_keysT (d := a) (o := o) (kvs := tabH tb)
  have hl : (tb.map fun e => keyD e.1).length = (tabH tb).length := by rw [List.length_map]; unfold tabH; rw [List.length_map]
  refine ⟨fun i H hi s => w.goes i H (by omega) (s _ _ h), fun H s => by rw [hl]; exact w.stops H (s _ _ h), fun i H x H' hi s y => ?_⟩
  obtain ⟨rfl, k, v, q, e1, rfl, e2⟩ := w.yields i H x H' (by omega) (s _ _ h) y
  refine ⟨Same.refl _, fun G al s' => ?_⟩
  obtain ⟨p, hp, rfl, rfl⟩ := tabH_at e1
  exact ⟨keyD p.1, by rw [List.getElem?_map, hp]; rfl, .dat (key_at al e2)⟩
theorem I1.keys {tg : Expr} (h : E1 X ρ e (lockD tb)) : I1 X ρ tg e (tb.map fun e => keyD e.1) :=
  pi_imp (pi_keys h) fun σ H R ⟨G, L, bx, x, hb, q⟩ => ⟨G, L, bx, x, hb, fun v H1 d s p w => by
    subst p
    obtain ⟨a, o, es', rfl, r, ok, e'⟩ := w.lock
    have e'' := lockD_inj e'
    subst e''
    exact ⟨a, o, rfl, .inr ⟨_, (mask_at r).2, q _ H1 _ s rfl (walkD_keys r)⟩⟩⟩
end
end Kl

set_option Elab.async false
set_option linter.all false
set_option maxRecDepth 100000
/-! Tables: items, sorted keys. -/
namespace Kl
open PySem PySem.Spec L2
/-! ### more is hidden -/
mutual
theorem dq_only {K : PySem.W.Frag} {M M' : Hp} (h1 : ∀ a xs, M a = some (.lst xs) → M' a = some (.lst xs)) (h2 : ∀ a xs ds, TupAt M a xs ds → TupAt M' a xs ds) : ∀ (d : D) (v : V), Dq K M v d → Dq K M' v d
  | .none, _, h => by cases h; exact .non
  | .bool b, _, h => by cases h; exact .bl b
  | .int i, _, h => by cases h; exact .int i
  | .str x, _, h => by cases h; exact .str x
  | .list ds, _, h => by
    cases h with
    | lst hs ha => exact .lst (h1 _ _ hs) (dqa_only h1 h2 ds _ ha)
  | .tuple ds, _, h => by
    cases h with
    | tup hs ha => exact .tup (h2 _ _ _ hs) (dqa_only h1 h2 ds _ ha)
  | .dict _, _, h => by cases h
theorem dqa_only {K : PySem.W.Frag} {M M' : Hp} (h1 : ∀ a xs, M a = some (.lst xs) → M' a = some (.lst xs)) (h2 : ∀ a xs ds, TupAt M a xs ds → TupAt M' a xs ds) : ∀ (ds : List D) (vs : List V), DqAll K M vs ds → DqAll K M' vs ds
  | [], _, h => by cases h; exact .nil
  | d :: ds, _, h => by
    cases h with
    | cons g1 g2 => exact .cons (dq_only h1 h2 d _ g1) (dqa_only h1 h2 ds _ g2)
end
def isTb : Option HO → Prop
  | some (.dT _) => True
  | some (.frz _ (.dT _)) => True
  | _ => False
theorem isTb.hid {o : Option HO} (h : isTb o) : Hid o := by
  unfold isTb at h
  split at h <;> first | trivial | exact False.elim h
/-- no slot holds a table -/
def NoTab (ρ : En) : Prop := ∀ (i : Nat) (es : List (D × D)), ρ[i]? ≠ some (some (.dat (.dict es)))
theorem Ctx.hideT {K : PySem.W.Frag} {G L T : List Addr} {bx : Bx} {σ : L2.St} {H : Hp} {ρ : En} (x : Ctx K G L bx σ H ρ) (nt : NoTab ρ) (h1 : ∀ a ∈ T, isTb (H a)) (h2 : ∀ a ∈ T, a ∉ L) : Ctx K (T ++ G) L bx σ H ρ := by
  have out : ∀ {a : Addr}, a ∉ L ++ G → a ∉ T → a ∉ L ++ (T ++ G) := fun {a} e n z => by
    rcases List.mem_append.mp z with z | z
    · exact e (List.mem_append_left _ z)
    · rcases List.mem_append.mp z with z | z
      · exact n z
      · exact e (List.mem_append_right _ z)
  have m1 : ∀ a xs, mask (L ++ G) H a = some (.lst xs) → mask (L ++ (T ++ G)) H a = some (.lst xs) := fun a xs e => by
    obtain ⟨e1, e2⟩ := mask_at e
    rw [mask_out (out e1 fun z => by have := h1 a z; rw [e2] at this; exact this)]
    exact e2
  have m2 : ∀ a xs ds, TupAt (mask (L ++ G) H) a xs ds → TupAt (mask (L ++ (T ++ G)) H) a xs ds := fun a xs ds h => by
    rcases h with ⟨hd, e⟩ | ⟨hd, o, ho, e⟩
    · obtain ⟨e1, e2⟩ := mask_at e
      exact .inl ⟨hd, by rw [mask_out (out e1 fun z => by have := h1 a z; rw [e2] at this; exact this)]; exact e2⟩
    · obtain ⟨e1, e2⟩ := mask_at e
      exact .inr ⟨hd, o, ho, by rw [mask_out (out e1 fun z => by have := h1 a z; rw [e2] at this; exact this)]; exact e2⟩
  refine ⟨x.len, fun a ha => ?_, fun i d e => ?_, fun i o e => ?_, x.dis, fun b n e => ?_⟩
  · rcases ha with z | z
    · rcases List.mem_append.mp z with z | z
      · exact (h1 a z).hid
      · exact x.al a (.inl z)
    · exact x.al a (.inr z)
  · obtain ⟨v, g1, g2⟩ := x.dat i d e
    exact ⟨v, g1, .dat (dq_only m1 m2 _ _ (g2.dp fun es z => nt i es (z ▸ e)))⟩
  · obtain ⟨p, u, g1, ⟨g2, g5⟩, g3, g4⟩ := x.own i o e
    refine ⟨p, u, g1, ⟨g2, fun z => (List.mem_append.mp z).elim (fun z => h2 p z g2) g5⟩, g3, ?_⟩
    cases u <;> cases o <;> first
      | exact dqa_only m1 m2 _ _ g4
      | exact g4
      | exact Paired.mapP g4 fun p q z => ⟨z.1, dq_only m1 m2 _ _ z.2⟩
      | exact False.elim g4
  · obtain ⟨g1, g2, g3, g4⟩ := x.box b n e
    exact ⟨List.mem_append_right _ g1, g2, g3, g4⟩
/-! ### items -/
/-- the pairs of the locked table at d, each a new tuple -/
def ItiT (d : Addr) (o : Obj) (kvs : List (List Key × V)) : It :=
  ⟨fun i H => H d = some (.frz o (.dT kvs)) ∧ i < kvs.length,
    fun i H x H' => ∃ (T : Addr) (k : List Key) (v : V) (q : Addr), kvs[i]? = some (k, v) ∧ x = .ref T ∧ H T = none ∧ H' = upd H T (.tup [.ref q, v]) ∧ H q = some (.tup (k.map kV)),
    fun i H => H d = some (.frz o (.dT kvs)) ∧ i = kvs.length⟩
section
variable {P : Program} {w : World} {K : PySem.W.Frag} {elts : List Expr} {kk : Nat} {tpos : Pos}
/-- the entries of a locked table -/
theorem frzE {X : Cx} {pins : List (Addr × Obj)} {σ : L2.St} {H : Hp} {s : Shared} {d : Addr} {o : Obj} {kvs : List (List Key × V)} (I : Inv X pins σ H s) (h : H d = some (.frz o (.dT kvs))) :
    (d == sysModules) = false ∧ s.heap.get? d = some o ∧ o.ExactDict ∧ ∃ (es : Array DictEntry) (ep : Nat), o.data = .dict es ep ∧ es.size = kvs.length ∧ es.size ≤ sizeLine ∧
      ∀ (i : Nat) (k : List Key) (v : V), kvs[i]? = some (k, v) → ∃ (en : DictEntry) (q : Addr), es[i]? = some en ∧ en.key = .ref q ∧ H q = some (.tup (k.map kV)) ∧ RelV v en.val := by
  obtain ⟨hd, z, hs, xs, pr, o', es, ep, ho, hx, hdt, he, _⟩ := I.hok d _ h
  rw [hd] at ho
  cases ho
  have l1 : es.size = xs.length := by
    have := congrArg List.length he
    rw [List.length_map, Array.length_toList] at this
    exact this
  have l2 : kvs.length = xs.length := paired_len pr
  refine ⟨hs, hd, hx, es, ep, hdt, by omega, by omega, fun i k v e => ?_⟩
  obtain ⟨b, hb, e1, e2, e3⟩ := L2.paired_get pr e
  have q := entry_at he i
  rw [hb] at q
  exact ⟨_, b.2.1, q, rfl, e2, e3⟩
theorem turn_itemsT {o : Obj} {d it : Addr} {es : Array DictEntry} {ep : Nat} {kvs : List (List Key × V)} (hod : o.data = .dict es ep) : Turn P w K (.Tuple elts kk tpos) (ItiT d o kvs) [it] it (fun i h => ∃ ok ov, IsItemIter h it d i es.size ep ok ov) := by
  have ne : ∀ {X : Cx} {pins : List (Addr × Obj)} {σ : L2.St} {H : Hp} {s : Shared} {i : Nat} {ok ov : Value}, Inv X pins σ H s → H d = some (.frz o (.dT kvs)) → IsItemIter s.heap it d i es.size ep ok ov → d ≠ it := fun {X pins σ H s i ok ov} I h st e => by
    obtain ⟨_, hd, hx, _⟩ := frzE I h
    rw [e] at hd
    have st' : s.heap.get? it = some _ := st
    rw [hd] at st'
    injection st' with st'
    rw [st'] at hod
    cases hod
  refine turn_pair (by simp) (fun i h st c hc => ?_) (fun i h h' st k => ?_) (fun X hP hw hK hcm i pins s σ H I st hg => ?_) (fun X hP hw hK hcm i pins s σ H I st hg => ?_) (fun A i s Q E st h => let ⟨_, _, e⟩ := st; wpAny_pyIter_itemiter e h)
  · obtain ⟨ok, ov, e⟩ := st
    rw [List.mem_singleton.mp hc]
    exact ⟨_, e, fun v q => nomatch q⟩
  · obtain ⟨ok, ov, e⟩ := st
    exact ⟨ok, ov, k it (by simp) _ e⟩
  · subst hP hw hK
    obtain ⟨hf, hi⟩ := hg
    obtain ⟨ok, ov, e⟩ := st
    have hne := ne I hf e
    obtain ⟨hs, hd, hx, es', ep', hdt, hsz, hz, ent⟩ := frzE I hf
    rw [hod] at hdt
    cases hdt
    refine ⟨_, _, _, _, _, GoesN.rawItems (I.ok.hd hcm) it d hne es ep, by omega, ⟨⟨ok, ov, e⟩, o, hd, hx, hod⟩, fun b hb => hb, ?_⟩
    rintro v h' ⟨T, hil, rfl, hT, ht⟩ ⟨st', _⟩
    obtain ⟨⟨k, v⟩, hkv⟩ : ∃ p, kvs[i]? = some p := ⟨kvs[i], List.getElem?_eq_getElem hi⟩
    obtain ⟨en, q, hen, hk, hq, rv⟩ := ent i k v hkv
    have e2 : es[i] = en := by
      rw [Array.getElem?_eq_getElem hil] at hen
      exact Option.some.inj hen
    rw [e2] at ht
    exact ⟨T, .ref q, v, en.key, en.val, rfl, hT, hk, rv, ht, ⟨T, k, v, q, hkv, rfl, I.hok.fresh hT, rfl, hq⟩, st'⟩
  · subst hP hw hK
    obtain ⟨hf, hi⟩ := hg
    obtain ⟨ok, ov, e⟩ := st
    have hne := ne I hf e
    obtain ⟨hs, hd, hx, es', ep', hdt, hsz, hz, ent⟩ := frzE I hf
    rw [hod] at hdt
    cases hdt
    have e' : es.size = i := by omega
    subst e'
    exact ⟨_, _, _, _, _, GoesN.rawItems (I.ok.hd hcm) it d hne es ep, ⟨⟨ok, ov, e⟩, o, hd, hx, hod⟩, fun b hb => hb⟩
end
/-- locked already, or locked here -/
def iItemsT (td : TE) : TI := fun σ H R => td σ H fun x H1 => ∃ d kvs, x = .ref d ∧ ((∃ o, H1 d = some (.frz o (.dT kvs)) ∧ R (ItiT d o kvs) H1) ∨ (H1 d = some (.dT kvs) ∧ ∀ o, R (ItiT d o kvs) (upd H1 d (.frz o (.dT kvs)))))
open PyProof.Rows in
theorem pi_itemsT {X : Cx} {e : Expr} {td : TE} {apos cpos : Pos} {elts : List Expr} {kk : Nat} {tpos : Pos} (he : PE X e td) (hbase : attributeBase e "items" X.env (eval e X.env) = eval e X.env := by rfl) (hline : (apos.endLine == cpos.line) = true := by rfl) :
    PI X (.Tuple elts kk tpos) (.Call (.Attribute e "items" apos) [] [] cpos) (iItemsT td) := by
  refine ⟨fun pins s σ H R I h => ?_⟩
  refine wpAny_Call_method (T := "dict") (id := "dict.items") hbase rfl hline F.plainAttrs_dict F.slot_dict_items F.type_dict_items (thn (he.run pins s σ H _ I h) fun u s1 ⟨x, H1, I1, rx, d, kvs, ex, q⟩ => ?_)
  subst ex
  obtain rfl : u = Value.ref d := rx
  obtain ⟨o, H2, I2, hf, q⟩ : ∃ o H2, Inv X pins σ H2 s1 ∧ H2 d = some (.frz o (.dT kvs)) ∧ R (ItiT d o kvs) H2 := by
    rcases q with ⟨o, hf, q⟩ | ⟨ht, q⟩
    · exact ⟨o, H1, I1, hf, q⟩
    · obtain ⟨od, I2⟩ := I1.lock ht trivial
      exact ⟨od, _, I2, upd_same, q od⟩
  obtain ⟨hs, hd, hx, es, ep, hdt, hsz, hz, ent⟩ := frzE I2 hf
  have raw : s1.heap.DictRaw d es ep := ⟨o, hd, hx, hdt⟩
  refine ⟨raw.typeIs, (fun a e => by cases e; exact ⟨o, hd, hx.2.1⟩), ?_⟩
  have I3 : Inv X pins σ H2 { s1 with heap := s1.heap.push { cls := .type "dict_items", data := .fields #[.ref d] } } := I2.kept (t' := s1.toks) fun b ob q => Heap.get?_push_of_some _ q
  have fin : wpAny (model X.prog X.w) X.A (pyIter (.ref s1.heap.objs.size)) (PIE X pins σ (.Tuple elts kk tpos) R) X.xe { s1 with heap := s1.heap.push { cls := .type "dict_items", data := .fields #[.ref d] } } := by
    refine wpAny_pyIter_items_raw (d := d) ⟨_, Heap.get?_push_size _ rfl, rfl, rfl⟩ (Heap.DictRaw.at raw fun o q => Heap.get?_push_of_some _ q) (pi_one (tk := s1.toks) I3 _ (turn_itemsT hdt) ⟨.none, .none, ?_⟩ q)
    exact Heap.get?_push_size _ rfl
  show wpAny _ _ (callWith cpos (.builtin "dict.items") [.ref d] [] []) _ X.xe s1
  exact method_meetsIn F.slot_dict_items F.entry_dict_items rfl (PySem.evalArgs_none ⟨rfl, raw.typeIs, F.args_dict_items_1 _, _, meets_dict_items_raw d hs, ⟨es, ep, raw⟩, fin⟩)
def itemD (e : List Str × D) : D := .tuple [keyD e.1, e.2]
theorem itemD_no (p : List Str × D) : isHold [keyD p.1, p.2] = false := by
  obtain ⟨k, v⟩ := p
  match k with
  | [] => rfl
  | [_] => rfl
  | [_, _] => rfl
  | _ :: _ :: _ :: _ => rfl
theorem walkD_items {K : PySem.W.Frag} {M : Hp} {a : Addr} {o : Obj} {tb : Tab} (h : M a = some (.frz o (.dT (tabH tb)))) (ok : TabOk tb) : WalkD K (ItiT a o (tabH tb)) M (tb.map itemD) := by
  have hl : (tb.map itemD).length = (tabH tb).length := by rw [List.length_map]; unfold tabH; rw [List.length_map]
  refine ⟨fun i H hi s => ⟨s _ _ h, by omega⟩, fun H s => ⟨s _ _ h, hl⟩, fun i H x H' hi s y => ?_⟩
  obtain ⟨T, k, v, q, e1, rfl, hT, rfl, hq⟩ := y
  refine ⟨same_upd hT, fun G al s' => ?_⟩
  obtain ⟨p, hp, rfl, rfl⟩ := tabH_at e1
  obtain ⟨y, hy⟩ := Option.isSome_iff_exists.mp (ok p (List.mem_of_getElem? hp))
  refine ⟨itemD p, by rw [List.getElem?_map, hp]; rfl, Dv.newT al hT (.cons (key_at al hq) (.cons ?_ .nil)) (itemD_no p)⟩
  rw [hy]
  exact dp_ofFlat hy
section
variable {X : Cx} {ρ : En} {e : Expr} {tb : Tab} {apos cpos tpos : Pos} {elts : List Expr} {kk : Nat}
theorem I1.items (h : E1 X ρ e (lockD tb)) (hbase : attributeBase e "items" X.env (eval e X.env) = eval e X.env := by rfl) (hline : (apos.endLine == cpos.line) = true := by rfl) : I1 X ρ (.Tuple elts kk tpos) (.Call (.Attribute e "items" apos) [] [] cpos) (tb.map itemD) :=
  pi_imp (pi_itemsT h hbase hline) fun σ H R ⟨G, L, bx, x, hb, q⟩ => ⟨G, L, bx, x, hb, fun v H1 d s p w => by
    subst p
    obtain ⟨a, o, es', rfl, r, ok, e'⟩ := w.lock
    have e'' := lockD_inj e'
    subst e''
    exact ⟨a, _, rfl, .inl ⟨o, (mask_at r).2, q _ H1 _ s rfl (walkD_items r ok)⟩⟩⟩
open Classical in
theorem I1.itemsNew (h : E1 X ρ e (tabD tb)) (nt : NoTab ρ) (hbase : attributeBase e "items" X.env (eval e X.env) = eval e X.env := by rfl) (hline : (apos.endLine == cpos.line) = true := by rfl) : I1 X ρ (.Tuple elts kk tpos) (.Call (.Attribute e "items" apos) [] [] cpos) (tb.map itemD) := by
  refine ⟨fun pins s σ H R I ⟨G, L, bx, x, hb, q⟩ => ?_⟩
  have hT : ∀ a, a ∈ (List.range s.heap.objs.size).filter (fun a => decide (isTb (H a) ∧ a ∉ L)) ↔ a < s.heap.objs.size ∧ isTb (H a) ∧ a ∉ L := fun a => by
    rw [List.mem_filter, List.mem_range, decide_eq_true_iff]
  have x' := x.hideT (T := (List.range s.heap.objs.size).filter (fun a => decide (isTb (H a) ∧ a ∉ L))) nt (fun a z => ((hT a).mp z).2.1) (fun a z => ((hT a).mp z).2.2)
  refine (pi_itemsT h hbase hline).run pins s σ H R I ⟨_, L, bx, x', hb, fun v H1 d s1 p w => ?_⟩
  subst p
  obtain ⟨a, rfl, r, ok⟩ := w.rd (.inl rfl)
  have less : Same (mask (L ++ ((List.range s.heap.objs.size).filter (fun a => decide (isTb (H a) ∧ a ∉ L)) ++ G)) H1) (mask (L ++ G) H1) := mask_mono fun b z => by
    rcases List.mem_append.mp z with z | z
    · exact List.mem_append_left _ z
    · exact List.mem_append_right _ (List.mem_append_right _ z)
  refine ⟨a, tabH tb, rfl, ?_⟩
  rcases r with r | ⟨o, r⟩
  · obtain ⟨na, ha⟩ := mask_at r
    have nH : H a = none := by
      cases z : H a with
      | none => rfl
      | some u =>
        exfalso
        have nb : ∀ b n, bx = some (b, n) → a ≠ b := fun b n e q => na (List.mem_append_right _ (q ▸ (x'.box b n e).1))
        have := s1.at nb z
        rw [ha] at this
        cases this
        refine na (List.mem_append_right _ (List.mem_append_left _ ((hT a).mpr ⟨?_, by rw [z]; exact trivial, fun q => na (List.mem_append_left _ q)⟩)))
        rcases Nat.lt_or_ge a s.heap.objs.size with g | g
        · exact g
        · rw [I.hok.fresh g] at z
          cases z
    refine .inr ⟨ha, fun o => q _ _ _ (s1.poke nH fun b n e => ?_) rfl (walkD_items (o := o) ?_ ok)⟩
    · obtain ⟨_, _, _, a0, b0, c0, h4, _⟩ := x.box b n e
      exact ne_of_none h4 nH
    · have na' : a ∉ L ++ G := fun z => na (by
        rcases List.mem_append.mp z with z | z
        · exact List.mem_append_left _ z
        · exact List.mem_append_right _ (List.mem_append_right _ z))
      rw [mask_out na', upd_same]
  · exact .inl ⟨o, (mask_at r).2, q _ H1 _ s1 rfl (walkD_items (less _ _ r) ok)⟩
end
end Kl

set_option Elab.async false
set_option linter.all false
set_option maxRecDepth 100000
/-! sorted(a table). -/
namespace Kl
open PySem PySem.Spec L2
section
variable {X : Cx} {ρ : En}
def rSortTab : List V → Hp → VK → Prop := fun xs H Q => ∃ (d : Addr) (kvs : List (List Key × V)) (ks : List (List Str)), xs = [.ref d] ∧ Rd H d (.dT kvs) ∧ kvs.map (·.1) = ks.map (fun k => k.map Sum.inr) ∧ CanSort (ks.map keyD) ∧
  ∀ p bs, H p = none → Paired (fun (k : List Str) (b : Addr) => H b = some (.tup ((k.map (Sum.inr : Str → Key)).map kV))) (ks.mergeSort (PySem.W.dataLe false keyD)) bs → Q (.ref p) (upd H p (.lst (bs.map V.ref)))
theorem keyD_alike (ks : List (List Str)) : PySem.W.AllAlike (ks.map keyD) := PySem.W.AllAlike.of fun a b => by
  unfold keyD
  simp only [PySem.W.alike]
  induction a generalizing b with
  | nil => cases b <;> rfl
  | cons x a ih =>
    cases b with
    | nil => rfl
    | cons y b =>
      simp only [List.map_cons, PySem.W.alikeAll, PySem.W.alike, Bool.true_and]
      exact ih b
open PyProof.Rows PySem.W in
theorem cr_sortTab (hc : X.calm = true) (hu : X.A.units + 64 < cLine) : CallR X (.builtin "sorted") rSortTab := by
  intro pins s σ H xs us Q I r h
  obtain ⟨d, kvs, ks, rfl, hd, hks, hk, q⟩ := h
  obtain ⟨u, rfl, ru⟩ : ∃ u, us = [u] ∧ RelV (.ref d) u := by
    cases r with
    | cons h t => cases t; exact ⟨_, rfl, h⟩
  cases ru
  obtain ⟨z, hs, xs, pr, o, es, ep, ho, hx, hdt, he, hn⟩ := (show ObjOk X.prog X.w H s.heap d (.dT kvs) from hd.ok I.hok)
  have l1 : es.size = xs.length := by
    have := congrArg List.length he
    rw [List.length_map, Array.length_toList] at this
    exact this
  have l2 : kvs.length = xs.length := paired_len pr
  have l3 : kvs.length = ks.length := by
    have := congrArg List.length hks
    rw [List.length_map, List.length_map] at this
    exact this
  refine Calls.call_function_entry kind_sorted plain_sorted entry_sorted (args_sorted1 _) ?_
  unfold Builtin.«sorted»
  refine wpAny_bind (m := checkCount "sorted" 1 1 _) (wpAny_pure ?_)
  refine wpAny_bind (kdu_collect (A := X.A.in1) (kdl_raw hs hx hdt) (I.ok.hd hc) ho (by omega) fun h' tk acc hkp hacc => ?_)
  generalize hvs : acc.toList = vs
  have I1 : Inv X pins σ H { s with heap := h', toks := tk } := I.kept hkp
  have hvl : vs.length = ks.length := by rw [← hvs, Array.length_toList, hacc.1]; omega
  -- each value is the tuple of its key
  have ez : EachIs (fun (v : Value) (k : List Str) => ∃ b, v = .ref b ∧ H b = some (.tup ((k.map (Sum.inr : Str → Key)).map kV))) vs ks := by
    refine eachIs_of hvl fun j v k h1 h2 => ?_
    rw [← hvs] at h1
    obtain ⟨en, hen, rfl⟩ := hacc.2 j v (by rw [← Array.getElem?_toList]; exact h1)
    have e3 : (kvs.map (·.1))[j]? = some (k.map Sum.inr) := by rw [hks, List.getElem?_map, h2]; rfl
    rw [List.getElem?_map] at e3
    cases hj : kvs[j]? with
    | none => rw [hj] at e3; cases e3
    | some p =>
      rw [hj] at e3
      have e4 : p.1 = k.map Sum.inr := Option.some.inj e3
      obtain ⟨b, hb, e1, e2, _⟩ := L2.paired_get pr hj
      have qe := entry_at he j
      rw [hb, hen] at qe
      have e5 : en = entryOfKey (tupleKind (mixKind X.prog X.w)) b := Option.some.inj qe
      rw [e5]
      refine ⟨b.2.1, rfl, ?_⟩
      rw [← e4]
      exact e2
  have hbz : vs.length ≤ sizeLine := by omega
  have reads : EachIs (fun v k => ∃ as, Reads h' v (keyD k) as) vs ks := ez.mono fun v k ⟨b, hv, hb⟩ => by
    subst hv
    have := key_at (K := X.K) (G := []) (q := b) (k := k) (fun _ z => by cases z) hb
    rw [mask_nil] at this
    exact Dp.reads I1 _ _ _ (dq_dp _ _ this) rfl
  refine wpAny_bind (wpAny_newList ?_ hbz)
  have hoL : (h'.push (seqObj "list" vs.toArray 0)).get? h'.objs.size = some (seqObj "list" vs.toArray 0) := Heap.get?_push_size _ rfl
  have er : EachIs (fun v k => ∃ as, Reads (sortingHeap (h'.push (seqObj "list" vs.toArray 0)) h'.objs.size vs) v (keyD k) as) vs ks := reads.mono fun v k ⟨as, rd⟩ => ⟨as, Reads.keeps (fun b ob e => sortingHeap_old (Nat.ne_of_lt (Heap.lt_size e)) (Heap.get?_push_of_some _ e)) rd⟩
  refine wpAny_bind (wpAny_holding (wpAny_call_entry slot_list_sort ⟨_, hoL, rfl⟩ entry_list_sort (list_sort_vals (κ := dataKind (sortingHeap (h'.push (seqObj "list" vs.toArray 0)) h'.objs.size vs) (ks.map keyD)) hoL
    (sortsAt (s := { s with heap := sortingHeap (h'.push (seqObj "list" vs.toArray 0)) h'.objs.size vs, toks := tk }) (each_map (R := fun v d => ∃ as, Reads (sortingHeap (h'.push (seqObj "list" vs.toArray 0)) h'.objs.size vs) v d as) keyD er) (keyD_alike ks) hk fun d hd => ?_) hbz ⟨_, rfl, ?_⟩) (args_list_sort _)))
  · obtain ⟨k, _, rfl⟩ := List.mem_map.mp hd
    have : (keyD k).depth ≤ 1 := by
      show (PyData.tuple (k.map .str)).depth ≤ 1
      have : ∀ k : List Str, (PyData.tuple (k.map PyData.str)).depth ≤ 1 := depth_strs
      exact this k
    show X.A.in1.in1.units + _ < cLine
    simp only [Around.in1]
    omega
  obtain ⟨c, hc'⟩ := sortedHeap_at (vs := vs) (out := (sortVals (dataKind (sortingHeap (h'.push (seqObj "list" vs.toArray 0)) h'.objs.size vs) (ks.map keyD)) false vs vs).toArray) hoL
  have eo := sortVals_data (h' := sortingHeap (h'.push (seqObj "list" vs.toArray 0)) h'.objs.size vs) (enc := keyD) false ez er (keyD_alike ks)
  obtain ⟨bs, hbs, pb⟩ := bs_of eo
  have hn : H h'.objs.size = none := I1.hok.fresh (Nat.le_refl _)
  refine wpAny_pure ⟨_, rfl, .ref h'.objs.size, upd H h'.objs.size (.lst (bs.map V.ref)), I1.laid (t' := tk) (fun b ob e => ?_) (Nat.le_refl _) ⟨?_, _, c, ?_, hc'⟩, rfl, q _ _ hn pb⟩
  · have hlt := Heap.lt_size e
    show (sortedHeap (h'.push (seqObj "list" vs.toArray 0)) h'.objs.size vs _).get? b = some ob
    rw [sortedHeap_old (Nat.ne_of_lt hlt) (by rw [size_push']; exact Nat.lt_succ_of_lt hlt)]
    exact Heap.get?_push_of_some _ e
  · rw [List.length_map, ← paired_len pb, List.length_mergeSort]
    omega
  · rw [hbs]
    exact vals_refs bs
where
  eachIs_of : ∀ {R : Value → List Str → Prop} {vs : List Value} {ks : List (List Str)}, vs.length = ks.length → (∀ j v k, vs[j]? = some v → ks[j]? = some k → R v k) → PySem.W.EachIs R vs ks
    | _, [], [], _, _ => .nil
    | _, v :: vs, k :: ks, h, f => .cons (f 0 v k rfl rfl) (eachIs_of (by simpa using h) fun j v k h1 h2 => f (j + 1) v k (by simpa using h1) (by simpa using h2))
    | _, [], _ :: _, h, _ => by cases h
    | _, _ :: _, [], h, _ => by cases h
  bs_of : ∀ {H : Hp} {vs : List Value} {ks : List (List Str)}, PySem.W.EachIs (fun (v : Value) (k : List Str) => ∃ b, v = .ref b ∧ H b = some (.tup ((k.map (Sum.inr : Str → Key)).map kV))) vs ks → ∃ bs : List Addr, vs = bs.map Value.ref ∧ Paired (fun (k : List Str) (b : Addr) => H b = some (.tup ((k.map (Sum.inr : Str → Key)).map kV))) ks bs
    | _, _, _, .nil => ⟨[], rfl, .nil⟩
    | _, _, _, .cons ⟨b, e, h⟩ t => by
      obtain ⟨bs, e2, p⟩ := bs_of t
      exact ⟨b :: bs, by rw [e, e2]; rfl, .cons h p⟩
  depth_strs : ∀ k : List Str, (PyData.tuple (k.map PyData.str)).depth ≤ 1 := fun k => by
    have : ∀ k : List Str, PyData.depthAll (k.map PyData.str) = 0 := fun k => by
      induction k with
      | nil => rfl
      | cons x k ih => rw [List.map_cons, PyData.depthAll, ih]; rfl
    rw [PyData.depth, this]
    exact Nat.le_refl _
theorem c_sortedTab {tb : Tab} (hk : CanSort (tb.map fun e => keyD e.1)) (hc : X.calm = true) (hu : X.A.units + 64 < cLine) :
    CallOk X (.builtin "sorted") [tabD tb] (· = .list (((tb.map (·.1)).mergeSort (PySem.W.dataLe false keyD)).map keyD)) := fun M H xs Q al w q => by
  obtain ⟨v, rfl, w'⟩ := p1 w
  obtain ⟨a, rfl, r, ok⟩ := w'.rd (.inl rfl)
  refine ⟨_, cr_sortTab hc hu, a, tabH tb, tb.map (·.1), rfl, Rd.mk' r, ?_, by rw [List.map_map]; exact hk, fun p bs np pb => q _ _ _ (same_upd np) rfl (Dv.newL al np ?_)⟩
  · unfold tabH
    rw [List.map_map, List.map_map]
    rfl
  · revert pb
    generalize (tb.map (·.1)).mergeSort (PySem.W.dataLe false keyD) = ks
    intro pb
    induction pb with
    | nil => exact .nil
    | cons h _ ih => exact .cons (key_at al h) ih
end
end Kl

set_option Elab.async false
set_option linter.all false
set_option maxRecDepth 100000
/-! Dict comprehensions whose keys are tuples. -/
namespace Kl
open PySem PySem.Spec L2
/-- one entry more -/
theorem setAt {X : Cx} {pins : List (Addr × Obj)} {σ : L2.St} {H : Hp} {s : Shared} {E : Value → Shared → Prop} {D b : Addr} {kvs : List (List Key × V)} {k : List Key} {v : V} {u r : Value} {Q : Unit → Shared → Prop} (hu : X.A.units + 1 < cLine) (I : Inv X pins σ H s) (hD : H D = some (.dT kvs)) (hz : kvs.length < sizeLine)
    (hb : H b = some (.tup (k.map kV))) (ry : RelV (.ref b) u) (rv : RelV v r) (h : ∀ s', Inv X pins σ (upd H D (.dT (L2.putK kvs k v))) s' → Q () s') : wpAny (model X.prog X.w) X.A (dictSet D u r) Q E s := by
  cases ry
  obtain ⟨z, lo, rows, rel, dd⟩ := dt_of I.hok hD
  have hzr : rows.length ≤ sizeLine := by rw [← Paired.length rel]; exact z
  have more : (L2.putK kvs k v).length ≤ sizeLine := by have := length_putK kvs k v; omega
  refine wpAny_dictSet_heap (hsz := hzr) (show X.A.units < cLine by omega) (key_of I.hok hb) dd fun h' dd' hs => h _ ?_
  obtain ⟨ob, es, ep, g1, g2, g3, g4, _, g5⟩ := dd'
  refine d_write I (by rw [hD]; exact trivial) hs ⟨ob, g1⟩ ⟨more, lo, _, (rel.put k hb rv).keeps fun c ys ec => ?_, ob, es, ep, g1, g2, g3, g4, g5⟩
  rw [upd_ne (ne_of ec hD (fun q => nomatch q))]
  exact ec
section
variable {X : Cx}
/-- its reading: T the new table -/
def tDcT (wi : TI) (g : TG) (tt : TT) (tk tv : TE) (vs : List Nat) : TE := fun σ H Q => wi σ H fun J H1 => ∀ T, H1 T = none → ∃ W : Nat → Nat → Hp → Prop, (∃ m, W 0 m (upd H1 T (.dT []))) ∧ ∀ i m H, W i m H →
  (J.stop i H ∧ Q (.ref T) H) ∨ (J.go i H ∧ ∃ Nx : Hp → Prop, (∀ H', Nx H' → ∃ m', m' < m ∧ W (i + 1) m' H') ∧ ∀ x H', J.yld i H x H' → g x (wipe σ vs) H' fun σ2 H2 => wipe σ2 vs = wipe σ vs ∧ tt σ2 H2 fun t H3 =>
    if t = true then tk σ2 H3 fun y H4 => tv σ2 H4 fun z H5 => ∃ kvs k b, y = .ref b ∧ H5 b = some (.tup (k.map kV)) ∧ H5 T = some (.dT kvs) ∧ kvs.length < sizeLine ∧ Nx (upd H5 T (.dT (L2.putK kvs k z))) else Nx H3)
abbrev InBlk (X : Cx) (scope : Scope) (p : Cx → Prop) : Prop := ∀ (s : Shared) (H : Hp) (C : Addr) (cl : List (Str × Addr)) (fp : List Addr), p (X.blk s H scope (compEnvC scope cl C X.env) fp)
open PyProof.Rows in
theorem dcT_core {pins : List (Addr × Obj)} {s : Shared} {σ : L2.St} {H : Hp} {Q : VK} {kx vx tg iter : Expr} {ifs : List Expr} {scope : Scope} {own : List (Str × Nat)} {pos pos' : Pos} {wi : TI} {g : TG} {tt : TT} {tk tv : TE} {use : Option (Value → Sem Unit)} {Qf : Value → Shared → Prop}
    (hu : X.A.units + 1 < cLine) (hc : X.calm = true) (hN : X.N.Nodup) (I : Inv X pins σ H s) (hi : PI X tg iter wi) (ok : BlkOk X.N X.env.scope scope own) (hg : InBlk X scope fun Y => PG Y tg g) (ht : InBlk X scope fun Y => PTs Y ifs tt) (hk : InBlk X scope fun Y => PE Y kx tk) (he : InBlk X scope fun Y => PE Y vx tv)
    (hs : ∀ x, foldedSetIterable iter X.env x = pure x) (h : tDcT wi g tt tk tv (own.map (·.2)) σ H Q)
    (done : ∀ T C s' m H', Inv X pins σ H' s' → Q (.ref T) H' → s'.heap.Ns C m → FpOk X pins H' C → compPost (model X.prog X.w) X.A X.xe use Qf (.ref T) C (.ok .next) s') :
    wpAny (model X.prog X.w) X.A (comprehension (.DictComp kx vx [⟨tg, iter, ifs, 0⟩] scope pos) scope X.env pos' newDict false (eval iter X.env) use) Qf X.xe s := by
  have free : ∀ y ∈ scope.names, y.2 = .free → ∃ c, X.env.cells.lookup y.1 = some c := fun y hy e => I.ok.has _ ((ok.free y hy e).imp (fun z => z) fun z => z)
  refine wpAny_comprehension_free (use := use) rfl hs (closure_ok free) ok.kind (fun y hy e => by rw [ok.uniq y hy, e]) (thn (hi.run pins s σ H _ I h) fun xv s1 hx => thn hx fun itv s2 h2 => ?_)
  obtain ⟨it, fp, tn, J, H2, e, I2, Tn, st2, f2, q⟩ := h2
  subst e
  refine wpAny_newObj_type (newEnv_comp ?_)
  generalize hT : s2.heap.objs.size = T
  have nT : H2 T = none := I2.hok.fresh (Nat.le_of_eq hT)
  obtain ⟨W, ⟨m0, w0⟩, turn⟩ := q T nT
  have below : ∀ b ∈ fp, b < s2.heap.objs.size := fun b hb => by
    obtain ⟨o, e, _⟩ := Tn.obj _ _ st2 b hb
    exact Heap.lt_size e
  obtain ⟨s3, hs3⟩ : ∃ s3 : Shared, s3 = { s2 with heap := s2.heap.push { cls := .type "dict", data := .dict #[] } } := ⟨_, rfl⟩
  have h3 : s3.heap = s2.heap.push { cls := .type "dict", data := .dict #[] } := by rw [hs3]
  obtain ⟨H3, hH3⟩ : ∃ H3 : Hp, H3 = upd H2 T (.dT []) := ⟨_, rfl⟩
  have I3 : Inv X pins σ H3 s3 := by
    rw [hs3, hH3]
    refine I2.laid (t' := s2.toks) (fun b o e => Heap.get?_push_of_some _ e) (Nat.le_of_eq hT) ?_
    rw [← hT]
    exact dt_empty s2.heap I2.big
  have f3 : ∀ b ∈ fp, FpOk X pins H3 b ∧ b < s3.heap.objs.size := fun b hb => by
    have lt := below b hb
    refine ⟨⟨?_, (f2 b hb).2⟩, by rw [h3, Heap.size_push]; exact Nat.lt_succ_of_lt lt⟩
    rw [hH3, upd_ne (by rw [← hT]; exact Nat.ne_of_lt lt)]
    exact (f2 b hb).1
  have st3 : tn 0 s3.heap := Tn.keep _ _ _ st2 fun b _ o e => by rw [h3]; exact Heap.get?_push_of_some _ e
  have I4 := block_start I3 ok hN f3
  have pg := hg s3 H3 s3.heap.objs.size (cellsFrom (s3.heap.objs.size + 1) scope.names (cloFrom X.env.cells scope.names [])) fp
  have pt := ht s3 H3 s3.heap.objs.size (cellsFrom (s3.heap.objs.size + 1) scope.names (cloFrom X.env.cells scope.names [])) fp
  have pk := hk s3 H3 s3.heap.objs.size (cellsFrom (s3.heap.objs.size + 1) scope.names (cloFrom X.env.cells scope.names [])) fp
  have pe := he s3 H3 s3.heap.objs.size (cellsFrom (s3.heap.objs.size + 1) scope.names (cloFrom X.env.cells scope.names [])) fp
  rw [← hs3]
  show codeAny _ _ (.compStart (.DictComp kx vx [⟨tg, iter, ifs, 0⟩] scope pos) 0 (.ref it) (.ref T) (compEnvC scope (cellsFrom (s3.heap.objs.size + 1) scope.names (cloFrom X.env.cells scope.names [])) s3.heap.objs.size X.env)) (compPost (model X.prog X.w) X.A X.xe use Qf (.ref T) s3.heap.objs.size) { s3 with heap := pushCells (s3.heap.push { cls := .type "dict", data := .dict #[] }) scope.names }
  have unseen : ∀ b ∈ fp, H3 b = none := fun b hb => (f3 b hb).1.1
  rw [← hH3] at w0
  generalize hce : compEnvC scope (cellsFrom (s3.heap.objs.size + 1) scope.names (cloFrom X.env.cells scope.names [])) s3.heap.objs.size X.env = ce at I4 pg pt pk pe ⊢
  have cL : ce.locals = s3.heap.objs.size := by subst hce; rfl
  generalize hs4 : ({ s3 with heap := pushCells (s3.heap.push { cls := .type "dict", data := .dict #[] }) scope.names } : Shared) = s4 at I4 ⊢
  have st4 : tn 0 s4.heap := Tn.keep _ _ _ st3 fun b _ o e => by rw [← hs4]; exact pushCells_keeps _ _ _ _ (Heap.get?_push_of_some _ e)
  have apart : ∀ {σ' : L2.St} {H' : Hp} {s' : Shared}, Inv (X.blk s3 H3 scope ce fp) [] σ' H' s' → (∀ b ∈ fp, H' b = none) → ∀ b ∈ fp, FpOk (X.blk s3 H3 scope ce fp) [] H' b := fun {σ' H' s'} I' hn b hb =>
    ⟨hn b hb, (I'.ok.exf b hb).1, I'.ok.exfs b hb, .inl hb, fun x c e => (I'.ok.exf b hb).2 x c e, fun p hp => by simp at hp⟩
  have loop : codeAny (model X.prog X.w) X.A (.compLoop (.DictComp kx vx [⟨tg, iter, ifs, 0⟩] scope pos) 0 (.ref it) (.ref T) ce) (compPost (model X.prog X.w) X.A X.xe use Qf (.ref T) s3.heap.objs.size) s4 := by
    refine compLoop_anyD (fun n s' => ∃ i H', Inv (X.blk s3 H3 scope ce fp) [] (wipe σ (own.map (·.2))) H' s' ∧ tn i s'.heap ∧ (∀ b ∈ fp, H' b = none) ∧ W i n H') ?_ m0 ⟨0, H3, I4, st4, unseen, w0⟩
    rintro n s5 ⟨i, H5, I5, st5, n5, w5⟩
    rcases turn i n H5 w5 with ⟨stop, over⟩ | ⟨go, Nx, hNx, step⟩
    · refine thnF (Tn.done (X.blk s3 H3 scope ce fp) rfl rfl rfl hc i [] s5 _ H5 (fun _ _ => False) I5 (apart I5 n5) st5 stop) fun r s6 ⟨hr, I6⟩ => ?_
      subst hr
      have I7 : Inv X pins σ H5 s6 := I3.call' (ch := fp) I6.os I6.base I6.hok I6.bare fun b hb => ⟨(f3 b hb).1.2.2.2.1, (f3 b hb).1.2.1, (f3 b hb).1.2.2.2.2.1, (f3 b hb).1.2.2.2.2.2⟩
      have nC : H5 s3.heap.objs.size = none := by
        have z : H5 ce.locals = none := I6.free
        rwa [cL] at z
      obtain ⟨m, hn, _⟩ := I6.loc
      have hn : s6.heap.Ns ce.locals m := hn
      rw [cL] at hn
      exact done T s3.heap.objs.size s6 m H5 I7 over hn (I3.fpOk (Nat.le_refl _) nC)
    · refine thnF (Tn.item (X.blk s3 H3 scope ce fp) rfl rfl rfl hc i [] s5 _ H5 (fun _ _ => False) I5 (apart I5 n5) st5 go) fun r s6 ⟨u, hr, h6⟩ => ?_
      subst hr
      refine thnF h6 fun _ s7 ⟨x, H7, I7, r7, y7, st7, n7⟩ => ?_
      refine thnF (pg.run _ s7 _ H7 x u _ (I7.pinned (apart I7 n7) (Tn.obj _ _ st7)) r7 (step x H7 y7)) fun _ s8 ⟨σ8, H8, I8, hw8, q8⟩ => ?_
      refine thnF (pt.run _ s8 σ8 H8 _ I8 q8) fun t s9 ⟨H9, I9, q9⟩ => ?_
      have back : ∀ {s' : Shared} {H' : Hp}, Inv (X.blk s3 H3 scope ce fp) ([] ++ pinsAt fp s7.heap) σ8 H' s' → Nx H' → ∃ m, m < n ∧ ∃ i H', Inv (X.blk s3 H3 scope ce fp) [] (wipe σ (own.map (·.2))) H' s' ∧ tn i s'.heap ∧ (∀ b ∈ fp, H' b = none) ∧ W i m H' := fun {s' H'} I' nx => by
        obtain ⟨m', lt, w'⟩ := hNx H' nx
        have held : ∀ b ∈ fp, ∀ o, s7.heap.get? b = some o → s'.heap.get? b = some o ∧ H' b = none := fun b hb o e =>
          have z := I'.pin (b, o) (List.mem_append_right _ (List.mem_append_right _ (mem_pinsAt hb e)))
          ⟨z.1, z.2.1⟩
        refine ⟨m', lt, i + 1, H', (I'.unpinned (pins := [])).weak (by rw [← hw8, wipe_length]) (fun j v e => ?_), Tn.keep _ _ _ st7 fun b hb o e => (held b hb o e).1, fun b hb => ?_, w'⟩
        · rw [← hw8] at e
          exact (wipe_some e).1
        · obtain ⟨o, e, _⟩ := Tn.obj _ _ st7 b hb
          exact (held b hb o e).2
      cases t with
      | false =>
        simp only [Bool.false_eq_true, if_false] at q9 ⊢
        exact back I9 q9
      | true =>
        simp only [if_true] at q9 ⊢
        refine thnF (pk.run _ s9 σ8 H9 _ I9 q9) fun z s10 ⟨yk, H10, I10, r10, q10⟩ => ?_
        refine thnF (pe.run _ s10 σ8 H10 _ I10 q10) fun z2 s11 ⟨yv, H11, I11, r11, kvs, k, b, ek, hb11, hT11, hz11, nx⟩ => ?_
        subst ek
        exact setAt (X := X.blk s3 H3 scope ce fp) hu I11 hT11 hz11 hb11 r10 r11 fun s12 I12 => back I12 nx
  exact codeAny_compStart_dict loop (Tn.self X.A 0 _ _ _ st4 loop)
open PyProof.Rows in
theorem pe_dcT {kx vx tg iter : Expr} {ifs : List Expr} {scope : Scope} {own : List (Str × Nat)} {pos : Pos} {wi : TI} {g : TG} {tt : TT} {tk tv : TE} (hu : X.A.units + 1 < cLine) (hc : X.calm = true) (hN : X.N.Nodup) (hi : PI X tg iter wi) (ok : BlkOk X.N X.env.scope scope own) (hg : InBlk X scope fun Y => PG Y tg g)
    (ht : InBlk X scope fun Y => PTs Y ifs tt) (hk : InBlk X scope fun Y => PE Y kx tk) (he : InBlk X scope fun Y => PE Y vx tv) (hs : ∀ x, foldedSetIterable iter X.env x = pure x := by intro _; rfl) : PE X (.DictComp kx vx [⟨tg, iter, ifs, 0⟩] scope pos) (tDcT wi g tt tk tv (own.map (·.2))) := by
  refine ⟨fun pins s σ H Q I h => ?_⟩
  rw [arm_eval_DictComp]
  refine dcT_core hu hc hN I hi ok hg ht hk he hs h fun T C s' m H' I' q hn ⟨f0, f1, f2, f3, f4, f5⟩ => ⟨m, hn, fun h'' sb => ⟨.ref T, H', I'.turned (t' := s'.toks) (fun b o hb e => (sb.2 b hb).trans e) f0 f1 f3 f4 f5, rfl, q⟩⟩
end
end Kl

set_option Elab.async false
set_option linter.all false
set_option maxRecDepth 100000
/-! Comprehensions: of one's own, of tables, of two clauses. -/
namespace Kl
open PySem PySem.Spec L2
section
variable {X : Cx} {ρ : En}
theorem Ctx.step0 {K : PySem.W.Frag} {G L : List Addr} {bx : Bx} {σ : L2.St} {H H' : Hp} (x : Ctx K G L bx σ H ρ) (h : Stp [] bx 0 H H') : Ctx K G L bx σ H' ρ := by
  have := x.step h
  rwa [Bx.add0] at this
theorem Stp.trans0 {L : List Addr} {bx : Bx} {H H1 H' : Hp} (h : Stp L bx 0 H H1) (h' : Stp L bx 0 H1 H') : Stp L bx 0 H H' := by
  have := h.trans (c' := 0) (by rw [Bx.add0]; exact h')
  simpa using this
/-- a comprehension, its list ours -/
theorem Gv.lc {α : Type} {en : α → D} {xs : List α} {p : α → Bool} {Pe : α → D → Prop} {c2 ct : Nat} {elt tg iter : Expr} {ifs : List Expr} {scope : Scope} {own : List (Str × Nat)} {pos : Pos} {g : TG} {S : List Nat} {ρx : α → En}
    (hi : I1 X ρ tg iter (xs.map en)) (ok : BlkOk X.N X.env.scope scope own) (hg : InBlk X scope fun Y => PG Y tg g)
    (hT : ∀ x ∈ xs, TgOk X.K g S (wipeR ρ (own.map (·.2))) (en x) (ρx x)) (hS : ∀ i ∈ S, i ∈ own.map (·.2))
    (ht : ∀ x ∈ xs, InBlk X scope fun Y => PTs Y ifs (tTs X.K (ρx x) 0 (· = p x))) (he : ∀ x ∈ xs, p x = true → InBlk X scope fun Y => Ev Y (ρx x) elt c2 (Pe x))
    (hd : ∀ x ∈ xs, ∀ r, Pe x r → isDat r = true) (hz : xs.length ≤ sizeLine) (hct : xs.length * c2 ≤ ct) (h0 : 0 ∉ own.map (·.2)) (hc : X.calm = true) (hN : X.N.Nodup) (hs : ∀ x, foldedSetIterable iter X.env x = pure x := by intro _; rfl) :
    Gv X ρ (.ListComp elt [⟨tg, iter, ifs, 0⟩] scope pos) ct (fun s => ∃ rs, s = .own (.l rs) ∧ Picks p Pe xs rs) :=
  pe_imp (pe_lc hc hN hi ok hg (fun s H C cl fp => pts_any fun x : {x // x ∈ xs} => ht x.1 x.2 s H C cl fp) (fun s H C cl fp => pe_any fun x : {x // x ∈ xs ∧ p x = true} => he x.1 x.2.1 x.2.2 s H C cl fp) hs) fun σ H Q ⟨G, L, bx, x, hb, q⟩ =>
    lc_read0 hT hS hd hz hct h0 σ H Q ⟨G, L, bx, x, hb, fun D H' acc rs st nD nM eD wa pk => q (.ref D) H' _ [D] st ⟨rs, rfl, pk⟩ ⟨D, .lst acc, rfl, rfl, nD, eD, trivial, wa⟩⟩
theorem Sv.setLcG {α : Type} {en : α → D} {xs : List α} {p : α → Bool} {Pe : α → D → Prop} {c2 ct : Nat} {elt tg iter : Expr} {ifs : List Expr} {scope : Scope} {own : List (Str × Nat)} {pos spos py : Pos} {g : TG} {S : List Nat} {ρx : α → En} (i : Nat) {y : Str}
    (hi : I1 X ρ tg iter (xs.map en)) (ok : BlkOk X.N X.env.scope scope own) (hg : InBlk X scope fun Y => PG Y tg g)
    (hT : ∀ x ∈ xs, TgOk X.K g S (wipeR ρ (own.map (·.2))) (en x) (ρx x)) (hS : ∀ i ∈ S, i ∈ own.map (·.2))
    (ht : ∀ x ∈ xs, InBlk X scope fun Y => PTs Y ifs (tTs X.K (ρx x) 0 (· = p x))) (he : ∀ x ∈ xs, p x = true → InBlk X scope fun Y => Ev Y (ρx x) elt c2 (Pe x))
    (hd : ∀ x ∈ xs, ∀ r, Pe x r → isDat r = true) (hz : xs.length ≤ sizeLine) (hct : xs.length * c2 ≤ ct) (h0 : 0 ∉ own.map (·.2)) (hc : X.calm = true) (hN : X.N.Nodup)
    (hy : X.N[i]? = some y) (hyl : X.env.scope.names.lookup y = some .local) (hsw : swapsWith (.ListComp elt [⟨tg, iter, ifs, 0⟩] scope pos) (some (.Name y py)) spos.line X.env = pure true) (h00 : 0 < i) (hs : ∀ x, foldedSetIterable iter X.env x = pure x := by intro _; rfl) :
    Sv X ρ (.Assign [.Name y py] (.ListComp elt [⟨tg, iter, ifs, 0⟩] scope pos) spos) ct (fun o => ∃ rs, Picks p Pe xs rs ∧ o = .nx (ρ.set i (some (.own (.l rs))))) :=
  ps_imp (ps_setLc hc hN hy hyl hsw hi ok hg (fun s H C cl fp => pts_any fun x : {x // x ∈ xs} => ht x.1 x.2 s H C cl fp) (fun s H C cl fp => pe_any fun x : {x // x ∈ xs ∧ p x = true} => he x.1 x.2.1 x.2.2 s H C cl fp) hs) fun Dn σ H ⟨G, L, bx, x, hb, qn, qr⟩ => by
    refine lc_read0 hT hS hd hz hct h0 σ H _ ⟨G, L, bx, x, hb, fun D H' acc rs st nD nM eD wa pk => ?_⟩
    have w : SlAt X.K H H' (L ++ G) (.ref D) (.own (.l rs)) [D] := ⟨D, .lst acc, rfl, rfl, nD, eD, trivial, wa⟩
    exact qn ([D] ++ L) _ H' _ (st.mono (fun _ z => by cases z) (Nat.le_refl _)) (fun a z => List.mem_append_right _ z) (fun a z => (List.mem_append.mp z).elim (fun z => .inr (w.newN a z)) .inl) ⟨rs, pk, rfl⟩ (x.setG st h00 w)
/-! ### {k: v for ..} -/
def tabOf {α : Type} (kf : α → List Str) (vf : α → D) (xs : List α) : Tab := xs.foldl (fun t x => putT t (kf x) (vf x)) []
theorem tabOf_snoc {α : Type} (kf : α → List Str) (vf : α → D) (xs : List α) (x : α) : tabOf kf vf (xs ++ [x]) = putT (tabOf kf vf xs) (kf x) (vf x) := by
  unfold tabOf
  rw [List.foldl_append]
  rfl
theorem putT_len (t : Tab) (k : List Str) (v : D) : (putT t k v).length ≤ t.length + 1 := by
  unfold putT
  split
  · rw [List.length_map]; omega
  · rw [List.length_append]; exact Nat.le_refl _
theorem tabOf_len {α : Type} (kf : α → List Str) (vf : α → D) (xs : List α) : (tabOf kf vf xs).length ≤ xs.length := by
  unfold tabOf
  suffices ∀ (xs : List α) (t : Tab), (xs.foldl (fun t x => putT t (kf x) (vf x)) t).length ≤ t.length + xs.length by simpa using this xs []
  intro xs
  induction xs with
  | nil => intro t; exact Nat.le_refl _
  | cons x xs ih =>
    intro t
    have := ih (putT t (kf x) (vf x))
    have := putT_len t (kf x) (vf x)
    rw [List.foldl_cons, List.length_cons]
    omega
theorem tabOf_ok {α : Type} {kf : α → List Str} {vf : α → D} {xs : List α} (h : ∀ x ∈ xs, (vOf (vf x)).isSome = true) : TabOk (tabOf kf vf xs) := by
  suffices ∀ (xs : List α) (t : Tab), (∀ x ∈ xs, (vOf (vf x)).isSome = true) → TabOk t → TabOk (xs.foldl (fun t x => putT t (kf x) (vf x)) t) from this xs [] h (fun e z => by cases z)
  intro xs
  induction xs with
  | nil => intro t _ z; exact z
  | cons x xs ih =>
    intro t h z
    rw [List.foldl_cons]
    exact ih _ (fun y hy => h y (List.mem_cons_of_mem _ hy)) (z.put (h x List.mem_cons_self))
theorem G1.dcT {α : Type} {en : α → D} {xs : List α} {kf : α → List Str} {vf : α → D} {kx vx tg iter : Expr} {scope : Scope} {own : List (Str × Nat)} {pos : Pos} {g : TG} {S : List Nat} {ρx : α → En}
    (hi : I1 X ρ tg iter (xs.map en)) (ok : BlkOk X.N X.env.scope scope own) (hg : InBlk X scope fun Y => PG Y tg g) (hT : ∀ x ∈ xs, TgOk X.K g S (wipeR ρ (own.map (·.2))) (en x) (ρx x)) (hS : ∀ i ∈ S, i ∈ own.map (·.2))
    (hk : ∀ x ∈ xs, InBlk X scope fun Y => E1 Y (ρx x) kx (keyD (kf x))) (hv : ∀ x ∈ xs, InBlk X scope fun Y => E1 Y (ρx x) vx (vf x)) (hd : ∀ x ∈ xs, (vOf (vf x)).isSome = true) (hz : xs.length ≤ sizeLine) (h0 : 0 ∉ own.map (·.2)) (hu : X.A.units + 1 < cLine) (hc : X.calm = true) (hN : X.N.Nodup)
    (hs : ∀ x, foldedSetIterable iter X.env x = pure x := by intro _; rfl) : G1 X ρ (.DictComp kx vx [⟨tg, iter, [], 0⟩] scope pos) (.own (.t (tabOf kf vf xs))) := by
  refine pe_imp (pe_dcT (tk := fun σ H Q => ∃ x : {x // x ∈ xs}, tE X.K (ρx x.1) 0 (· = keyD (kf x.1)) σ H Q) (tv := fun σ H Q => ∃ x : {x // x ∈ xs}, tE X.K (ρx x.1) 0 (· = vf x.1) σ H Q) hu hc hN hi ok hg (fun s H C cl fp => pts_nil) (fun s H C cl fp => pe_any fun x : {x // x ∈ xs} => hk x.1 x.2 s H C cl fp) (fun s H C cl fp => pe_any fun x : {x // x ∈ xs} => hv x.1 x.2 s H C cl fp) hs) fun σ H Q ⟨G, L, bx, x, hb, q⟩ => ?_
  refine ⟨G, L, bx, x, hb, fun J H1 ys s1 e1 w1 T nT => ?_⟩
  subst e1
  have x1 := x.step0 s1
  have hl : (xs.map en).length = xs.length := List.length_map _
  have nb : ∀ b n, bx = some (b, n) → b ≠ T := fun b n e => by
    obtain ⟨_, _, _, a0, b0, c0, h4, _⟩ := x1.box b n e
    exact ne_of_none h4 nT
  have nTH := s1.noneB nT
  obtain ⟨x2, sm2⟩ := x1.hide (o := .dT []) nT
  have x3 := x2.wipe (vs := own.map (·.2)) h0
  have nown : ∀ (i : Nat) (u : OV), (wipeR ρ (own.map (·.2)))[i]? = some (some (.own u)) → (wipe σ (own.map (·.2)))[i]? ≠ some (some (.ref T)) := fun i u e z => by
    obtain ⟨e1, e2⟩ := wipeR_some e
    rw [wipe_get, if_neg e2] at z
    obtain ⟨p', u', h1, h2, h3, _⟩ := x1.own i u e1
    rw [z] at h1
    cases h1
    rw [nT] at h3
    cases h3
  have okn : ∀ n, TabOk (tabOf kf vf (xs.take n)) := fun n => tabOf_ok fun y hy => hd y (List.mem_of_mem_take hy)
  refine ⟨fun i m H2 => m = xs.length - i ∧ i ≤ xs.length ∧ Stp [] bx 0 H H2 ∧ Ctx X.K G (T :: L) bx (wipe σ (own.map (·.2))) H2 (wipeR ρ (own.map (·.2))) ∧ H2 T = some (.dT (tabH (tabOf kf vf (xs.take i)))) ∧ Same (mask (L ++ G) H1) (mask ((T :: L) ++ G) H2), ⟨xs.length, rfl, Nat.zero_le _, s1.poke nTH nb, x3, upd_same, sm2⟩, ?_⟩
  rintro i m H2 ⟨rfl, hi, st, x4, eT, sm⟩
  by_cases hlt : i < xs.length
  · refine .inr ⟨w1.go i H2 (by rw [hl]; exact hlt) (sm.trans (mask_same _ _)), fun H' => Stp [] bx 0 H H' ∧ Ctx X.K G (T :: L) bx (wipe σ (own.map (·.2))) H' (wipeR ρ (own.map (·.2))) ∧ H' T = some (.dT (tabH (tabOf kf vf (xs.take (i + 1))))) ∧ Same (mask (L ++ G) H1) (mask ((T :: L) ++ G) H'), fun H' h => ⟨xs.length - (i + 1), by omega, rfl, hlt, h⟩, fun v H3 y => ?_⟩
    obtain ⟨sm3, wy⟩ := w1.yld i H2 v H3 (by rw [hl]; exact hlt) (sm.trans (mask_same _ _)) y
    obtain ⟨d, hd', wv⟩ := wy ((T :: L) ++ G) x4.alM sm
    have hx : xs[i]? = some xs[i] := List.getElem?_eq_getElem hlt
    have ed : d = en xs[i] := by
      rw [List.getElem?_map, hx] at hd'
      exact (Option.some.inj hd').symm
    subst ed
    have hm : xs[i] ∈ xs := List.getElem_mem hlt
    have tk : xs.take (i + 1) = xs.take i ++ [xs[i]] := by rw [List.take_add_one, hx]; rfl
    have s3 : Stp [] bx 0 H2 H3 := Stp.same x4 sm3
    have x5 := x4.step0 s3
    refine hT _ hm G (T :: L) _ _ H3 v _ x5 wv fun σ' x6 hw => ⟨(hw _ hS).trans (wipe_wipe _ _), ?_⟩
    simp only [tYes, if_true]
    refine ⟨⟨_, hm⟩, G, T :: L, _, x6, hb, fun kv H4 dk s4 pk wk => ?_⟩
    subst pk
    have x7 := x6.step0 s4
    refine ⟨⟨_, hm⟩, G, T :: L, _, x7, hb, fun r H5 dv s5 pv wr => ?_⟩
    subst pv
    have s45 := (s3.trans0 s4).trans0 s5
    have x8 := x4.step0 s45
    have sm5 : Same (mask ((T :: L) ++ G) H2) (mask ((T :: L) ++ G) H5) := s45.mask x4.bM
    obtain ⟨b, us, rfl, k1, k2⟩ := (wk.mono (s5.mask x7.bM)).tuple
    have k1 := k1.tup (isHold_strs _)
    rw [dpa_strs k2] at k1
    have eT5 : H5 T = some (.dT (tabH (tabOf kf vf (xs.take i)))) := s45.at (fun b n e => Ne.symm (nb b n e)) eT
    obtain ⟨y, hy⟩ := Option.isSome_iff_exists.mp (hd _ hm)
    have er : r = (vOf (vf xs[i])).getD .non := by
      rw [hy]
      exact dp_flat (wr.dp fun es z => by rw [z] at hy; cases hy) hy
    have lt := tabOf_len kf vf (xs.take i)
    rw [List.length_take] at lt
    refine ⟨_, (kf xs[i]).map Sum.inr, b, rfl, by rw [kVs]; exact (mask_at k1).2, eT5, by unfold tabH; rw [List.length_map]; omega, ?_⟩
    rw [er, ← tabH_put, ← tabOf_snoc, ← tk]
    have dm : mask ((T :: L) ++ G) (upd H5 T (.dT (tabH (tabOf kf vf (xs.take (i + 1)))))) = mask ((T :: L) ++ G) H5 := mask_upd_in (by simp)
    exact ⟨(st.trans0 s45).poke nTH nb, x8.poke (by simp) nown, upd_same, by rw [dm]; exact sm.trans sm5⟩
  · have e : i = xs.length := by omega
    subst e
    refine .inl ⟨by rw [← hl]; exact w1.stop H2 (sm.trans (mask_same _ _)), ?_⟩
    rw [List.take_of_length_le (Nat.le_refl _)] at eT
    refine q (.ref T) H2 _ [T] st rfl ⟨T, _, rfl, rfl, nTH, eT, trivial, rfl, ?_⟩
    have := okn xs.length
    rwa [List.take_of_length_le (Nat.le_refl _)] at this
/-- a thing of ours as data -/
theorem E1.ofG {e : Expr} {o : OV} {d : D} (h : G1 X ρ e (.own o)) (f : frD o = some d) : E1 X ρ e d := by
  refine pe_imp h fun σ H Q ⟨G, L, bx, x, hb, q⟩ => ⟨G, L, bx, x, hb, fun v H' s N st p w => ?_⟩
  subst p
  obtain ⟨p, u, rfl, rfl, np, hp, hh, ho⟩ := w
  refine q _ H' d st rfl ?_
  have x1 := x.step0 st
  have pM : p ∉ L ++ G := fun z => (x.alM p z).ne np
  have hM : mask (L ++ G) H' p = some u := by rw [mask_out pM]; exact hp
  have sm : Same (mask (p :: (L ++ G)) H') (mask (L ++ G) H') := mask_mono fun a z => List.mem_cons_of_mem _ z
  cases u <;> cases o <;> first
    | exact absurd ho id
    | cases f
  · exact .dat (.lst hM (dpa_mono sm _ _ ho))
  · obtain ⟨e1, e2⟩ := ho
    subst e1
    exact .tab (.inl hM) e2
end
end Kl

set_option Elab.async false
set_option linter.all false
set_option maxRecDepth 100000
/-! A comprehension of two clauses. -/
namespace Kl
open PySem PySem.Spec L2
theorem len_ff {α β : Type} (p : α → Bool) (ys : α → List β) : ∀ (xs : List α) (n : Nat), (((xs.take n).filter p).flatMap ys).length ≤ (xs.flatMap ys).length
  | [], n => by rw [List.take_nil]; exact Nat.le_refl _
  | x :: xs, 0 => Nat.zero_le _
  | x :: xs, n + 1 => by
    have ih := len_ff p ys xs n
    rw [List.take_succ_cons, List.flatMap_cons, List.length_append, List.filter_cons]
    split
    · rw [List.flatMap_cons, List.length_append]; omega
    · omega
/-- no slot holds a thing of ours -/
def NoOwn (ρ : En) : Prop := ∀ (i : Nat) (o : OV), ρ[i]? ≠ some (some (.own o))
section
variable {X : Cx} {ρ : En}
theorem E1.lc2 {α : Type} {en : α → D} {xs : List α} {p : α → Bool} {ys : α → List D} {elt tg iter tg1 iter1 : Expr} {ifs : List Expr} {scope : Scope} {own : List (Str × Nat)} {vs1 : List Nat} {pos : Pos} {g g1 : TG} {S S1 : List Nat} {ρx : α → En} {ρy : α → D → En}
    (hi : I1 X ρ tg iter (xs.map en)) (ok : BlkOk X.N X.env.scope scope own) (hv : ∀ i ∈ vs1, i ∈ own.map (·.2)) (hg : InBlk X scope fun Y => PG Y tg g) (hT : ∀ x ∈ xs, TgOk X.K g S (wipeR ρ (own.map (·.2))) (en x) (ρx x)) (hS : ∀ i ∈ S, i ∈ own.map (·.2))
    (ht : ∀ x ∈ xs, InBlk X scope fun Y => PTs Y ifs (tTs X.K (ρx x) 0 (· = p x))) (hi1 : ∀ x ∈ xs, InBlk X scope fun Y => I1 Y (ρx x) tg1 iter1 (ys x)) (hg1 : InBlk X scope fun Y => PG Y tg1 g1) (hT1 : ∀ x ∈ xs, ∀ y ∈ ys x, TgOk X.K g1 S1 (wipeR (ρx x) vs1) y (ρy x y)) (hS1 : ∀ i ∈ S1, i ∈ vs1)
    (he : ∀ x ∈ xs, ∀ y ∈ ys x, InBlk X scope fun Y => E1 Y (ρy x y) elt y) (hd : ∀ x ∈ xs, ∀ y ∈ ys x, isDat y = true) (hz : (xs.flatMap ys).length ≤ sizeLine) (hno : ∀ x ∈ xs, NoOwn (ρx x)) (h0 : 0 ∉ own.map (·.2)) (hc : X.calm = true) (hN : X.N.Nodup)
    (hs : ∀ x, foldedSetIterable iter X.env x = pure x := by intro _; rfl) (hs1 : ∀ env x, foldedSetIterable iter1 env x = pure x := by intro _ _; rfl) :
    E1 X ρ (.ListComp elt [⟨tg, iter, ifs, 0⟩, ⟨tg1, iter1, [], 0⟩] scope pos) (.list ((xs.filter p).flatMap ys)) := by
  have h01 : 0 ∉ vs1 := fun z => h0 (hv 0 z)
  refine pe_imp (pe_lc2 (tt := fun σ H Q => ∃ x : {x // x ∈ xs}, tTs X.K (ρx x.1) 0 (· = p x.1) σ H Q) (wi1 := fun σ H R => ∃ x : {x // x ∈ xs}, tI X.K (ρx x.1) 0 (· = ys x.1) σ H R) (te := fun σ H Q => ∃ x : {x : α × D // x.1 ∈ xs ∧ x.2 ∈ ys x.1}, tE X.K (ρy x.1.1 x.1.2) 0 (· = x.1.2) σ H Q)
    hc hN hi ok hv hg (fun s H C cl fp => pts_any fun x : {x // x ∈ xs} => ht x.1 x.2 s H C cl fp) (fun s H C cl fp => ⟨fun pins s2 σ H2 R I ⟨x, q⟩ => (hi1 x.1 x.2 s H C cl fp).run pins s2 σ H2 R I q⟩) hg1 (fun s H C cl fp => pts_nil)
    (fun s H C cl fp => pe_any fun x : {x : α × D // x.1 ∈ xs ∧ x.2 ∈ ys x.1} => he x.1.1 x.2.1 x.1.2 x.2.2 s H C cl fp) hs hs1) fun σ H Q ⟨G, L, bx, x, hb, q⟩ => ?_
  refine ⟨G, L, bx, x, hb, fun J H1 zs s1 e1 w1 T nT => ?_⟩
  subst e1
  have x1 := x.step0 s1
  have hl : (xs.map en).length = xs.length := List.length_map _
  have nb : ∀ b n, bx = some (b, n) → b ≠ T := fun b n e => by
    obtain ⟨_, _, _, a0, b0, c0, h4, _⟩ := x1.box b n e
    exact ne_of_none h4 nT
  have nTH := s1.noneB nT
  obtain ⟨x2, sm2⟩ := x1.hide (o := .lst []) nT
  have x3 := x2.wipe (vs := own.map (·.2)) h0
  have nown : ∀ (i : Nat) (u : OV), (wipeR ρ (own.map (·.2)))[i]? = some (some (.own u)) → (wipe σ (own.map (·.2)))[i]? ≠ some (some (.ref T)) := fun i u e z => by
    obtain ⟨e1, e2⟩ := wipeR_some e
    rw [wipe_get, if_neg e2] at z
    obtain ⟨p', u', h1, h2, h3, _⟩ := x1.own i u e1
    rw [z] at h1
    cases h1
    rw [nT] at h3
    cases h3
  -- what holds between two turns, so much made
  let Mid : List D → Hp → Prop := fun ds H' => Stp [] bx 0 H H' ∧ Ctx X.K G (T :: L) bx (wipe σ (own.map (·.2))) H' (wipeR ρ (own.map (·.2))) ∧ (∃ acc, H' T = some (.lst acc) ∧ DqAll X.K (mask ((T :: L) ++ G) H') acc ds) ∧ Same (mask (L ++ G) H1) (mask ((T :: L) ++ G) H')
  have len : ∀ (n : Nat), (((xs.take n).filter p).flatMap ys).length ≤ (xs.flatMap ys).length := len_ff p ys xs
  refine ⟨fun i m H2 => m = xs.length - i ∧ i ≤ xs.length ∧ Mid (((xs.take i).filter p).flatMap ys) H2, ⟨xs.length, rfl, Nat.zero_le _, s1.poke nTH nb, x3, ⟨[], upd_same, .nil⟩, sm2⟩, ?_⟩
  rintro i m H2 ⟨rfl, hi, st, x4, ⟨acc, eT, wa⟩, sm⟩
  by_cases hlt : i < xs.length
  · refine .inr ⟨w1.go i H2 (by rw [hl]; exact hlt) (sm.trans (mask_same _ _)), Mid (((xs.take (i + 1)).filter p).flatMap ys), fun H' h => ⟨xs.length - (i + 1), by omega, rfl, hlt, h⟩, fun v H3 y => ?_⟩
    obtain ⟨sm3, wy⟩ := w1.yld i H2 v H3 (by rw [hl]; exact hlt) (sm.trans (mask_same _ _)) y
    obtain ⟨d, hd', wv⟩ := wy ((T :: L) ++ G) x4.alM sm
    have hx : xs[i]? = some xs[i] := List.getElem?_eq_getElem hlt
    have ed : d = en xs[i] := by
      rw [List.getElem?_map, hx] at hd'
      exact (Option.some.inj hd').symm
    subst ed
    have hm : xs[i] ∈ xs := List.getElem_mem hlt
    have tk : xs.take (i + 1) = xs.take i ++ [xs[i]] := by rw [List.take_add_one, hx]; rfl
    have s3 : Stp [] bx 0 H2 H3 := Stp.same x4 sm3
    have x5 := x4.step0 s3
    refine hT _ hm G (T :: L) _ _ H3 v _ x5 wv fun σ' x6 hw => ⟨(hw _ hS).trans (wipe_wipe _ _), ?_⟩
    refine ⟨⟨_, hm⟩, G, T :: L, _, x6, hb, fun b H4 s4 pb => ?_⟩
    subst pb
    have s34 := s3.trans0 s4
    have x7 := x6.step0 s4
    have x7w := x4.step0 s34
    have sm4 : Same (mask ((T :: L) ++ G) H2) (mask ((T :: L) ++ G) H4) := s34.mask x4.bM
    have eT4 : H4 T = some (.lst acc) := s34.at (fun b n e => Ne.symm (nb b n e)) eT
    cases hp : p xs[i] with
    | false =>
      rw [if_neg Bool.false_ne_true]
      refine ⟨st.trans0 s34, x7w, ⟨acc, eT4, ?_⟩, sm.trans sm4⟩
      rw [tk, List.filter_append, List.flatMap_append]
      have : [xs[i]].filter p = [] := by simp [hp]
      rw [this, List.flatMap_nil, List.append_nil]
      exact dpa_mono sm4 _ _ wa
    | true =>
      rw [if_pos rfl]
      refine ⟨⟨_, hm⟩, G, T :: L, _, x7, hb, fun J1 H5 zs s5 e5 w5 => ?_⟩
      subst e5
      have s35 := s34.trans0 s5
      have x8 := x7.step0 s5
      have x8w := x4.step0 s35
      have sm5 : Same (mask ((T :: L) ++ G) H2) (mask ((T :: L) ++ G) H5) := s35.mask x4.bM
      have eT5 : H5 T = some (.lst acc) := s35.at (fun b n e => Ne.symm (nb b n e)) eT
      let Now : Nat → Hp → Prop := fun j H' => Stp [] bx 0 H H' ∧ Ctx X.K G (T :: L) bx (wipe σ (own.map (·.2))) H' (wipeR ρ (own.map (·.2))) ∧ (∃ acc, H' T = some (.lst acc) ∧ DqAll X.K (mask ((T :: L) ++ G) H') acc ((((xs.take i).filter p).flatMap ys) ++ (ys xs[i]).take j)) ∧ Same (mask (L ++ G) H1) (mask ((T :: L) ++ G) H') ∧
        Ctx X.K G (T :: L) bx (wipe σ' vs1) H' (wipeR (ρx xs[i]) vs1) ∧ Same (mask ((T :: L) ++ G) H5) (mask ((T :: L) ++ G) H')
      refine ⟨fun j k H' => k = (ys xs[i]).length - j ∧ j ≤ (ys xs[i]).length ∧ Now j H', ⟨(ys xs[i]).length, rfl, Nat.zero_le _, st.trans0 s35, x8w, ⟨acc, eT5, ?_⟩, sm.trans sm5, x8.wipe h01, Same.refl _⟩, ?_⟩
      · rw [List.take_zero, List.append_nil]
        exact dpa_mono sm5 _ _ wa
      rintro j k H6 ⟨rfl, hj, st6, x9w, ⟨acc6, eT6, wa6⟩, sm6, x9, sm56⟩
      by_cases hlj : j < (ys xs[i]).length
      · refine .inr ⟨w5.go j H6 hlj (sm56.trans (mask_same _ _)), Now (j + 1), fun H' h => ⟨(ys xs[i]).length - (j + 1), by omega, rfl, hlj, h⟩, fun v2 H7 y2 => ?_⟩
        obtain ⟨sm7, wy7⟩ := w5.yld j H6 v2 H7 hlj (sm56.trans (mask_same _ _)) y2
        obtain ⟨d2, hd2, wv2⟩ := wy7 ((T :: L) ++ G) x9.alM sm56
        have hm2 : d2 ∈ ys xs[i] := List.mem_of_getElem? hd2
        have s7 : Stp [] bx 0 H6 H7 := Stp.same x9 sm7
        have x10 := x9.step0 s7
        refine hT1 _ hm d2 hm2 G (T :: L) _ _ H7 v2 _ x10 wv2 fun σ2 x11 hw2 => ⟨(hw2 _ hS1).trans (wipe_wipe _ _), ?_⟩
        simp only [tYes, if_true]
        refine ⟨⟨(xs[i], d2), hm, hm2⟩, G, T :: L, _, x11, hb, fun r H8 dr s8 pr wr => ?_⟩
        subst pr
        have s78 := s7.trans0 s8
        have sm8 : Same (mask ((T :: L) ++ G) H6) (mask ((T :: L) ++ G) H8) := s78.mask x9.bM
        have eT8 : H8 T = some (.lst acc6) := s78.at (fun b n e => Ne.symm (nb b n e)) eT6
        have dm : mask ((T :: L) ++ G) (upd H8 T (.lst (acc6 ++ [r]))) = mask ((T :: L) ++ G) H8 := mask_upd_in (by simp)
        have la := dpa_len wa6
        rw [List.length_append, List.length_take] at la
        have lt : ((((xs.take i).filter p).flatMap ys)).length + (ys xs[i]).length ≤ (xs.flatMap ys).length := by
          have := len (i + 1)
          rw [tk, List.filter_append, List.flatMap_append, List.length_append] at this
          have e2 : [xs[i]].filter p = [xs[i]] := by simp [hp]
          rw [e2] at this
          simpa using this
        have tk2 : (ys xs[i]).take (j + 1) = (ys xs[i]).take j ++ [dr] := by rw [List.take_add_one, hd2]; rfl
        refine ⟨acc6, eT8, by omega, (st6.trans0 s78).poke nTH nb, (x9w.step0 s78).poke (by simp) nown, ⟨acc6 ++ [r], upd_same, ?_⟩, by rw [dm]; exact sm6.trans sm8, (x9.step0 s78).poke (by simp) (fun j' u e z => ?_), by rw [dm]; exact sm56.trans sm8⟩
        · rw [dm, tk2, ← List.append_assoc]
          exact dpa_snoc (dpa_mono sm8 _ _ wa6) (wr.dp' (hd _ hm _ hm2))
        · exact hno _ hm j' u (wipeR_some e).1
      · have e : j = (ys xs[i]).length := by omega
        subst e
        refine .inl ⟨w5.stop H6 (sm56.trans (mask_same _ _)), st6, x9w, ⟨acc6, eT6, ?_⟩, sm6⟩
        rw [List.take_of_length_le (Nat.le_refl _)] at wa6
        rw [tk, List.filter_append, List.flatMap_append]
        have e2 : [xs[i]].filter p = [xs[i]] := by simp [hp]
        rw [e2]
        simpa using wa6
  · have e : i = xs.length := by omega
    subst e
    refine .inl ⟨by rw [← hl]; exact w1.stop H2 (sm.trans (mask_same _ _)), ?_⟩
    rw [List.take_of_length_le (Nat.le_refl _)] at wa
    refine q (.ref T) H2 _ st rfl (.dat (.lst ?_ (dpa_mono (mask_mono fun a h => List.mem_cons_of_mem _ h) _ _ wa)))
    rw [mask_out (fun z => (x.alM T z).ne nTH)]
    exact eT
end
end Kl

set_option Elab.async false
set_option linter.all false
set_option maxRecDepth 100000
/-! isinstance; lists and dicts made anew. -/
namespace Kl
open PySem PySem.Spec L2
/-! ### isinstance -/
def tyD : D → String
  | .none => "NoneType"
  | .bool _ => "bool"
  | .int _ => "int"
  | .str _ => "str"
  | .list _ => "list"
  | .tuple _ => "tuple"
  | .dict _ => "dict"
/-- the types asked for here -/
inductive Tq : String → Prop
  | list : Tq "list"
  | tuple : Tq "tuple"
  | bool : Tq "bool"
  | str : Tq "str"
  | int : Tq "int"
def isOf (d : D) (T : String) : Bool := tyD d == T || (tyD d == "bool" && T == "int")
theorem kit2 : ∀ a ∈ ["NoneType", "bool", "int", "str", "list", "tuple"], ∀ T ∈ ["list", "tuple", "bool", "str", "int"], kitB a T = some (a == T || (a == "bool" && T == "int")) := by decide +kernel
theorem kit_isOf {d : D} {T : String} (hd : isDat d = true) (h : Tq T) : kitB (tyD d) T = some (isOf d T) := by
  refine kit2 _ ?_ _ ?_
  · cases d <;> first
      | (simp [tyD]; done)
      | cases hd
  · cases h <;> simp
theorem dq_ty {K : PySem.W.Frag} {M : List Addr} {H : Hp} {v : V} {d : D} (w : Dq K (mask M H) v d) : TyX K H v (.type (tyD d)) := by
  cases w with
  | non => exact .base .non
  | bl b => exact .base (.bl b)
  | int i => exact .base (.int i)
  | str x => exact .base (.str x)
  | lst h _ => exact .base (.lst (mask_at h).2)
  | tup h _ =>
    rcases h.out with ⟨_, h⟩ | ⟨_, o, _, h⟩
    · exact .base (.tup h)
    · exact .fTuple h
section
variable {X : Cx} {ρ : En} {e e2 : Expr} {d : D} {p p2 p3 pos : Pos} {x x1 x2 : Str} {T T1 T2 : String} {kk : Nat}
theorem E1.isOne (h : E1 X ρ e d) (hT : Tq T) (hv : bootBuiltins x = some (.type T)) (hm : X.mg x = none) (hm0 : X.mg "isinstance" = none) (hd : isDat d = true := by rfl) (hg : Gl X x := by rfl) (hg0 : Gl X "isinstance" := by rfl) (hn : x ≠ "__name__" := by decide) (hdb : (x == ("__debug__" : Str)) = false := by decide)
    (he : starEach (e :: [.Name x p2]) X.env = (false, eval e X.env) :: starEach [.Name x p2] X.env := by rfl) (he2 : starEach [.Name x p2] X.env = (false, eval (.Name x p2) X.env) :: starEach [] X.env := by rfl) (hpl : (backTo pos (starEach [.Name x p2] X.env)).any (·.1) = false := by rfl) :
    E1 X ρ (.Call (.Name "isinstance" p) [e, .Name x p2] [] pos) (.bool (isOf d T)) := by
  refine pe_imp (pe_callB call_isi hg0 hm0 bt_isinstance (pa_cons h (pa_cons (pe_bltn (v := .ty T) hg hm hv rfl hn hdb) pa_nil he2) he) (he := he) (hpl := hpl)) fun σ H Q ⟨G, L, bx, x, hb, q⟩ => ⟨G, L, bx, x, hb, fun v H1 d' s p w => ?_⟩
  subst p
  refine ⟨v, .ty T, _, _, isOf d' T, rfl, .ty T, dq_ty (w.dp' hd), kit_ty (kit_isOf hd hT), q _ H1 _ s rfl (.dat (.bl _))⟩
theorem E1.isTwo (h : E1 X ρ e d) (hT1 : Tq T1) (hT2 : Tq T2) (hv1 : bootBuiltins x1 = some (.type T1)) (hv2 : bootBuiltins x2 = some (.type T2)) (hm1 : X.mg x1 = none) (hm2 : X.mg x2 = none) (hm0 : X.mg "isinstance" = none) (hd : isDat d = true := by rfl) (hg1 : Gl X x1 := by rfl) (hg2 : Gl X x2 := by rfl) (hg0 : Gl X "isinstance" := by rfl)
    (hn1 : x1 ≠ "__name__" := by decide) (hdb1 : (x1 == ("__debug__" : Str)) = false := by decide) (hn2 : x2 ≠ "__name__" := by decide) (hdb2 : (x2 == ("__debug__" : Str)) = false := by decide)
    (he : starEach (e :: [.Tuple [.Name x1 p2, .Name x2 p3] kk pos2]) X.env = (false, eval e X.env) :: starEach [.Tuple [.Name x1 p2, .Name x2 p3] kk pos2] X.env := by rfl)
    (he2 : starEach [.Tuple [.Name x1 p2, .Name x2 p3] kk pos2] X.env = (false, eval (.Tuple [.Name x1 p2, .Name x2 p3] kk pos2) X.env) :: starEach [] X.env := by rfl)
    (he3 : starEach [.Name x1 p2, .Name x2 p3] X.env = (false, eval (.Name x1 p2) X.env) :: starEach [.Name x2 p3] X.env := by rfl) (he4 : starEach [.Name x2 p3] X.env = (false, eval (.Name x2 p3) X.env) :: starEach [] X.env := by rfl) (hpl : (backTo pos (starEach [.Tuple [.Name x1 p2, .Name x2 p3] kk pos2] X.env)).any (·.1) = false := by rfl) :
    E1 X ρ (.Call (.Name "isinstance" p) [e, .Tuple [.Name x1 p2, .Name x2 p3] kk pos2] [] pos) (.bool (isOf d T1 || isOf d T2)) := by
  refine pe_imp (pe_callB call_isiT hg0 hm0 bt_isinstance (pa_cons h (pa_cons (pe_tup (pa_cons (pe_bltn (v := .ty T1) hg1 hm1 hv1 rfl hn1 hdb1) (pa_cons (pe_bltn (v := .ty T2) hg2 hm2 hv2 rfl hn2 hdb2) pa_nil he4) he3)) pa_nil he2) he) (he := he) (hpl := hpl)) fun σ H Q ⟨G, L, bx, x, hb, q⟩ => ⟨G, L, bx, x, hb, fun v H1 d' s p w => ?_⟩
  subst p
  refine ⟨by show 2 ≤ sizeLine; decide, fun a na => ?_⟩
  have w2 : Dv X.K (mask (L ++ G) (upd H1 a (.tup [.ty T1, .ty T2]))) v d' := w.mono (same_mask' (same_upd na) _)
  refine ⟨v, a, [.ty T1, .ty T2], _, [.type T1, .type T2], isOf d' T1 || isOf d' T2, rfl, upd_same, .cons (.ty T1) (.cons (.ty T2) .nil), dq_ty (w2.dp' hd), ?_, q _ _ _ (Stp.andSame (x.step s) s (same_upd na)) rfl (.dat (.bl _))⟩
  refine kitAny_cons (kit_ty (kit_isOf hd hT1)) (fun z => ?_) (fun z => by rw [z]; rfl)
  rw [z, Bool.false_or]
  refine kitAny_cons (kit_ty (kit_isOf hd hT2)) (fun z => ?_) fun z => z
  rw [z]
  exact kitAny_nil
/-! ### lists anew -/
theorem c_listN {ds : List D} (hd : d = .tuple ds ∨ d = .list ds := by first | exact .inl rfl | exact .inr rfl) : CallNew X (.type "list") [d] (· = ds) := fun M H xs Q al w q => by
  obtain ⟨v, rfl, w'⟩ := p1 w
  rcases hd with rfl | rfl
  · obtain ⟨a, vs, rfl, h1, h2⟩ := w'.tuple
    exact ⟨_, call_list_of, a, vs, rfl, .inr h1.out.sq, fun l nl => q l vs ds nl rfl h2⟩
  · obtain ⟨a, vs, rfl, h1, h2⟩ := w'.list
    exact ⟨_, call_list_of, a, vs, rfl, .inl (SqL.of (mask_at h1).2), fun l nl => q l vs ds nl rfl h2⟩
theorem o_catN {xs ys : List D} (hz : xs.length + ys.length ≤ sizeLine) : OpNew X (binaryOp .Add) (.list xs) (.list ys) (· = xs ++ ys) := fun M H x y Q al w1 w2 q => by
  obtain ⟨a, vs, rfl, h1, h2⟩ := w1.list
  obtain ⟨b, us, rfl, h3, h4⟩ := w2.list
  exact ⟨_, op_cat, a, b, vs, us, rfl, rfl, (mask_at h1).2, (mask_at h3).2, by rw [dpa_len h2, dpa_len h4]; exact hz, fun p np => q p _ _ np rfl (dpa_append h2 h4)⟩
theorem G1.list {ds : List D} (h : E1 X ρ e d) (hm : X.mg "list" = none) (hd : d = .tuple ds ∨ d = .list ds := by first | exact .inl rfl | exact .inr rfl) (hg : Gl X "list" := by rfl) (he : starEach [e] X.env = (false, eval e X.env) :: starEach [] X.env := by rfl) (hpl : (backTo pos (starEach [] X.env)).any (·.1) = false := by rfl) :
    G1 X ρ (.Call (.Name "list" p) [e] [] pos) (.own (.l ds)) :=
  Gv.imp (Gv.callT (A1.cons h A1.nil he) (fun _ z => z ▸ c_listN hd) hm bt_list hg (by decide) (by decide) he hpl) (Nat.le_refl _) fun s ⟨_, e1, e2⟩ => by rw [e1, e2]
/-! ### dicts with text keys, of pairs -/
def pairD (p : Str × D) : D := .tuple [.str p.1, p.2]
def mergeS (ps : List (Str × D)) : List (Str × D) := ps.foldl (fun acc p => putS acc p.1 p.2) []
theorem merge_paired {R : V → D → Prop} : ∀ {kvs : List (Key × V)} {ps : List (Str × D)} {acc : List (Key × V)} {acs : List (Str × D)}, Paired (fun (p : Key × V) (q : Str × D) => p.1 = Sum.inr q.1 ∧ R p.2 q.2) kvs ps → Paired (fun (p : Key × V) (q : Str × D) => p.1 = Sum.inr q.1 ∧ R p.2 q.2) acc acs →
    Paired (fun (p : Key × V) (q : Str × D) => p.1 = Sum.inr q.1 ∧ R p.2 q.2) (kvs.foldl (fun acc kv => L2.putK acc kv.1 kv.2) acc) (ps.foldl (fun acc p => putS acc p.1 p.2) acs)
  | _, _, _, _, .nil, h => h
  | _, _, _, _, .cons (a := a) (b := b) h t, h2 => by
    rw [List.foldl_cons, List.foldl_cons]
    refine merge_paired t ?_
    rw [h.1]
    exact put_paired h.2 h2
/-- the pairs of a list or tuple of pairs -/
theorem pairs_at {K : PySem.W.Frag} {M : Hp} (hh : ∀ p : Str × D, isHold [.str p.1, p.2] = false := fun _ => rfl) : ∀ {vs : List V} {ps : List (Str × D)}, DqAll K M vs (ps.map pairD) → ∃ (as : List Addr) (kvs : List (Key × V)), vs = as.map V.ref ∧ Paired (fun a kv => M a = some (.tup [kV kv.1, kv.2])) as kvs ∧ Paired (fun (p : Key × V) (q : Str × D) => p.1 = Sum.inr q.1 ∧ Dq K M p.2 q.2) kvs ps
  | _, [], h => by
    cases h
    exact ⟨[], [], rfl, .nil, .nil⟩
  | _, p :: ps, h => by
    cases h with
    | cons h1 h2 =>
      obtain ⟨as, kvs, rfl, g1, g2⟩ := pairs_at hh h2
      cases h1 with
      | tup t1 t2 =>
        cases t2 with
        | cons u1 u2 =>
          cases u2 with
          | cons u2 u3 =>
            cases u3
            cases u1
            exact ⟨_ :: as, (Sum.inr p.1, _) :: kvs, rfl, .cons (t1.tup (hh p)) g1, .cons ⟨rfl, u2⟩ g2⟩
theorem slat_dict {K : PySem.W.Frag} {M : List Addr} {H0 H1 : Hp} {p : Addr} {kvs : List (Key × V)} {es : List (Str × D)} (n0 : H0 p = none) (np : H1 p = none) (w : Paired (fun (p : Key × V) (q : Str × D) => p.1 = Sum.inr q.1 ∧ Dq K (mask M H1) p.2 q.2) kvs es) : SlAt K H0 (upd H1 p (.dK kvs)) M (.ref p) (.own (.k es)) [p] := by
  refine ⟨p, .dK kvs, rfl, rfl, n0, upd_same, trivial, ?_⟩
  refine Paired.mapP w fun a b z => ⟨z.1, dp_mono (fun a o e => ?_) _ _ z.2⟩
  obtain ⟨e1, e2⟩ := mask_at e
  have ne : a ≠ p := ne_of_none e2 np
  rw [mask_out (by simp only [List.mem_cons, not_or]; exact ⟨ne, e1⟩), upd_ne ne]
  exact e2
theorem G1.dictL {ps : List (Str × D)} (h : E1 X ρ e (.list (ps.map pairD))) (hm : X.mg "dict" = none) (hc : X.calm = true := by rfl) (hg : Gl X "dict" := by rfl) (he : starEach [e] X.env = (false, eval e X.env) :: starEach [] X.env := by rfl) (hpl : (backTo pos (starEach [] X.env)).any (·.1) = false := by rfl) :
    G1 X ρ (.Call (.Name "dict" p) [e] [] pos) (.own (.k (mergeS ps))) := by
  refine pe_imp (pe_callTy (call_dictP hc) hg hm bt_dict (pa_cons h pa_nil he) (he := he) (hpl := hpl)) fun σ H Q ⟨G, L, bx, x, hb, q⟩ => ⟨G, L, bx, x, hb, fun v H1 d' s p w => ?_⟩
  subst p
  obtain ⟨a, vs, rfl, h1, h2⟩ := w.list
  obtain ⟨as, kvs, rfl, g1, g2⟩ := pairs_at (K := X.K) (fun _ => rfl) h2
  refine ⟨a, as, kvs, rfl, SqL.of (mask_at h1).2, Paired.mapP g1 fun a b z => SqT.of (mask_at z).2, fun r nr => ?_⟩
  exact q _ _ _ [r] (Stp.andSame (x.step s) s (same_upd nr)) rfl (slat_dict (s.noneB nr) nr (merge_paired g2 .nil))
/-- the first part of each pair -/
theorem rows_of {h : Heap} : ∀ {prs : List (Key × Value)} {ps : List Addr}, prs.length = ps.length → (∀ (j : Nat) (q : Key × Value), prs[j]? = some q → ∃ (b : Addr) (u : Value), ps[j]? = some b ∧ PyProof.Rows.IsTup h b #[u, q.2] ∧ keyIs q.1 u = true) →
    ∃ rows : List (Value × Value), rows.length = prs.length ∧ ∀ (j : Nat) (p : Key × Value), prs[j]? = some p → ∃ (b : Addr) (u : Value), ps[j]? = some b ∧ rows[j]? = some (u, p.2) ∧ PyProof.Rows.IsTup h b #[u, p.2] ∧ keyIs p.1 u = true
  | [], _, _, _ => ⟨[], rfl, fun j p e => by simp at e⟩
  | p :: prs, [], hl, _ => by cases hl
  | p :: prs, b :: ps, hl, hp => by
    obtain ⟨rows, r1, r2⟩ := rows_of (prs := prs) (ps := ps) (by simpa using hl) fun j q e => by
      obtain ⟨b', u', e1, e2⟩ := hp (j + 1) q (by simpa using e)
      exact ⟨b', u', by simpa using e1, e2⟩
    obtain ⟨b', u', e1, e2, e3⟩ := hp 0 p rfl
    refine ⟨(u', p.2) :: rows, by simp [r1], fun j q e => ?_⟩
    cases j with
    | zero => cases e; exact ⟨b', u', e1, rfl, e2, e3⟩
    | succ j =>
      obtain ⟨b2, u2, f1, f2, f3⟩ := r2 j q (by simpa using e)
      exact ⟨b2, u2, by simpa using f1, by simpa using f2, f3⟩
/-- dict(a tuple of pairs whose object is known) -/
theorem cr_dictH (hc : X.calm = true) : CallR X (.type "dict") (fun xs H Q => ∃ (a : Addr) (o : Obj) (ps : List Addr) (kvs : List (Key × V)), xs = [.ref a] ∧ o.dict = none ∧ H a = some (.frz o (.tup (ps.map V.ref))) ∧ Paired (fun p kv => SqT X.K H p [kV kv.1, kv.2]) ps kvs ∧
    ∀ p, H p = none → Q (.ref p) (upd H p (.dK (kvs.foldl (fun acc kv => L2.putK acc kv.1 kv.2) [])))) := by
  intro pins s σ H xs us Q I r q
  obtain ⟨a, o, ps, kvs, ex, hod, hq, hp, q⟩ := q
  subst ex
  obtain ⟨u, eu, rx⟩ : ∃ u, us = [u] ∧ RelV (.ref a) u := by
    cases r with
    | cons h t => cases t; exact ⟨_, rfl, h⟩
  subst eu
  cases rx
  obtain ⟨ho, hz, its, rv, o', ho', hcl, n, hdat⟩ := I.hok a _ hq
  rw [ho] at ho'
  cases ho'
  have ei := refs_at rv
  subst ei
  rw [List.length_map] at hz
  obtain ⟨prs, rel, hl, hpr⟩ := pairs_of I hp
  obtain ⟨rows, hrl, hrow⟩ := rows_of hl hpr
  have ok : PySem.PlainSeq "tuple" s.heap a (ps.map Value.ref).toArray ∧ PySem.PairItems s.heap (ps.map Value.ref).toArray (fun j => (ps[j]?).getD 0) rows := by
    refine ⟨⟨o, n, ho, hcl, hod, hdat⟩, by simp only [List.size_toArray, List.length_map]; omega, fun j k v e => ?_⟩
    have hj : j < prs.length := by
      rw [← hrl]
      exact (List.getElem?_eq_some_iff.mp e).1
    obtain ⟨b, u, e1, e2, e3, e4⟩ := hrow j prs[j] (List.getElem?_eq_getElem hj)
    rw [e] at e2
    cases e2
    refine ⟨by simp [e1], .inl ?_⟩
    show s.heap.IsTuple ((ps[j]?).getD 0) _
    rw [e1]
    exact e3
  refine PySem.call_dict_pairs (knd := mixKind X.prog X.w) (kvs := prs) (PySem.PairArg.tuple a (ps.map Value.ref).toArray (fun j => (ps[j]?).getD 0) rows) (I.ok.hd hc) ok ⟨hrl.symm, fun i key v e => ?_⟩ (by omega) fun h' tk hd' k => ?_
  · have hi : i < prs.length := by
      rw [← hrl]
      exact (List.getElem?_eq_some_iff.mp e).1
    obtain ⟨b, u, e1, e2, e3, e4⟩ := hrow i prs[i] (List.getElem?_eq_getElem hi)
    have e' : rows[i]? = some (key, v) := e
    rw [e'] at e2
    cases e2
    exact ⟨prs[i].1, by rw [List.getElem?_eq_getElem hi], e4⟩
  · have hm : (s.heap.objs.size == sysModules) = false := beq_eq_false_iff_ne.mpr (Nat.ne_of_gt I.big)
    have hlen : (mergeK [] kvs).length ≤ sizeLine := by
      refine Nat.le_trans (length_mergeK kvs []) ?_
      rw [List.length_nil, Nat.zero_add, rel.length, hl]
      exact hz
    exact ⟨.ref s.heap.objs.size, upd H s.heap.objs.size (.dK (mergeK [] kvs)), I.laid (t' := tk) (fun b o e => k b o (by simp) e) (Nat.le_refl _) (show ObjOk X.prog X.w _ _ _ (.dK (mergeK [] kvs)) from ⟨hlen, hm, merged [] prs, KV.merge rel .nil, hd'⟩), rfl, q _ (I.hok.fresh (Nat.le_refl _))⟩
theorem G1.dictH {ps : List (Str × D)} (h : E1 X ρ e (.tuple (ps.map pairD))) (hh : isHold (ps.map pairD) = true) (hm : X.mg "dict" = none) (hc : X.calm = true := by rfl) (hg : Gl X "dict" := by rfl) (he : starEach [e] X.env = (false, eval e X.env) :: starEach [] X.env := by rfl) (hpl : (backTo pos (starEach [] X.env)).any (·.1) = false := by rfl) :
    G1 X ρ (.Call (.Name "dict" p) [e] [] pos) (.own (.k (mergeS ps))) := by
  refine pe_imp (pe_callTy (cr_dictH hc) hg hm bt_dict (pa_cons h pa_nil he) (he := he) (hpl := hpl)) fun σ H Q ⟨G, L, bx, x, hb, q⟩ => ⟨G, L, bx, x, hb, fun v H1 d' s p w => ?_⟩
  subst p
  obtain ⟨a, vs, rfl, h1, h2⟩ := w.tuple
  obtain ⟨as, kvs, rfl, g1, g2⟩ := pairs_at (K := X.K) (fun _ => rfl) h2
  rcases h1.out with ⟨z, _⟩ | ⟨_, o, ho, ha⟩
  · rw [hh] at z; cases z
  refine ⟨a, o, as, kvs, rfl, ho, ha, Paired.mapP g1 fun a b z => SqT.of (mask_at z).2, fun r nr => ?_⟩
  exact q _ _ _ [r] (Stp.andSame (x.step s) s (same_upd nr)) rfl (slat_dict (s.noneB nr) nr (merge_paired g2 .nil))
end
end Kl

set_option Elab.async false
set_option linter.all false
set_option maxRecDepth 100000
/-! Comprehensions with names as targets, in short. -/
namespace Kl
open PySem PySem.Spec L2
section
variable {X : Cx} {ρ : En}
theorem pgB {scope : Scope} {x : Str} {p : Pos} (i : Nat) (hN : X.N.Nodup) (hi : X.N[i]? = some x) (hx : scope.names.lookup x = some .local) : InBlk X scope fun Y => PG Y (.Name x p) (gName i) := fun s H C cl fp => pg_name (X := X.blk s H scope (compEnvC scope cl C X.env) fp) (i := i) hN hi (.inl (lookup_relabel_local hx)) (.inr (lookup_relabel_local hx))
theorem pgB2 {scope : Scope} {x y : Str} {p q r : Pos} {k : Nat} (i j : Nat) (hN : X.N.Nodup) (hi : X.N[i]? = some x) (hj : X.N[j]? = some y) (hx : scope.names.lookup x = some .local) (hy : scope.names.lookup y = some .local) (hc : X.calm = true := by rfl) :
    InBlk X scope fun Y => PG Y (.Tuple [.Name x p, .Name y q] k r) (gTup X.K 2 (gCons (gName i) (gCons (gName j) gNil))) := fun s H C cl fp =>
  pg_tup (X := X.blk s H scope (compEnvC scope cl C X.env) fp) hc (pgs_cons (pgB i hN hi hx s H C cl fp) (pgs_cons (pgB j hN hj hy s H C cl fp) pgs_nil (by rfl)) (by rfl)) (by rfl) (by rfl)
abbrev wp1 (ρ : En) (vs : List Nat) (i : Nat) (d : D) : En := (wipeR ρ vs).set i (some (.dat d))
/-- [elt for x in iter] -/
theorem E1.lcN {α : Type} {en : α → D} {xs : List α} {f : α → D} {elt iter : Expr} {scope : Scope} {x : Str} {p pos : Pos} (i : Nat) (hi : I1 X ρ (.Name x p) iter (xs.map en)) (he : ∀ a ∈ xs, InBlk X scope fun Y => E1 Y (wp1 ρ [i] i (en a)) elt (f a)) (hz : xs.length ≤ sizeLine) (hN : X.N.Nodup)
    (hd : ∀ a, isDat (f a) = true := by intro _; rfl) (hxi : X.N[i]? = some x := by rfl) (hx : scope.names.lookup x = some .local := by rfl) (h0 : 0 < i := by decide) (ok : BlkOk X.N X.env.scope scope [(x, i)] := by exact blkOk_by (by kernel_rfl)) (hc : X.calm = true := by rfl) (hs : ∀ x, foldedSetIterable iter X.env x = pure x := by intro _; rfl) :
    E1 X ρ (.ListComp elt [⟨.Name x p, iter, [], 0⟩] scope pos) (.list (xs.map f)) :=
  E1.lcAll (S := [i]) [(x, i)] hi (pgB i hN hxi hx) (fun a _ => TgOk.name i h0) he hz hN ok hc hd (fun j h => h) (by simp; omega) hs
/-- [elt for x in iter if t] -/
theorem E1.lcNIf {α : Type} {en : α → D} {xs : List α} {q : α → Bool} {f : α → D} {elt iter t : Expr} {scope : Scope} {x : Str} {p pos : Pos} (i : Nat) (hi : I1 X ρ (.Name x p) iter (xs.map en)) (ht : ∀ a ∈ xs, InBlk X scope fun Y => T1 Y (wp1 ρ [i] i (en a)) t (q a)) (he : ∀ a ∈ xs, q a = true → InBlk X scope fun Y => E1 Y (wp1 ρ [i] i (en a)) elt (f a)) (hz : xs.length ≤ sizeLine) (hN : X.N.Nodup)
    (hd : ∀ a, isDat (f a) = true := by intro _; rfl) (hxi : X.N[i]? = some x := by rfl) (hx : scope.names.lookup x = some .local := by rfl) (h0 : 0 < i := by decide) (ok : BlkOk X.N X.env.scope scope [(x, i)] := by exact blkOk_by (by kernel_rfl)) (hc : X.calm = true := by rfl) (hs : ∀ x, foldedSetIterable iter X.env x = pure x := by intro _; rfl) :
    E1 X ρ (.ListComp elt [⟨.Name x p, iter, [t], 0⟩] scope pos) (.list ((xs.filter q).map f)) :=
  E1.lcIf (S := [i]) [(x, i)] hi (pgB i hN hxi hx) (fun a _ => TgOk.name i h0) ht he hz hN ok hc hd (fun j h => h) (by simp; omega) hs
abbrev wp2 (ρ : En) (vs : List Nat) (i j : Nat) (d e : D) : En := ((wipeR ρ vs).set i (some (.dat d))).set j (some (.dat e))
/-- [elt for x, y in iter] -/
theorem E1.lcP {α : Type} {e1 e2 : α → D} {xs : List α} {f : α → D} {elt iter : Expr} {scope : Scope} {x y : Str} {p p2 p3 pos : Pos} {k : Nat} (i j : Nat) (hi : I1 X ρ (.Tuple [.Name x p, .Name y p2] k p3) iter (xs.map fun a => .tuple [e1 a, e2 a])) (he : ∀ a ∈ xs, InBlk X scope fun Y => E1 Y (wp2 ρ [i, j] i j (e1 a) (e2 a)) elt (f a)) (hz : xs.length ≤ sizeLine) (hN : X.N.Nodup)
    (hd : ∀ a, isDat (f a) = true := by intro _; rfl) (hxi : X.N[i]? = some x := by rfl) (hyj : X.N[j]? = some y := by rfl) (hx : scope.names.lookup x = some .local := by rfl) (hy : scope.names.lookup y = some .local := by rfl) (h0 : 0 < i := by decide) (h1 : 0 < j := by decide) (ok : BlkOk X.N X.env.scope scope [(x, i), (y, j)] := by exact blkOk_by (by kernel_rfl)) (hc : X.calm = true := by rfl) (hs : ∀ x, foldedSetIterable iter X.env x = pure x := by intro _; rfl) :
    E1 X ρ (.ListComp elt [⟨.Tuple [.Name x p, .Name y p2] k p3, iter, [], 0⟩] scope pos) (.list (xs.map f)) :=
  E1.lcAll (S := [i, j]) [(x, i), (y, j)] hi (pgB2 i j hN hxi hyj hx hy hc) (fun a _ => TgOk.tup2 i j h0 h1) he hz hN ok hc hd (fun j h => h) (by simp; omega) hs
theorem E1.lcPIf {α : Type} {e1 e2 : α → D} {xs : List α} {q : α → Bool} {f : α → D} {elt iter t : Expr} {scope : Scope} {x y : Str} {p p2 p3 pos : Pos} {k : Nat} (i j : Nat) (hi : I1 X ρ (.Tuple [.Name x p, .Name y p2] k p3) iter (xs.map fun a => .tuple [e1 a, e2 a])) (ht : ∀ a ∈ xs, InBlk X scope fun Y => T1 Y (wp2 ρ [i, j] i j (e1 a) (e2 a)) t (q a)) (he : ∀ a ∈ xs, q a = true → InBlk X scope fun Y => E1 Y (wp2 ρ [i, j] i j (e1 a) (e2 a)) elt (f a)) (hz : xs.length ≤ sizeLine) (hN : X.N.Nodup)
    (hd : ∀ a, isDat (f a) = true := by intro _; rfl) (hxi : X.N[i]? = some x := by rfl) (hyj : X.N[j]? = some y := by rfl) (hx : scope.names.lookup x = some .local := by rfl) (hy : scope.names.lookup y = some .local := by rfl) (h0 : 0 < i := by decide) (h1 : 0 < j := by decide) (ok : BlkOk X.N X.env.scope scope [(x, i), (y, j)] := by exact blkOk_by (by kernel_rfl)) (hc : X.calm = true := by rfl) (hs : ∀ x, foldedSetIterable iter X.env x = pure x := by intro _; rfl) :
    E1 X ρ (.ListComp elt [⟨.Tuple [.Name x p, .Name y p2] k p3, iter, [t], 0⟩] scope pos) (.list ((xs.filter q).map f)) :=
  E1.lcIf (S := [i, j]) [(x, i), (y, j)] hi (pgB2 i j hN hxi hyj hx hy hc) (fun a _ => TgOk.tup2 i j h0 h1) ht he hz hN ok hc hd (fun j h => h) (by simp; omega) hs
end
end Kl

set_option Elab.async false
set_option linter.all false
set_option maxRecDepth 100000
/-! for with names as targets, in short. -/
namespace Kl
open PySem PySem.Spec L2
section
variable {X : Cx} {ρ : En} {c c0 ct : Nat} {O : Out → Prop} {rest body : List Stmt} {iter : Expr} {ys : List D} {pos p p2 p3 : Pos} {x y : Str} {k : Nat}
/-- for x in iter -/
theorem Svs.forN (j : Nat) (Jv : Nat → En → Prop) (hi : I1 X ρ (.Name x p) iter ys) (h0 : Jv 0 ρ) (hb : ∀ i d ρ', ys[i]? = some d → Jv i ρ' → Svs X (ρ'.set j (some (.dat d))) body c0 (fun o => match o with | .nx ρ2 => Jv (i + 1) ρ2 | .rt d => O (.rt d)))
    (hn : ∀ ρ', Jv ys.length ρ' → Svs X ρ' rest c O) (hct : ys.length * c0 ≤ ct) (hp : PassesOwn (model X.prog X.w) X.A X.env X.xe) (hN : X.N.Nodup) (hc : X.calm = true := by rfl) (hj : X.N[j]? = some x := by rfl) (hx : Loc X.env.scope x := by first | exact Or.inl rfl | exact Or.inr rfl) (hj0 : 0 < j := by decide)
    (hf : X.fn x = true ∨ X.env.scope.names.lookup x = some .local := by first | exact .inl rfl | exact .inr rfl) (hs : ∀ x, foldedSetIterable iter X.env x = pure x := by intro _; rfl) : Svs X ρ (.For (.Name x p) iter body [] pos :: rest) (ct + c) O := by
  have go : ∀ {i d}, ys[i]? = some d → ys.getD i .none = d := fun {i d} e => by rw [List.getD_eq_getElem?_getD, e]; rfl
  have h : Sv X ρ (.For (.Name x p) iter body [] pos) ct (fun o => match o with | .nx ρ2 => Jv ys.length ρ2 | .rt d => O (.rt d)) :=
    Sv.for (S := [j]) (Jv := Jv) (bind := fun i ρ' => ρ'.set j (some (.dat (ys.getD i .none)))) (c0 := c0) hi (pg_name (i := j) hN hj hx hf) h0 (fun i d ρ' e _ => by rw [go e]; exact TgOk.name j hj0)
      (fun i ρ' hl hJ => by
        have e : ys[i]? = some ys[i] := List.getElem?_eq_getElem hl
        rw [go e]
        refine Svs.imp (hb i _ ρ' e hJ) (Nat.le_refl _) fun o h => ?_
        cases o <;> exact h) (fun ρ' h => h) hct hp hc hs
  exact Svs.cons h (fun ρ' z => hn ρ' z) fun d z => z
/-- for x, y in iter -/
theorem Svs.forP {α : Type} {e1 e2 : α → D} {xs : List α} (i1 j1 : Nat) (Jv : Nat → En → Prop) (hi : I1 X ρ (.Tuple [.Name x p, .Name y p2] k p3) iter (xs.map fun a => .tuple [e1 a, e2 a])) (h0 : Jv 0 ρ)
    (hb : ∀ i a ρ', xs[i]? = some a → Jv i ρ' → Svs X ((ρ'.set i1 (some (.dat (e1 a)))).set j1 (some (.dat (e2 a)))) body c0 (fun o => match o with | .nx ρ2 => Jv (i + 1) ρ2 | .rt d => O (.rt d)))
    (hn : ∀ ρ', Jv xs.length ρ' → Svs X ρ' rest c O) (hct : xs.length * c0 ≤ ct) (hp : PassesOwn (model X.prog X.w) X.A X.env X.xe) (hN : X.N.Nodup) (hc : X.calm = true := by rfl) (hi1 : X.N[i1]? = some x := by rfl) (hj1 : X.N[j1]? = some y := by rfl) (hx : Loc X.env.scope x := by first | exact Or.inl rfl | exact Or.inr rfl) (hy : Loc X.env.scope y := by first | exact Or.inl rfl | exact Or.inr rfl)
    (hi0 : 0 < i1 := by decide) (hj0 : 0 < j1 := by decide) (hfx : X.fn x = true ∨ X.env.scope.names.lookup x = some .local := by first | exact .inl rfl | exact .inr rfl) (hfy : X.fn y = true ∨ X.env.scope.names.lookup y = some .local := by first | exact .inl rfl | exact .inr rfl)
    (hn2 : (assignEach [.Name x p, .Name y p2] X.env).length = 2 := by rfl) (hst : (assignEach [.Name x p, .Name y p2] X.env).findIdx? (·.1) = none := by rfl)
    (hg1 : (assignEach (.Name x p :: [.Name y p2]) X.env).map (·.2) = assign (.Name x p) X.env :: (assignEach [.Name y p2] X.env).map (·.2) := by rfl)
    (hg2 : (assignEach (.Name y p2 :: []) X.env).map (·.2) = assign (.Name y p2) X.env :: (assignEach [] X.env).map (·.2) := by rfl) (hs : ∀ x, foldedSetIterable iter X.env x = pure x := by intro _; rfl) :
    Svs X ρ (.For (.Tuple [.Name x p, .Name y p2] k p3) iter body [] pos :: rest) (ct + c) O := by
  have hl' : (xs.map fun a => PyData.tuple [e1 a, e2 a]).length = xs.length := List.length_map _
  have go : ∀ {i a}, xs[i]? = some a → ((xs.map e1).getD i .none = e1 a ∧ (xs.map e2).getD i .none = e2 a) := fun {i a} e => by
    rw [List.getD_eq_getElem?_getD, List.getD_eq_getElem?_getD, List.getElem?_map, List.getElem?_map, e]
    exact ⟨rfl, rfl⟩
  have h : Sv X ρ (.For (.Tuple [.Name x p, .Name y p2] k p3) iter body [] pos) ct (fun o => match o with | .nx ρ2 => Jv xs.length ρ2 | .rt d => O (.rt d)) :=
    Sv.for (S := [i1, j1]) (Jv := Jv) (bind := fun i ρ' => (ρ'.set i1 (some (.dat ((xs.map e1).getD i .none)))).set j1 (some (.dat ((xs.map e2).getD i .none)))) (c0 := c0) hi (pg_tup hc (pgs_cons (pg_name (i := i1) hN hi1 hx hfx) (pgs_cons (pg_name (i := j1) hN hj1 hy hfy) pgs_nil hg2) hg1) hn2 hst) h0
      (fun i d ρ' e _ => by
        rw [List.getElem?_map] at e
        cases ha : xs[i]? with
        | none => rw [ha] at e; cases e
        | some a =>
          rw [ha] at e
          cases e
          rw [(go ha).1, (go ha).2]
          exact TgOk.tup2 i1 j1 hi0 hj0)
      (fun i ρ' hl hJ => by
        rw [hl'] at hl
        have e : xs[i]? = some xs[i] := List.getElem?_eq_getElem hl
        rw [(go e).1, (go e).2]
        refine Svs.imp (hb i _ ρ' e hJ) (Nat.le_refl _) fun o h => ?_
        cases o <;> exact h) (fun ρ' h => by rw [hl'] at h; exact h) (by rw [hl']; exact hct) hp hc hs
  exact Svs.cons h (fun ρ' z => hn ρ' z) fun d z => z
end
end Kl

set_option Elab.async false
set_option linter.all false
set_option maxRecDepth 100000
/-! name = [..] in short. -/
namespace Kl
open PySem PySem.Spec L2
section
variable {X : Cx} {ρ : En} {c : Nat} {O : Out → Prop} {rest : List Stmt}
theorem Svs.setN {α : Type} {en : α → D} {xs : List α} {f : α → D} {elt iter : Expr} {scope : Scope} {x y : Str} {p pos spos py : Pos} (i j : Nat) (hi : I1 X ρ (.Name x p) iter (xs.map en)) (he : ∀ a ∈ xs, InBlk X scope fun Y => E1 Y (wp1 ρ [j] j (en a)) elt (f a)) (hz : xs.length ≤ sizeLine) (hN : X.N.Nodup)
    (h : Svs X (ρ.set i (some (.dat (.list (xs.map f))))) rest c O) (hd : ∀ a, isDat (f a) = true := by intro _; rfl) (hxi : X.N[j]? = some x := by rfl) (hx : scope.names.lookup x = some .local := by rfl) (h0 : 0 < j := by decide) (ok : BlkOk X.N X.env.scope scope [(x, j)] := by exact blkOk_by (by kernel_rfl)) (hc : X.calm = true := by rfl)
    (hy : X.N[i]? = some y := by rfl) (hyl : X.env.scope.names.lookup y = some .local := by rfl) (hsw : swapsWith (.ListComp elt [⟨.Name x p, iter, [], 0⟩] scope pos) (some (.Name y py)) spos.line X.env = pure true := by rfl) (h00 : 0 < i := by decide) (hs : ∀ x, foldedSetIterable iter X.env x = pure x := by intro _; rfl) :
    Svs X ρ (.Assign [.Name y py] (.ListComp elt [⟨.Name x p, iter, [], 0⟩] scope pos) spos :: rest) c O :=
  Svs.imp (Svs.cons (Sv.setLc (p := fun _ => true) (Pe := fun a r => r = f a) (c2 := 0) (ct := 0) (S := [j]) i hi ok (pgB j hN hxi hx) (fun a _ => TgOk.name j h0) (fun j h => h) (fun a ha s H C cl fp => Ts.nil) (fun a ha _ s H C cl fp => he a ha s H C cl fp) (fun a _ r e => by rw [e]; exact hd a) hz (by omega) (by simp; omega) hc hN hy hyl hsw h00 hs)
    (fun ρ' ⟨d, ⟨rs, e1, pk⟩, e2⟩ => by cases e2; rw [e1, pk.eq, List.filter_eq_self.mpr (fun _ _ => rfl)]; exact h) fun d ⟨_, _, e2⟩ => by cases e2) (by omega) fun _ z => z
theorem Svs.setNIf {α : Type} {en : α → D} {xs : List α} {q : α → Bool} {f : α → D} {elt iter t : Expr} {scope : Scope} {x y : Str} {p pos spos py : Pos} (i j : Nat) (hi : I1 X ρ (.Name x p) iter (xs.map en)) (ht : ∀ a ∈ xs, InBlk X scope fun Y => T1 Y (wp1 ρ [j] j (en a)) t (q a)) (he : ∀ a ∈ xs, q a = true → InBlk X scope fun Y => E1 Y (wp1 ρ [j] j (en a)) elt (f a)) (hz : xs.length ≤ sizeLine) (hN : X.N.Nodup)
    (h : Svs X (ρ.set i (some (.dat (.list ((xs.filter q).map f))))) rest c O) (hd : ∀ a, isDat (f a) = true := by intro _; rfl) (hxi : X.N[j]? = some x := by rfl) (hx : scope.names.lookup x = some .local := by rfl) (h0 : 0 < j := by decide) (ok : BlkOk X.N X.env.scope scope [(x, j)] := by exact blkOk_by (by kernel_rfl)) (hc : X.calm = true := by rfl)
    (hy : X.N[i]? = some y := by rfl) (hyl : X.env.scope.names.lookup y = some .local := by rfl) (hsw : swapsWith (.ListComp elt [⟨.Name x p, iter, [t], 0⟩] scope pos) (some (.Name y py)) spos.line X.env = pure true := by rfl) (h00 : 0 < i := by decide) (hs : ∀ x, foldedSetIterable iter X.env x = pure x := by intro _; rfl) :
    Svs X ρ (.Assign [.Name y py] (.ListComp elt [⟨.Name x p, iter, [t], 0⟩] scope pos) spos :: rest) c O :=
  Svs.imp (Svs.cons (Sv.setLc (p := q) (Pe := fun a r => r = f a) (c2 := 0) (ct := 0) (S := [j]) i hi ok (pgB j hN hxi hx) (fun a _ => TgOk.name j h0) (fun j h => h) (fun a ha s H C cl fp => Ts.one (ht a ha s H C cl fp)) (fun a ha hq s H C cl fp => he a ha hq s H C cl fp) (fun a _ r e => by rw [e]; exact hd a) hz (by omega) (by simp; omega) hc hN hy hyl hsw h00 hs)
    (fun ρ' ⟨d, ⟨rs, e1, pk⟩, e2⟩ => by cases e2; rw [e1, pk.eq]; exact h) fun d ⟨_, _, e2⟩ => by cases e2) (by omega) fun _ z => z
end
end Kl

set_option Elab.async false
set_option linter.all false
set_option maxRecDepth 100000
/-! What the defs compute, in plain Lean. -/
namespace Kl
open PySem PySem.Spec L2
/-! ### tables with values of one kind -/
def putV {β : Type} (es : List (List Nm × β)) (k : List Nm) (v : β) : List (List Nm × β) := if (es.any fun e => decide (e.1 = k)) = true then es.map (fun e => if e.1 = k then (e.1, v) else e) else es ++ [(k, v)]
def getV {β : Type} (es : List (List Nm × β)) (k : List Nm) : Option β := (es.find? fun e => decide (e.1 = k)).map (·.2)
def tabV {α β : Type} (kf : α → List Nm) (vf : α → β) (xs : List α) : List (List Nm × β) := xs.foldl (fun t x => putV t (kf x) (vf x)) []
def mapV {β : Type} (g : β → D) (es : List (List Nm × β)) : Tab := es.map fun e => (e.1, g e.2)
theorem mapV_put {β : Type} (g : β → D) (es : List (List Nm × β)) (k : List Nm) (v : β) : mapV g (putV es k v) = putT (mapV g es) k (g v) := by
  unfold mapV putV putT
  rw [List.any_map]
  have e : ((fun e : List Str × D => decide (e.1 = k)) ∘ fun e : List Nm × β => (e.1, g e.2)) = fun e => decide (e.1 = k) := rfl
  rw [e]
  by_cases h : (es.any fun e => decide (e.1 = k)) = true
  · rw [if_pos h, if_pos h, List.map_map, List.map_map]
    apply List.map_congr_left
    intro p _
    show (fun e : List Nm × β => (e.1, g e.2)) (if p.1 = k then (p.1, v) else p) = if p.1 = k then _ else _
    by_cases z : p.1 = k
    · rw [if_pos z, if_pos z]
    · rw [if_neg z, if_neg z]
  · rw [if_neg h, if_neg h, List.map_append]
    rfl
theorem mapV_get {β : Type} (g : β → D) (es : List (List Nm × β)) (k : List Nm) : getT (mapV g es) k = (getV es k).map g := by
  unfold mapV getT getV
  rw [List.find?_map]
  have e : ((fun e : List Str × D => decide (e.1 = k)) ∘ fun e : List Nm × β => (e.1, g e.2)) = fun e => decide (e.1 = k) := rfl
  rw [e]
  cases List.find? (fun e : List Nm × β => decide (e.1 = k)) es <;> rfl
theorem tabOf_map {α β : Type} (g : β → D) (kf : α → List Nm) (vf : α → β) (xs : List α) : tabOf kf (fun x => g (vf x)) xs = mapV g (tabV kf vf xs) := by
  unfold tabOf tabV
  suffices ∀ (xs : List α) (t : List (List Nm × β)), xs.foldl (fun t x => putT t (kf x) (g (vf x))) (mapV g t) = mapV g (xs.foldl (fun t x => putV t (kf x) (vf x)) t) from this xs []
  intro xs
  induction xs with
  | nil => intro t; rfl
  | cons x xs ih => intro t; rw [List.foldl_cons, List.foldl_cons, ← mapV_put]; exact ih _
theorem tabV_snoc {α β : Type} (kf : α → List Nm) (vf : α → β) (xs : List α) (x : α) : tabV kf vf (xs ++ [x]) = putV (tabV kf vf xs) (kf x) (vf x) := by
  unfold tabV
  rw [List.foldl_append]
  rfl
theorem mem_putV {β : Type} {es : List (List Nm × β)} {k : List Nm} {v : β} {e : List Nm × β} : e ∈ putV es k v ↔ (e = (k, v)) ∨ (e ∈ es ∧ e.1 ≠ k) := by
  unfold putV
  by_cases h : (es.any fun e => decide (e.1 = k)) = true
  · rw [if_pos h, List.mem_map]
    obtain ⟨z, hz, ez⟩ := List.any_eq_true.mp h
    have ez : z.1 = k := of_decide_eq_true ez
    constructor
    · rintro ⟨p, hp, rfl⟩
      by_cases q : p.1 = k
      · rw [if_pos q]; exact .inl (by rw [q])
      · rw [if_neg q]; exact .inr ⟨hp, q⟩
    · rintro (rfl | ⟨h1, h2⟩)
      · exact ⟨z, hz, by rw [if_pos ez, ez]⟩
      · exact ⟨e, h1, by rw [if_neg h2]⟩
  · rw [if_neg h, List.mem_append, List.mem_singleton]
    have no : ∀ p ∈ es, p.1 ≠ k := fun p hp q => h (List.any_eq_true.mpr ⟨p, hp, decide_eq_true q⟩)
    constructor
    · rintro (h | rfl)
      · exact .inr ⟨h, no _ h⟩
      · exact .inl rfl
    · rintro (rfl | ⟨h, _⟩)
      · exact .inr rfl
      · exact .inl h
/-- the value a function of the key -/
theorem mem_tabV {β : Type} {vf : List Nm → β} {e : List Nm × β} : ∀ {xs : List (List Nm)}, e ∈ tabV (fun x => x) vf xs ↔ e.1 ∈ xs ∧ e.2 = vf e.1 := by
  suffices ∀ (xs : List (List Nm)) (t : List (List Nm × β)), e ∈ xs.foldl (fun t x => putV t x (vf x)) t ↔ (e.1 ∈ xs ∧ e.2 = vf e.1) ∨ (e ∈ t ∧ e.1 ∉ xs) by
    intro xs
    have := this xs []
    simpa [tabV] using this
  intro xs
  induction xs with
  | nil => intro t; simp
  | cons x xs ih =>
    intro t
    rw [List.foldl_cons, ih, mem_putV]
    by_cases h1 : e.1 ∈ xs
    · simp [h1]
    · by_cases h2 : e.1 = x
      · subst h2
        simp only [h1, not_false_eq_true, and_true, false_and, false_or, List.mem_cons_self, true_and, not_true_eq_false, and_false, or_false, List.mem_cons, or_false, ne_eq]
        constructor
        · intro h; rw [h]
        · intro h
          cases e
          simp only at h ⊢
          rw [h]
      · simp only [h1, not_false_eq_true, and_true, false_and, false_or, List.mem_cons, h2, or_self, ne_eq]
        constructor
        · rintro (rfl | h)
          · exact absurd rfl h2
          · exact h
        · exact fun h => .inr h
theorem keys_putV {β : Type} {es : List (List Nm × β)} {k : List Nm} {v : β} : (putV es k v).map (·.1) = if k ∈ es.map (·.1) then es.map (·.1) else es.map (·.1) ++ [k] := by
  unfold putV
  have hk : (es.any fun e => decide (e.1 = k)) = true ↔ k ∈ es.map (·.1) := by
    rw [List.any_eq_true, List.mem_map]
    exact ⟨fun ⟨p, h1, h2⟩ => ⟨p, h1, of_decide_eq_true h2⟩, fun ⟨p, h1, h2⟩ => ⟨p, h1, decide_eq_true h2⟩⟩
  by_cases h : k ∈ es.map (·.1)
  · rw [if_pos (hk.mpr h), if_pos h, List.map_map]
    apply List.map_congr_left
    intro p _
    show (if p.1 = k then (p.1, v) else p).1 = p.1
    split <;> rfl
  · rw [if_neg fun z => h (hk.mp z), if_neg h, List.map_append]
    rfl
/-- the keys do not turn on the values -/
theorem keys_tabV {α β γ : Type} (kf : α → List Nm) (vf : α → β) (wf : α → γ) (xs : List α) : (tabV kf vf xs).map (·.1) = (tabV kf wf xs).map (·.1) := by
  unfold tabV
  suffices ∀ (xs : List α) (t : List (List Nm × β)) (u : List (List Nm × γ)), t.map (·.1) = u.map (·.1) → (xs.foldl (fun t x => putV t (kf x) (vf x)) t).map (·.1) = (xs.foldl (fun t x => putV t (kf x) (wf x)) u).map (·.1) from this xs [] [] rfl
  intro xs
  induction xs with
  | nil => intro t u h; exact h
  | cons x xs ih =>
    intro t u h
    rw [List.foldl_cons, List.foldl_cons]
    refine ih _ _ ?_
    rw [keys_putV, keys_putV, h]
theorem nodup_tabV {α β : Type} (kf : α → List Nm) (vf : α → β) (xs : List α) : ((tabV kf vf xs).map (·.1)).Nodup := by
  unfold tabV
  suffices ∀ (xs : List α) (t : List (List Nm × β)), (t.map (·.1)).Nodup → ((xs.foldl (fun t x => putV t (kf x) (vf x)) t).map (·.1)).Nodup from this xs [] List.nodup_nil
  intro xs
  induction xs with
  | nil => intro t h; exact h
  | cons x xs ih =>
    intro t h
    rw [List.foldl_cons]
    refine ih _ ?_
    rw [keys_putV]
    split
    · exact h
    · rename_i hk
      exact List.nodup_append.mpr ⟨h, by simp, fun a ha b hb => by rw [List.mem_singleton.mp hb]; exact fun e => hk (e ▸ ha)⟩
theorem getV_tabV {β : Type} {vf : List Nm → β} {xs : List (List Nm)} {k : List Nm} (h : k ∈ xs) : getV (tabV (fun x => x) vf xs) k = some (vf k) := by
  unfold getV
  cases hf : List.find? (fun e : List Nm × β => decide (e.1 = k)) (tabV (fun x => x) vf xs) with
  | none =>
    have := List.find?_eq_none.mp hf (k, vf k) (mem_tabV.mpr ⟨h, rfl⟩)
    simp at this
  | some p =>
    have h1 := List.mem_of_find?_eq_some hf
    have h2 : p.1 = k := of_decide_eq_true (List.find?_some (p := fun e : List Nm × β => decide (e.1 = k)) hf)
    rw [← h2]
    exact congrArg some (mem_tabV.mp h1).2
/-! ### the program -/
def rawSubs (ns : List Nm) : List (List Nm) := ns.foldl (fun found n => found ++ found.map (· ++ [n])) [[]]
abbrev leK : List Nm → List Nm → Bool := PySem.W.dataLe false keyD
def subs (ns : List Nm) : List (List Nm) := (rawSubs ns).mergeSort leK
def valueOf (n : Net) (ks far : List Nm) : Int := ((n.yards.filter fun y => decide (y.1 ∈ far)).map (·.2)).sum + ((n.lines.filter fun l => decide (l.key ∈ ks) && (decide (l.goal ∈ far) && decide (¬l.start ∈ far))).map (·.most)).sum
def partIn (n : Net) (lot : List Int) (far : List Nm) : Int := (((n.custs.zip lot).filter fun p => decide (p.1.2 ∈ far)).map (·.2)).sum
def yardsOf (n : Net) : List Nm := n.yards.map (·.1)
def keysOf (n : Net) : List Nm := setOf (n.lines.map (·.key))
def goesB (n : Net) (ks : List Nm) (lot : List Int) : Bool := (subs (yardsOf n)).all fun far => decide (partIn n lot far ≤ valueOf n ks far)
def people (h : Hold) : List Nm := h.map (·.1)
def heldBy (h : Hold) (g : List Nm) : List Nm := setOf ((h.filter fun p => decide (p.1 ∈ g)).flatMap (·.2))
def whoHolds (h : Hold) (k : Nm) : List Nm := (h.filter fun p => decide (k ∈ p.2)).map (·.1)
def sendB (n : Net) (h : Hold) (lot : List Int) (g : List Nm) : Bool := goesB n (heldBy h g) lot
def sendTab (n : Net) (h : Hold) (lot : List Int) : List (List Nm × Bool) := tabV (fun g => g) (sendB n h lot) (subs (people h))
def allIn (one other : List Nm) : Bool := one.all fun x => decide (x ∈ other)
def leasts (gs : List (List Nm)) : List (List Nm) := (gs.filter fun own => !(gs.any fun far => decide (far ≠ own) && allIn far own)).mergeSort leK
def fines (t : List (List Nm × Bool)) : List (List Nm) := (t.filter (·.2)).map (·.1)
def sendersL (n : Net) (h : Hold) (lot : List Int) : List (List Nm) := leasts (fines (sendTab n h lot))
def handOn (h : Hold) (giver key taker : Nm) : Hold := h.map fun p =>
  let left := p.2.filter fun own => decide (own ≠ key) || decide (p.1 ≠ giver)
  (p.1, setOf (if p.1 = taker then left ++ [key] else left))
def itsOf (n : Net) (h : Hold) (g : List Nm) : List Nm := (keysOf n).filter fun k => decide (k ∈ heldBy h (people h)) && (decide (¬k ∈ heldBy h g) && decide (0 < g.length))
def lenD (p : Nat × List Nm) : D := .tuple [.int p.1, keyD p.2]
abbrev leL : Nat × List Nm → Nat × List Nm → Bool := PySem.W.dataLe false lenD
def byLen (gs : List (List Nm)) : List (Nat × List Nm) := (gs.map fun o => (o.length, o)).mergeSort leL
def wanted (n : Net) (h : Hold) (lot : List Int) (g : List Nm) : Option (List Nm) := ((byLen (subs (itsOf n h g))).find? fun p => goesB n (setOf (heldBy h g ++ p.2)) lot).map (·.2)
def fewest (n : Net) (h : Hold) (lot : List Int) (g : List Nm) : Option Nat := (wanted n h lot g).map (·.length)
def handD (x : Nm × Nm × Nm) : D := .tuple [.str x.1, .str x.2.1, .str x.2.2]
def handsOf (h : Hold) (g : List Nm) (f : List Nm) : List (Nm × Nm × Nm) := f.map fun k => ((whoHolds h k).headD ⟨#[]⟩, k, g.headD ⟨#[]⟩)
def rowD : Option (List (Nm × Nm × Nm)) → D
  | none => .none
  | some r => .tuple (r.map handD)
theorem rawSubs_snoc (ns : List Nm) (x : Nm) : rawSubs (ns ++ [x]) = rawSubs ns ++ (rawSubs ns).map (· ++ [x]) := by
  unfold rawSubs
  rw [List.foldl_append]
  rfl
theorem snoc_ind {α : Type} {P : List α → Prop} (h0 : P []) (h1 : ∀ l x, P l → P (l ++ [x])) (l : List α) : P l := by
  rw [← List.reverse_reverse l]
  induction l.reverse with
  | nil => exact h0
  | cons x r ih => rw [List.reverse_cons]; exact h1 _ x ih
theorem rawSubs_len (ns : List Nm) : (rawSubs ns).length = 2 ^ ns.length := by
  induction ns using snoc_ind with
  | h0 => rfl
  | h1 ns x ih => rw [rawSubs_snoc, List.length_append, List.length_map, ih, List.length_append, List.length_singleton, Nat.pow_succ]; omega
theorem subs_len (ns : List Nm) : (subs ns).length = 2 ^ ns.length := by unfold subs; rw [List.length_mergeSort, rawSubs_len]
theorem tabV_len {α β : Type} (kf : α → List Nm) (vf : α → β) (xs : List α) : (tabV kf vf xs).length ≤ xs.length := by
  have e := tabOf_map (fun _ : β => D0) kf vf xs
  have := tabOf_len kf (fun x => (fun _ : β => D0) (vf x)) xs
  rw [e] at this
  unfold mapV at this
  rwa [List.length_map] at this
where D0 : D := .none
end Kl

set_option Elab.async false
set_option linter.all false
set_option maxRecDepth 100000
/-! The program's defs: sets, nets, ways. -/
namespace Kl
open PySem PySem.Spec L2
section
variable {P : Program} {w : World} {K : PySem.W.Frag} {mg : Str → Option Value} {base : Heap}
/-! set_of -/
abbrev s5 : Stmt := topS 5
theorem sc5 : FnScope ["some"] ["some"] (defScope s5) := ⟨rfl, rfl, rfl, by decide +kernel, rfl, by decide +kernel, by decide +kernel⟩
abbrev sp_set_of (K : PySem.W.Frag) : Sp := spP K (τ := List Nm) (fun ss => [nmsL ss]) (fun ss => ss.length ≤ 4000) (fun ss d => d = nmsT (setOf ss))
theorem ok_set_of {f : Addr} {fd : FuncData} (F : Fun K "set_of" "set_of" s5 f fd) (mT : mg "tuple" = none) (m1 : mg "sorted" = none) (m2 : mg "set" = none) : FnOk P w K mg base CX0 1 f fd ["some"] (sp_set_of K) := by
  refine okP F sc5 (fun _ => rfl) (by decide) fun ss hs cdv A outer s H E hr => ?_
  exact Svs.ret1 (E1.callT (A1.cons (E1.sortedSet (E1.var 0) hs hr.units m1 m2) A1.nil) c_tuple mT bt_tuple) rfl
/-! yard_names -/
structure NetOk (n : Net) : Prop where
  y : n.yards.length ≤ 8
  l : n.lines.length ≤ 100
  c : n.custs.length ≤ 100
  k : (keysOf n).length ≤ 8
abbrev s9 : Stmt := topS 9
theorem sc9 : FnScope ["net", "own"] ["net"] (defScope s9) := ⟨rfl, rfl, rfl, by decide +kernel, rfl, by decide +kernel, by decide +kernel⟩
abbrev sp_yard_names (K : PySem.W.Frag) : Sp := spP K (τ := Net) (fun n => [netD n]) NetOk (fun n d => d = nmsT (yardsOf n))
theorem ok_yard_names {f : Addr} {fd : FuncData} (F : Fun K "yard_names" "yard_names" s9 f fd) (mT : mg "tuple" = none) : FnOk P w K mg base CX0 1 f fd ["net"] (sp_yard_names K) := by
  refine okP F sc9 (fun _ => rfl) (by decide) fun n hn cdv A outer s H E hr => ?_
  refine Svs.ret1 (E1.callT (A1.cons (E1.lcN (xs := n.yards) (en := yardD) (f := fun y => .str y.1) 1 (I1.tup (E1.ix (E1.var 0) E1.int (x_t 0))) (fun y _ _ _ _ _ _ => E1.ix (E1.var 1) E1.int (x_t 0)) (Nat.le_trans hn.y (by decide)) sc9.nd) A1.nil) c_tuple mT bt_tuple) ?_
  show _ = _
  simp [nmsT, yardsOf]
/-! keys_of -/
abbrev s10 : Stmt := topS 10
theorem sc10 : FnScope ["net", "own"] ["net"] (defScope s10) := ⟨rfl, rfl, rfl, by decide +kernel, rfl, by decide +kernel, by decide +kernel⟩
abbrev sp_keys_of (K : PySem.W.Frag) : Sp := spP K (τ := Net) (fun n => [netD n]) NetOk (fun n d => d = nmsT (keysOf n))
theorem ok_keys_of {f : Addr} {fd : FuncData} (F : Fun K "keys_of" "keys_of" s10 f fd) (mW : ∃ t, mg "WIDE" = some (.int 5 t)) (F5 : Fn P w K mg base 1 "set_of" ["some"] (sp_set_of K)) : FnOk P w K mg base CX0 2 f fd ["net"] (sp_keys_of K) := by
  refine okP F sc10 (fun _ => rfl) (by decide) fun n hn cdv A outer s H E hr => ?_
  refine Svs.ret1 (E1.callF F5 hr (A1.cons (E1.lcN (xs := n.lines) (en := lineD) (f := fun l => .str l.key) 1 (I1.tup (E1.ix (E1.var 0) E1.int (x_t 1))) (fun y _ _ _ _ _ _ => E1.ix (E1.var 1) (E1.op (E1.gint mW) E1.int o_sub) (x_t 4)) (Nat.le_trans hn.l (by decide)) sc10.nd) A1.nil) (n.lines.map (·.key)) ?_ ?_ fun d h => h) rfl
  · simp [nmsL]
  · rw [List.length_map]
    exact Nat.le_trans hn.l (by decide)
/-! subsets_of -/
abbrev s19 : Stmt := topS 19
theorem sc19 : FnScope ["names", "found", "name", "some"] ["names"] (defScope s19) := ⟨rfl, rfl, rfl, by decide +kernel, rfl, by decide +kernel, by decide +kernel⟩
/-- names, as a tuple or as a list -/
def seqS (b : Bool) (ss : List Nm) : D := if b then nmsT ss else nmsL ss
theorem seqS_or (b : Bool) (ss : List Nm) : seqS b ss = .tuple (ss.map .str) ∨ seqS b ss = .list (ss.map .str) := by
  cases b
  · exact .inr rfl
  · exact .inl rfl
theorem I1.seqS {X : Cx} {ρ : En} {tg e : Expr} {b : Bool} {ss : List Nm} (h : E1 X ρ e (Kl.seqS b ss)) : I1 X ρ tg e (ss.map .str) := by
  cases b
  · exact I1.list h
  · exact I1.tup h
abbrev sp_subsets_of (K : PySem.W.Frag) : Sp := spP K (τ := Bool × List Nm) (fun t => [seqS t.1 t.2]) (fun t => t.2.length ≤ 8) (fun t d => d = .list ((subs t.2).map keyD))
theorem depth_keyD (k : List Nm) : (keyD k).depth ≤ 32 := by
  have : ∀ k : List Str, PyData.depthAll (k.map PyData.str) = 0 := fun k => by
    induction k with
    | nil => rfl
    | cons x k ih => rw [List.map_cons, PyData.depthAll, ih]; rfl
  unfold keyD
  rw [PyData.depth, this]
  decide
theorem canKeys (ks : List (List Nm)) (h : ∃ r, ks = [] :: r) : CanSort (ks.map keyD) := by
  obtain ⟨r, rfl⟩ := h
  exact .inr ⟨r.map keyD, rfl, fun d hd => by
    obtain ⟨k, _, rfl⟩ := List.mem_map.mp hd
    exact ⟨k.map .str, rfl⟩⟩
theorem rawSubs_nil (ns : List Nm) : ∃ r, rawSubs ns = [] :: r := by
  induction ns using snoc_ind with
  | h0 => exact ⟨[], rfl⟩
  | h1 ns x ih =>
    obtain ⟨r, e⟩ := ih
    rw [rawSubs_snoc, e]
    exact ⟨_, rfl⟩
theorem mem_rawSubs {ns o : List Nm} (h : o ∈ rawSubs ns) : o.Sublist ns := by
  induction ns using snoc_ind generalizing o with
  | h0 => rw [show rawSubs [] = [[]] from rfl, List.mem_singleton] at h; rw [h]; exact List.Sublist.refl _
  | h1 ns x ih =>
    rw [rawSubs_snoc, List.mem_append, List.mem_map] at h
    rcases h with h | ⟨q, h, rfl⟩
    · exact (ih h).trans (List.sublist_append_left ns [x])
    · exact (ih h).append (List.Sublist.refl _)
theorem isHold_snoc (o : List Nm) (x : Nm) : isHold (o.map .str ++ [.str x]) = false := by
  have := isHold_strs (o ++ [x])
  rwa [List.map_append] at this
theorem two_pow8 {n : Nat} (h : n ≤ 8) : 2 ^ n ≤ 256 := Nat.pow_le_pow_right (by decide) h
theorem ok_subsets_of {f : Addr} {fd : FuncData} (F : Fun K "subsets_of" "subsets_of" s19 f fd) (mS : mg "sorted" = none) : FnOk P w K mg base CX0 1 f fd ["names"] (sp_subsets_of K) := by
  refine okP F sc19 (fun _ => rfl) (by decide) ?_
  rintro ⟨b, ns⟩ hn cdv A outer s H E hr
  have hn : ns.length ≤ 8 := hn
  have hlen : ∀ i, (rawSubs (ns.take i)).length ≤ 256 := fun i => by
    rw [rawSubs_len]
    exact two_pow8 (by rw [List.length_take]; omega)
  refine Svs.asg1 1 (E1.lst (L1.cons (E1.tup L1.nil) L1.nil)) sc19.nd ?_
  refine Svs.imp (Svs.forN (ys := ns.map .str) (c0 := 0) (ct := 0) (c := 0) 2 (fun i ρ' => ∃ s2, ρ' = [some (.dat (seqS b ns)), some (.dat (.list ((rawSubs (ns.take i)).map keyD))), s2, none]) (I1.seqS (E1.var 0)) ⟨none, rfl⟩ ?_ ?_ (by simp) PassesOwn.never sc19.nd) (Nat.le_refl _) fun _ z => z
  · rintro i d ρ' hi ⟨s2, rfl⟩
    have hl : i < ns.length := by
      have := (List.getElem?_eq_some_iff.mp hi).1
      simpa using this
    have hx : ns[i]? = some ns[i] := List.getElem?_eq_getElem hl
    have ed : d = .str ns[i] := by
      rw [List.getElem?_map, hx] at hi
      exact (Option.some.inj hi).symm
    subst ed
    have tk : ns.take (i + 1) = ns.take i ++ [ns[i]] := by rw [List.take_add_one, hx]; rfl
    have h1 := hlen i
    have h2 := hlen (i + 1)
    refine Svs.asg1 1 (E1.op (E1.var 1) (E1.lcN (xs := rawSubs (ns.take i)) (en := keyD) (f := fun o => keyD (o ++ [ns[i]])) 3 (I1.list (E1.var 1)) (fun o ho _ _ _ _ _ => ?_) (Nat.le_trans h1 (by decide)) sc19.nd) (o_cat ?_)) sc19.nd (Svs.nil ⟨some (.dat (.str ns[i])), ?_⟩)
    · have e : keyD (o ++ [ns[i]]) = .tuple (o.map .str ++ [.str ns[i]]) := by simp [keyD]
      rw [e]
      exact E1.tup (L1.star (E1.var 3) (.inl rfl) (L1.cons (E1.var 2) L1.nil)) (by
        have h3 := (mem_rawSubs ho).length_le
        rw [List.length_take] at h3
        rw [List.length_append, List.length_map]
        have : sizeLine = 2 ^ 24 := rfl
        show o.length + 1 ≤ sizeLine
        omega) (isHold_snoc o _)
    · rw [List.length_map, List.length_map]
      exact Nat.le_trans (Nat.add_le_add h1 h1) (by decide)
    · rw [tk, rawSubs_snoc, List.map_append, List.map_map]
      rfl
  · rintro ρ' ⟨s2, rfl⟩
    rw [List.length_map, List.take_of_length_le (Nat.le_refl _)]
    exact Svs.ret1 (E1.callB (A1.cons (E1.var 1) A1.nil) (c_sorted (keyD_alike _) (canKeys _ (rawSubs_nil ns)) (by rw [rawSubs_len]; exact Nat.le_trans (two_pow8 hn) (by decide)) (fun k _ => depth_keyD k) hr.units) mS bt_sorted) rfl
end
end Kl

set_option Elab.async false
set_option linter.all false
set_option maxRecDepth 100000
/-! The program's defs: cuts. -/
namespace Kl
open PySem PySem.Spec L2
section
variable {P : Program} {w : World} {K : PySem.W.Frag} {mg : Str → Option Value} {base : Heap}
/-- a name of the module for a number -/
abbrev Mi (mg : Str → Option Value) (x : Str) (i : Int) : Prop := ∃ t, mg x = some (.int i t)
theorem c_sumF {X : Cx} {α : Type} (xs : List α) (h : α → Int) (hc : X.calm = true) : CallOk X (.builtin "sum") [.list (xs.map fun a => .int (h a))] (· = .int ((xs.map h).sum)) := by
  have := c_sum (X := X) (ns := xs.map h) hc
  rwa [List.map_map] at this
/-! value_of -/
abbrev s20 : Stmt := topS 20
theorem sc20 : FnScope ["net", "keys", "far", "lines", "own"] ["net", "keys", "far"] (defScope s20) := ⟨rfl, rfl, rfl, by decide +kernel, rfl, by decide +kernel, by decide +kernel⟩
abbrev sp_value_of (K : PySem.W.Frag) : Sp := spP K (τ := Net × List Nm × List Nm) (fun t => [netD t.1, nmsT t.2.1, nmsT t.2.2]) (fun t => NetOk t.1) (fun t d => d = .int (valueOf t.1 t.2.1 t.2.2))
theorem ok_value_of {f : Addr} {fd : FuncData} (F : Fun K "value_of" "value_of" s20 f fd) (mS : mg "sum" = none) (m0 : Mi mg "NAME" 0) (m1 : Mi mg "SUPPLY" 1) (m2 : Mi mg "START" 1) (m3 : Mi mg "GOAL" 2) (m4 : Mi mg "MOST" 3) (m5 : Mi mg "KEY" 4) : FnOk P w K mg base CX0 1 f fd ["net", "keys", "far"] (sp_value_of K) := by
  refine okP F sc20 (fun _ => rfl) (by decide) ?_
  rintro ⟨n, ks, far⟩ hn cdv A outer s H E hr
  refine Svs.setNIf (xs := n.lines) (en := lineD) (q := fun l => decide (l.key ∈ ks) && (decide (l.goal ∈ far) && decide (¬l.start ∈ far))) (f := fun l => .int l.most) 3 4 (I1.tup (E1.ix (E1.var 0) E1.int (x_t 1)))
    (fun l _ _ _ _ _ _ => W1.t (W1.and (T1.cmp (E1.ix (E1.var 4) (E1.gint m5) (x_t 4)) (E1.var 1) o_in) fun _ => W1.and (T1.cmp (E1.ix (E1.var 4) (E1.gint m3) (x_t 2)) (E1.var 2) o_in) fun _ => W1.and1 (T1.cmp (E1.ix (E1.var 4) (E1.gint m2) (x_t 1)) (E1.var 2) o_notIn)))
    (fun l _ _ _ _ _ _ _ => E1.ix (E1.var 4) (E1.gint m4) (x_t 3)) (Nat.le_trans hn.l (by decide)) sc20.nd ?_
  refine Svs.ret1 (E1.op (E1.callB (A1.cons (E1.lcNIf (xs := n.yards) (en := yardD) (q := fun y => decide (y.1 ∈ far)) (f := fun y => .int y.2) 4 (I1.tup (E1.ix (E1.var 0) E1.int (x_t 0)))
    (fun y _ _ _ _ _ _ => T1.cmp (E1.ix (E1.var 4) (E1.gint m0) (x_t 0)) (E1.var 2) o_in) (fun y _ _ _ _ _ _ _ => E1.ix (E1.var 4) (E1.gint m1) (x_t 1)) (Nat.le_trans hn.y (by decide)) sc20.nd) A1.nil) (c_sumF _ _ rfl) mS bt_sum)
    (E1.callB (A1.cons (E1.var 3) A1.nil) (c_sumF _ _ rfl) mS bt_sum) o_add) rfl
theorem roomU {k : Nat} {A : Around} (h : Room k A) : A.units + 1 < cLine := by
  have := h.units
  omega
theorem mapV_items {β : Type} (g : β → D) (t : List (List Nm × β)) : (mapV g t).map itemD = t.map fun e => .tuple [keyD e.1, g e.2] := by
  unfold mapV
  rw [List.map_map]
  rfl
/-! part_in -/
theorem zipD_map {α β : Type} (f : α → D) (g : β → D) : ∀ (xs : List α) (ys : List β), zipD (xs.map f) (ys.map g) = (xs.zip ys).map fun p => .tuple [f p.1, g p.2]
  | [], _ => rfl
  | _ :: _, [] => rfl
  | x :: xs, y :: ys => by
    show PyData.tuple [f x, g y] :: zipD (xs.map f) (ys.map g) = _
    rw [zipD_map f g xs ys]
    rfl
theorem zipD_no {α β : Type} {f : α → D} {g : β → D} {xs : List α} {ys : List β} (hh : ∀ p ∈ xs.zip ys, isHold [f p.1, g p.2] = false) : ∀ d e, PyData.tuple [d, e] ∈ zipD (xs.map f) (ys.map g) → isHold [d, e] = false := fun d e h => by
  rw [zipD_map, List.mem_map] at h
  obtain ⟨p, hp, e1⟩ := h
  injection e1 with e1
  injection e1 with e1 e2
  injection e2 with e2 _
  rw [← e1, ← e2]
  exact hh p hp
abbrev lotD (lot : List Int) : D := .tuple (lot.map .int)
abbrev s22 : Stmt := topS 22
theorem sc22 : FnScope ["net", "lot", "far", "own", "part"] ["net", "lot", "far"] (defScope s22) := ⟨rfl, rfl, rfl, by decide +kernel, rfl, by decide +kernel, by decide +kernel⟩
abbrev sp_part_in (K : PySem.W.Frag) : Sp := spP K (τ := Net × List Int × List Nm) (fun t => [netD t.1, lotD t.2.1, nmsT t.2.2]) (fun t => NetOk t.1) (fun t d => d = .int (partIn t.1 t.2.1 t.2.2))
theorem ok_part_in {f : Addr} {fd : FuncData} (F : Fun K "part_in" "part_in" s22 f fd) (mS : mg "sum" = none) (mZ : mg "zip" = none) (m0 : Mi mg "YARD" 1) : FnOk P w K mg base CX0 1 f fd ["net", "lot", "far"] (sp_part_in K) := by
  refine okP F sc22 (fun _ => rfl) (by decide) ?_
  rintro ⟨n, lot, far⟩ hn cdv A outer s H E hr
  have hz : (n.custs.zip lot).length ≤ sizeLine := by
    rw [List.length_zip]
    exact Nat.le_trans (Nat.min_le_left _ _) (Nat.le_trans hn.c (by decide))
  refine Svs.ret1 (E1.callB (A1.cons (E1.lcPIf (xs := n.custs.zip lot) (e1 := fun p => custD p.1) (e2 := fun p => .int p.2) (q := fun p => decide (p.1.2 ∈ far)) (f := fun p => .int p.2) 3 4 ?_
    (fun y _ _ _ _ _ _ => T1.cmp (E1.ix (E1.var 3) (E1.gint m0) (x_t 1)) (E1.var 2) o_in) (fun y _ _ _ _ _ _ _ => E1.var 4) hz sc22.nd) A1.nil) (c_sumF _ _ rfl) mS bt_sum) rfl
  rw [← zipD_map]
  exact I1.zipTT (E1.ix (E1.var 0) E1.int (x_t 2)) (E1.var 1) (zipD_no fun _ _ => rfl) mZ
/-! values_by -/
theorem NetOk.yards {n : Net} (h : NetOk n) : (yardsOf n).length ≤ 8 := by unfold yardsOf; rw [List.length_map]; exact h.y
abbrev valTab (n : Net) (ks : List Nm) : List (List Nm × Int) := tabV (fun g => g) (valueOf n ks) (subs (yardsOf n))
abbrev s21 : Stmt := topS 21
theorem sc21 : FnScope ["net", "keys", "far"] ["net", "keys"] (defScope s21) := ⟨rfl, rfl, rfl, by decide +kernel, rfl, by decide +kernel, by decide +kernel⟩
abbrev sp_values_by (K : PySem.W.Frag) : Sp := spP K (τ := Net × List Nm) (fun t => [netD t.1, nmsT t.2]) (fun t => NetOk t.1) (fun t d => d = tabD (mapV .int (valTab t.1 t.2)))
theorem ok_values_by {f : Addr} {fd : FuncData} (F : Fun K "values_by" "values_by" s21 f fd) (F9 : Fn P w K mg base 1 "yard_names" ["net"] (sp_yard_names K)) (F19 : Fn P w K mg base 1 "subsets_of" ["names"] (sp_subsets_of K)) (F20 : Fn P w K mg base 1 "value_of" ["net", "keys", "far"] (sp_value_of K)) :
    FnOk P w K mg base CX0 2 f fd ["net", "keys"] (sp_values_by K) := by
  refine okP F sc21 (fun _ => rfl) (by decide) ?_
  rintro ⟨n, ks⟩ hn cdv A outer s H E hr
  have hz : (subs (yardsOf n)).length ≤ sizeLine := by rw [subs_len]; exact Nat.le_trans (two_pow8 hn.yards) (by decide)
  refine Svs.ret1 (E1.ofG (G1.dcT (xs := subs (yardsOf n)) (en := keyD) (kf := fun g => g) (vf := fun g => .int (valueOf n ks g)) (own := [("far", 2)]) (S := [2]) (I1.list (E1.callF F19 hr (A1.cons (E1.callF F9 hr (A1.cons (E1.var 0) A1.nil) n rfl hn fun d h => h) A1.nil) (true, yardsOf n) rfl hn.yards fun d h => h))
    (by exact blkOk_by (by kernel_rfl)) (pgB 2 sc21.nd rfl rfl) (fun g _ => TgOk.name 2) (fun i h => h) (fun g _ _ _ _ _ _ => E1.var 2) (fun g _ _ _ _ _ _ => E1.callF F20 hr (A1.cons (E1.var 0) (A1.cons (E1.var 1) (A1.cons (E1.var 2) A1.nil))) (n, ks, g) rfl hn fun d h => h)
    (fun _ _ => rfl) hz (by decide) (roomU hr) rfl sc21.nd) rfl) ?_
  show _ = _
  rw [tabOf_map (g := PyData.int)]
/-! goes_by -/
theorem c_allF {X : Cx} {α : Type} (xs : List α) (h : α → Bool) (hc : X.calm = true) : CallOk X (.builtin "all") [.list (xs.map fun a => .bool (h a))] (· = .bool (xs.all h)) := by
  have := c_all (X := X) (bs := xs.map h) hc
  rwa [List.map_map, List.all_map] at this
abbrev s23 : Stmt := topS 23
theorem sc23 : FnScope ["net", "values", "lot", "far", "value"] ["net", "values", "lot"] (defScope s23) := ⟨rfl, rfl, rfl, by decide +kernel, rfl, by decide +kernel, by decide +kernel⟩
abbrev sp_goes_by (K : PySem.W.Frag) : Sp := spP K (τ := Net × List (List Nm × Int) × List Int) (fun t => [netD t.1, tabD (mapV .int t.2.1), lotD t.2.2]) (fun t => NetOk t.1 ∧ t.2.1.length ≤ 256) (fun t d => d = .bool (t.2.1.all fun e => decide (partIn t.1 t.2.2 e.1 ≤ e.2)))
theorem ok_goes_by {f : Addr} {fd : FuncData} (F : Fun K "goes_by" "goes_by" s23 f fd) (mA : mg "all" = none) (F22 : Fn P w K mg base 1 "part_in" ["net", "lot", "far"] (sp_part_in K)) : FnOk P w K mg base CX0 2 f fd ["net", "values", "lot"] (sp_goes_by K) := by
  refine okP F sc23 (fun _ => rfl) (by decide) ?_
  rintro ⟨n, tb, lot⟩ ⟨hn, hl⟩ cdv A outer s H E hr
  refine Svs.ret1 (E1.lock (tb := mapV .int tb) 1 (E1.callB (A1.cons (E1.lcP (xs := tb) (e1 := fun e => keyD e.1) (e2 := fun e => .int e.2) (f := fun e => .bool (decide (partIn n lot e.1 ≤ e.2))) 3 4 ?_
    (fun e _ _ _ _ _ _ => E1.cmp (E1.callF F22 hr (A1.cons (E1.var 0) (A1.cons (E1.var 2) (A1.cons (E1.var 3) A1.nil))) (n, lot, e.1) rfl hn fun d h => h) (E1.var 4) o_le) (Nat.le_trans hl (by decide)) sc23.nd) A1.nil) (c_allF _ _ rfl) mA bt_all)) rfl
  rw [show (tb.map fun a => PyData.tuple [keyD a.1, PyData.int a.2]) = (mapV .int tb).map itemD from (mapV_items .int tb).symm]
  exact I1.items (E1.var 1)
/-! goes -/
abbrev s24 : Stmt := topS 24
theorem sc24 : FnScope ["net", "keys", "lot"] ["net", "keys", "lot"] (defScope s24) := ⟨rfl, rfl, rfl, by decide +kernel, rfl, by decide +kernel, by decide +kernel⟩
abbrev sp_goes (K : PySem.W.Frag) : Sp := spP K (τ := Net × List Nm × List Int) (fun t => [netD t.1, nmsT t.2.1, lotD t.2.2]) (fun t => NetOk t.1) (fun t d => d = .bool (goesB t.1 t.2.1 t.2.2))
theorem all_tabV {β : Type} (vf : List Nm → β) (p : List Nm × β → Bool) (xs : List (List Nm)) : (tabV (fun g => g) vf xs).all p = xs.all fun x => p (x, vf x) := by
  rw [Bool.eq_iff_iff, List.all_eq_true, List.all_eq_true]
  constructor
  · intro h x hx
    exact h (x, vf x) (mem_tabV.mpr ⟨hx, rfl⟩)
  · intro h e he
    obtain ⟨h1, h2⟩ := mem_tabV.mp he
    have := h e.1 h1
    rw [← h2] at this
    exact this
theorem ok_goes {f : Addr} {fd : FuncData} (F : Fun K "goes" "goes" s24 f fd) (F21 : Fn P w K mg base 2 "values_by" ["net", "keys"] (sp_values_by K)) (F23 : Fn P w K mg base 2 "goes_by" ["net", "values", "lot"] (sp_goes_by K)) : FnOk P w K mg base CX0 3 f fd ["net", "keys", "lot"] (sp_goes K) := by
  refine okP F sc24 (fun _ => rfl) (by decide) ?_
  rintro ⟨n, ks, lot⟩ hn cdv A outer s H E hr
  refine Svs.ret1 (E1.callF F23 hr (A1.cons (E1.var 0) (A1.cons (E1.callF F21 hr (A1.cons (E1.var 0) (A1.cons (E1.var 1) A1.nil)) (n, ks) rfl hn fun d h => h) (A1.cons (E1.var 2) A1.nil))) (n, valTab n ks, lot) rfl ⟨hn, ?_⟩ fun d h => h) ?_
  · refine Nat.le_trans (tabV_len _ _ _) ?_
    rw [subs_len]
    exact two_pow8 hn.yards
  · show _ = _
    rw [all_tabV]
    rfl
end
end Kl

set_option Elab.async false
set_option linter.all false
set_option maxRecDepth 100000
/-! The program's defs: people. -/
namespace Kl
open PySem PySem.Spec L2
structure HoldOk (h : Hold) : Prop where
  n : h.length ≤ 8
  k : ∀ p ∈ h, p.2.length ≤ 50
  s : ∀ p ∈ h, PyData.strOk p.1 = true
section
variable {P : Program} {w : World} {K : PySem.W.Frag} {mg : Str → Option Value} {base : Heap}
/-! people_in -/
abbrev s26 : Stmt := topS 26
theorem sc26 : FnScope ["holders", "person", "keys"] ["holders"] (defScope s26) := ⟨rfl, rfl, rfl, by decide +kernel, rfl, by decide +kernel, by decide +kernel⟩
abbrev sp_people_in (K : PySem.W.Frag) : Sp := spP K (τ := Hold) (fun h => [holdD h]) HoldOk (fun h d => d = nmsT (people h))
theorem ok_people_in {f : Addr} {fd : FuncData} (F : Fun K "people_in" "people_in" s26 f fd) (mT : mg "tuple" = none) : FnOk P w K mg base CX0 1 f fd ["holders"] (sp_people_in K) := by
  refine okP F sc26 (fun _ => rfl) (by decide) fun h hh cdv A outer s H E hr => ?_
  refine Svs.ret1 (E1.callT (A1.cons (E1.lcP (xs := h) (e1 := fun p => .str p.1) (e2 := fun p => nmsT p.2) (f := fun p => .str p.1) 1 2 (I1.tup (E1.var 0)) (fun p _ _ _ _ _ _ => E1.var 1) (Nat.le_trans hh.n (by decide)) sc26.nd) A1.nil) c_tuple mT bt_tuple) ?_
  show _ = _
  simp [nmsT, people]
/-! check_people -/
abbrev s27 : Stmt := topS 27
theorem sc27 : FnScope ["holders", "names", "name"] ["holders", "names"] (defScope s27) := ⟨rfl, rfl, rfl, by decide +kernel, rfl, by decide +kernel, by decide +kernel⟩
abbrev sp_check_people (K : PySem.W.Frag) : Sp := spP K (τ := Hold × Bool × List Nm) (fun t => [holdD t.1, seqS t.2.1 t.2.2]) (fun t => HoldOk t.1 ∧ ∀ x ∈ t.2.2, x ∈ people t.1) (fun t d => d = .none)
theorem ok_check_people {f : Addr} {fd : FuncData} (F : Fun K "check_people" "check_people" s27 f fd) (F26 : Fn P w K mg base 1 "people_in" ["holders"] (sp_people_in K)) : FnOk P w K mg base CX0 2 f fd ["holders", "names"] (sp_check_people K) := by
  refine okP F sc27 (fun _ => rfl) (by decide) ?_
  rintro ⟨h, b, ns⟩ ⟨hh, hin⟩ cdv A outer s H E hr
  refine Svs.imp (Svs.forN (ys := ns.map .str) (c0 := 0) (ct := 0) (c := 0) 2 (fun i ρ' => ∃ s2, ρ' = [some (.dat (holdD h)), some (.dat (seqS b ns)), s2]) (I1.seqS (E1.var 1)) ⟨none, rfl⟩ ?_ ?_ (by simp) PassesOwn.never sc27.nd) (Nat.le_refl _) fun _ z => z
  · rintro i d ρ' hi ⟨s2, rfl⟩
    rw [List.getElem?_map] at hi
    obtain ⟨x, hx, rfl⟩ := Option.map_eq_some_iff.mp hi
    have hm : x ∈ people h := hin x (List.mem_of_getElem? hx)
    exact Svs.ifS (k := decide (¬x ∈ people h)) (T1.cmp (E1.var 2) (E1.callF F26 hr (A1.cons (E1.var 0) A1.nil) h rfl hh fun d h => h) o_notIn) (fun z => absurd hm (of_decide_eq_true z)) (fun _ => Svs.nil ⟨_, rfl⟩) rfl
  · rintro ρ' ⟨s2, rfl⟩
    exact Svs.nil rfl
/-! held_by -/
abbrev s28 : Stmt := topS 28
theorem sc28 : FnScope ["holders", "group", "person", "keys", "key"] ["holders", "group"] (defScope s28) := ⟨rfl, rfl, rfl, by decide +kernel, rfl, by decide +kernel, by decide +kernel⟩
abbrev sp_held_by (K : PySem.W.Frag) : Sp := spP K (τ := Hold × Bool × List Nm) (fun t => [holdD t.1, seqS t.2.1 t.2.2]) (fun t => HoldOk t.1) (fun t d => d = nmsT (heldBy t.1 t.2.2))
theorem hold_len {h : Hold} (hh : HoldOk h) : (h.flatMap (·.2)).length ≤ 400 := by
  have : ∀ l : Hold, (∀ p ∈ l, p.2.length ≤ 50) → (l.flatMap (·.2)).length ≤ l.length * 50 := fun l => by
    induction l with
    | nil => intro _; exact Nat.zero_le _
    | cons p l ih =>
      intro z
      have h1 := z p List.mem_cons_self
      have h2 := ih fun q hq => z q (List.mem_cons_of_mem _ hq)
      rw [List.flatMap_cons, List.length_append, List.length_cons]
      omega
  have h1 := this h hh.k
  have h2 := hh.n
  omega
theorem ok_held_by {f : Addr} {fd : FuncData} (F : Fun K "held_by" "held_by" s28 f fd) (F5 : Fn P w K mg base 1 "set_of" ["some"] (sp_set_of K)) : FnOk P w K mg base CX0 2 f fd ["holders", "group"] (sp_held_by K) := by
  refine okP F sc28 (fun _ => rfl) (by decide) ?_
  rintro ⟨h, b, g⟩ hh cdv A outer s H E hr
  have hh : HoldOk h := hh
  have hl : (h.flatMap fun p => p.2.map PyData.str).length ≤ 400 := by
    have := hold_len hh
    rw [← List.map_flatMap, List.length_map]
    exact this
  refine Svs.ret1 (E1.callF F5 hr (A1.cons (E1.lc2 (xs := h) (en := heldD) (p := fun p => decide (p.1 ∈ g)) (ys := fun p => p.2.map .str) (own := [("person", 2), ("keys", 3), ("key", 4)]) (vs1 := [4]) (S := [2, 3]) (S1 := [4])
    (ρx := fun p => wp2 [some (.dat (holdD h)), some (.dat (seqS b g)), none, none, none] [2, 3, 4] 2 3 (.str p.1) (nmsT p.2)) (ρy := fun p y => wp1 (wp2 [some (.dat (holdD h)), some (.dat (seqS b g)), none, none, none] [2, 3, 4] 2 3 (.str p.1) (nmsT p.2)) [4] 4 y)
    (I1.tup (E1.var 0)) (by exact blkOk_by (by kernel_rfl)) (by decide) (pgB2 2 3 sc28.nd rfl rfl rfl rfl) (fun p _ => TgOk.tup2 2 3) (by decide) (fun p _ _ _ _ _ _ => Ts.one (T1.cmp (E1.var 2) (E1.var 1) (o_in (seqS_or b g)))) (fun p _ _ _ _ _ _ => I1.tup (E1.var 3)) (pgB 4 sc28.nd rfl rfl)
    (fun p _ y _ => TgOk.name 4) (by decide) (fun p _ y hy _ _ _ _ _ => E1.var 4) (fun p _ y hy => by obtain ⟨x, _, rfl⟩ := List.mem_map.mp hy; rfl) (Nat.le_trans hl (by decide)) (fun p _ i o e => ?_) (by decide) rfl sc28.nd) A1.nil) ((h.filter fun p => decide (p.1 ∈ g)).flatMap (·.2)) ?_ ?_ fun d h => h) rfl
  · match i with
    | 0 => cases e
    | 1 => cases e
    | 2 => cases e
    | 3 => cases e
    | 4 => cases e
    | _ + 5 => cases e
  · rw [← List.map_flatMap]
  · refine Nat.le_trans ?_ (show 400 ≤ 4000 by decide)
    refine Nat.le_trans ?_ (hold_len hh)
    have := len_ff (fun p : Nm × List Nm => decide (p.1 ∈ g)) (·.2) h h.length
    rwa [List.take_length] at this
/-! keys_held -/
abbrev s29 : Stmt := topS 29
theorem sc29 : FnScope ["holders", "group"] ["holders", "group"] (defScope s29) := ⟨rfl, rfl, rfl, by decide +kernel, rfl, by decide +kernel, by decide +kernel⟩
abbrev GrOk (h : Hold) (g : List Nm) : Prop := HoldOk h ∧ ∀ x ∈ g, x ∈ people h
abbrev sp_keys_held (K : PySem.W.Frag) : Sp := spP K (τ := Hold × Bool × List Nm) (fun t => [holdD t.1, seqS t.2.1 t.2.2]) (fun t => GrOk t.1 t.2.2) (fun t d => d = nmsT (heldBy t.1 t.2.2))
theorem ok_keys_held {f : Addr} {fd : FuncData} (F : Fun K "keys_held" "keys_held" s29 f fd) (F27 : Fn P w K mg base 2 "check_people" ["holders", "names"] (sp_check_people K)) (F28 : Fn P w K mg base 2 "held_by" ["holders", "group"] (sp_held_by K)) : FnOk P w K mg base CX0 3 f fd ["holders", "group"] (sp_keys_held K) := by
  refine okP F sc29 (fun _ => rfl) (by decide) ?_
  rintro ⟨h, b, g⟩ hh cdv A outer s H E hr
  refine Svs.expr1 (E1.callF F27 hr (A1.cons (E1.var 0) (A1.cons (E1.var 1) A1.nil)) (h, b, g) rfl hh fun d h => h) ?_
  exact Svs.ret1 (E1.callF F28 hr (A1.cons (E1.var 0) (A1.cons (E1.var 1) A1.nil)) (h, b, g) rfl hh.1 fun d h => h) rfl
/-! who_holds -/
abbrev s30 : Stmt := topS 30
theorem sc30 : FnScope ["holders", "key", "person", "keys"] ["holders", "key"] (defScope s30) := ⟨rfl, rfl, rfl, by decide +kernel, rfl, by decide +kernel, by decide +kernel⟩
abbrev sp_who_holds (K : PySem.W.Frag) : Sp := spP K (τ := Hold × Nm) (fun t => [holdD t.1, .str t.2]) (fun t => HoldOk t.1) (fun t d => d = nmsT (whoHolds t.1 t.2))
theorem ok_who_holds {f : Addr} {fd : FuncData} (F : Fun K "who_holds" "who_holds" s30 f fd) (mT : mg "tuple" = none) : FnOk P w K mg base CX0 1 f fd ["holders", "key"] (sp_who_holds K) := by
  refine okP F sc30 (fun _ => rfl) (by decide) ?_
  rintro ⟨h, k⟩ hh cdv A outer s H E hr
  refine Svs.ret1 (E1.callT (A1.cons (E1.lcPIf (xs := h) (e1 := fun p => .str p.1) (e2 := fun p => nmsT p.2) (q := fun p => decide (k ∈ p.2)) (f := fun p => .str p.1) 2 3 (I1.tup (E1.var 0)) (fun p _ _ _ _ _ _ => T1.cmp (E1.var 1) (E1.var 3) o_in) (fun p _ _ _ _ _ _ _ => E1.var 2) (Nat.le_trans hh.n (by decide)) sc30.nd) A1.nil) c_tuple mT bt_tuple) ?_
  show _ = _
  simp [nmsT, whoHolds]
/-! sends -/
abbrev s31 : Stmt := topS 31
theorem sc31 : FnScope ["net", "holders", "lot", "group"] ["net", "holders", "lot", "group"] (defScope s31) := ⟨rfl, rfl, rfl, by decide +kernel, rfl, by decide +kernel, by decide +kernel⟩
/-- a net, holders, a lot, a group of theirs -/
abbrev T4 := Net × Hold × List Int × List Nm
abbrev T4.ok (t : T4) : Prop := NetOk t.1 ∧ GrOk t.2.1 t.2.2.2
abbrev T4.enc (t : T4) : List D := [netD t.1, holdD t.2.1, lotD t.2.2.1, nmsT t.2.2.2]
abbrev sp_sends (K : PySem.W.Frag) : Sp := spP K (τ := T4) T4.enc T4.ok (fun t d => d = .bool (sendB t.1 t.2.1 t.2.2.1 t.2.2.2))
theorem ok_sends {f : Addr} {fd : FuncData} (F : Fun K "sends" "sends" s31 f fd) (F24 : Fn P w K mg base 3 "goes" ["net", "keys", "lot"] (sp_goes K)) (F29 : Fn P w K mg base 3 "keys_held" ["holders", "group"] (sp_keys_held K)) : FnOk P w K mg base CX0 4 f fd ["net", "holders", "lot", "group"] (sp_sends K) := by
  refine okP F sc31 (fun _ => rfl) (by decide) ?_
  rintro ⟨n, h, lot, g⟩ ⟨hn, hg⟩ cdv A outer s H E hr
  exact Svs.ret1 (E1.callF F24 hr (A1.cons (E1.var 0) (A1.cons (E1.callF F29 hr (A1.cons (E1.var 1) (A1.cons (E1.var 3) A1.nil)) (h, true, g) rfl hg fun d h => h) (A1.cons (E1.var 2) A1.nil))) (n, heldBy h g, lot) rfl hn fun d h => h) rfl
end
end Kl

set_option Elab.async false
set_option linter.all false
set_option maxRecDepth 100000
/-! The program's defs: groups that send. -/
namespace Kl
open PySem PySem.Spec L2
section
variable {P : Program} {w : World} {K : PySem.W.Frag} {mg : Str → Option Value} {base : Heap}
/-! send_table -/
abbrev s32 : Stmt := topS 32
theorem sc32 : FnScope ["net", "holders", "lot", "found", "known", "group", "keys"] ["net", "holders", "lot"] (defScope s32) := ⟨rfl, rfl, rfl, by decide +kernel, rfl, by decide +kernel, by decide +kernel⟩
abbrev T3 := Net × Hold × List Int
abbrev T3.enc (t : T3) : List D := [netD t.1, holdD t.2.1, lotD t.2.2]
abbrev sp_send_table (K : PySem.W.Frag) : Sp := spP K (τ := T3) T3.enc (fun t => NetOk t.1 ∧ HoldOk t.2.1) (fun t d => d = tabD (mapV .bool (sendTab t.1 t.2.1 t.2.2)))
theorem people_len (h : Hold) : (people h).length = h.length := List.length_map _
theorem getV_put {β : Type} (es : List (List Nm × β)) (k : List Nm) (v : β) : getV (putV es k v) k = some v := by
  unfold getV putV
  by_cases h : (es.any fun e => decide (e.1 = k)) = true
  · rw [if_pos h]
    induction es with
    | nil => cases h
    | cons e es ih =>
      rw [List.map_cons, List.find?_cons]
      by_cases z : e.1 = k
      · rw [if_pos z]
        simp [z]
      · rw [if_neg z]
        simp only [z, decide_false]
        refine ih ?_
        rw [List.any_cons] at h
        simpa [z] using h
  · rw [if_neg h]
    have no : es.find? (fun e => decide (e.1 = k)) = none := List.find?_eq_none.mpr fun p hp q => h (List.any_eq_true.mpr ⟨p, hp, q⟩)
    rw [List.find?_append, no]
    simp
theorem putV_len {β : Type} (t : List (List Nm × β)) (k : List Nm) (v : β) : (putV t k v).length ≤ t.length + 1 := by
  unfold putV
  split
  · rw [List.length_map]; omega
  · rw [List.length_append]; exact Nat.le_refl _
theorem mapV_len {β : Type} (g : β → D) (t : List (List Nm × β)) : (mapV g t).length = t.length := List.length_map _
theorem ok_send_table {f : Addr} {fd : FuncData} (F : Fun K "send_table" "send_table" s32 f fd) (F19 : Fn P w K mg base 3 "subsets_of" ["names"] (sp_subsets_of K)) (F24 : Fn P w K mg base 3 "goes" ["net", "keys", "lot"] (sp_goes K)) (F26 : Fn P w K mg base 3 "people_in" ["holders"] (sp_people_in K)) (F28 : Fn P w K mg base 3 "held_by" ["holders", "group"] (sp_held_by K)) :
    FnOk P w K mg base CX0 4 f fd ["net", "holders", "lot"] (sp_send_table K) := by
  refine okP F sc32 (fun _ => rfl) (by decide) ?_
  rintro ⟨n, h, lot⟩ ⟨hn, hh⟩ cdv A outer s H E hr
  have h8 : (people h).length ≤ 8 := by rw [people_len]; exact hh.n
  have hsl : (subs (people h)).length ≤ 256 := by rw [subs_len]; exact two_pow8 h8
  refine Svs.par 3 4 G1.dictT G1.dictT rfl sc32.nd rfl ?_
  refine Svs.imp (Svs.forN (ys := (subs (people h)).map keyD) (c0 := 0) (ct := 0) (c := 0) 5 (fun i ρ' => ∃ kn s5 s6, ρ' = [some (.dat (netD n)), some (.dat (holdD h)), some (.dat (lotD lot)), some (.own (.t (mapV .bool (tabV (fun g => g) (sendB n h lot) ((subs (people h)).take i))))), some (.own (.t (mapV .bool kn))), s5, s6] ∧ (∀ e ∈ kn, e.2 = goesB n e.1 lot) ∧ kn.length ≤ i)
    (I1.list (E1.callF F19 hr (A1.cons (E1.callF F26 hr (A1.cons (E1.var 1) A1.nil) h rfl hh fun d h => h) A1.nil) (true, people h) rfl h8 fun d h => h)) ⟨[], none, none, rfl, (fun e z => by cases z), Nat.le_refl _⟩ ?_ ?_ (by simp) PassesOwn.never sc32.nd) (Nat.le_refl _) fun _ z => z
  · rintro i d ρ' hi ⟨kn, s5, s6, rfl, hkn, hkl⟩
    rw [List.getElem?_map] at hi
    obtain ⟨g, hg, rfl⟩ := Option.map_eq_some_iff.mp hi
    have hil : i < (subs (people h)).length := (List.getElem?_eq_some_iff.mp hg).1
    have tk : (subs (people h)).take (i + 1) = (subs (people h)).take i ++ [g] := by rw [List.take_add_one, hg]; rfl
    have hsz : sizeLine = 16777216 := rfl
    refine Svs.asg1 6 (E1.callF F28 hr (A1.cons (E1.var 1) (A1.cons (E1.var 5) A1.nil)) (h, true, g) rfl hh fun d h => h) sc32.nd ?_
    refine Svs.imp (Svs.cons (c1 := 0) (c2 := 0) (O1 := fun o => ∃ kn', o = .nx [some (.dat (netD n)), some (.dat (holdD h)), some (.dat (lotD lot)), some (.own (.t (mapV .bool (tabV (fun g => g) (sendB n h lot) ((subs (people h)).take i))))), some (.own (.t (mapV .bool kn'))), some (.dat (keyD g)), some (.dat (nmsT (heldBy h g)))] ∧ (∀ e ∈ kn', e.2 = goesB n e.1 lot) ∧ kn'.length ≤ i + 1 ∧ getV kn' (heldBy h g) = some (sendB n h lot g))
      (Sv.ifS (c1 := 0) (c2 := 0) (T1.flat 4 (T1.notinT (k := heldBy h g) (E1.var 6) (E1.var 4) (.inl rfl) (roomU hr))) (fun z => ?_) fun z => ?_) ?_ fun d z => by obtain ⟨_, z, _⟩ := z; cases z) (Nat.le_refl _) fun _ z => z
    · refine Svs.imp (Svs.cons (c1 := 0) (c2 := 0) (Sv.putT (k := heldBy h g) 4 rfl (E1.callF F24 hr (A1.cons (E1.var 0) (A1.cons (E1.var 6) (A1.cons (E1.var 2) A1.nil))) (n, heldBy h g, lot) rfl hn fun d h => h) (fun d z => by rw [z]; rfl) (E1.var 6) (by rw [mapV_len]; omega) (roomU hr)) (fun ρ' z => ?_) fun d z => by obtain ⟨_, _, z⟩ := z; cases z) (Nat.le_refl _) fun _ z => z
      obtain ⟨d, rfl, z⟩ := z
      cases z
      refine Svs.nil ⟨putV kn (heldBy h g) (goesB n (heldBy h g) lot), by rw [mapV_put]; rfl, fun e he => ?_, Nat.le_trans (putV_len _ _ _) (by omega), getV_put _ _ _⟩
      rcases mem_putV.mp he with rfl | ⟨he, _⟩
      · rfl
      · exact hkn e he
    · refine Svs.nil ⟨kn, rfl, hkn, by omega, ?_⟩
      rw [mapV_get] at z
      cases hf : getV kn (heldBy h g) with
      | none => rw [hf] at z; cases z
      | some b =>
        unfold getV at hf
        cases hp : kn.find? (fun e => decide (e.1 = heldBy h g)) with
        | none => rw [hp] at hf; cases hf
        | some p =>
          rw [hp] at hf
          cases hf
          have e1 := hkn p (List.mem_of_find?_eq_some hp)
          have e2 : p.1 = heldBy h g := of_decide_eq_true (List.find?_some (p := fun e : List Nm × Bool => decide (e.1 = heldBy h g)) hp)
          show some p.2 = _
          rw [e1, e2]
          rfl
    · rintro ρ' ⟨kn', e, h1, h2, h3⟩
      cases e
      have hget : getT (mapV .bool kn') (heldBy h g) = some (.bool (sendB n h lot g)) := by rw [mapV_get, h3]; rfl
      have tl := tabV_len (fun g => g) (sendB n h lot) ((subs (people h)).take i)
      rw [List.length_take] at tl
      refine Svs.imp (Svs.cons (c1 := 0) (c2 := 0) (Sv.putT (k := g) 3 rfl (E1.flat 4 (E1.getT (k := heldBy h g) (E1.var 4) (.inl rfl) (E1.var 6) hget (roomU hr))) (fun d z => by rw [z]; rfl) (E1.var 5) (by rw [mapV_len]; omega) (roomU hr)) (fun ρ' z => ?_) fun d z => by obtain ⟨_, _, z⟩ := z; cases z) (Nat.le_refl _) fun _ z => z
      obtain ⟨d, rfl, z⟩ := z
      cases z
      refine Svs.nil ⟨kn', some (.dat (keyD g)), some (.dat (nmsT (heldBy h g))), ?_, h1, h2⟩
      rw [tk, tabV_snoc, mapV_put]
      rfl
  · rintro ρ' ⟨kn, s5, s6, rfl, hkn, hkl⟩
    rw [List.length_map, List.take_of_length_le (Nat.le_refl _)]
    exact Svs.freeze 3 (Svs.ret1 (E1.var 3) ⟨_, rfl, rfl⟩)
end
end Kl

set_option Elab.async false
set_option linter.all false
set_option maxRecDepth 100000
/-! The program's defs: least groups; what is handed on. -/
namespace Kl
open PySem PySem.Spec L2
theorem canLay_strs : ∀ k : List Nm, (∀ x ∈ k, PyData.strOk x = true) → PyData.canLayAll0 (k.map .str) = true
  | [], _ => rfl
  | x :: k, h => by
    rw [List.map_cons, PyData.canLayAll0, canLay_strs k fun y hy => h y (List.mem_cons_of_mem _ hy), PyData.canLay0, h x List.mem_cons_self]
    rfl
theorem depthAll_strs (k : List Nm) : PyData.depthAll (k.map .str) = 0 := by
  induction k with
  | nil => rfl
  | cons x k ih => rw [List.map_cons, PyData.depthAll, ih]; rfl
theorem shaped_keyD (k : List Nm) (h : ∀ x ∈ k, PyData.strOk x = true) : SeqAt.shaped (keyD k) = true := by
  unfold SeqAt.shaped keyD
  rw [PyData.depth, depthAll_strs, PyData.canLay0, canLay_strs k h]
  decide
theorem eqvAll_strs : ∀ a b : List Nm, PyData.eqvAll (a.map .str) (b.map .str) = decide (a = b)
  | [], [] => rfl
  | [], _ :: _ => rfl
  | _ :: _, [] => rfl
  | x :: a, y :: b => by
    rw [List.map_cons, List.map_cons, PyData.eqvAll, eqvAll_strs a b, PyData.eqv, Bool.eq_iff_iff]
    simp
theorem eqv_keyD (a b : List Nm) : PyData.eqv (keyD a) (keyD b) = decide (a = b) := by
  unfold keyD
  rw [PyData.eqv]
  exact eqvAll_strs a b
theorem o_neK {X : Cx} (a b : List Nm) (ha : ∀ x ∈ a, PyData.strOk x = true) (hb : ∀ x ∈ b, PyData.strOk x = true) (hu : X.A.units + 64 < cLine) : OpOk X (compareOp .NotEq) (keyD a) (keyD b) (· = .bool (decide (a ≠ b))) := by
  have := o_neD (X := X) hu (shaped_keyD a ha) (shaped_keyD b hb) rfl rfl
  rw [eqv_keyD] at this
  have e : (!decide (a = b)) = decide (a ≠ b) := by simp
  rwa [e] at this
theorem c_anyF {X : Cx} {α : Type} (xs : List α) (h : α → Bool) (hc : X.calm = true) : CallOk X (.builtin "any") [.list (xs.map fun a => .bool (h a))] (· = .bool (xs.any h)) := by
  have := c_any (X := X) (bs := xs.map h) hc
  rwa [List.map_map, List.any_map] at this
section
variable {P : Program} {w : World} {K : PySem.W.Frag} {mg : Str → Option Value} {base : Heap}
/-! all_in_group -/
abbrev s33 : Stmt := topS 33
theorem sc33 : FnScope ["one", "other", "own"] ["one", "other"] (defScope s33) := ⟨rfl, rfl, rfl, by decide +kernel, rfl, by decide +kernel, by decide +kernel⟩
abbrev sp_all_in (K : PySem.W.Frag) : Sp := spP K (τ := List Nm × List Nm) (fun t => [keyD t.1, keyD t.2]) (fun t => t.1.length ≤ 100) (fun t d => d = .bool (allIn t.1 t.2))
theorem ok_all_in {f : Addr} {fd : FuncData} (F : Fun K "all_in_group" "all_in_group" s33 f fd) (mA : mg "all" = none) : FnOk P w K mg base CX0 1 f fd ["one", "other"] (sp_all_in K) := by
  refine okP F sc33 (fun _ => rfl) (by decide) ?_
  rintro ⟨a, b⟩ ha cdv A outer s H E hr
  exact Svs.ret1 (E1.callB (A1.cons (E1.lcN (xs := a) (en := .str) (f := fun x => .bool (decide (x ∈ b))) 2 (I1.tup (E1.var 0)) (fun x _ _ _ _ _ _ => E1.cmp (E1.var 2) (E1.var 1) o_in) (Nat.le_trans ha (by decide)) sc33.nd) A1.nil) (c_allF _ _ rfl) mA bt_all) rfl
/-! leasts_of -/
abbrev s34 : Stmt := topS 34
theorem sc34 : FnScope ["groups", "own", "far"] ["groups"] (defScope s34) := ⟨rfl, rfl, rfl, by decide +kernel, rfl, by decide +kernel, by decide +kernel⟩
abbrev GsOk (gs : List (List Nm)) : Prop := gs.length ≤ 256 ∧ ∀ g ∈ gs, g.length ≤ 100 ∧ ∀ x ∈ g, PyData.strOk x = true
abbrev sp_leasts_of (K : PySem.W.Frag) : Sp := spP K (τ := List (List Nm)) (fun gs => [.list (gs.map keyD)]) GsOk (fun gs d => d = .list ((leasts gs).map keyD))
abbrev least1 (gs : List (List Nm)) (own : List Nm) : Bool := !(gs.any fun far => decide (far ≠ own) && allIn far own)
theorem canLeasts (gs : List (List Nm)) : CanSort ((gs.filter (least1 gs)).map keyD) := by
  by_cases h : [] ∈ gs
  · have all : ∀ x ∈ gs.filter (least1 gs), x = [] := fun x hx => by
      obtain ⟨h1, h2⟩ := List.mem_filter.mp hx
      cases x with
      | nil => rfl
      | cons y x =>
        exfalso
        have : (gs.any fun far => decide (far ≠ y :: x) && allIn far (y :: x)) = true := List.any_eq_true.mpr ⟨[], h, by simp [allIn]⟩
        simp only [least1, this] at h2
        cases h2
    cases hf : gs.filter (least1 gs) with
    | nil => exact .inl (.inl fun d hd => by cases hd)
    | cons x r =>
      rw [hf] at all
      rw [all x List.mem_cons_self]
      exact canKeys _ ⟨r, rfl⟩
  · refine .inl (.inl fun d hd => ?_)
    obtain ⟨k, hk, rfl⟩ := List.mem_map.mp hd
    cases k with
    | nil => exact absurd (List.mem_filter.mp hk).1 h
    | cons y k => exact ⟨.str y, k.map .str, rfl⟩
theorem ok_leasts_of {f : Addr} {fd : FuncData} (F : Fun K "leasts_of" "leasts_of" s34 f fd) (mS : mg "sorted" = none) (mA : mg "any" = none) (F33 : Fn P w K mg base 1 "all_in_group" ["one", "other"] (sp_all_in K)) : FnOk P w K mg base CX0 2 f fd ["groups"] (sp_leasts_of K) := by
  refine okP F sc34 (fun _ => rfl) (by decide) ?_
  rintro gs ⟨hg, hk⟩ cdv A outer s H E hr
  refine Svs.ret1 (E1.callB (A1.cons (E1.lcIf (xs := gs) (en := keyD) (p := least1 gs) (f := keyD) (S := [1]) [("own", 1)] (I1.list (E1.var 0)) (fun _ _ _ _ _ => pg_name (i := 1) sc34.nd rfl (Or.inr rfl)) (fun g _ => TgOk.name 1)
    (fun own ho _ _ _ _ _ => T1.not (T1.val (E1.callB (A1.cons (E1.lcN (xs := gs) (en := keyD) (f := fun far => .bool (decide (far ≠ own) && allIn far own)) 2 (I1.list (E1.var 0))
      (fun far hf _ _ _ _ _ => E1.and (E1.cmp (E1.var 2) (E1.var 1) (o_neK far own (hk far hf).2 (hk own ho).2 hr.units)) fun _ => E1.one (E1.callF F33 hr (A1.cons (E1.var 2) (A1.cons (E1.var 1) A1.nil)) (far, own) rfl (hk far hf).1 fun d h => h)) (Nat.le_trans hg (by decide)) sc34.nd) A1.nil) (c_anyF _ _ rfl) mA bt_any)))
    (fun own _ _ _ _ _ _ _ => E1.var 1) (Nat.le_trans hg (by decide)) sc34.nd) A1.nil) (c_sorted (keyD_alike _) (canLeasts gs) (Nat.le_trans (List.length_filter_le _ _) (Nat.le_trans hg (by decide))) (fun k _ => depth_keyD k) hr.units) mS bt_sorted) rfl
end
end Kl

set_option Elab.async false
set_option linter.all false
set_option maxRecDepth 100000
/-! The program's defs: senders; what is handed on. -/
namespace Kl
open PySem PySem.Spec L2
section
variable {P : Program} {w : World} {K : PySem.W.Frag} {mg : Str → Option Value} {base : Heap}
/-! senders -/
abbrev s35 : Stmt := topS 35
theorem sc35 : FnScope ["net", "holders", "lot", "group", "fine"] ["net", "holders", "lot"] (defScope s35) := ⟨rfl, rfl, rfl, by decide +kernel, rfl, by decide +kernel, by decide +kernel⟩
abbrev sp_senders (K : PySem.W.Frag) : Sp := spP K (τ := T3) T3.enc (fun t => NetOk t.1 ∧ HoldOk t.2.1) (fun t d => d = .list ((sendersL t.1 t.2.1 t.2.2).map keyD))
theorem subs_mem {ns g : List Nm} (h : g ∈ subs ns) : g.Sublist ns := mem_rawSubs ((List.mergeSort_perm _ _).mem_iff.mp h)
theorem fines_ok {n : Net} {h : Hold} {lot : List Int} (hh : HoldOk h) : GsOk (fines (sendTab n h lot)) := by
  have h8 : (people h).length ≤ 8 := by rw [people_len]; exact hh.n
  refine ⟨?_, fun g hg => ?_⟩
  · unfold fines
    rw [List.length_map]
    refine Nat.le_trans (List.length_filter_le _ _) (Nat.le_trans (tabV_len _ _ _) ?_)
    rw [subs_len]
    exact two_pow8 h8
  · obtain ⟨e, he, rfl⟩ := List.mem_map.mp hg
    obtain ⟨h1, _⟩ := mem_tabV.mp (List.mem_filter.mp he).1
    have sl := subs_mem h1
    refine ⟨Nat.le_trans sl.length_le (Nat.le_trans h8 (by decide)), fun x hx => ?_⟩
    obtain ⟨p, hp, rfl⟩ := List.mem_map.mp (sl.subset hx)
    exact hh.s p hp
theorem ok_senders {f : Addr} {fd : FuncData} (F : Fun K "senders" "senders" s35 f fd) (F32 : Fn P w K mg base 4 "send_table" ["net", "holders", "lot"] (sp_send_table K)) (F34 : Fn P w K mg base 4 "leasts_of" ["groups"] (sp_leasts_of K)) : FnOk P w K mg base CX0 5 f fd ["net", "holders", "lot"] (sp_senders K) := by
  refine okP F sc35 (fun _ => rfl) (by decide) ?_
  rintro ⟨n, h, lot⟩ ⟨hn, hh⟩ cdv A outer s H E hr
  have h8 : (people h).length ≤ 8 := by rw [people_len]; exact hh.n
  have tl : (sendTab n h lot).length ≤ sizeLine := by
    refine Nat.le_trans (tabV_len _ _ _) ?_
    rw [subs_len]
    exact Nat.le_trans (two_pow8 h8) (by decide)
  refine Svs.ret1 (E1.callF F34 hr (A1.cons (E1.lcPIf (xs := sendTab n h lot) (e1 := fun e => keyD e.1) (e2 := fun e => .bool e.2) (q := fun e => e.2) (f := fun e => keyD e.1) 3 4 ?_
    (fun e _ _ _ _ _ _ => T1.val (E1.var 4)) (fun e _ _ _ _ _ _ _ => E1.var 3) tl sc35.nd) A1.nil) (fines (sendTab n h lot)) ?_ (fines_ok hh) fun d h => h) rfl
  · rw [show ((sendTab n h lot).map fun a => PyData.tuple [keyD a.1, PyData.bool a.2]) = (mapV .bool (sendTab n h lot)).map itemD from (mapV_items .bool _).symm]
    refine I1.itemsNew (E1.callF F32 hr (A1.cons (E1.var 0) (A1.cons (E1.var 1) (A1.cons (E1.var 2) A1.nil))) (n, h, lot) rfl ⟨hn, hh⟩ fun d h => h) fun i es e => ?_
    match i with
    | 0 => cases e
    | 1 => cases e
    | 2 => cases e
    | 3 => cases e
    | 4 => cases e
    | _ + 5 => cases e
  · unfold fines
    rw [List.map_map]
    rfl
/-! tupled: texts, tuples of them, .. -/
def Cn : Nat → D → Prop
  | 0, d => ∃ s, d = .str s
  | n + 1, d => (∃ s, d = .str s) ∨ ∃ ds, d = .tuple ds ∧ ds.length ≤ 100 ∧ ∀ x ∈ ds, Cn n x
abbrev s6 : Stmt := topS 6
theorem sc6 : FnScope ["value", "part"] ["value"] (defScope s6) := ⟨rfl, rfl, rfl, by decide +kernel, rfl, by decide +kernel, by decide +kernel⟩
abbrev sp_tupled (K : PySem.W.Frag) (m : Nat) : Sp := spP K (τ := D) (fun d => [d]) (Cn m) (fun d r => r = d)
theorem cn_dat {m : Nat} {d : D} (h : Cn m d) : isDat d = true := by
  cases m with
  | zero => obtain ⟨s, rfl⟩ := h; rfl
  | succ m =>
    rcases h with ⟨s, rfl⟩ | ⟨ds, rfl, _⟩ <;> rfl
theorem ok_tupled0 {f : Addr} {fd : FuncData} (F : Fun K "tupled" "tupled" s6 f fd) (mT : mg "tuple" = none) (mL : mg "list" = none) (mI : mg "isinstance" = none) : FnOk P w K mg base CX0 1 f fd ["value"] (sp_tupled K 0) := by
  refine okP F sc6 (fun _ => rfl) (by decide) fun d hd cdv A outer s H E hr => ?_
  obtain ⟨x, rfl⟩ := hd
  exact Svs.ret1 (E1.ifExp (T1.val (E1.isTwo (E1.var 0) .list .tuple bt_list bt_tuple mL mT mI)) (fun z => by cases z) fun _ => E1.var 0) rfl
theorem ok_tupledS {m : Nat} {f : Addr} {fd : FuncData} (F : Fun K "tupled" "tupled" s6 f fd) (mT : mg "tuple" = none) (mL : mg "list" = none) (mI : mg "isinstance" = none) (F6 : Fn P w K mg base (m + 1) "tupled" ["value"] (sp_tupled K m)) : FnOk P w K mg base CX0 (m + 2) f fd ["value"] (sp_tupled K (m + 1)) := by
  refine okP F sc6 (fun _ => rfl) (by decide) fun d hd cdv A outer s H E hr => ?_
  rcases hd with ⟨x, rfl⟩ | ⟨ds, rfl, hl, hds⟩
  · exact Svs.ret1 (E1.ifExp (T1.val (E1.isTwo (E1.var 0) .list .tuple bt_list bt_tuple mL mT mI)) (fun z => by cases z) fun _ => E1.var 0) rfl
  · refine Svs.ret1 (E1.ifExp (T1.val (E1.isTwo (E1.var 0) .list .tuple bt_list bt_tuple mL mT mI)) (fun _ => ?_) fun z => by cases z) rfl
    exact E1.cast (d := .tuple (ds.attach.map fun x => x.1)) (E1.callT (A1.cons (E1.lcN (xs := ds.attach) (en := fun x => x.1) (f := fun x => x.1) 1 (by rw [List.attach_map_subtype_val]; exact I1.tup (E1.var 0)) (fun x hx _ _ _ _ _ => E1.callF F6 hr (A1.cons (E1.var 1) A1.nil) x.1 rfl (hds _ x.2) fun d h => h) (by rw [List.length_attach]; exact Nat.le_trans hl (by decide)) sc6.nd fun x => cn_dat (hds _ x.2)) A1.nil) c_tuple mT bt_tuple) (by rw [List.attach_map_subtype_val])
/-! handed_on -/
abbrev s36 : Stmt := topS 36
theorem sc36 : FnScope ["holders", "giver", "key", "taker", "found", "person", "keys", "left", "own"] ["holders", "giver", "key", "taker"] (defScope s36) := ⟨rfl, rfl, rfl, by decide +kernel, rfl, by decide +kernel, by decide +kernel⟩
abbrev HT := Hold × Nm × Nm × Nm
abbrev HT.enc (t : HT) : List D := [holdD t.1, .str t.2.1, .str t.2.2.1, .str t.2.2.2]
abbrev sp_handed_on (K : PySem.W.Frag) : Sp := spP K (τ := HT) HT.enc (fun t => HoldOk t.1) (fun t d => d = holdD (handOn t.1 t.2.1 t.2.2.1 t.2.2.2))
theorem cn_hold {h : Hold} (hh : HoldOk h) : Cn 3 (holdD h) := by
  refine .inr ⟨_, rfl, ?_, fun x hx => ?_⟩
  · rw [List.length_map]
    exact Nat.le_trans hh.n (by decide)
  · obtain ⟨p, hp, rfl⟩ := List.mem_map.mp hx
    refine .inr ⟨_, rfl, (by show 2 ≤ 100; decide), fun y hy => ?_⟩
    rcases List.mem_cons.mp hy with rfl | hy
    · exact .inl ⟨_, rfl⟩
    · rw [List.mem_singleton.mp hy]
      refine .inr ⟨_, rfl, ?_, fun z hz => ?_⟩
      · rw [List.length_map]
        exact Nat.le_trans (hh.k p hp) (by decide)
      · obtain ⟨s, _, rfl⟩ := List.mem_map.mp hz
        exact ⟨s, rfl⟩
/-- what one keeps and takes -/
def keep1 (giver key taker : Nm) (p : Nm × List Nm) : List Nm := p.2.filter fun own => decide (own ≠ key) || decide (p.1 ≠ giver)
def hand1 (giver key taker : Nm) (p : Nm × List Nm) : Nm × List Nm := (p.1, setOf (if p.1 = taker then keep1 giver key taker p ++ [key] else keep1 giver key taker p))
theorem handOn_eq (h : Hold) (giver key taker : Nm) : handOn h giver key taker = h.map (hand1 giver key taker) := rfl
theorem ok_handed_on {f : Addr} {fd : FuncData} (F : Fun K "handed_on" "handed_on" s36 f fd) (mT : mg "tuple" = none) (F5 : Fn P w K mg base 4 "set_of" ["some"] (sp_set_of K)) (F6 : Fn P w K mg base 4 "tupled" ["value"] (sp_tupled K 3)) : FnOk P w K mg base CX0 5 f fd ["holders", "giver", "key", "taker"] (sp_handed_on K) := by
  refine okP F sc36 (fun _ => rfl) (by decide) ?_
  rintro ⟨h, gv, ky, tk⟩ hh cdv A outer s H E hr
  have hh : HoldOk h := hh
  refine Svs.asgG 4 (G1.lst L1.nil) sc36.nd ?_
  refine Svs.imp (Svs.forP (xs := h) (e1 := fun p : Nm × List Nm => PyData.str p.1) (e2 := fun p : Nm × List Nm => nmsT p.2) (c0 := 0) (ct := 0) (c := 0) 5 6 (fun i ρ' => ∃ s5 s6 s7, ρ' = [some (.dat (holdD h)), some (.dat (.str gv)), some (.dat (.str ky)), some (.dat (.str tk)), some (.own (.l (((h.take i).map (hand1 gv ky tk)).map heldD))), s5, s6, s7, none])
    (I1.tup (E1.callF F6 hr (A1.cons (E1.var 0) A1.nil) (holdD h) rfl (cn_hold hh) fun d h => h)) ⟨none, none, none, rfl⟩ ?_ ?_ (by simp) PassesOwn.never sc36.nd) (Nat.le_refl _) fun _ z => z
  · rintro i p ρ' hi ⟨s5, s6, s7, rfl⟩
    have hm := List.mem_of_getElem? hi
    have hil : i < h.length := (List.getElem?_eq_some_iff.mp hi).1
    have hk := hh.k p hm
    have h8 := hh.n
    have tk1 : h.take (i + 1) = h.take i ++ [p] := by rw [List.take_add_one, hi]; rfl
    have hsz : sizeLine = 16777216 := rfl
    refine Svs.setNIf (xs := p.2) (en := .str) (q := fun own => decide (own ≠ ky) || decide (p.1 ≠ gv)) (f := .str) 7 8 (I1.tup (E1.var 6)) (fun own _ _ _ _ _ _ => W1.t (W1.or (T1.cmp (E1.var 8) (E1.var 2) o_neS) fun _ => W1.or1 (T1.cmp (E1.var 5) (E1.var 1) o_neS))) (fun own _ _ _ _ _ _ _ => E1.var 8) (Nat.le_trans hk (by decide)) sc36.nd ?_
    have kl : (keep1 gv ky tk p).length ≤ 50 := Nat.le_trans (List.length_filter_le _ _) hk
    refine Svs.append 4 rfl (d := heldD (hand1 gv ky tk p)) (E1.tup (L1.cons (E1.var 5) (L1.cons (E1.callF F5 hr (A1.cons (d := nmsL (if p.1 = tk then keep1 gv ky tk p ++ [ky] else keep1 gv ky tk p)) (E1.ifExp (T1.cmp (E1.var 5) (E1.var 3) o_eqS) (fun z => ?_) fun z => ?_) A1.nil) (if p.1 = tk then keep1 gv ky tk p ++ [ky] else keep1 gv ky tk p) rfl ?_ fun d h => h) L1.nil)) (by show 2 ≤ sizeLine; decide)) ?_ (Svs.nil ⟨some (.dat (.str p.1)), some (.dat (nmsT p.2)), some (.dat (nmsL (keep1 gv ky tk p))), ?_⟩)
    · refine E1.cast (E1.lst (L1.star (E1.var 7) (.inr rfl) (L1.cons (E1.var 2) L1.nil)) ?_) ?_
      · have kl' : ((p.2.filter fun own => decide (own ≠ ky) || decide (p.1 ≠ gv)).map PyData.str).length ≤ 50 := by rw [List.length_map]; exact kl
        rw [List.length_append]
        exact Nat.le_trans (Nat.succ_le_succ kl') (by decide)
      · rw [if_pos (of_decide_eq_true z)]
        simp [nmsL, keep1]
    · refine E1.cast (E1.var 7) ?_
      rw [if_neg (of_decide_eq_false z)]
      rfl
    · split
      · rw [List.length_append]
        show _ + 1 ≤ 4000
        omega
      · exact Nat.le_trans kl (by decide)
    · rw [List.length_map, List.length_map, List.length_take]
      omega
    · rw [tk1, List.map_append, List.map_append]
      rfl
  · rintro ρ' ⟨s5, s6, s7, rfl⟩
    rw [List.take_of_length_le (Nat.le_refl _)]
    exact Svs.freeze 4 (Svs.ret1 (E1.callT (A1.cons (E1.var 4) A1.nil) c_tuple mT bt_tuple) ⟨_, rfl, rfl⟩)
end
end Kl

set_option Elab.async false
set_option linter.all false
set_option maxRecDepth 100000
/-! The program's defs: handed; the hands wanted. -/
namespace Kl
open PySem PySem.Spec L2
theorem T1.castB {X : Cx} {ρ : En} {e : Expr} {k k' : Bool} (h : T1 X ρ e k) (hk : k = k') : T1 X ρ e k' := hk ▸ h
theorem heldBy_len {h : Hold} (hh : HoldOk h) (g : List Nm) : (heldBy h g).length ≤ 400 := by
  refine Nat.le_trans (setOf_len _) (Nat.le_trans ?_ (hold_len hh))
  have := len_ff (fun p : Nm × List Nm => decide (p.1 ∈ g)) (·.2) h h.length
  rwa [List.take_length] at this
theorem its_len {n : Net} (hn : NetOk n) (h : Hold) (g : List Nm) : (itsOf n h g).length ≤ 8 := Nat.le_trans (List.length_filter_le _ _) hn.k
theorem mem_byLen {p : Nat × List Nm} {gs : List (List Nm)} : p ∈ byLen gs ↔ p.2 ∈ gs ∧ p.1 = p.2.length := by
  unfold byLen
  rw [(List.mergeSort_perm _ _).mem_iff, List.mem_map]
  constructor
  · rintro ⟨o, ho, rfl⟩
    exact ⟨ho, rfl⟩
  · rintro ⟨h1, h2⟩
    exact ⟨p.2, h1, by cases p; simp only at h2 ⊢; rw [h2]⟩
theorem wanted_sub {n : Net} {h : Hold} {lot : List Int} {g f : List Nm} (e : wanted n h lot g = some f) : f.Sublist (itsOf n h g) := by
  unfold wanted at e
  obtain ⟨p, hp, rfl⟩ := Option.map_eq_some_iff.mp e
  exact subs_mem (mem_byLen.mp (List.mem_of_find?_eq_some hp)).1
def wantD : Option (List Nm) → D
  | none => .none
  | some f => keyD f
section
variable {P : Program} {w : World} {K : PySem.W.Frag} {mg : Str → Option Value} {base : Heap}
/-! handed -/
abbrev s37 : Stmt := topS 37
theorem sc37 : FnScope ["holders", "giver", "key", "taker"] ["holders", "giver", "key", "taker"] (defScope s37) := ⟨rfl, rfl, rfl, by decide +kernel, rfl, by decide +kernel, by decide +kernel⟩
abbrev HT.ok (t : HT) : Prop := HoldOk t.1 ∧ t.2.1 ∈ people t.1 ∧ t.2.2.2 ∈ people t.1 ∧ t.2.2.1 ∈ heldBy t.1 [t.2.1]
abbrev sp_handed (K : PySem.W.Frag) : Sp := spP K (τ := HT) HT.enc HT.ok (fun t d => d = holdD (handOn t.1 t.2.1 t.2.2.1 t.2.2.2))
theorem ok_handed {f : Addr} {fd : FuncData} (F : Fun K "handed" "handed" s37 f fd) (F27 : Fn P w K mg base 5 "check_people" ["holders", "names"] (sp_check_people K)) (F28 : Fn P w K mg base 5 "held_by" ["holders", "group"] (sp_held_by K)) (F36 : Fn P w K mg base 5 "handed_on" ["holders", "giver", "key", "taker"] (sp_handed_on K)) :
    FnOk P w K mg base CX0 6 f fd ["holders", "giver", "key", "taker"] (sp_handed K) := by
  refine okP F sc37 (fun _ => rfl) (by decide) ?_
  rintro ⟨h, gv, ky, tk⟩ ⟨hh, hg, ht, hk⟩ cdv A outer s H E hr
  refine Svs.expr1 (E1.callF F27 hr (A1.cons (E1.var 0) (A1.cons (E1.lst (L1.cons (E1.var 1) (L1.cons (E1.var 3) L1.nil)) (by show 2 ≤ sizeLine; decide)) A1.nil)) (h, false, [gv, tk]) rfl ⟨hh, fun x hx => ?_⟩ fun d h => h) ?_
  · rcases List.mem_cons.mp hx with rfl | hx
    · exact hg
    · rw [List.mem_singleton.mp hx]; exact ht
  refine Svs.ifS (k := decide (¬ky ∈ heldBy h [gv])) (T1.cmp (E1.var 2) (E1.callF F28 hr (A1.cons (E1.var 0) (A1.cons (E1.lst (L1.cons (E1.var 1) L1.nil) (by show 1 ≤ sizeLine; decide)) A1.nil)) (h, false, [gv]) rfl hh fun d h => h) o_notIn) (fun z => absurd hk (of_decide_eq_true z)) (fun _ => ?_) rfl
  exact Svs.ret1 (E1.callF F36 hr (A1.cons (E1.var 0) (A1.cons (E1.var 1) (A1.cons (E1.var 2) (A1.cons (E1.var 3) A1.nil)))) (h, gv, ky, tk) rfl hh fun d h => h) rfl
/-! keys_wanted -/
theorem alikeAll_strs : ∀ a b : List Nm, PySem.W.alikeAll (a.map .str) (b.map .str) = true
  | [], [] => rfl
  | [], _ :: _ => rfl
  | _ :: _, [] => rfl
  | x :: a, y :: b => by
    rw [List.map_cons, List.map_cons]
    simp only [PySem.W.alikeAll, PySem.W.alike, Bool.true_and]
    exact alikeAll_strs a b
theorem lenD_alike (ps : List (Nat × List Nm)) : PySem.W.AllAlike (ps.map lenD) := PySem.W.AllAlike.of fun a b => by
  unfold lenD keyD
  simp only [PySem.W.alike, PySem.W.alikeAll, alikeAll_strs, Bool.and_self]
theorem lenD_can (ps : List (Nat × List Nm)) : CanSort (ps.map lenD) := .inl (.inl fun d hd => by
  obtain ⟨p, _, rfl⟩ := List.mem_map.mp hd
  exact ⟨_, _, rfl⟩)
theorem depth_lenD (p : Nat × List Nm) : (lenD p).depth ≤ 32 := by
  unfold lenD keyD
  rw [PyData.depth, PyData.depthAll, PyData.depthAll, PyData.depthAll, PyData.depth, PyData.depth, depthAll_strs]
  decide
abbrev s38 : Stmt := topS 38
theorem sc38 : FnScope ["net", "holders", "lot", "group", "mine", "every", "its", "many", "some", "own", "key"] ["net", "holders", "lot", "group"] (defScope s38) := ⟨rfl, rfl, rfl, by decide +kernel, rfl, by decide +kernel, by decide +kernel⟩
abbrev sp_keys_wanted (K : PySem.W.Frag) : Sp := spP K (τ := T4) T4.enc (fun t => NetOk t.1 ∧ HoldOk t.2.1) (fun t d => d = wantD (wanted t.1 t.2.1 t.2.2.1 t.2.2.2))
theorem ok_keys_wanted {f : Addr} {fd : FuncData} (F : Fun K "keys_wanted" "keys_wanted" s38 f fd) (mS : mg "sorted" = none) (mL : mg "len" = none) (F5 : Fn P w K mg base 3 "set_of" ["some"] (sp_set_of K)) (F10 : Fn P w K mg base 3 "keys_of" ["net"] (sp_keys_of K)) (F19 : Fn P w K mg base 3 "subsets_of" ["names"] (sp_subsets_of K))
    (F24 : Fn P w K mg base 3 "goes" ["net", "keys", "lot"] (sp_goes K)) (F26 : Fn P w K mg base 3 "people_in" ["holders"] (sp_people_in K)) (F28 : Fn P w K mg base 3 "held_by" ["holders", "group"] (sp_held_by K)) : FnOk P w K mg base CX0 4 f fd ["net", "holders", "lot", "group"] (sp_keys_wanted K) := by
  refine okP F sc38 (fun _ => rfl) (by decide) ?_
  rintro ⟨n, h, lot, g⟩ ⟨hn, hh⟩ cdv A outer s H E hr
  have hn : NetOk n := hn
  have hh : HoldOk h := hh
  refine Svs.parC 4 5 (G1.dat (E1.callF F28 hr (A1.cons (E1.var 1) (A1.cons (E1.var 3) A1.nil)) (h, true, g) rfl hh fun d h => h)) (G1.dat (E1.callF F28 hr (A1.cons (E1.var 1) (A1.cons (E1.callF F26 hr (A1.cons (E1.var 1) A1.nil) h rfl hh fun d h => h) A1.nil)) (h, true, people h) rfl hh fun d h => h)) rfl sc38.nd ?_
  refine Svs.setNIf (xs := keysOf n) (en := .str) (q := fun k => decide (k ∈ heldBy h (people h)) && (decide (¬k ∈ heldBy h g) && decide (0 < g.length))) (f := .str) 6 10 (I1.tup (E1.callF F10 hr (A1.cons (E1.var 0) A1.nil) n rfl hn fun d h => h))
    (fun k _ _ _ _ _ _ => W1.t (W1.and (T1.cmp (E1.var 10) (E1.var 5) o_in) fun _ => W1.and (T1.cmp (E1.var 10) (E1.var 4) o_notIn) fun _ => W1.and1 (T1.castB (T1.cmp (E1.callB (A1.cons (E1.var 3) A1.nil) c_len mL bt_len) E1.int o_gt) (by rw [Bool.eq_iff_iff]; simp [List.length_map])))) (fun k _ _ _ _ _ _ _ => E1.var 10) (Nat.le_trans hn.k (by decide)) sc38.nd ?_
  have il := its_len hn h g
  have sl : (subs (itsOf n h g)).length ≤ 256 := by rw [subs_len]; exact two_pow8 il
  have bl : (byLen (subs (itsOf n h g))).length ≤ 256 := by unfold byLen; rw [List.length_mergeSort, List.length_map]; exact sl
  refine Svs.imp (Svs.forP (xs := byLen (subs (itsOf n h g))) (e1 := fun p : Nat × List Nm => PyData.int p.1) (e2 := fun p : Nat × List Nm => keyD p.2) (c0 := 0) (ct := 0) (c := 0) 7 8 (fun i ρ' => ∃ s7 s8, ρ' = [some (.dat (netD n)), some (.dat (holdD h)), some (.dat (lotD lot)), some (.dat (nmsT g)), some (.dat (nmsT (heldBy h g))), some (.dat (nmsT (heldBy h (people h)))), some (.dat (nmsL (itsOf n h g))), s7, s8, none, none] ∧ ∀ p ∈ (byLen (subs (itsOf n h g))).take i, goesB n (setOf (heldBy h g ++ p.2)) lot = false)
    (I1.list (E1.callB (A1.cons (E1.cast (E1.lcN (xs := subs (itsOf n h g)) (en := keyD) (f := fun o => lenD (o.length, o)) 9 (I1.list (E1.callF F19 hr (A1.cons (E1.var 6) A1.nil) (false, itsOf n h g) rfl il fun d h => h)) (fun o _ _ _ _ _ _ => E1.tup (L1.cons (E1.cast (E1.callB (A1.cons (E1.var 9) A1.nil) c_len mL bt_len) (by rw [List.length_map])) (L1.cons (E1.var 9) L1.nil)) (by show 2 ≤ sizeLine; decide)) (Nat.le_trans sl (by decide)) sc38.nd) (by rw [List.map_map]; rfl)) A1.nil)
      (c_sorted (bs := (subs (itsOf n h g)).map fun o => (o.length, o)) (enc := lenD) (lenD_alike _) (lenD_can _) (by rw [List.length_map]; exact Nat.le_trans sl (by decide)) (fun p _ => depth_lenD p) hr.units) mS bt_sorted)) ⟨none, none, rfl, (fun p hp => by rw [List.take_zero] at hp; cases hp)⟩ ?_ ?_ (by simp) PassesOwn.never sc38.nd) (Nat.le_refl _) fun _ z => z
  · rintro i p ρ' hi ⟨s7, s8, rfl, hp⟩
    have hm := (mem_byLen.mp (List.mem_of_getElem? hi)).1
    have pl : p.2.length ≤ 8 := Nat.le_trans (subs_mem hm).length_le il
    have hl := heldBy_len hh g
    have tk1 : (byLen (subs (itsOf n h g))).take (i + 1) = (byLen (subs (itsOf n h g))).take i ++ [p] := by rw [List.take_add_one, hi]; rfl
    refine Svs.ifS (k := goesB n (setOf (heldBy h g ++ p.2)) lot) (T1.val (E1.callF F24 hr (A1.cons (E1.var 0) (A1.cons (E1.callF F5 hr (A1.cons (E1.lst (L1.star (E1.var 4) (.inl rfl) (L1.star (E1.var 8) (.inl rfl) L1.nil)) ?_) A1.nil) (heldBy h g ++ p.2) ?_ ?_ fun d h => h) (A1.cons (E1.var 2) A1.nil))) (n, setOf (heldBy h g ++ p.2), lot) rfl hn fun d h => h)) (fun z => ?_) (fun z => ?_) rfl
    · rw [List.append_nil, List.length_append, List.length_map, List.length_map]
      have : sizeLine = 16777216 := rfl
      omega
    · simp [nmsL]
    · rw [List.length_append]
      omega
    · refine Svs.ret1 (E1.var 8) ⟨_, rfl, ?_⟩
      show keyD p.2 = wantD (wanted n h lot g)
      have : (byLen (subs (itsOf n h g))).find? (fun p => goesB n (setOf (heldBy h g ++ p.2)) lot) = some p := by
        rw [List.find?_eq_some_iff_append]
        refine ⟨z, (byLen (subs (itsOf n h g))).take i, (byLen (subs (itsOf n h g))).drop (i + 1), ?_, fun q hq => by rw [hp q hq]; rfl⟩
        have := (List.take_append_drop (i + 1) (byLen (subs (itsOf n h g)))).symm
        rw [tk1, List.append_assoc] at this
        exact this
      unfold wanted
      rw [this]
      rfl
    · refine Svs.nil ⟨some (.dat (.int p.1)), some (.dat (keyD p.2)), rfl, fun q hq => ?_⟩
      rw [tk1, List.mem_append] at hq
      rcases hq with hq | hq
      · exact hp q hq
      · rw [List.mem_singleton.mp hq]; exact z
  · rintro ρ' ⟨s7, s8, rfl, hp⟩
    rw [List.take_of_length_le (Nat.le_refl _)] at hp
    refine Svs.ret1 E1.non ?_
    show PyData.none = wantD (wanted n h lot g)
    have : (byLen (subs (itsOf n h g))).find? (fun p => goesB n (setOf (heldBy h g ++ p.2)) lot) = none := List.find?_eq_none.mpr fun q hq => by rw [hp q hq]; exact Bool.false_ne_true
    unfold wanted
    rw [this]
    rfl
end
end Kl

set_option Elab.async false
set_option linter.all false
set_option maxRecDepth 100000
/-! The program's defs: fewest hands, the hands. -/
namespace Kl
open PySem PySem.Spec L2
section
variable {P : Program} {w : World} {K : PySem.W.Frag} {mg : Str → Option Value} {base : Heap}
abbrev s39 : Stmt := topS 39
theorem sc39 : FnScope ["net", "holders", "lot", "group", "found"] ["net", "holders", "lot", "group"] (defScope s39) := ⟨rfl, rfl, rfl, by decide +kernel, rfl, by decide +kernel, by decide +kernel⟩
abbrev sp_fewest (K : PySem.W.Frag) : Sp := spP K (τ := T4) T4.enc T4.ok (fun t d => d = optD (fewest t.1 t.2.1 t.2.2.1 t.2.2.2))
theorem ok_fewest {f : Addr} {fd : FuncData} (F : Fun K "fewest_hands" "fewest_hands" s39 f fd) (mL : mg "len" = none) (F27 : Fn P w K mg base 4 "check_people" ["holders", "names"] (sp_check_people K)) (F38 : Fn P w K mg base 4 "keys_wanted" ["net", "holders", "lot", "group"] (sp_keys_wanted K)) : FnOk P w K mg base CX0 5 f fd ["net", "holders", "lot", "group"] (sp_fewest K) := by
  refine okP F sc39 (fun _ => rfl) (by decide) ?_
  rintro ⟨n, h, lot, g⟩ ⟨hn, hh⟩ cdv A outer s H E hr
  refine Svs.expr1 (E1.callF F27 hr (A1.cons (E1.var 1) (A1.cons (E1.var 3) A1.nil)) (h, true, g) rfl hh fun d h => h) ?_
  cases e : wanted n h lot g with
  | none =>
    refine Svs.asg1 4 (d := .none) (E1.callF F38 hr (A1.cons (E1.var 0) (A1.cons (E1.var 1) (A1.cons (E1.var 2) (A1.cons (E1.var 3) A1.nil)))) (n, h, lot, g) rfl ⟨hn, hh.1⟩ fun d h => h.trans (congrArg wantD e)) sc39.nd ?_
    refine Svs.ret1 (E1.ifExp (T1.cmp (E1.var 4) E1.non o_isN) (fun _ => E1.non) fun z => by cases z) ?_
    show PyData.none = optD (fewest n h lot g)
    unfold fewest
    rw [e]
    rfl
  | some f =>
    refine Svs.asg1 4 (d := keyD f) (E1.callF F38 hr (A1.cons (E1.var 0) (A1.cons (E1.var 1) (A1.cons (E1.var 2) (A1.cons (E1.var 3) A1.nil)))) (n, h, lot, g) rfl ⟨hn, hh.1⟩ fun d h => h.trans (congrArg wantD e)) sc39.nd ?_
    refine Svs.ret1 (E1.ifExp (T1.cmp (E1.var 4) E1.non o_isN) (fun z => by cases z) fun _ => E1.callB (A1.cons (E1.var 4) A1.nil) c_len mL bt_len) ?_
    show PyData.int _ = optD (fewest n h lot g)
    unfold fewest
    rw [e, List.length_map]
    rfl
abbrev s40 : Stmt := topS 40
theorem sc40 : FnScope ["net", "holders", "lot", "group", "found", "key"] ["net", "holders", "lot", "group"] (defScope s40) := ⟨rfl, rfl, rfl, by decide +kernel, rfl, by decide +kernel, by decide +kernel⟩
/-- the hands that are told -/
def handsFor (n : Net) (h : Hold) (lot : List Int) (g : List Nm) : Option (List (Nm × Nm × Nm)) := (wanted n h lot g).map (handsOf h g)
abbrev sp_hands_for (K : PySem.W.Frag) : Sp := spP K (τ := T4) T4.enc T4.ok (fun t d => d = rowD (handsFor t.1 t.2.1 t.2.2.1 t.2.2.2))
theorem its_held {n : Net} {h : Hold} {g : List Nm} {k : Nm} (hk : k ∈ itsOf n h g) : (∃ x r, whoHolds h k = x :: r) ∧ ∃ y r, g = y :: r := by
  obtain ⟨_, h2⟩ := List.mem_filter.mp hk
  rw [Bool.and_eq_true, Bool.and_eq_true] at h2
  obtain ⟨h3, _, h5⟩ := h2
  have h3 := of_decide_eq_true h3
  have h5 := of_decide_eq_true h5
  refine ⟨?_, ?_⟩
  · unfold heldBy at h3
    rw [mem_setOf, List.mem_flatMap] at h3
    obtain ⟨p, hp, hkp⟩ := h3
    have : p.1 ∈ whoHolds h k := List.mem_map.mpr ⟨p, List.mem_filter.mpr ⟨(List.mem_filter.mp hp).1, decide_eq_true hkp⟩, rfl⟩
    cases e : whoHolds h k with
    | nil => rw [e] at this; cases this
    | cons x r => exact ⟨x, r, rfl⟩
  · cases g with
    | nil => cases h5
    | cons y r => exact ⟨y, r, rfl⟩
theorem ok_hands_for {f : Addr} {fd : FuncData} (F : Fun K "hands_for" "hands_for" s40 f fd) (mT : mg "tuple" = none) (F27 : Fn P w K mg base 4 "check_people" ["holders", "names"] (sp_check_people K)) (F30 : Fn P w K mg base 4 "who_holds" ["holders", "key"] (sp_who_holds K)) (F38 : Fn P w K mg base 4 "keys_wanted" ["net", "holders", "lot", "group"] (sp_keys_wanted K)) :
    FnOk P w K mg base CX0 5 f fd ["net", "holders", "lot", "group"] (sp_hands_for K) := by
  refine okP F sc40 (fun _ => rfl) (by decide) ?_
  rintro ⟨n, h, lot, g⟩ ⟨hn, hh⟩ cdv A outer s H E hr
  have hn : NetOk n := hn
  refine Svs.expr1 (E1.callF F27 hr (A1.cons (E1.var 1) (A1.cons (E1.var 3) A1.nil)) (h, true, g) rfl hh fun d h => h) ?_
  cases e : wanted n h lot g with
  | none =>
    refine Svs.asg1 4 (d := .none) (E1.callF F38 hr (A1.cons (E1.var 0) (A1.cons (E1.var 1) (A1.cons (E1.var 2) (A1.cons (E1.var 3) A1.nil)))) (n, h, lot, g) rfl ⟨hn, hh.1⟩ fun d h => h.trans (congrArg wantD e)) sc40.nd ?_
    refine Svs.ret1 (E1.ifExp (T1.cmp (E1.var 4) E1.non o_isN) (fun _ => E1.non) fun z => by cases z) ?_
    show PyData.none = rowD (handsFor n h lot g)
    unfold handsFor
    rw [e]
    rfl
  | some f =>
    have fs := wanted_sub e
    have fl : f.length ≤ sizeLine := Nat.le_trans fs.length_le (Nat.le_trans (its_len hn h g) (by decide))
    refine Svs.asg1 4 (d := keyD f) (E1.callF F38 hr (A1.cons (E1.var 0) (A1.cons (E1.var 1) (A1.cons (E1.var 2) (A1.cons (E1.var 3) A1.nil)))) (n, h, lot, g) rfl ⟨hn, hh.1⟩ fun d h => h.trans (congrArg wantD e)) sc40.nd ?_
    refine Svs.ret1 (E1.ifExp (T1.cmp (E1.var 4) E1.non o_isN) (fun z => by cases z) fun _ => E1.callT (A1.cons (E1.lcN (xs := f) (en := .str) (f := fun k => handD ((whoHolds h k).headD ⟨#[]⟩, k, g.headD ⟨#[]⟩)) 5 (I1.tup (E1.var 4)) (fun k hk _ _ _ _ _ => ?_) fl sc40.nd) A1.nil) c_tuple mT bt_tuple) ?_
    · obtain ⟨⟨x, r, e1⟩, y, r2, rfl⟩ := its_held (fs.subset hk)
      refine E1.tup (L1.cons (E1.ix (E1.callF F30 hr (A1.cons (E1.var 1) (A1.cons (E1.var 5) A1.nil)) (h, k) rfl hh.1 fun d h => h) E1.int (x_t 0 ?_)) (L1.cons (E1.var 5) (L1.cons (E1.ix (E1.var 3) E1.int (x_t 0)) L1.nil))) (by show 3 ≤ sizeLine; decide)
      show (List.map PyData.str (whoHolds h k))[0]? = _
      rw [e1]
      rfl
    · show _ = rowD (handsFor n h lot g)
      unfold handsFor
      rw [e]
      show _ = PyData.tuple ((handsOf h g f).map handD)
      unfold handsOf
      rw [List.map_map]
      rfl
end
end Kl

set_option Elab.async false
set_option linter.all false
set_option maxRecDepth 100000
/-! The box: read and written. -/
namespace Kl
open PySem PySem.Spec L2
/-- what is known of the box's k-th number -/
def Bb : Nat → Int → Prop
  | 0, i => 0 ≤ i
  | 1, i => 0 ≤ i ∧ i < 2 ^ 62
  | _, i => 0 ≤ i ∧ i ≤ 1000000
theorem BoxAt.get {H : Hp} {b : Addr} {n k : Nat} (h : BoxAt H b n) (hn : n ≤ 1000000) (hk : k ≤ 2) : ∃ vs i, H b = some (.lst vs) ∧ vs.length = 3 ∧ vs[k]? = some (.int i) ∧ Bb k i := by
  obtain ⟨x, y, z, h0, h1, h2, h3, h4, h5⟩ := h
  match k, hk with
  | 0, _ => exact ⟨_, x, h0, rfl, rfl, h1⟩
  | 1, _ => exact ⟨_, y, h0, rfl, rfl, h2, h3⟩
  | 2, _ => exact ⟨_, z, h0, rfl, rfl, h4, by omega⟩
section
variable {X : Cx} {ρ : En} {c : Nat} {e : Expr} {xb : Str} {p p2 p3 p4 pos pos' : Pos} {j j2 j3 j4 : Nat} {p5 p6 p7 : Pos}
theorem bx_some {bx : Bx} {c : Nat} (h : BxOk bx c) (hc : 0 < c) : ∃ b n, bx = some (b, n) ∧ n + c ≤ 1000000 := by
  cases bx with
  | none =>
    have : c = 0 := h
    omega
  | some p => exact ⟨p.1, p.2, rfl, h⟩
theorem Ev.boxGet (k : Nat) (hk : k ≤ 2 := by decide) (hN : X.N[0]? = some xb := by rfl) (hv : Vis X.env.scope xb := by first | exact Or.inl rfl | exact Or.inr (Or.inl rfl) | exact Or.inr (Or.inr rfl)) (hd : (xb == ("__debug__" : Str)) = false := by decide) (hcd : (xb == ("__classdict__" : Str)) = false := by decide) :
    Ev X ρ (.Subscript (.Name xb p) (.Constant (.int (k : Int)) j p2) pos) 1 (fun d => ∃ i, d = .int i ∧ Bb k i) := by
  refine pe_imp (pe_ix (ix_list (X := X)) (pe_var (i := 0) hN hv hd hcd) pe_int fun _ _ => rfl) fun σ H Q ⟨G, L, bx, x, hb, q⟩ => ?_
  obtain ⟨b, n, rfl, hn⟩ := bx_some hb (by decide)
  obtain ⟨_, _, h3, h4⟩ := x.box b n rfl
  obtain ⟨vs, i, g1, g2, g3, g4⟩ := h4.get (by omega) hk
  refine ⟨_, h3, b, vs, (k : Int), .int i, rfl, rfl, SqL.of g1, atI_nat g3, q _ H _ ((Stp.refl x).mono (fun _ z => z) (Nat.zero_le _)) ⟨i, rfl, g4⟩ (.dat (.int i))⟩
/-- the box changed -/
theorem Ctx.boxUp {K : PySem.W.Frag} {G L : List Addr} {b : Addr} {n m : Nat} {σ : L2.St} {H : Hp} {o : HO} (x : Ctx K G L (some (b, n)) σ H ρ) (h : BoxAt (upd H b o) b (n + m)) (ho : Hid (some o)) : Ctx K G L (some (b, n + m)) σ (upd H b o) ρ ∧ Stp [] (some (b, n)) m H (upd H b o) := by
  obtain ⟨g1, g2, g3, g4⟩ := x.box b n rfl
  have s : Stp [] (some (b, n)) m H (upd H b o) := ⟨fun a u _ nb e => by rw [upd_ne nb]; exact e, h⟩
  exact ⟨x.step s, s⟩
theorem Sv.boxSet (he : Ev X ρ e c (fun d => ∃ i, d = .int i ∧ 0 ≤ i)) (hc : 0 < c := by decide) (hs : swapsWithSole [.Subscript (.Name xb p) (.Constant (.int 0) j p2) pos'] e pos.line X.env = pure false := by rfl) (hw : swappedStores [.Subscript (.Name xb p) (.Constant (.int 0) j p2) pos'] e X.env = pure none := by rfl) (hN : X.N[0]? = some xb := by rfl)
    (hv : Vis X.env.scope xb := by first | exact Or.inl rfl | exact Or.inr (Or.inl rfl) | exact Or.inr (Or.inr rfl)) (hd : (xb == ("__debug__" : Str)) = false := by decide) (hcd : (xb == ("__classdict__" : Str)) = false := by decide)
    (ha : (assignEach [.Subscript (.Name xb p) (.Constant (.int 0) j p2) pos'] X.env).map (·.2) = [assign (.Subscript (.Name xb p) (.Constant (.int 0) j p2) pos') X.env] := by rfl) :
    Sv X ρ (.Assign [.Subscript (.Name xb p) (.Constant (.int 0) j p2) pos'] e pos) c (fun o => o = .nx ρ) := by
  refine ps_imp (ps_asg he (pg_sub (pe_var (i := 0) hN hv hd hcd) pe_int set_list) hs hw ha) fun Dn σ H ⟨G, L, bx, x, hb, qn, qr⟩ => ⟨G, L, bx, x, hb, fun v H1 d st p w => ?_⟩
  obtain ⟨b, n, rfl, hn⟩ := bx_some hb hc
  obtain ⟨i, rfl, hi⟩ := p
  have ev := w.int
  subst ev
  have x1 := x.step st
  obtain ⟨_, _, h3, h4⟩ := x1.box b (n + c) rfl
  obtain ⟨x0, y0, z0, h0, h1, h2, h5, h6, h7⟩ := h4
  refine ⟨_, h3, b, _, 0, 0, rfl, rfl, h0, rfl, ?_⟩
  have hB : BoxAt (upd H1 b (.lst ([V.int x0, .int y0, .int z0].set 0 (.int i)))) b (n + c + 0) := ⟨i, y0, z0, upd_same, hi, h2, h5, h6, by simpa using h7⟩
  obtain ⟨x2, s2⟩ := Ctx.boxUp (n := n + c) (m := 0) x1 hB trivial
  have s3 := st.trans (c' := 0) s2
  exact qn L σ _ ρ (s3.mono (fun _ z => by cases z) (Nat.le_refl _)) (fun _ z => z) (fun _ z => .inl z) rfl x2
theorem Sv.boxInc (hs : swapsWithSole [.Subscript (.Name xb p) (.Constant (.int 2) j p2) pos'] (.BinOp (.Subscript (.Name xb p3) (.Constant (.int 2) j2 p4) p5) .Add (.Constant (.int 1) j3 p6) p7) pos.line X.env = pure false := by rfl) (hw : swappedStores [.Subscript (.Name xb p) (.Constant (.int 2) j p2) pos'] (.BinOp (.Subscript (.Name xb p3) (.Constant (.int 2) j2 p4) p5) .Add (.Constant (.int 1) j3 p6) p7) X.env = pure none := by rfl) (hN : X.N[0]? = some xb := by rfl)
    (hv : Vis X.env.scope xb := by first | exact Or.inl rfl | exact Or.inr (Or.inl rfl) | exact Or.inr (Or.inr rfl)) (hd : (xb == ("__debug__" : Str)) = false := by decide) (hcd : (xb == ("__classdict__" : Str)) = false := by decide)
    (ha : (assignEach [.Subscript (.Name xb p) (.Constant (.int 2) j p2) pos'] X.env).map (·.2) = [assign (.Subscript (.Name xb p) (.Constant (.int 2) j p2) pos') X.env] := by rfl) :
    Sv X ρ (.Assign [.Subscript (.Name xb p) (.Constant (.int 2) j p2) pos'] (.BinOp (.Subscript (.Name xb p3) (.Constant (.int 2) j2 p4) p5) .Add (.Constant (.int 1) j3 p6) p7) pos) 1 (fun o => o = .nx ρ) := by
  refine ps_imp (ps_asg (pe_op op_add (pe_ix (ix_list (X := X)) (pe_var (i := 0) hN hv hd hcd) pe_int fun _ _ => rfl) pe_int) (pg_sub (pe_var (i := 0) hN hv hd hcd) pe_int set_list) hs hw ha) fun Dn σ H ⟨G, L, bx, x, hb, qn, qr⟩ => ?_
  obtain ⟨b, n, rfl, hn⟩ := bx_some hb (by decide)
  obtain ⟨_, _, h3, h4⟩ := x.box b n rfl
  obtain ⟨x0, y0, z0, h0, h1, h2, h5, h6, h7⟩ := h4
  refine ⟨_, h3, b, _, 2, .int z0, rfl, rfl, SqL.of h0, rfl, z0, 1, rfl, rfl, _, h3, b, _, 2, 2, rfl, rfl, h0, rfl, ?_⟩
  have hB : BoxAt (upd H b (.lst ([V.int x0, .int y0, .int z0].set 2 (.int (z0 + 1))))) b (n + 1) := ⟨x0, y0, z0 + 1, upd_same, h1, h2, h5, by omega, by omega⟩
  obtain ⟨x2, s2⟩ := Ctx.boxUp (n := n) (m := 1) x hB trivial
  exact qn L σ _ ρ (s2.mono (fun _ z => by cases z) (Nat.le_refl _)) (fun _ z => z) (fun _ z => .inl z) rfl x2
end
end Kl

set_option Elab.async false
set_option linter.all false
set_option maxRecDepth 100000
/-! The law's defs: taking from the box. -/
namespace Kl
open PySem PySem.Spec L2
/-- a whole number of which Q holds -/
abbrev Ei (X : Cx) (ρ : En) (e : Expr) (c : Nat) (Q : Int → Prop) : Prop := Ev X ρ e c (fun d => ∃ i, d = .int i ∧ Q i)
theorem OpOk.imp {X : Cx} {f : Value → Value → Sem Value} {d1 d2 : D} {P P' : D → Prop} (h : OpOk X f d1 d2 P) (hP : ∀ d, P d → P' d) : OpOk X f d1 d2 P' := fun M H x y Q al w1 w2 q => h M H x y Q al w1 w2 fun v H' d s p w => q v H' d s (hP d p) w
theorem CallOk.imp {X : Cx} {f : Value} {ds : List D} {P P' : D → Prop} (h : CallOk X f ds P) (hP : ∀ d, P d → P' d) : CallOk X f ds P' := fun M H xs Q al w q => h M H xs Q al w fun v H' d s p w => q v H' d s (hP d p) w
section
variable {X : Cx} {ρ : En} {a b e : Expr} {c c1 c2 : Nat} {Q Q1 Q2 : Int → Prop} {pos p : Pos}
theorem Ei.of {i : Int} (h : E1 X ρ e (.int i)) (q : Q i) : Ei X ρ e 0 Q := E1.ev h ⟨i, rfl, q⟩
theorem Ei.op {op : Operator} {g : Int → Int → Int} (ha : Ei X ρ a c1 Q1) (hb : Ei X ρ b c2 Q2) (ho : ∀ i j, Q1 i → Q2 j → OpOk X (binaryOp op) (.int i) (.int j) (· = .int (g i j))) (hq : ∀ i j, Q1 i → Q2 j → Q (g i j)) : Ei X ρ (.BinOp a op b pos) (c1 + c2) Q :=
  Ev.op (P2 := fun _ d => ∃ j, d = .int j ∧ Q2 j) ha (fun _ _ => hb) fun d1 d2 ⟨i, e1, q1⟩ ⟨j, e2, q2⟩ => by
    rw [e1, e2]
    exact (ho i j q1 q2).imp fun d z => ⟨_, z, hq i j q1 q2⟩
theorem Ei.int (ha : Ei X ρ a c Q) (hm : X.mg "int" = none) (hg : Gl X "int" := by rfl) (he : starEach [a] X.env = (false, eval a X.env) :: starEach [] X.env := by rfl) (hpl : (backTo pos (starEach [] X.env)).any (·.1) = false := by rfl) : Ei X ρ (.Call (.Name "int" p) [a] [] pos) c Q :=
  Ev.imp (Ev.callT (As.cons (c2 := 0) ha (fun _ _ => A1.nil) he) (P := fun d => ∃ i, d = .int i ∧ Q i) (fun ds ⟨d, r, e1, ⟨i, e2, q⟩, e3⟩ => by
    rw [e1, e2, e3]
    exact c_int.imp fun d z => ⟨i, z, q⟩) hm bt_int hg (by decide) (by decide) he hpl) (Nat.le_refl _) fun _ z => z
end
section
variable {P : Program} {w : World} {K : PySem.W.Frag} {mg : Str → Option Value} {base : Heap}
/-! _law_take -/
abbrev s43 : Stmt := topS 43
theorem sc43 : FnScope ["_law_box_here", "_law_size_so", "_law_drawn_so", "_law_once", "_law_far", "_law_again"] ["_law_box_here", "_law_size_so"] (defScope s43) := ⟨rfl, rfl, rfl, by decide +kernel, rfl, by decide +kernel, by decide +kernel⟩
abbrev sp_take (K : PySem.W.Frag) : Sp := spR K (τ := Nat) 10 (fun n => [.int n]) (fun n => 0 < n ∧ n < 1000) (fun n d => ∃ r : Nat, d = .int r ∧ r < n)
theorem ok_take {f : Addr} {fd : FuncData} (F : Fun K "_law_take" "_law_take" s43 f fd) (mI : mg "int" = none) : FnOk P w K mg base CX0 1 f fd ["_law_box_here", "_law_size_so"] (sp_take K) := by
  refine okR F sc43 (fun _ => rfl) (by decide) ?_
  rintro n ⟨hn, hn2⟩ cdv A outer s H E hr
  have modn : ∀ i : Int, ∃ r : Nat, PyData.int (i % (n : Int)) = .int r ∧ r < n := fun i => ⟨(i % (n : Int)).toNat, by rw [Int.toNat_of_nonneg (Int.emod_nonneg _ (by omega))], by have := Int.emod_lt_of_pos i (show (0 : Int) < n by omega); have := Int.emod_nonneg i (show (n : Int) ≠ 0 by omega); omega⟩
  refine Svs.imp (Svs.cons (c1 := 1 + 2) (c2 := 7) (O1 := fun o => (o = .nx [none, some (.dat (.int n)), none, none, none, none]) ∨ ∃ d, o = .rt d ∧ ∃ r : Nat, d = .int r ∧ r < n) (Sv.ifS (c1 := 1) (c2 := 2) (Tv.cmp (P := fun _ => True) (P2 := fun _ d => d = .int 0) (c2 := 0) (Ev.boxGet 0) (fun _ _ => E1.int) (fun d1 d2 ⟨i, e1, _⟩ e2 => by rw [e1, e2]; exact o_gt.imp fun d z => ⟨_, z, trivial⟩)) (fun _ => ?_) fun _ => ?_) ?_ ?_) (by decide) fun _ z => z
  · refine Svs.imp (Svs.asg (c1 := 1) (c2 := 1) 2 (Ei.op (Q := fun i => ∃ r : Nat, PyData.int i = .int r ∧ r < n) (c2 := 0) (Ei.int (Ev.boxGet 0) mI) (Ei.of (Q := fun i => i = n) (E1.var 1) rfl) (fun i j _ hj => o_mod (by rw [hj]; omega)) fun i j _ hj => by rw [hj]; exact modn i) sc43.nd fun d ⟨i, e1, r, e2, hr'⟩ => ?_) (by decide) fun _ z => z
    refine Svs.imp (Svs.cons (c1 := 1) (c2 := 0) (Sv.boxSet (Ei.op (c2 := 0) (Ev.boxGet 0) (Ei.of (Q := fun i => i = n) (E1.var 1) rfl) (fun i j _ hj => o_div (by rw [hj]; exact ⟨by omega, by omega⟩)) fun i j hi hj => by rw [hj]; exact Int.ediv_nonneg hi (by omega))) (fun ρ' z => ?_) fun d z => by cases z) (Nat.le_refl _) fun _ z => z
    cases z
    refine Svs.ret1 (E1.var 2) (.inr ⟨_, rfl, r, ?_, hr'⟩)
    rw [e1, e2]
  · exact Svs.imp (Svs.nil (.inl rfl)) (Nat.zero_le _) fun _ z => z
  · intro ρ' z
    rcases z with z | ⟨d, z, _⟩
    · cases z
      refine Svs.imp (Svs.cons (c1 := 1) (c2 := 6) Sv.boxInc (fun ρ' z => ?_) fun d z => by cases z) (by decide) fun _ z => z
      cases z
      refine Svs.imp (Svs.asg (c1 := 3) (c2 := 3) 3 (Ei.op (Q := fun i => 0 ≤ i ∧ i < 2147483647) (c2 := 0) (Ei.int (Ei.op (c1 := 2) (c2 := 1) (Q := fun _ => True) (Ei.op (c1 := 1) (c2 := 1) (Q := fun _ => True) (Ev.boxGet 1) (Ei.op (c1 := 0) (c2 := 1) (Q := fun _ => True) (Ei.of (Q := fun i => i = 48271) E1.int rfl) (Ev.boxGet 2) (fun i j hi _ => o_mul (.inl (by rw [hi]; decide))) fun _ _ _ _ => trivial) (fun _ _ _ _ => o_add) fun _ _ _ _ => trivial)
        (Ei.op (c1 := 0) (c2 := 1) (Q := fun i => 0 ≤ i ∧ i < 2000000) (Ei.of (Q := fun i => i = 39373) E1.int rfl) (Ev.boxGet 2) (fun _ _ _ _ => o_add) fun i j hi hj => by have : 0 ≤ j ∧ j ≤ 1000000 := hj; omega) (fun i j _ hj => o_mul (.inr (by omega))) fun _ _ _ _ => trivial) mI) (Ei.of (Q := fun i => i = 2147483647) E1.int rfl) (fun i j _ hj => o_mod (by omega)) fun i j _ hj => by rw [hj]; exact ⟨Int.emod_nonneg _ (by decide), Int.emod_lt_of_pos _ (by decide)⟩) sc43.nd fun d ⟨i, e1, hi⟩ => ?_) (by decide) fun _ z => z
      subst e1
      refine Svs.imp (Svs.asg (c1 := 0) (c2 := 3) 4 (Ei.op (c1 := 0) (c2 := 0) (Q := fun i => 0 ≤ i ∧ i < 40016) (Ei.op (c1 := 0) (c2 := 0) (Q := fun i => 0 ≤ i ∧ i < 40009) (Ei.int (Ei.of (Q := fun _ => True) (E1.var 3) trivial) mI) (Ei.of (Q := fun i => i = 40009) E1.int rfl) (fun i j _ hj => o_mod (by omega)) fun i j _ hj => by rw [hj]; exact ⟨Int.emod_nonneg _ (by decide), Int.emod_lt_of_pos _ (by decide)⟩) (Ei.of (Q := fun i => i = 7) E1.int rfl) (fun _ _ _ _ => o_add) fun i j hi hj => by omega) sc43.nd fun d ⟨k, e1, hk⟩ => ?_) (by decide) fun _ z => z
      subst e1
      refine Svs.imp (Svs.asg (c1 := 2) (c2 := 0) 5 (Ei.op (c1 := 2) (c2 := 0) (Q := fun i => 0 ≤ i ∧ i < 2147483629) (Ei.int (Ei.op (c1 := 2) (c2 := 0) (Q := fun _ => True) (Ei.op (c1 := 1) (c2 := 1) (Q := fun _ => True) (Ei.op (c1 := 0) (c2 := 1) (Q := fun _ => True) (Ei.of (Q := fun _ => True) (E1.var 3) trivial) (Ev.boxGet 2) (fun _ _ _ _ => o_add) fun _ _ _ _ => trivial) (Ei.op (c1 := 1) (c2 := 0) (Q := fun _ => True) (Ev.boxGet 1) (Ei.of (Q := fun i => i = 1000003) E1.int rfl) (fun i j _ hj => o_div (by rw [hj]; exact ⟨by decide, by decide⟩)) fun _ _ _ _ => trivial) (fun _ _ _ _ => o_add) fun _ _ _ _ => trivial)
        (Ei.of (Q := fun i => 0 ≤ i ∧ i < 40016) (E1.var 4) hk) (fun i j _ hj => o_mul (.inr (by omega))) fun _ _ _ _ => trivial) mI) (Ei.of (Q := fun i => i = 2147483629) E1.int rfl) (fun i j _ hj => o_mod (by omega)) fun i j _ hj => by rw [hj]; exact ⟨Int.emod_nonneg _ (by decide), Int.emod_lt_of_pos _ (by decide)⟩) sc43.nd fun d ⟨m, e1, hm⟩ => ?_) (by decide) fun _ z => z
      subst e1
      exact Svs.ret (Ei.op (c1 := 0) (c2 := 0) (Q := fun i => ∃ r : Nat, PyData.int i = .int r ∧ r < n) (Ei.int (Ei.op (c1 := 0) (c2 := 0) (Q := fun _ => True) (Ei.op (c1 := 0) (c2 := 0) (Q := fun _ => True) (Ei.int (Ei.op (c1 := 0) (c2 := 0) (Q := fun _ => True) (Ei.op (c1 := 0) (c2 := 0) (Q := fun _ => True) (Ei.of (Q := fun _ => True) (E1.var 5) trivial) (Ei.of (Q := fun i => i = 48271) E1.int rfl) (fun i j _ hj => o_mul (.inr (by omega))) fun _ _ _ _ => trivial) (Ei.of (Q := fun _ => True) (E1.var 3) trivial) (fun _ _ _ _ => o_add) fun _ _ _ _ => trivial) mI) (Ei.of (Q := fun i => i = 2147483587) E1.int rfl) (fun i j _ hj => o_mod (by omega)) fun _ _ _ _ => trivial)
        (Ei.of (Q := fun i => i = 64) E1.int rfl) (fun i j _ hj => o_div (by rw [hj]; exact ⟨by decide, by decide⟩)) fun _ _ _ _ => trivial) mI) (Ei.of (Q := fun i => i = n) (E1.var 1) rfl) (fun i j _ hj => o_mod (by rw [hj]; omega)) fun i j _ hj => by rw [hj]; exact modn i) fun d ⟨i, e1, r, e2, hr'⟩ => ⟨r, by rw [e1, e2], hr'⟩
    · cases z
  · intro d z
    rcases z with z | ⟨d', z, h⟩
    · cases z
    · cases z
      exact h
end
end Kl

set_option Elab.async false
set_option linter.all false
set_option maxRecDepth 100000
/-! The law's defs: one of them, some of them. -/
namespace Kl
open PySem PySem.Spec L2
section
variable {P : Program} {w : World} {K : PySem.W.Frag} {mg : Str → Option Value} {base : Heap}
/-! _law_of -/
abbrev s45 : Stmt := topS 45
theorem sc45 : FnScope ["_law_box_here", "_law_goods_so"] ["_law_box_here", "_law_goods_so"] (defScope s45) := ⟨rfl, rfl, rfl, by decide +kernel, rfl, by decide +kernel, by decide +kernel⟩
abbrev sp_of (K : PySem.W.Frag) : Sp := spR K (τ := List D) 10 (fun ds => [.list ds]) (fun ds => 0 < ds.length ∧ ds.length < 1000) (fun ds d => d ∈ ds)
theorem ok_of {f : Addr} {fd : FuncData} (F : Fun K "_law_of" "_law_of" s45 f fd) (mL : mg "len" = none) (F43 : Fn P w K mg base 1 "_law_take" ["_law_box_here", "_law_size_so"] (sp_take K)) : FnOk P w K mg base CX0 2 f fd ["_law_box_here", "_law_goods_so"] (sp_of K) := by
  refine okR F sc45 (fun _ => rfl) (by decide) ?_
  rintro ds ⟨h0, h1⟩ cdv A outer s H E hr
  refine Svs.ret (Ev.ix (c1 := 0) (c2 := 10) (P1 := fun d => d = .list ds) (P2 := fun _ d => ∃ r : Nat, d = .int r ∧ r < ds.length) (P := fun d => d ∈ ds) (E1.var 1) (fun _ _ => Ev.callR (c := 0) (cf := 10) F43 hr (A1.cons (E1.callB (A1.cons (E1.var 1) A1.nil) c_len mL bt_len) A1.nil) (fun ys hy => ⟨ds.length, hy, ⟨h0, h1⟩, fun d h => h⟩)) fun d1 d2 e1 ⟨r, e2, hr'⟩ => ?_) fun d h => h
  rw [e1, e2]
  intro M H x y Q al w1 w2 q
  exact x_nat (X := _) (.inr rfl) (List.getElem?_eq_getElem hr') rfl M H x y Q al w1 w2 fun v H' d s p w => q v H' d s (by rw [p]; exact List.getElem_mem hr') w
/-! _law_pick -/
abbrev s46 : Stmt := topS 46
theorem sc46 : FnScope ["_law_box_here", "_law_goods_so", "_law_count_so", "_law_pool_so", "_law_found", "_law_lap"] ["_law_box_here", "_law_goods_so", "_law_count_so"] (defScope s46) := ⟨rfl, rfl, rfl, by decide +kernel, rfl, by decide +kernel, by decide +kernel⟩
/-- ys are some of ds, so many -/
def PickOf (ds : List D) (m : Nat) (ys : List D) : Prop := ∃ rest, (ys ++ rest).Perm ds ∧ ys.length = min m ds.length
abbrev sp_pick (K : PySem.W.Frag) : Sp := spR K (τ := List D × Nat) 200 (fun t => [.list t.1, .int t.2]) (fun t => t.1.length ≤ 20 ∧ t.2 ≤ 100) (fun t d => ∃ ys, d = .list ys ∧ PickOf t.1 t.2 ys)
theorem perm_erase {α : Type} {ps : List α} {k : Nat} {d : α} (h : ps[k]? = some d) : (d :: ps.eraseIdx k).Perm ps := by
  induction ps generalizing k with
  | nil => cases h
  | cons p ps ih =>
    cases k with
    | zero => cases h; exact List.Perm.refl _
    | succ k =>
      have := ih (by simpa using h)
      exact (List.Perm.swap p d _).trans (this.cons p)
theorem ok_pick {f : Addr} {fd : FuncData} (F : Fun K "_law_pick" "_law_pick" s46 f fd) (mL : mg "len" = none) (mI : mg "int" = none) (mM : mg "min" = none) (mR : mg "range" = none) (mLi : mg "list" = none) (F43 : Fn P w K mg base 1 "_law_take" ["_law_box_here", "_law_size_so"] (sp_take K)) : FnOk P w K mg base CX0 2 f fd ["_law_box_here", "_law_goods_so", "_law_count_so"] (sp_pick K) := by
  refine okR F sc46 (fun _ => rfl) (by decide) ?_
  rintro ⟨ds, m⟩ ⟨hl, hm⟩ cdv A outer s H E hr
  have hl : ds.length ≤ 20 := hl
  have hm : m ≤ 100 := hm
  refine Svs.par 3 4 (G1.list (E1.var 1) mLi) (G1.lst L1.nil) rfl sc46.nd rfl ?_
  have hsz : sizeLine = 16777216 := rfl
  refine Svs.imp (Svs.forN (ys := rangeD (min m ds.length)) (c0 := 10) (ct := 200) (c := 0) 5 (fun i ρ' => ∃ ps ys s5, ρ' = [none, some (.dat (.list ds)), some (.dat (.int m)), some (.own (.l ps)), some (.own (.l ys)), s5] ∧ (ys ++ ps).Perm ds ∧ ys.length = i ∧ i ≤ min m ds.length)
    (I1.range (n := min m ds.length) (E1.cast (E1.callB (A1.cons (E1.callT (A1.cons (E1.var 2) A1.nil) c_int mI bt_int) (A1.cons (E1.flat 3 (d := .list ds) (E1.callB (A1.cons (E1.var 3) A1.nil) c_len mL bt_len)) A1.nil)) (c_min2 rfl) mM bt_min) (by
      congr 1
      split <;> omega)) (by omega) mR) ⟨ds, [], none, rfl, List.Perm.refl _, rfl, Nat.zero_le _⟩ ?_ ?_ (by rw [rangeD_len]; omega) PassesOwn.never sc46.nd) (Nat.le_refl _) fun _ z => z
  · rintro i d ρ' hi ⟨ps, ys, s5, rfl, hp, hy, hil⟩
    have lt : i < min m ds.length := by
      have := (List.getElem?_eq_some_iff.mp hi).1
      rwa [rangeD_len] at this
    have lp := hp.length_eq
    rw [List.length_append] at lp
    have p0 : 0 < ps.length := by omega
    refine Svs.imp (Svs.cons (c1 := 10) (c2 := 0) (Sv.appendPop 4 3 rfl rfl (Ev.callR (c := 0) (cf := 10) F43 hr (A1.cons (E1.flat 3 (d := .list ps) (E1.callB (A1.cons (E1.var 3) A1.nil) c_len mL bt_len)) A1.nil) (fun zs hz => ⟨ps.length, hz, ⟨p0, by omega⟩, fun d h => h⟩)) (by omega) (by omega)) (fun ρ' z => ?_) fun d z => by obtain ⟨_, _, _, z⟩ := z; cases z) (by decide) fun _ z => z
    obtain ⟨k, y, hk, z⟩ := z
    cases z
    refine Svs.nil ⟨ps.eraseIdx k, ys ++ [y], _, rfl, ?_, by rw [List.length_append, hy]; rfl, lt⟩
    rw [List.append_assoc]
    exact ((perm_erase hk).append_left ys).trans hp
  · rintro ρ' ⟨ps, ys, s5, rfl, hp, hy, _⟩
    rw [rangeD_len] at hy
    exact Svs.freeze 4 (Svs.ret1 (E1.var 4) ⟨_, rfl, ys, rfl, ps, hp, hy⟩)
end
end Kl

set_option Elab.async false
set_option linter.all false
set_option maxRecDepth 100000
/-! The law's defs: sets, cuts, purses. -/
namespace Kl
open PySem PySem.Spec L2
section
variable {P : Program} {w : World} {K : PySem.W.Frag} {mg : Str → Option Value} {base : Heap}
/-! _law_sets -/
abbrev s48 : Stmt := topS 48
theorem sc48 : FnScope ["_law_goods_so", "_law_found", "_law_own", "_law_some_so"] ["_law_goods_so"] (defScope s48) := ⟨rfl, rfl, rfl, by decide +kernel, rfl, by decide +kernel, by decide +kernel⟩
abbrev sp_sets (K : PySem.W.Frag) : Sp := spP K (τ := List Nm) (fun ns => [nmsL ns]) (fun ns => ns.length ≤ 8) (fun ns d => d = .list ((subs ns).map keyD))
theorem ok_sets {f : Addr} {fd : FuncData} (F : Fun K "_law_sets" "_law_sets" s48 f fd) (mS : mg "sorted" = none) : FnOk P w K mg base CX0 1 f fd ["_law_goods_so"] (sp_sets K) := by
  refine okP F sc48 (fun _ => rfl) (by decide) fun ns hn cdv A outer s H E hr => ?_
  have hlen : ∀ i, (rawSubs (ns.take i)).length ≤ 256 := fun i => by
    rw [rawSubs_len]
    exact two_pow8 (by rw [List.length_take]; omega)
  refine Svs.asg1 1 (E1.lst (L1.cons (E1.tup L1.nil) L1.nil)) sc48.nd ?_
  refine Svs.imp (Svs.forN (ys := ns.map .str) (c0 := 0) (ct := 0) (c := 0) 2 (fun i ρ' => ∃ s2, ρ' = [some (.dat (nmsL ns)), some (.dat (.list ((rawSubs (ns.take i)).map keyD))), s2, none]) (I1.list (E1.var 0)) ⟨none, rfl⟩ ?_ ?_ (by simp) PassesOwn.never sc48.nd) (Nat.le_refl _) fun _ z => z
  · rintro i d ρ' hi ⟨s2, rfl⟩
    rw [List.getElem?_map] at hi
    obtain ⟨x, hx, rfl⟩ := Option.map_eq_some_iff.mp hi
    have tk : ns.take (i + 1) = ns.take i ++ [x] := by rw [List.take_add_one, hx]; rfl
    have h1 := hlen i
    refine Svs.asg1 1 (E1.op (E1.var 1) (E1.lcN (xs := rawSubs (ns.take i)) (en := keyD) (f := fun o => keyD (o ++ [x])) 3 (I1.list (E1.var 1)) (fun o ho _ _ _ _ _ => ?_) (Nat.le_trans h1 (by decide)) sc48.nd) (o_cat ?_)) sc48.nd (Svs.nil ⟨some (.dat (.str x)), ?_⟩)
    · have e : keyD (o ++ [x]) = .tuple (o.map .str ++ [.str x]) := by simp [keyD]
      rw [e]
      refine E1.op (E1.var 3) (E1.tup (L1.cons (E1.var 2) L1.nil) (by show 1 ≤ sizeLine; decide)) (o_catT ?_ (isHold_snoc o x))
      have h3 := (mem_rawSubs ho).length_le
      rw [List.length_take] at h3
      rw [List.length_map]
      have : sizeLine = 2 ^ 24 := rfl
      show o.length + 1 ≤ sizeLine
      omega
    · rw [List.length_map, List.length_map]
      exact Nat.le_trans (Nat.add_le_add h1 h1) (by decide)
    · rw [tk, rawSubs_snoc, List.map_append, List.map_map]
      rfl
  · rintro ρ' ⟨s2, rfl⟩
    rw [List.length_map, List.take_of_length_le (Nat.le_refl _)]
    exact Svs.ret1 (E1.callB (A1.cons (E1.var 1) A1.nil) (c_sorted (keyD_alike _) (canKeys _ (rawSubs_nil ns)) (by rw [rawSubs_len]; exact Nat.le_trans (two_pow8 hn) (by decide)) (fun k _ => depth_keyD k) hr.units) mS bt_sorted) rfl
/-! _law_have -/
abbrev s49 : Stmt := topS 49
theorem sc49 : FnScope ["_law_web_here", "_law_kit", "_law_some_so", "_law_much", "_law_own"] ["_law_web_here", "_law_kit", "_law_some_so"] (defScope s49) := ⟨rfl, rfl, rfl, by decide +kernel, rfl, by decide +kernel, by decide +kernel⟩
abbrev sp_have (K : PySem.W.Frag) : Sp := spP K (τ := Net × List Nm × List Nm) (fun t => [netD t.1, nmsT t.2.1, nmsT t.2.2]) (fun t => NetOk t.1) (fun t d => d = .int (valueOf t.1 t.2.1 t.2.2))
abbrev cutL (ks far : List Nm) (l : Line) : Bool := decide (l.key ∈ ks) && (decide (l.goal ∈ far) && decide (¬l.start ∈ far))
theorem ok_have {f : Addr} {fd : FuncData} (F : Fun K "_law_have" "_law_have" s49 f fd) (mS : mg "sum" = none) : FnOk P w K mg base CX0 1 f fd ["_law_web_here", "_law_kit", "_law_some_so"] (sp_have K) := by
  refine okP F sc49 (fun _ => rfl) (by decide) ?_
  rintro ⟨n, ks, far⟩ hn cdv A outer s H E hr
  have hn : NetOk n := hn
  refine Svs.asg1 3 (E1.callB (A1.cons (E1.lcNIf (xs := n.yards) (en := yardD) (q := fun y => decide (y.1 ∈ far)) (f := fun y => .int y.2) 4 (I1.tup (E1.ix (E1.var 0) E1.int (x_t 0))) (fun y _ _ _ _ _ _ => T1.cmp (E1.ix (E1.var 4) E1.int (x_t 0)) (E1.var 2) o_in) (fun y _ _ _ _ _ _ _ => E1.ix (E1.var 4) E1.int (x_t 1)) (Nat.le_trans hn.y (by decide)) sc49.nd) A1.nil) (c_sumF _ _ rfl) mS bt_sum) sc49.nd ?_
  refine Svs.imp (Svs.forN (ys := n.lines.map lineD) (c0 := 0) (ct := 0) (c := 0) 4 (fun i ρ' => ∃ s4, ρ' = [some (.dat (netD n)), some (.dat (nmsT ks)), some (.dat (nmsT far)), some (.dat (.int (((n.yards.filter fun y => decide (y.1 ∈ far)).map (·.2)).sum + (((n.lines.take i).filter (cutL ks far)).map (·.most)).sum))), s4]) (I1.tup (E1.ix (E1.var 0) E1.int (x_t 1))) ⟨none, by rw [List.take_zero, List.filter_nil, List.map_nil, List.sum_nil, Int.add_zero]; rfl⟩ ?_ ?_ (by simp) PassesOwn.never sc49.nd) (Nat.le_refl _) fun _ z => z
  · rintro i d ρ' hi ⟨s4, rfl⟩
    rw [List.getElem?_map] at hi
    obtain ⟨l, hl, rfl⟩ := Option.map_eq_some_iff.mp hi
    have tk : n.lines.take (i + 1) = n.lines.take i ++ [l] := by rw [List.take_add_one, hl]; rfl
    refine Svs.imp (Svs.cons (c1 := 0) (c2 := 0) (O1 := fun o => o = .nx [some (.dat (netD n)), some (.dat (nmsT ks)), some (.dat (nmsT far)), some (.dat (.int (((n.yards.filter fun y => decide (y.1 ∈ far)).map (·.2)).sum + (((n.lines.take (i + 1)).filter (cutL ks far)).map (·.most)).sum))), some (.dat (lineD l))])
      (Sv.ifS (c1 := 0) (c2 := 0) (W1.t (W1.and (l := decide (l.goal ∈ far) && decide (¬l.start ∈ far)) (T1.cmp (E1.ix (E1.var 4) E1.int (x_t 4)) (E1.var 1) o_in) fun _ => W1.and (T1.cmp (E1.ix (E1.var 4) E1.int (x_t 2)) (E1.var 2) o_in) fun _ => W1.and1 (T1.cmp (E1.ix (E1.var 4) E1.int (x_t 1)) (E1.var 2) o_notIn))) (fun z => ?_) fun z => ?_) (fun ρ' z => ?_) fun d z => by cases z) (Nat.le_refl _) fun _ z => z
    · refine Svs.asg1 3 (E1.op (E1.var 3) (E1.ix (E1.var 4) E1.int (x_t 3)) o_add) sc49.nd (Svs.nil ?_)
      rw [tk, List.filter_append, List.map_append, List.sum_append]
      have e : [l].filter (cutL ks far) = [l] := by
        have z : cutL ks far l = true := z.symm
        simp [z]
      rw [e, List.map_singleton, List.sum_cons, List.sum_nil, Int.add_zero, ← Int.add_assoc]
      rfl
    · refine Svs.nil ?_
      rw [tk, List.filter_append, List.map_append, List.sum_append]
      have e : [l].filter (cutL ks far) = [] := by
        have z : cutL ks far l = false := z.symm
        simp [z]
      rw [e, List.map_nil, List.sum_nil, Int.add_zero]
      rfl
    · cases z
      exact Svs.nil ⟨_, rfl⟩
  · rintro ρ' ⟨s4, rfl⟩
    rw [List.length_map, List.take_of_length_le (Nat.le_refl _)]
    exact Svs.ret1 (E1.var 3) rfl
/-! _law_want -/
/-- numbers, as a tuple or as a list -/
def lotF (b : Bool) (lot : List Int) : D := if b then lotD lot else .list (lot.map .int)
abbrev s50 : Stmt := topS 50
theorem sc50 : FnScope ["_law_web_here", "_law_bits_so", "_law_some_so", "_law_own", "_law_bit"] ["_law_web_here", "_law_bits_so", "_law_some_so"] (defScope s50) := ⟨rfl, rfl, rfl, by decide +kernel, rfl, by decide +kernel, by decide +kernel⟩
abbrev sp_want (K : PySem.W.Frag) : Sp := spP K (τ := Net × Bool × List Int × List Nm) (fun t => [netD t.1, lotF t.2.1 t.2.2.1, nmsT t.2.2.2]) (fun t => NetOk t.1) (fun t d => d = .int (partIn t.1 t.2.2.1 t.2.2.2))
theorem ok_want {f : Addr} {fd : FuncData} (F : Fun K "_law_want" "_law_want" s50 f fd) (mS : mg "sum" = none) (mZ : mg "zip" = none) : FnOk P w K mg base CX0 1 f fd ["_law_web_here", "_law_bits_so", "_law_some_so"] (sp_want K) := by
  refine okP F sc50 (fun _ => rfl) (by decide) ?_
  rintro ⟨n, b, lot, far⟩ hn cdv A outer s H E hr
  have hn : NetOk n := hn
  have hz : (n.custs.zip lot).length ≤ sizeLine := by
    rw [List.length_zip]
    exact Nat.le_trans (Nat.min_le_left _ _) (Nat.le_trans hn.c (by decide))
  refine Svs.ret1 (E1.callB (A1.cons (E1.lcPIf (xs := n.custs.zip lot) (e1 := fun p => custD p.1) (e2 := fun p => .int p.2) (q := fun p => decide (p.1.2 ∈ far)) (f := fun p => .int p.2) 3 4 ?_
    (fun y _ _ _ _ _ _ => T1.cmp (E1.ix (E1.var 3) E1.int (x_t 1)) (E1.var 2) o_in) (fun y _ _ _ _ _ _ _ => E1.var 4) hz sc50.nd) A1.nil) (c_sumF _ _ rfl) mS bt_sum) rfl
  rw [← zipD_map]
  cases b with
  | true => exact I1.zipTT (E1.ix (E1.var 0) E1.int (x_t 2)) (E1.var 1) (zipD_no fun _ _ => rfl) mZ
  | false => exact I1.zipTL (E1.ix (E1.var 0) E1.int (x_t 2)) (E1.var 1) (zipD_no fun _ _ => rfl) mZ
/-! _law_go -/
abbrev s51 : Stmt := topS 51
theorem sc51 : FnScope ["_law_web_here", "_law_kit", "_law_bits_so", "_law_some_so", "_law_own"] ["_law_web_here", "_law_kit", "_law_bits_so"] (defScope s51) := ⟨rfl, rfl, rfl, by decide +kernel, rfl, by decide +kernel, by decide +kernel⟩
abbrev sp_go (K : PySem.W.Frag) : Sp := spP K (τ := Net × List Nm × Bool × List Int) (fun t => [netD t.1, nmsT t.2.1, lotF t.2.2.1 t.2.2.2]) (fun t => NetOk t.1) (fun t d => d = .bool (goesB t.1 t.2.1 t.2.2.2))
theorem ok_go {f : Addr} {fd : FuncData} (F : Fun K "_law_go" "_law_go" s51 f fd) (F48 : Fn P w K mg base 1 "_law_sets" ["_law_goods_so"] (sp_sets K)) (F49 : Fn P w K mg base 1 "_law_have" ["_law_web_here", "_law_kit", "_law_some_so"] (sp_have K)) (F50 : Fn P w K mg base 1 "_law_want" ["_law_web_here", "_law_bits_so", "_law_some_so"] (sp_want K)) :
    FnOk P w K mg base CX0 2 f fd ["_law_web_here", "_law_kit", "_law_bits_so"] (sp_go K) := by
  refine okP F sc51 (fun _ => rfl) (by decide) ?_
  rintro ⟨n, ks, b, lot⟩ hn cdv A outer s H E hr
  have hn : NetOk n := hn
  refine Svs.imp (Svs.forN (ys := (subs (yardsOf n)).map keyD) (c0 := 0) (ct := 0) (c := 0) 3 (fun i ρ' => (∃ s3, ρ' = [some (.dat (netD n)), some (.dat (nmsT ks)), some (.dat (lotF b lot)), s3, none]) ∧ ∀ far ∈ (subs (yardsOf n)).take i, partIn n lot far ≤ valueOf n ks far)
    (I1.list (E1.callF F48 hr (A1.cons (E1.cast (E1.lcN (xs := n.yards) (en := yardD) (f := fun y => .str y.1) 4 (I1.tup (E1.ix (E1.var 0) E1.int (x_t 0))) (fun y _ _ _ _ _ _ => E1.ix (E1.var 4) E1.int (x_t 0)) (Nat.le_trans hn.y (by decide)) sc51.nd) (d' := nmsL (yardsOf n)) (by simp [nmsL, yardsOf])) A1.nil) (yardsOf n) rfl hn.yards fun d h => h)) ⟨⟨none, rfl⟩, fun far z => by rw [List.take_zero] at z; cases z⟩ ?_ ?_ (by simp) PassesOwn.never sc51.nd) (Nat.le_refl _) fun _ z => z
  · rintro i d ρ' hi ⟨⟨s3, rfl⟩, hp⟩
    rw [List.getElem?_map] at hi
    obtain ⟨far, hx, rfl⟩ := Option.map_eq_some_iff.mp hi
    have tk : (subs (yardsOf n)).take (i + 1) = (subs (yardsOf n)).take i ++ [far] := by rw [List.take_add_one, hx]; rfl
    refine Svs.ifS (k := decide (partIn n lot far > valueOf n ks far)) (T1.cmp (E1.callF F50 hr (A1.cons (E1.var 0) (A1.cons (E1.var 2) (A1.cons (E1.var 3) A1.nil))) (n, b, lot, far) rfl hn fun d h => h) (E1.callF F49 hr (A1.cons (E1.var 0) (A1.cons (E1.var 1) (A1.cons (E1.var 3) A1.nil))) (n, ks, far) rfl hn fun d h => h) o_gt) (fun z => ?_) (fun z => ?_) rfl
    · refine Svs.ret1 E1.bl ⟨_, rfl, ?_⟩
      have z := of_decide_eq_true z
      have : goesB n ks lot = false := by
        unfold goesB
        rw [List.all_eq_false]
        exact ⟨far, List.mem_of_getElem? hx, by simp only [decide_eq_true_eq]; omega⟩
      show PyData.bool false = .bool (goesB n ks lot)
      rw [this]
    · refine Svs.nil ⟨⟨_, rfl⟩, fun q hq => ?_⟩
      rw [tk, List.mem_append] at hq
      rcases hq with hq | hq
      · exact hp q hq
      · rw [List.mem_singleton.mp hq]
        have z := of_decide_eq_false z
        omega
  · rintro ρ' ⟨⟨s3, rfl⟩, hp⟩
    rw [List.length_map, List.take_of_length_le (Nat.le_refl _)] at hp
    refine Svs.ret1 E1.bl ?_
    have : goesB n ks lot = true := by
      unfold goesB
      rw [List.all_eq_true]
      exact fun far h => decide_eq_true (hp far h)
    show PyData.bool true = .bool (goesB n ks lot)
    rw [this]
/-! _law_purse -/
abbrev s52 : Stmt := topS 52
theorem sc52 : FnScope ["_law_crew_here", "_law_band", "_law_found", "_law_tag", "_law_kit"] ["_law_crew_here", "_law_band"] (defScope s52) := ⟨rfl, rfl, rfl, by decide +kernel, rfl, by decide +kernel, by decide +kernel⟩
abbrev sp_purse (K : PySem.W.Frag) : Sp := spP K (τ := Hold × Bool × List Nm) (fun t => [holdD t.1, seqS t.2.1 t.2.2]) (fun t => HoldOk t.1) (fun t d => d = nmsT (heldBy t.1 t.2.2))
abbrev heldRaw (h : Hold) (g : List Nm) : List Nm := (h.filter fun p => decide (p.1 ∈ g)).flatMap (·.2)
theorem heldRaw_len {h : Hold} (hh : HoldOk h) (g : List Nm) (i : Nat) : (heldRaw (h.take i) g).length ≤ 400 := by
  refine Nat.le_trans ?_ (hold_len hh)
  exact len_ff (fun p : Nm × List Nm => decide (p.1 ∈ g)) (·.2) h i
theorem ok_purse {f : Addr} {fd : FuncData} (F : Fun K "_law_purse" "_law_purse" s52 f fd) (mT : mg "tuple" = none) (m1 : mg "sorted" = none) (m2 : mg "set" = none) (mLi : mg "list" = none) : FnOk P w K mg base CX0 1 f fd ["_law_crew_here", "_law_band"] (sp_purse K) := by
  refine okP F sc52 (fun _ => rfl) (by decide) ?_
  rintro ⟨h, b, g⟩ hh cdv A outer s H E hr
  have hh : HoldOk h := hh
  refine Svs.asg1 2 (E1.lst L1.nil) sc52.nd ?_
  refine Svs.imp (Svs.forP (xs := h) (e1 := fun p : Nm × List Nm => PyData.str p.1) (e2 := fun p : Nm × List Nm => nmsT p.2) (c0 := 0) (ct := 0) (c := 0) 3 4 (fun i ρ' => ∃ s3 s4, ρ' = [some (.dat (holdD h)), some (.dat (seqS b g)), some (.dat (nmsL (heldRaw (h.take i) g))), s3, s4]) (I1.tup (E1.var 0)) ⟨none, none, rfl⟩ ?_ ?_ (by simp) PassesOwn.never sc52.nd) (Nat.le_refl _) fun _ z => z
  · rintro i p ρ' hi ⟨s3, s4, rfl⟩
    have tk : h.take (i + 1) = h.take i ++ [p] := by rw [List.take_add_one, hi]; rfl
    have l1 := heldRaw_len hh g i
    have l2 := hh.k p (List.mem_of_getElem? hi)
    refine Svs.asg1 2 (E1.op (E1.var 2) (E1.ifExp (d := nmsL (heldRaw [p] g)) (T1.cmp (E1.var 3) (E1.var 1) (o_in (seqS_or b g))) (fun z => E1.cast (E1.callT (A1.cons (E1.var 4) A1.nil) c_list mLi bt_list) ?_) fun z => E1.cast (E1.lst L1.nil) ?_) (o_cat ?_)) sc52.nd (Svs.nil ⟨some (.dat (.str p.1)), some (.dat (nmsT p.2)), ?_⟩)
    · have z := of_decide_eq_true z
      simp [heldRaw, nmsL, z]
    · have z := of_decide_eq_false z
      simp [heldRaw, nmsL, z]
    · have l3 : (heldRaw [p] g).length ≤ 50 := by
        have := len_ff (fun p : Nm × List Nm => decide (p.1 ∈ g)) (·.2) [p] 1
        simp only [List.take_succ_cons, List.take_nil, List.flatMap_cons, List.flatMap_nil, List.append_nil] at this
        exact Nat.le_trans this l2
      rw [List.length_map, List.length_map]
      exact Nat.le_trans (Nat.add_le_add l1 l3) (by decide)
    · rw [tk]
      have e : heldRaw (h.take i ++ [p]) g = heldRaw (h.take i) g ++ heldRaw [p] g := by
        unfold heldRaw
        rw [List.filter_append, List.flatMap_append]
      rw [e]
      show _ = [_, _, some (Sl.dat (.list ((heldRaw (h.take i) g ++ heldRaw [p] g).map .str))), _, _]
      rw [List.map_append]
      rfl
  · rintro ρ' ⟨s3, s4, rfl⟩
    have l1 := heldRaw_len hh g h.length
    rw [List.take_of_length_le (Nat.le_refl _)] at l1 ⊢
    exact Svs.ret1 (E1.callT (A1.cons (E1.sortedSet (E1.var 2) (Nat.le_trans l1 (by decide)) hr.units m1 m2) A1.nil) c_tuple mT bt_tuple) rfl
end
end Kl

set_option Elab.async false
set_option linter.all false
set_option maxRecDepth 100000
set_option maxHeartbeats 4000000
/-! sorted(set(a tuple of texts)). -/
namespace Kl
open PySem PySem.Spec L2
section
variable {P : Program} {w : World} {A : Around} {E : Value → Shared → Prop} {s : Shared}
open PyProof.Rows in
theorem call_set_txtT {l : Addr} {its : Array Value} (xs : List Str) {Q : Value → Shared → Prop} (hh : A.handled = none) (hl : s.heap.IsTuple l its) (hit : Vals (xs.map V.str) its.toList) (hfew : xs.length + 1 < scanBound)
    (h : ∀ (h' : Heap) (tk : Nat), SetSt w h' s.heap.objs.size (fun y => y ∈ xs) xs.length → (∀ b o, s.heap.get? b = some o → h'.get? b = some o) → Q (.ref s.heap.objs.size) { s with heap := h', toks := tk }) :
    wpAny (model P w) A (call (.type "set") [.ref l]) Q E s := by
  have hsz : its.size = xs.length := by
    have q := Vals.length hit
    simp only [List.length_map, Array.length_toList] at q
    exact q.symm
  obtain ⟨c, tl, hmro⟩ := F.called_set.mro
  have hmade := F.called_set.made
  have hsub := F.called_set.sub
  refine wpAny_call (codeAny_of_tree ?_)
  show wpAny _ _ (callAny (.type "set") _) _ _ _
  refine wpAny_pure ⟨Code.quiet_builtin _ (by decide +kernel), codeAny_builtin F.entry_type_call ?_⟩
  rw [Around.under_plain (weight_type_call_type "set" [.ref l] []) rfl]
  have notT := F.called_set.notType
  have canC := F.called_set.canCreate
  have hct := F.typeCall_set_1 (.ref l)
  repeat (any_goals (first | assumption | wp_step))
  refine codeAny_mono (code_set_led1 (.ref l) (E := E) (Q₁ := fun ob s₁ => ob = .ref s.heap.objs.size ∧ s₁ = { s with heap := s.heap.push (newSet w) }) ⟨rfl, rfl⟩) fun r s₁ hr => ?_
  cases r with
  | error e => exact hr
  | ok fl =>
    cases fl with
    | ret obj =>
      obtain ⟨rfl, rfl⟩ := hr
      have hS : (s.heap.push (newSet w)).get? s.heap.objs.size = some (newSet w) := Heap.get?_push_size _ rfl
      have hT : Shared.TypeIs { s with heap := s.heap.push (newSet w) } (.ref s.heap.objs.size) "set" := ⟨_, hS, rfl⟩
      have hli := F.called_set.init.lookup
      have hbi := F.called_set.init.bind (.ref s.heap.objs.size)
      repeat (any_goals (first | assumption | wp_step))
      refine codeAny_mono (codeAny_call_builtin (R := wants (fun r s₂ => r = .none ∧ ∃ h' tk, s₂ = { s with heap := h', toks := tk } ∧ SetSt w h' s.heap.objs.size (fun y => y ∈ xs) xs.length ∧ (∀ b o, s.heap.get? b = some o → h'.get? b = some o)) E)
        F.called_set.init.plain F.entry_set_init (check_set_init_1 hT ?_)) fun r₂ s₂ hr₂ => ?_
      · obtain ⟨⟨lcls, ldict, ldata, lslots⟩, hol, hcl, nl, hdl⟩ := hl
        simp only at hcl hdl
        subst hcl; subst hdl
        have hol' : (s.heap.push (newSet w)).get? l = some { cls := .type "tuple", dict := ldict, data := .seq its nl, slots := lslots } := Heap.get?_push_of_some _ hol
        have hsls := F.sub_tuple_set
        have hslf := F.sub_tuple_frozenset
        have hne : (Value.type "tuple" == Value.type "dict") = false := by decide
        have hl1 : (s.heap.push (newSet w)).IsTuple l its := ⟨_, hol', rfl, nl, rfl⟩
        unfold Builtin.«set.__init__» noKeywords Builtin.Frozenset.updateFrom
        generalize hPI : pyIter = PI
        wp_walk
        subst hPI
        refine wpAny_pyIter_tuple hl1 ?_
        refine wpAny_bind (wpAny_runValue ?_)
        have hlS : l < s.heap.objs.size := Heap.lt_size hol
        have hh3 : A.in1.in1.in1.handled = none := by simp [hh]
        have neI : l ≠ (s.heap.push (newSet w)).objs.size := by
          rw [Heap.size_push]; exact Nat.ne_of_lt (Nat.lt_succ_of_lt hlS)
        have outI : s.heap.objs.size ∉ [(s.heap.push (newSet w)).objs.size, l] := by
          rw [Heap.size_push]; simp only [List.mem_cons, List.mem_singleton, List.not_mem_nil, or_false, not_or]
          exact ⟨Nat.ne_of_lt (Nat.lt_succ_self _), Nat.ne_of_gt hlS⟩
        have hval : ∀ (i : Nat) (v : Value), its[i]? = some v → ∃ x t, xs[i]? = some x ∧ v = .str x t := fun i v hv => by
          have hi : i < xs.length := by rw [← hsz]; exact (Array.getElem?_eq_some_iff.mp hv).1
          obtain ⟨u, hu, ru⟩ := hit.get (i := i) (x := .str xs[i]) (by rw [List.getElem?_map, List.getElem?_eq_getElem hi]; rfl)
          rw [Array.getElem?_toList, hv] at hu
          cases hu
          obtain ⟨t, rfl⟩ := ru
          exact ⟨xs[i], t, List.getElem?_eq_getElem hi, rfl⟩
        refine tx_update ((Walks.tuple hh3 _ l neI its).toS) s.heap.objs.size outI xs hsz hfew hval (its.size - 0) 0 _ (by omega) (Nat.zero_le _) ⟨⟨_, Heap.get?_push_size _ rfl, rfl, rfl⟩, (hl1.at fun o e => Heap.get?_push_of_some _ e)⟩ ?hS0 ?hR
        case hS0 =>
          exact (tx_fresh (Heap.get?_push_of_some _ hS)).congr fun y => by simp
        case hR =>
          intro s' mv hS'
          obtain ⟨h', g2, d', tk', os'⟩ := s'
          have eg : g2 = s.gens := mv.gens
          have ed : d' = s.drawn := mv.drawn
          have eo : os' = s.os := mv.os
          subst eg; subst ed; subst eo
          show wpAny _ _ _ _ _ _
          refine wpAny_pure ?_
          show wpAny _ _ (ret Value.none) _ _ _
          rw [hsz] at hS'
          refine wpAny_pure ⟨rfl, h', tk', rfl, hS', fun b o e => ?_⟩
          have hb0 : b < s.heap.objs.size := Heap.lt_size e
          exact mv.heap b o (by simp only [List.mem_cons, List.mem_singleton, List.not_mem_nil, or_false, not_or]; exact ⟨Nat.ne_of_lt hb0, by rw [Heap.size_push]; exact Nat.ne_of_lt (Nat.lt_succ_of_lt hb0)⟩) (Heap.get?_push_of_some _ (Heap.get?_push_of_some _ e))
      · cases r₂ with
        | error e => exact hr₂
        | ok fl₂ =>
          cases fl₂ with
          | ret r =>
            obtain ⟨rfl, h', tk, rfl, hS', hk'⟩ := hr₂
            repeat (any_goals (first | assumption | wp_step))
            exact h _ _ hS' hk'
          | _ => exact hr₂.elim
    | _ => exact hr.elim
end
end Kl

set_option Elab.async false
set_option linter.all false
set_option maxRecDepth 100000
/-! The law's defs: the table, all hands, a key passed. -/
namespace Kl
open PySem PySem.Spec L2
section
variable {X : Cx} {ρ : En}
def rSetTxT (w : World) (K : PySem.W.Frag) : List V → Hp → VK → Prop := fun xs H Q => ∃ (a : Addr) (ss : List Str), xs = [.ref a] ∧ SqT K H a (ss.map .str) ∧ ss.length + 1 < scanBound ∧ ∀ p, H p = none → Q (.ref p) (upd H p (TxO w p ss))
theorem cr_setTxT (hc : X.calm = true) : CallR X (.type "set") (rSetTxT X.w X.K) := by
  intro pins s σ H xs us Q I r h
  obtain ⟨a, ss, rfl, ha, hf, q⟩ := h
  obtain ⟨u, rfl, ru⟩ : ∃ u, us = [u] ∧ RelV (.ref a) u := by
    cases r with
    | cons h t => cases t; exact ⟨_, rfl, h⟩
  cases ru
  obtain ⟨its, rv, hl, hz⟩ := I.tuple ha
  have hl' : s.heap.IsTuple a its.toArray := hl
  refine call_set_txtT ss (I.ok.hd hc) hl' rv hf fun h' tk R k => ?_
  exact ⟨.ref s.heap.objs.size, upd H s.heap.objs.size (TxO X.w s.heap.objs.size ss), I.laid (t' := tk) k (Nat.le_refl _) (txO_new R), rfl, q _ (I.hok.fresh (Nat.le_refl _))⟩
/-- sorted(set(e)), e a tuple -/
theorem E1.sortedSetT {e : Expr} {ss : List Nm} {p p2 pos pos2 : Pos} (h : E1 X ρ e (nmsT ss)) (hf : ss.length ≤ 4000) (hu : X.A.units + 64 < cLine) (m1 : X.mg "sorted" = none) (m2 : X.mg "set" = none) (hc : X.calm = true := by rfl) (g1 : Gl X "sorted" := by rfl) (g2 : Gl X "set" := by rfl)
    (he : starEach [.Call (.Name "set" p2) [e] [] pos2] X.env = (false, eval (.Call (.Name "set" p2) [e] [] pos2) X.env) :: starEach [] X.env := by rfl) (he2 : starEach [e] X.env = (false, eval e X.env) :: starEach [] X.env := by rfl) (hpl : (backTo pos (starEach [] X.env)).any (·.1) = false := by rfl) (hpl2 : (backTo pos2 (starEach [] X.env)).any (·.1) = false := by rfl) :
    E1 X ρ (.Call (.Name "sorted" p) [.Call (.Name "set" p2) [e] [] pos2] [] pos) (nmsL (setOf ss)) := by
  refine pe_imp (pe_callB (cr_sortTx hc hu) g1 m1 bt_sorted (pa_cons (pe_callTy (cr_setTxT hc) g2 m2 bt_set (pa_cons h pa_nil he2) (he := he2) (hpl := hpl2)) pa_nil he) (he := he) (hpl := hpl)) fun σ H Q ⟨G, L, bx, x, hb, q⟩ => ?_
  refine ⟨G, L, bx, x, hb, fun v H1 d s p w => ?_⟩
  subst p
  obtain ⟨a, vs, rfl, h1, h2⟩ := w.tuple
  have h3 := h1.out.sq (K := X.K)
  rw [dpa_strs h2] at h3
  have hb' : ss.length + 1 < scanBound := by
    have : scanBound = 4096 := rfl
    omega
  refine ⟨a, ss, rfl, h3, hb', fun p1 n1 => ⟨p1, ss, rfl, upd_same, hb', fun p2 n2 => ?_⟩⟩
  have sm1 : Same H1 (upd H1 p1 (TxO X.w p1 ss)) := same_upd n1
  have s2 := Stp.andSame (x.step s) s sm1
  have x2 := x.step s2
  exact q _ _ _ (Stp.andSame x2 s2 (same_upd n2)) rfl (Dv.newL x2.alM n2 (dpa_ofStrs _))
end
section
variable {P : Program} {w : World} {K : PySem.W.Frag} {mg : Str → Option Value} {base : Heap}
/-! _law_table -/
abbrev s53 : Stmt := topS 53
theorem sc53 : FnScope ["_law_web_here", "_law_crew_here", "_law_bits_so", "_law_known", "_law_table_here", "_law_band", "_law_kit", "_law_own"] ["_law_web_here", "_law_crew_here", "_law_bits_so"] (defScope s53) := ⟨rfl, rfl, rfl, by decide +kernel, rfl, by decide +kernel, by decide +kernel⟩
abbrev sp_table (K : PySem.W.Frag) : Sp := spP K (τ := T3) T3.enc (fun t => NetOk t.1 ∧ HoldOk t.2.1) (fun t d => d = tabD (mapV .bool (sendTab t.1 t.2.1 t.2.2)))
theorem ok_table {f : Addr} {fd : FuncData} (F : Fun K "_law_table" "_law_table" s53 f fd) (F48 : Fn P w K mg base 2 "_law_sets" ["_law_goods_so"] (sp_sets K)) (F51 : Fn P w K mg base 2 "_law_go" ["_law_web_here", "_law_kit", "_law_bits_so"] (sp_go K)) (F52 : Fn P w K mg base 2 "_law_purse" ["_law_crew_here", "_law_band"] (sp_purse K)) :
    FnOk P w K mg base CX0 3 f fd ["_law_web_here", "_law_crew_here", "_law_bits_so"] (sp_table K) := by
  refine okP F sc53 (fun _ => rfl) (by decide) ?_
  rintro ⟨n, h, lot⟩ ⟨hn, hh⟩ cdv A outer s H E hr
  have hn : NetOk n := hn
  have hh : HoldOk h := hh
  have h8 : (people h).length ≤ 8 := by rw [people_len]; exact hh.n
  have hsl : (subs (people h)).length ≤ 256 := by rw [subs_len]; exact two_pow8 h8
  refine Svs.par 3 4 G1.dictT G1.dictT rfl sc53.nd rfl ?_
  refine Svs.imp (Svs.forN (ys := (subs (people h)).map keyD) (c0 := 0) (ct := 0) (c := 0) 5 (fun i ρ' => ∃ kn s5 s6, ρ' = [some (.dat (netD n)), some (.dat (holdD h)), some (.dat (lotD lot)), some (.own (.t (mapV .bool kn))), some (.own (.t (mapV .bool (tabV (fun g => g) (sendB n h lot) ((subs (people h)).take i))))), s5, s6, none] ∧ (∀ e ∈ kn, e.2 = goesB n e.1 lot) ∧ kn.length ≤ i)
    (I1.list (E1.callF F48 hr (A1.cons (E1.cast (E1.lcN (xs := h) (en := heldD) (f := fun p => .str p.1) 7 (I1.tup (E1.var 1)) (fun p _ _ _ _ _ _ => E1.ix (E1.var 7) E1.int (x_t 0)) (Nat.le_trans hh.n (by decide)) sc53.nd) (d' := nmsL (people h)) (by simp [nmsL, people])) A1.nil) (people h) rfl h8 fun d h => h)) ⟨[], none, none, rfl, (fun e z => by cases z), Nat.le_refl _⟩ ?_ ?_ (by simp) PassesOwn.never sc53.nd) (Nat.le_refl _) fun _ z => z
  · rintro i d ρ' hi ⟨kn, s5, s6, rfl, hkn, hkl⟩
    rw [List.getElem?_map] at hi
    obtain ⟨g, hg, rfl⟩ := Option.map_eq_some_iff.mp hi
    have hil : i < (subs (people h)).length := (List.getElem?_eq_some_iff.mp hg).1
    have tk : (subs (people h)).take (i + 1) = (subs (people h)).take i ++ [g] := by rw [List.take_add_one, hg]; rfl
    have hsz : sizeLine = 16777216 := rfl
    refine Svs.asg1 6 (E1.callF F52 hr (A1.cons (E1.var 1) (A1.cons (E1.var 5) A1.nil)) (h, true, g) rfl hh fun d h => h) sc53.nd ?_
    refine Svs.imp (Svs.cons (c1 := 0) (c2 := 0) (O1 := fun o => ∃ kn', o = .nx [some (.dat (netD n)), some (.dat (holdD h)), some (.dat (lotD lot)), some (.own (.t (mapV .bool kn'))), some (.own (.t (mapV .bool (tabV (fun g => g) (sendB n h lot) ((subs (people h)).take i))))), some (.dat (keyD g)), some (.dat (nmsT (heldBy h g))), none] ∧ (∀ e ∈ kn', e.2 = goesB n e.1 lot) ∧ kn'.length ≤ i + 1 ∧ getV kn' (heldBy h g) = some (sendB n h lot g))
      (Sv.ifS (c1 := 0) (c2 := 0) (T1.flat 3 (T1.notinT (k := heldBy h g) (E1.var 6) (E1.var 3) (.inl rfl) (roomU hr))) (fun z => ?_) fun z => ?_) ?_ fun d z => by obtain ⟨_, z, _⟩ := z; cases z) (Nat.le_refl _) fun _ z => z
    · refine Svs.imp (Svs.cons (c1 := 0) (c2 := 0) (Sv.putT (k := heldBy h g) 3 rfl (E1.callF F51 hr (A1.cons (E1.var 0) (A1.cons (E1.var 6) (A1.cons (E1.var 2) A1.nil))) (n, heldBy h g, true, lot) rfl hn fun d h => h) (fun d z => by rw [z]; rfl) (E1.var 6) (by rw [mapV_len]; omega) (roomU hr)) (fun ρ' z => ?_) fun d z => by obtain ⟨_, _, z⟩ := z; cases z) (Nat.le_refl _) fun _ z => z
      obtain ⟨d, rfl, z⟩ := z
      cases z
      refine Svs.nil ⟨putV kn (heldBy h g) (goesB n (heldBy h g) lot), by rw [mapV_put]; rfl, fun e he => ?_, Nat.le_trans (putV_len _ _ _) (by omega), getV_put _ _ _⟩
      rcases mem_putV.mp he with rfl | ⟨he, _⟩
      · rfl
      · exact hkn e he
    · refine Svs.nil ⟨kn, rfl, hkn, by omega, ?_⟩
      rw [mapV_get] at z
      cases hf : getV kn (heldBy h g) with
      | none => rw [hf] at z; cases z
      | some b =>
        unfold getV at hf
        cases hp : kn.find? (fun e => decide (e.1 = heldBy h g)) with
        | none => rw [hp] at hf; cases hf
        | some p =>
          rw [hp] at hf
          cases hf
          have e1 := hkn p (List.mem_of_find?_eq_some hp)
          have e2 : p.1 = heldBy h g := of_decide_eq_true (List.find?_some (p := fun e : List Nm × Bool => decide (e.1 = heldBy h g)) hp)
          show some p.2 = _
          rw [e1, e2]
          rfl
    · rintro ρ' ⟨kn', e, h1, h2, h3⟩
      cases e
      have hget : getT (mapV .bool kn') (heldBy h g) = some (.bool (sendB n h lot g)) := by rw [mapV_get, h3]; rfl
      have tl := tabV_len (fun g => g) (sendB n h lot) ((subs (people h)).take i)
      rw [List.length_take] at tl
      refine Svs.imp (Svs.cons (c1 := 0) (c2 := 0) (Sv.putT (k := g) 4 rfl (E1.flat 3 (E1.getT (k := heldBy h g) (E1.var 3) (.inl rfl) (E1.var 6) hget (roomU hr))) (fun d z => by rw [z]; rfl) (E1.var 5) (by rw [mapV_len]; omega) (roomU hr)) (fun ρ' z => ?_) fun d z => by obtain ⟨_, _, z⟩ := z; cases z) (Nat.le_refl _) fun _ z => z
      obtain ⟨d, rfl, z⟩ := z
      cases z
      refine Svs.nil ⟨kn', some (.dat (keyD g)), some (.dat (nmsT (heldBy h g))), ?_, h1, h2⟩
      rw [tk, tabV_snoc, mapV_put]
      rfl
  · rintro ρ' ⟨kn, s5, s6, rfl, hkn, hkl⟩
    rw [List.length_map, List.take_of_length_le (Nat.le_refl _)]
    exact Svs.freeze 4 (Svs.ret1 (E1.var 4) ⟨_, rfl, rfl⟩)
/-! _law_all_hands -/
abbrev s60 : Stmt := topS 60
theorem sc60 : FnScope ["_law_crew_here", "_law_found", "_law_tag", "_law_kit", "_law_ring", "_law_far", "_law_own"] ["_law_crew_here"] (defScope s60) := ⟨rfl, rfl, rfl, by decide +kernel, rfl, by decide +kernel, by decide +kernel⟩
def handsAt (h : Hold) (tag : Nm) (ring : Nm) : List (Nm × Nm × Nm) := (people h).map fun far => (tag, ring, far)
def allHands (h : Hold) : List (Nm × Nm × Nm) := h.flatMap fun p => p.2.flatMap (handsAt h p.1)
abbrev sp_all_hands (K : PySem.W.Frag) : Sp := spP K (τ := Hold) (fun h => [holdD h]) HoldOk (fun h d => d = .list ((allHands h).map handD))
theorem flatMap_len {α β : Type} {f : α → List β} {m : Nat} : ∀ l : List α, (∀ x ∈ l, (f x).length ≤ m) → (l.flatMap f).length ≤ l.length * m
  | [], _ => Nat.zero_le _
  | x :: l, h => by
    have h1 := h x List.mem_cons_self
    have h2 := flatMap_len l fun y hy => h y (List.mem_cons_of_mem _ hy)
    rw [List.flatMap_cons, List.length_append, List.length_cons, Nat.add_mul]
    omega
theorem handsAt_len (h : Hold) (hh : HoldOk h) (t r : Nm) : (handsAt h t r).length ≤ 8 := by
  unfold handsAt
  rw [List.length_map, people_len]
  exact hh.n
theorem hands1_len (h : Hold) (hh : HoldOk h) (p : Nm × List Nm) (hp : p ∈ h) (j : Nat) : ((p.2.take j).flatMap (handsAt h p.1)).length ≤ 400 := by
  have h1 := flatMap_len (f := handsAt h p.1) (m := 8) (p.2.take j) fun r _ => handsAt_len h hh _ _
  have h2 := hh.k p hp
  rw [List.length_take] at h1
  have : min j p.2.length ≤ 50 := by omega
  have := Nat.mul_le_mul_right 8 this
  omega
theorem hands_len (h : Hold) (hh : HoldOk h) (i : Nat) : ((h.take i).flatMap fun p => p.2.flatMap (handsAt h p.1)).length ≤ 3200 := by
  have h1 := flatMap_len (f := fun p : Nm × List Nm => p.2.flatMap (handsAt h p.1)) (m := 400) (h.take i) fun p hp => by
    have := hands1_len h hh p (List.mem_of_mem_take hp) p.2.length
    rwa [List.take_length] at this
  have h2 := hh.n
  rw [List.length_take] at h1
  have : min i h.length ≤ 8 := by omega
  have := Nat.mul_le_mul_right 400 this
  omega
theorem ok_all_hands {f : Addr} {fd : FuncData} (F : Fun K "_law_all_hands" "_law_all_hands" s60 f fd) : FnOk P w K mg base CX0 1 f fd ["_law_crew_here"] (sp_all_hands K) := by
  refine okP F sc60 (fun _ => rfl) (by decide) fun h hh cdv A outer s H E hr => ?_
  have hsz : sizeLine = 16777216 := rfl
  refine Svs.asg1 1 (E1.lst L1.nil) sc60.nd ?_
  refine Svs.imp (Svs.forP (xs := h) (e1 := fun p : Nm × List Nm => PyData.str p.1) (e2 := fun p : Nm × List Nm => nmsT p.2) (c0 := 0) (ct := 0) (c := 0) 2 3 (fun i ρ' => ∃ s2 s3 s4, ρ' = [some (.dat (holdD h)), some (.dat (.list (((h.take i).flatMap fun p => p.2.flatMap (handsAt h p.1)).map handD))), s2, s3, s4, none, none]) (I1.tup (E1.var 0)) ⟨none, none, none, rfl⟩ ?_ ?_ (by simp) PassesOwn.never sc60.nd) (Nat.le_refl _) fun _ z => z
  · rintro i p ρ' hi ⟨s2, s3, s4, rfl⟩
    have hp := List.mem_of_getElem? hi
    have tk : h.take (i + 1) = h.take i ++ [p] := by rw [List.take_add_one, hi]; rfl
    have l1 := hands_len h hh i
    refine Svs.imp (Svs.forN (ys := p.2.map .str) (c0 := 0) (ct := 0) (c := 0) 4 (fun j ρ' => ∃ s4, ρ' = [some (.dat (holdD h)), some (.dat (.list (((h.take i).flatMap (fun p => p.2.flatMap (handsAt h p.1)) ++ (p.2.take j).flatMap (handsAt h p.1)).map handD))), some (.dat (.str p.1)), some (.dat (nmsT p.2)), s4, none, none]) (I1.tup (E1.var 3)) ⟨s4, by rw [List.take_zero, List.flatMap_nil, List.append_nil]; rfl⟩ ?_ ?_ (by simp) PassesOwn.never sc60.nd) (Nat.le_refl _) fun _ z => z
    · rintro j d ρ' hj ⟨s4', rfl⟩
      rw [List.getElem?_map] at hj
      obtain ⟨r, hr', rfl⟩ := Option.map_eq_some_iff.mp hj
      have tk2 : p.2.take (j + 1) = p.2.take j ++ [r] := by rw [List.take_add_one, hr']; rfl
      have l2 := hands1_len h hh p hp j
      have l3 := handsAt_len h hh p.1 r
      refine Svs.asg1 1 (E1.op (E1.var 1) (E1.lcN (xs := people h) (en := .str) (f := fun far => handD (p.1, r, far)) 5 (I1.list (E1.cast (E1.lcN (xs := h) (en := heldD) (f := fun q => .str q.1) 6 (I1.tup (E1.var 0)) (fun q _ _ _ _ _ _ => E1.ix (E1.var 6) E1.int (x_t 0)) (Nat.le_trans hh.n (by decide)) sc60.nd) (by simp [people]))) (fun far _ _ _ _ _ _ => E1.tup (L1.cons (E1.var 2) (L1.cons (E1.var 4) (L1.cons (E1.var 5) L1.nil))) (by show 3 ≤ sizeLine; decide)) (by rw [people_len]; exact Nat.le_trans hh.n (by decide)) sc60.nd) (o_cat ?_)) sc60.nd (Svs.nil ⟨some (.dat (.str r)), ?_⟩)
      · rw [List.length_map, List.length_append, List.length_map, people_len]
        have := hh.n
        omega
      · have e : (people h).map (fun far => handD (p.1, r, far)) = (handsAt h p.1 r).map handD := by unfold handsAt; rw [List.map_map]; rfl
        rw [tk2, List.flatMap_append, List.flatMap_singleton, ← List.append_assoc, e, ← List.map_append]
        rfl
    · rintro ρ' ⟨s4', rfl⟩
      refine Svs.nil ⟨some (.dat (.str p.1)), some (.dat (nmsT p.2)), s4', ?_⟩
      rw [List.length_map, List.take_of_length_le (Nat.le_refl _), tk, List.flatMap_append, List.flatMap_singleton]
  · rintro ρ' ⟨s2, s3, s4, rfl⟩
    rw [List.take_of_length_le (Nat.le_refl _)]
    exact Svs.ret1 (E1.var 1) rfl
end
end Kl

set_option Elab.async false
set_option linter.all false
set_option maxRecDepth 100000
/-! The law's defs: a key passed; the least groups. -/
namespace Kl
open PySem PySem.Spec L2
theorem G1.cast {X : Cx} {ρ : En} {e : Expr} {s s' : Sl} (h : G1 X ρ e s) (hs : s = s') : G1 X ρ e s' := hs ▸ h
/-- holders as a dict's pairs -/
def hdS (h : Hold) : List (Str × D) := h.map fun p => (p.1, nmsT p.2)
theorem hdS_pairs (h : Hold) : (hdS h).map pairD = h.map heldD := by
  unfold hdS
  rw [List.map_map]
  rfl
def kitOf (h : Hold) (k : Nm) : List Nm := ((h.find? fun p => decide (p.1 = k)).map (·.2)).getD []
def updH (h : Hold) (k : Nm) (ks : List Nm) : Hold := h.map fun p => if p.1 = k then (p.1, ks) else p
theorem updH_people (h : Hold) (k : Nm) (ks : List Nm) : people (updH h k ks) = people h := by
  unfold people updH
  rw [List.map_map]
  apply List.map_congr_left
  intro p _
  show (if p.1 = k then (p.1, ks) else p).1 = p.1
  split <;> rfl
theorem mergeS_nodup {ps : List (Str × D)} (h : (ps.map (·.1)).Nodup) : mergeS ps = ps := by
  unfold mergeS
  suffices ∀ (ps acc : List (Str × D)), ((acc ++ ps).map (·.1)).Nodup → ps.foldl (fun acc p => putS acc p.1 p.2) acc = acc ++ ps by simpa using this ps [] (by simpa using h)
  intro ps
  induction ps with
  | nil => intro acc _; simp
  | cons p ps ih =>
    intro acc h
    rw [List.foldl_cons]
    have no : (acc.any fun e => decide (e.1 = p.1)) = false := by
      rw [List.any_eq_false]
      intro e he
      simp only [decide_eq_true_eq]
      intro z
      rw [List.map_append, List.nodup_append] at h
      exact h.2.2 e.1 (List.mem_map.mpr ⟨e, he, rfl⟩) p.1 (List.mem_map.mpr ⟨p, List.mem_cons_self, rfl⟩) z
    have e : putS acc p.1 p.2 = acc ++ [p] := by
      unfold putS
      rw [no, if_neg Bool.false_ne_true]
    rw [e, ih _ (by simpa using h)]
    simp
theorem getS_hd {h : Hold} {k : Nm} (hk : k ∈ people h) : getS (hdS h) k = some (nmsT (kitOf h k)) := by
  unfold getS hdS kitOf
  rw [List.find?_map]
  have e : ((fun e : Str × D => decide (e.1 = k)) ∘ fun p : Nm × List Nm => (p.1, nmsT p.2)) = fun p => decide (p.1 = k) := rfl
  rw [e]
  cases hf : h.find? (fun p => decide (p.1 = k)) with
  | none =>
    obtain ⟨p, hp, rfl⟩ := List.mem_map.mp hk
    have := List.find?_eq_none.mp hf p hp
    simp at this
  | some p => rfl
theorem putS_hd {h : Hold} {k : Nm} {ks : List Nm} (hk : k ∈ people h) : putS (hdS h) k (nmsT ks) = hdS (updH h k ks) := by
  unfold putS
  have any : ((hdS h).any fun e => decide (e.1 = k)) = true := by
    obtain ⟨p, hp, rfl⟩ := List.mem_map.mp hk
    exact List.any_eq_true.mpr ⟨(p.1, nmsT p.2), List.mem_map.mpr ⟨p, hp, rfl⟩, decide_eq_true rfl⟩
  rw [if_pos any]
  unfold hdS updH
  rw [List.map_map, List.map_map]
  apply List.map_congr_left
  intro p _
  show (if p.1 = k then (p.1, nmsT ks) else (p.1, nmsT p.2)) = ((if p.1 = k then (p.1, ks) else p).1, nmsT (if p.1 = k then (p.1, ks) else p).2)
  split <;> rfl
/-- what _law_passed makes -/
def pass1 (h : Hold) (near ring : Nm) : Hold := updH h near ((kitOf h near).filter fun b => decide (b ≠ ring))
def pass2 (h : Hold) (near ring far : Nm) : Hold := updH (pass1 h near ring) far (setOf (kitOf (pass1 h near ring) far ++ [ring]))
def passedL (h : Hold) (x : Nm × Nm × Nm) : Hold := h.map fun p => (p.1, kitOf (pass2 h x.1 x.2.1 x.2.2) p.1)
theorem kit_len {h : Hold} (hh : HoldOk h) (k : Nm) : (kitOf h k).length ≤ 50 := by
  unfold kitOf
  cases hf : h.find? (fun p => decide (p.1 = k)) with
  | none => exact Nat.zero_le _
  | some p => exact hh.k p (List.mem_of_find?_eq_some hf)
section
variable {P : Program} {w : World} {K : PySem.W.Frag} {mg : Str → Option Value} {base : Heap}
abbrev s59 : Stmt := topS 59
theorem sc59 : FnScope ["_law_crew_here", "_law_own", "_law_near", "_law_ring", "_law_far", "_law_table_here", "_law_bit", "_law_tag", "_law_kit"] ["_law_crew_here", "_law_own"] (defScope s59) := ⟨rfl, rfl, rfl, by decide +kernel, rfl, by decide +kernel, by decide +kernel⟩
abbrev PassOk (h : Hold) (x : Nm × Nm × Nm) : Prop := HoldOk h ∧ (people h).Nodup ∧ isHold (h.map heldD) = true ∧ x.1 ∈ people h ∧ x.2.2 ∈ people h
abbrev sp_passed (K : PySem.W.Frag) : Sp := spP K (τ := Hold × Nm × Nm × Nm) (fun t => [holdD t.1, handD t.2]) (fun t => PassOk t.1 t.2) (fun t d => d = holdD (passedL t.1 t.2))
theorem ok_passed {f : Addr} {fd : FuncData} (F : Fun K "_law_passed" "_law_passed" s59 f fd) (mT : mg "tuple" = none) (mD : mg "dict" = none) (m1 : mg "sorted" = none) (m2 : mg "set" = none) : FnOk P w K mg base CX0 1 f fd ["_law_crew_here", "_law_own"] (sp_passed K) := by
  refine okP F sc59 (fun _ => rfl) (by decide) ?_
  rintro ⟨h, near, ring, far⟩ ⟨hh, hnd, hho, hn, hf⟩ cdv A outer s H E hr
  have hh : HoldOk h := hh
  have hn : near ∈ people h := hn
  have hf : far ∈ people h := hf
  have hsz : sizeLine = 16777216 := rfl
  have nd : ((hdS h).map (·.1)).Nodup := by
    have e : (hdS h).map (·.1) = people h := by unfold hdS people; rw [List.map_map]; rfl
    rw [e]
    exact hnd
  have l0 : (hdS h).length ≤ 8 := by unfold hdS; rw [List.length_map]; exact hh.n
  have k1 := kit_len hh near
  have f1 : far ∈ people (pass1 h near ring) := by unfold pass1; rw [updH_people]; exact hf
  have k2 : (kitOf (pass1 h near ring) far).length ≤ 50 := by
    unfold kitOf
    cases hq : (pass1 h near ring).find? (fun p => decide (p.1 = far)) with
    | none => exact Nat.zero_le _
    | some p =>
      have hm := List.mem_of_find?_eq_some hq
      unfold pass1 updH at hm
      obtain ⟨q, hq', rfl⟩ := List.mem_map.mp hm
      show (if q.1 = near then (q.1, (kitOf h near).filter fun b => decide (b ≠ ring)) else q).2.length ≤ 50
      split
      · exact Nat.le_trans (List.length_filter_le _ _) k1
      · exact hh.k q hq'
  refine Svs.imp (Svs.cons (c1 := 0) (c2 := 0) (Sv.asgT (P := fun d => d = handD (near, ring, far)) (E1.var 1) (pg_tup rfl (pgs_cons (pg_name (i := 2) sc59.nd rfl (Or.inl rfl)) (pgs_cons (pg_name (i := 3) sc59.nd rfl (Or.inr rfl)) (pgs_cons (pg_name (i := 4) sc59.nd rfl (Or.inl rfl)) pgs_nil))) (by rfl) (by rfl)) (ρ' := fun _ => [some (.dat (holdD h)), some (.dat (handD (near, ring, far))), some (.dat (.str near)), some (.dat (.str ring)), some (.dat (.str far)), none, none, none, none]) (fun d z => by rw [z]; exact TgOk.tup3 2 3 4)) (fun ρ' z => ?_) fun d z => by obtain ⟨_, _, z⟩ := z; cases z) (Nat.le_refl _) fun _ z => z
  obtain ⟨_, _, z⟩ := z
  cases z
  refine Svs.asgG 5 (G1.cast (G1.dictH (ps := hdS h) (E1.cast (E1.var 0) (by rw [hdS_pairs])) (by rw [hdS_pairs]; exact hho) mD) (by rw [mergeS_nodup nd])) sc59.nd ?_
  refine Svs.imp (Svs.cons (c1 := 0) (c2 := 0) (Sv.putK 5 (s := near) rfl (E1.callT (A1.cons (E1.lcNIf (xs := kitOf h near) (en := .str) (q := fun b => decide (b ≠ ring)) (f := .str) 6 (I1.tup (E1.getK 5 (E1.var 2) (getS_hd hn) (roomU hr))) (fun b _ _ _ _ _ _ => T1.cmp (E1.var 6) (E1.var 3) o_neS) (fun b _ _ _ _ _ _ _ => E1.var 6) (Nat.le_trans k1 (by decide)) sc59.nd) A1.nil) c_tuple mT bt_tuple) (fun d z => by rw [z]; rfl) (E1.var 2) (Nat.lt_of_le_of_lt l0 (by decide)) (roomU hr)) (fun ρ' z => ?_) fun d z => by obtain ⟨_, _, z⟩ := z; cases z) (Nat.le_refl _) fun _ z => z
  obtain ⟨d, rfl, z⟩ := z
  have e1 : putS (hdS h) near (.tuple (((kitOf h near).filter fun b => decide (b ≠ ring)).map .str)) = hdS (pass1 h near ring) := putS_hd hn
  rw [e1] at z
  cases z
  have l1 : (hdS (pass1 h near ring)).length ≤ 8 := by unfold hdS pass1 updH; rw [List.length_map, List.length_map]; exact hh.n
  refine Svs.imp (Svs.cons (c1 := 0) (c2 := 0) (Sv.putK 5 (s := far) rfl (E1.callT (A1.cons (E1.sortedSetT (ss := kitOf (pass1 h near ring) far ++ [ring]) (E1.cast (E1.op (E1.getK 5 (E1.var 4) (getS_hd f1) (roomU hr)) (E1.tup (L1.cons (E1.var 3) L1.nil) (by show 1 ≤ sizeLine; decide)) (o_catT ?_ (isHold_snoc _ _))) (by simp [nmsT])) ?_ hr.units m1 m2) A1.nil) c_tuple mT bt_tuple) (fun d z => by rw [z]; rfl) (E1.var 4) (Nat.lt_of_le_of_lt l1 (by decide)) (roomU hr)) (fun ρ' z => ?_) fun d z => by obtain ⟨_, _, z⟩ := z; cases z) (Nat.le_refl _) fun _ z => z
  · rw [List.length_map]
    exact Nat.le_trans (Nat.add_le_add k2 (Nat.le_refl 1)) (by decide)
  · rw [List.length_append]
    exact Nat.le_trans (Nat.add_le_add k2 (Nat.le_refl 1)) (by decide)
  obtain ⟨d, rfl, z⟩ := z
  have e2 : putS (hdS (pass1 h near ring)) far (.tuple ((setOf (kitOf (pass1 h near ring) far ++ [ring])).map .str)) = hdS (pass2 h near ring far) := putS_hd f1
  rw [e2] at z
  cases z
  have pp : people (pass2 h near ring far) = people h := by unfold pass2 pass1; rw [updH_people, updH_people]
  refine Svs.ret1 (E1.callT (A1.cons (E1.lcP (xs := h) (e1 := fun p => .str p.1) (e2 := fun p => nmsT p.2) (f := fun p => heldD (p.1, kitOf (pass2 h near ring far) p.1)) 7 8 (I1.tup (E1.var 0)) (fun p hp _ _ _ _ _ => E1.tup (L1.cons (E1.var 7) (L1.cons (E1.getK 5 (E1.var 7) (getS_hd (by rw [pp]; exact List.mem_map.mpr ⟨p, hp, rfl⟩)) (roomU hr)) L1.nil)) (by show 2 ≤ sizeLine; decide)) (Nat.le_trans hh.n (by decide)) sc59.nd) A1.nil) c_tuple mT bt_tuple) ?_
  show _ = holdD (passedL h (near, ring, far))
  unfold passedL
  rw [holdD, List.map_map]
  rfl
end
end Kl

set_option Elab.async false
set_option linter.all false
set_option maxRecDepth 100000
/-! The law's defs: data compared. -/
namespace Kl
open PySem PySem.Spec L2
def Cs : Nat → D → Prop
  | 0, d => (vOf d).isSome = true
  | m + 1, d => (vOf d).isSome = true ∨ ∃ ds, (d = .list ds ∨ d = .tuple ds) ∧ ds.length ≤ 100 ∧ ∀ x ∈ ds, Cs m x
theorem isHold_same (x : D) : isHold [x, x] = false := by
  unfold isHold
  split
  · rename_i a _ b _ _ h
    injection h with h1 h2
    injection h2 with h2 _
    rw [h1] at h2
    injection h2 with h2
    injection h2 with h2 _
    injection h2 with h2
    exact decide_eq_false fun z => z h2
  · rfl
theorem zip_same {α : Type} : ∀ {ds : List α} {p : α × α}, p ∈ ds.zip ds → p.2 = p.1 ∧ p.1 ∈ ds
  | [], _, h => by cases h
  | x :: ds, p, h => by
    rw [List.zip_cons_cons] at h
    rcases List.mem_cons.mp h with rfl | h
    · exact ⟨rfl, List.mem_cons_self⟩
    · obtain ⟨h1, h2⟩ := zip_same h
      exact ⟨h1, List.mem_cons_of_mem _ h2⟩
section
variable {P : Program} {w : World} {K : PySem.W.Frag} {mg : Str → Option Value} {base : Heap}
abbrev s47 : Stmt := topS 47
theorem sc47 : FnScope ["_law_mine", "_law_due", "_law_a_so", "_law_b_so"] ["_law_mine", "_law_due"] (defScope s47) := ⟨rfl, rfl, rfl, by decide +kernel, rfl, by decide +kernel, by decide +kernel⟩
abbrev sp_same (K : PySem.W.Frag) (m : Nat) : Sp := spP K (τ := D) (fun d => [d, d]) (Cs m) (fun _ r => r = .bool true)
/-- the names that it looks up -/
structure SameMg (mg : Str → Option Value) : Prop where
  i : mg "isinstance" = none
  l : mg "list" = none
  t : mg "tuple" = none
  b : mg "bool" = none
  s : mg "str" = none
  n : mg "int" = none
  len : mg "len" = none
  all : mg "all" = none
  zip : mg "zip" = none
theorem bt_bool : bootBuiltins "bool" = some (.type "bool") := by decide +kernel
theorem bt_str : bootBuiltins "str" = some (.type "str") := by decide +kernel
theorem same_flat {f : Addr} (cdv : Value) (A : Around) (outer : List Env) (s : Shared) (H : Hp) (E : XK) (M : SameMg mg) (d : D) (hd : (vOf d).isSome = true) :
    Svs (cxOf CX0 P w K mg base ["_law_mine", "_law_due", "_law_a_so", "_law_b_so"] "_law_same" (defScope s47) f cdv A outer s H E).nox (slots [d, d] 4) (defBody s47) 0 (fun o => match o with | .rt d => d = .bool true | .nx _ => PyData.none = .bool true) := by
  cases d with
  | none =>
    refine Svs.ifS (T1.val (E1.isTwo (E1.var 1) .list .tuple bt_list bt_tuple M.l M.t M.i)) (fun z => by cases z) (fun _ => ?_) rfl
    refine Svs.ifS (W1.t (W1.or (l := false) (T1.cmp (E1.var 1) E1.non o_isN) fun z => by cases z)) (fun _ => ?_) (fun z => by cases z) rfl
    exact Svs.ret1 (E1.and (E1.cmp (E1.var 0) (E1.var 1) (ok_flatEq rfl rfl rfl)) fun _ => E1.and (E1.cmp (E1.isOne (E1.var 0) .bool bt_bool M.b M.i) (E1.isOne (E1.var 1) .bool bt_bool M.b M.i) o_eqB) fun _ => E1.one (E1.cmp (E1.cmp (E1.var 0) E1.non o_isN) (E1.cmp (E1.var 1) E1.non o_isN) o_eqB)) ⟨_, rfl, rfl⟩
  | bool b =>
    refine Svs.ifS (T1.val (E1.isTwo (E1.var 1) .list .tuple bt_list bt_tuple M.l M.t M.i)) (fun z => by cases z) (fun _ => ?_) rfl
    refine Svs.ifS (W1.t (W1.or (T1.cmp (E1.var 1) E1.non o_isN) fun _ => W1.or1 (T1.val (E1.isTwo (E1.var 1) .bool .str bt_bool bt_str M.b M.s M.i)))) (fun _ => ?_) (fun z => by cases z) rfl
    exact Svs.ret1 (E1.and (E1.cmp (E1.var 0) (E1.var 1) (ok_flatEq rfl rfl rfl)) fun _ => E1.and (E1.cmp (E1.isOne (E1.var 0) .bool bt_bool M.b M.i) (E1.isOne (E1.var 1) .bool bt_bool M.b M.i) o_eqB) fun _ => E1.one (E1.cmp (E1.cmp (E1.var 0) E1.non o_isN) (E1.cmp (E1.var 1) E1.non o_isN) o_eqB)) ⟨_, rfl, by simp [isN]⟩
  | str x =>
    refine Svs.ifS (T1.val (E1.isTwo (E1.var 1) .list .tuple bt_list bt_tuple M.l M.t M.i)) (fun z => by cases z) (fun _ => ?_) rfl
    refine Svs.ifS (W1.t (W1.or (T1.cmp (E1.var 1) E1.non o_isN) fun _ => W1.or1 (T1.val (E1.isTwo (E1.var 1) .bool .str bt_bool bt_str M.b M.s M.i)))) (fun _ => ?_) (fun z => by cases z) rfl
    exact Svs.ret1 (E1.and (E1.cmp (E1.var 0) (E1.var 1) (ok_flatEq rfl rfl rfl)) fun _ => E1.and (E1.cmp (E1.isOne (E1.var 0) .bool bt_bool M.b M.i) (E1.isOne (E1.var 1) .bool bt_bool M.b M.i) o_eqB) fun _ => E1.one (E1.cmp (E1.cmp (E1.var 0) E1.non o_isN) (E1.cmp (E1.var 1) E1.non o_isN) o_eqB)) ⟨_, rfl, by simp [isN]⟩
  | int i =>
    refine Svs.ifS (T1.val (E1.isTwo (E1.var 1) .list .tuple bt_list bt_tuple M.l M.t M.i)) (fun z => by cases z) (fun _ => ?_) rfl
    refine Svs.ifS (W1.t (W1.or (T1.cmp (E1.var 1) E1.non o_isN) fun _ => W1.or1 (T1.val (E1.isTwo (E1.var 1) .bool .str bt_bool bt_str M.b M.s M.i)))) (fun z => by cases z) (fun _ => ?_) rfl
    exact Svs.ret1 (E1.and (E1.isOne (E1.var 0) .int bt_int M.n M.i) fun _ => E1.and (E1.not (E1.isOne (E1.var 0) .bool bt_bool M.b M.i)) fun _ => E1.one (E1.cmp (E1.var 0) (E1.var 1) o_eqI)) (by simp [isOf, tyD])
  | list _ => cases hd
  | tuple _ => cases hd
  | dict _ => cases hd
theorem ok_same0 {f : Addr} {fd : FuncData} (F : Fun K "_law_same" "_law_same" s47 f fd) (M : SameMg mg) : FnOk P w K mg base CX0 1 f fd ["_law_mine", "_law_due"] (sp_same K 0) :=
  okP F sc47 (fun _ => rfl) (by decide) fun d hd cdv A outer s H E hr => same_flat cdv A outer s H E M d hd
theorem ok_sameS {m : Nat} {f : Addr} {fd : FuncData} (F : Fun K "_law_same" "_law_same" s47 f fd) (M : SameMg mg) (F47 : Fn P w K mg base (m + 1) "_law_same" ["_law_mine", "_law_due"] (sp_same K m)) : FnOk P w K mg base CX0 (m + 2) f fd ["_law_mine", "_law_due"] (sp_same K (m + 1)) := by
  refine okP F sc47 (fun _ => rfl) (by decide) fun d hd cdv A outer s H E hr => ?_
  rcases hd with hd | ⟨ds, hd, hl, hds⟩
  · exact same_flat cdv A outer s H E M d hd
  have lz : (ds.zip ds).length ≤ sizeLine := by
    rw [List.length_zip, Nat.min_self]
    exact Nat.le_trans hl (by decide)
  have hh : ∀ a b, PyData.tuple [a, b] ∈ zipD ds ds → isHold [a, b] = false := by
    have := zipD_no (f := fun d : D => d) (g := fun d : D => d) (xs := ds) (ys := ds) fun p hp => by
      obtain ⟨e, _⟩ := zip_same hp
      show isHold [p.1, p.2] = false
      rw [e]
      exact isHold_same _
    rwa [List.map_id'] at this
  have ez : (ds.zip ds).map (fun p => PyData.tuple [p.1, p.2]) = zipD ds ds := by
    have := zipD_map (fun d : D => d) (fun d : D => d) ds ds
    rw [List.map_id'] at this
    exact this.symm
  rcases hd with rfl | rfl
  · refine Svs.ifS (T1.val (E1.isTwo (E1.var 1) .list .tuple bt_list bt_tuple M.l M.t M.i)) (fun _ => ?_) (fun z => by cases z) rfl
    refine Svs.ifS (k := false) (T1.castB (W1.t (W1.or (T1.cmp (E1.isOne (E1.var 0) .list bt_list M.l M.i) (E1.isOne (E1.var 1) .list bt_list M.l M.i) o_neB) fun _ => W1.or1 (T1.cmp (E1.isOne (E1.var 0) .tuple bt_tuple M.t M.i) (E1.isOne (E1.var 1) .tuple bt_tuple M.t M.i) o_neB))) rfl) (fun z => by cases z) (fun _ => ?_) rfl
    refine Svs.ret1 (E1.and (E1.cmp (E1.callB (A1.cons (E1.var 0) A1.nil) c_len M.len bt_len) (E1.callB (A1.cons (E1.var 1) A1.nil) c_len M.len bt_len) o_eqI) fun _ => E1.one (E1.callB (A1.cons (E1.lcP (xs := ds.zip ds) (e1 := fun p => p.1) (e2 := fun p => p.2) (f := fun _ => .bool true) 2 3 (by rw [ez]; exact I1.zipLL (E1.var 0) (E1.var 1) hh M.zip)
      (fun p hp _ _ _ _ _ => E1.callF F47 hr (A1.cons (E1.var 2) (A1.cons (E1.var 3) A1.nil)) p.1 (by rw [(zip_same hp).1]) (hds _ (zip_same hp).2) fun d h => h) lz sc47.nd) A1.nil) (c_allF _ _ rfl) M.all bt_all)) ⟨_, rfl, by simp⟩
  · refine Svs.ifS (T1.val (E1.isTwo (E1.var 1) .list .tuple bt_list bt_tuple M.l M.t M.i)) (fun _ => ?_) (fun z => by cases z) rfl
    refine Svs.ifS (k := false) (T1.castB (W1.t (W1.or (T1.cmp (E1.isOne (E1.var 0) .list bt_list M.l M.i) (E1.isOne (E1.var 1) .list bt_list M.l M.i) o_neB) fun _ => W1.or1 (T1.cmp (E1.isOne (E1.var 0) .tuple bt_tuple M.t M.i) (E1.isOne (E1.var 1) .tuple bt_tuple M.t M.i) o_neB))) rfl) (fun z => by cases z) (fun _ => ?_) rfl
    refine Svs.ret1 (E1.and (E1.cmp (E1.callB (A1.cons (E1.var 0) A1.nil) c_len M.len bt_len) (E1.callB (A1.cons (E1.var 1) A1.nil) c_len M.len bt_len) o_eqI) fun _ => E1.one (E1.callB (A1.cons (E1.lcP (xs := ds.zip ds) (e1 := fun p => p.1) (e2 := fun p => p.2) (f := fun _ => .bool true) 2 3 (by rw [ez]; exact I1.zipTT (E1.var 0) (E1.var 1) hh M.zip)
      (fun p hp _ _ _ _ _ => E1.callF F47 hr (A1.cons (E1.var 2) (A1.cons (E1.var 3) A1.nil)) p.1 (by rw [(zip_same hp).1]) (hds _ (zip_same hp).2) fun d h => h) lz sc47.nd) A1.nil) (c_allF _ _ rfl) M.all bt_all)) ⟨_, rfl, by simp⟩
end
end Kl

set_option Elab.async false
set_option linter.all false
set_option maxRecDepth 100000
/-! The law's defs: the box made, the cells. -/
namespace Kl
open PySem PySem.Spec L2
section
variable {X : Cx} {ρ : En} {a b : Expr} {pos : Pos} {rest : List Expr}
theorem G1.orL {ds es : List D} (ha : G1 X ρ a (.own (.l ds))) (hb : G1 X ρ (.BoolOp .Or (b :: rest) pos) (.own (.l es))) : G1 X ρ (.BoolOp .Or (a :: b :: rest) pos) (.own (.l (if ds.isEmpty then es else ds))) := by
  refine pe_imp (pe_orT ha hb) fun σ H Q ⟨G, L, bx, x, hb', q⟩ => ⟨G, L, bx, x, hb', fun v H1 s N st p w => ?_⟩
  subst p
  obtain ⟨r, u, rfl, rfl, n0, hr, hh, ho⟩ := id w
  cases u with
  | lst vs =>
    have hl := dpa_len (show DqAll X.K _ vs ds from ho)
    refine ⟨!vs.isEmpty, .inl ⟨vs, SqL.of hr, rfl⟩, ?_⟩
    cases ds with
    | nil =>
      have : vs = [] := List.eq_nil_of_length_eq_zero hl
      subst this
      simp only [List.isEmpty_nil, Bool.not_true, Bool.false_eq_true, if_false]
      refine ⟨G, L, bx.add 0, x.step st, bx0 hb', fun v2 H2 s2 N2 st2 p2 w2 => ?_⟩
      subst p2
      have w3 : SlAt X.K H H2 (L ++ G) v2 (.own (.l es)) N2 := by
        obtain ⟨r2, u2, e1, e2, m0, m1, m2, m3⟩ := w2
        exact ⟨r2, u2, e1, e2, st.noneB m0, m1, m2, m3⟩
      exact q v2 H2 _ N2 (st.trans0 (by rw [Bx.add0] at st2; exact st2)) rfl w3
    | cons d ds =>
      cases vs with
      | nil => cases hl
      | cons v vs =>
        simp only [List.isEmpty_cons, Bool.not_false, if_true]
        exact q _ H1 _ _ st rfl w
  | _ => exact False.elim ho
end
section
variable {P : Program} {w : World} {K : PySem.W.Frag} {mg : Str → Option Value} {base : Heap}
/-! _law_cells -/
abbrev s44 : Stmt := topS 44
theorem sc44 : FnScope ["_law_script", "_law_top_so", "_law_cells_so", "_law_k", "_law_cell", "_law_at_so"] ["_law_script", "_law_top_so"] (defScope s44) := ⟨rfl, rfl, rfl, by decide +kernel, rfl, by decide +kernel, by decide +kernel⟩
abbrev intsL (ns : List Int) : D := .list (ns.map .int)
abbrev sp_cells (K : PySem.W.Frag) : Sp := spP K (τ := List Int) (fun ns => [scrD ns, .int 2]) (fun ns => ns.length ≤ 63) (fun ns d => ∃ ms : List Int, d = intsL ms ∧ 0 < ms.length ∧ ms.length ≤ 2)
theorem ok_cells {f : Addr} {fd : FuncData} (F : Fun K "_law_cells" "_law_cells" s44 f fd) (mL : mg "list" = none) (mE : mg "enumerate" = none) (mI : mg "int" = none) : FnOk P w K mg base CX0 1 f fd ["_law_script", "_law_top_so"] (sp_cells K) := by
  refine okP F sc44 (fun _ => rfl) (by decide) fun ns hn cdv A outer s H E hr => ?_
  obtain ⟨cs, hcs, hc0, hc2, hc3⟩ : ∃ cs : List Int, (if ((ns.take 2).map PyData.int).isEmpty then [PyData.int 0] else (ns.take 2).map PyData.int) = cs.map .int ∧ 0 < cs.length ∧ cs.length ≤ 2 ∧ (2 ≤ ns.length → cs.length = 2) := by
    match ns with
    | [] => exact ⟨[0], rfl, by decide, by decide, fun h => by simp at h⟩
    | [x] => exact ⟨[x], rfl, by simp, by simp, fun h => by simp at h⟩
    | x :: y :: r => exact ⟨[x, y], rfl, by simp, by simp, fun _ => rfl⟩
  have hlen : (ns.map PyData.int).length = ns.length := List.length_map _
  have e1 : ((ns.map PyData.int).drop (HT.sIx (ns.map PyData.int).length 0 none)).take (HT.sIx (ns.map PyData.int).length (ns.map PyData.int).length (some 2) - HT.sIx (ns.map PyData.int).length 0 none) = (ns.take 2).map .int := by
    rw [HT.sIx_none, show HT.sIx (ns.map PyData.int).length (ns.map PyData.int).length (some 2) = min 2 (ns.map PyData.int).length from HT.sIx_nat _ _ 2, List.drop_zero, List.map_take, Nat.sub_zero, List.take_eq_take_iff]
    omega
  obtain ⟨ks, e2, hk1, hk2⟩ : ∃ ks : List Int, ((ns.map PyData.int).drop (HT.sIx (ns.map PyData.int).length 0 (some 2))).take (HT.sIx (ns.map PyData.int).length (ns.map PyData.int).length (some 63) - HT.sIx (ns.map PyData.int).length 0 (some 2)) = ks.map .int ∧ ks.length ≤ 61 ∧ (0 < ks.length → 2 ≤ ns.length) := by
    refine ⟨(ns.drop (min 2 ns.length)).take (min 63 ns.length - min 2 ns.length), ?_, ?_, ?_⟩
    · rw [show HT.sIx (ns.map PyData.int).length 0 (some 2) = min 2 (ns.map PyData.int).length from HT.sIx_nat _ _ 2, show HT.sIx (ns.map PyData.int).length (ns.map PyData.int).length (some 63) = min 63 (ns.map PyData.int).length from HT.sIx_nat _ _ 63, hlen, List.map_take, List.map_drop]
    · rw [List.length_take, List.length_drop]
      omega
    · rw [List.length_take, List.length_drop]
      omega
  refine Svs.asgG 2 (G1.cast (G1.orL (G1.list (E1.cast (E1.sliceScr (E1.var 0) (.inl ⟨rfl, rfl⟩) (.inr ⟨_, 2, rfl, rfl, E1.var 1⟩)) (d' := .list ((ns.take 2).map .int)) (by rw [e1])) mL) (pe_one (G1.lst (L1.cons E1.int L1.nil)))) (by rw [hcs])) sc44.nd ?_
  have ez : ((List.range ks.length).zip ks).map (fun p => PyData.tuple [.int p.1, .int p.2]) = enumD (ks.map .int) := by
    unfold enumD rangeD
    rw [List.length_map]
    exact (zipD_map (fun k : Nat => PyData.int k) PyData.int (List.range ks.length) ks).symm
  refine Svs.imp (Svs.forP (xs := (List.range ks.length).zip ks) (e1 := fun p : Nat × Int => PyData.int p.1) (e2 := fun p : Nat × Int => PyData.int p.2) (c0 := 0) (ct := 0) (c := 0) 3 4 (fun i ρ' => ∃ (ms : List Int) (s3 s4 s5 : Option Sl), ρ' = [some (.dat (scrD ns)), some (.dat (.int 2)), some (.own (.l (ms.map .int))), s3, s4, s5] ∧ ms.length = cs.length)
    (by rw [ez]; exact I1.enumL (E1.cast (E1.sliceScr (E1.var 0) (.inr ⟨_, 2, rfl, rfl, E1.var 1⟩) (.inr ⟨_, 63, rfl, rfl, E1.int⟩)) (by rw [e2])) mE) ⟨cs, none, none, none, rfl, rfl⟩ ?_ ?_ (by simp) PassesOwn.never sc44.nd) (Nat.le_refl _) fun _ z => z
  · rintro i ⟨k, cell⟩ ρ' hi ⟨ms, s3, s4, s5, rfl, hms⟩
    have hl := (List.getElem?_eq_some_iff.mp hi).1
    rw [List.length_zip, List.length_range, Nat.min_self] at hl
    have hc : cs.length = 2 := hc3 (hk2 (by omega))
    have hkk : k < ks.length := by
      have := List.mem_of_getElem? hi
      exact List.mem_range.mp (List.of_mem_zip this).1
    have hm : k % 2 < ms.length := by omega
    refine Svs.asg1 5 (d := .int ((k % 2 : Nat) : Int)) (E1.cast (E1.op (E1.callT (A1.cons (E1.var 3) A1.nil) c_int mI bt_int) (E1.var 1) (o_mod (by decide))) (by rw [Int.natCast_emod]; rfl)) sc44.nd ?_
    refine Svs.imp (Svs.cons (c1 := 0) (c2 := 0) (Sv.putL 2 (m := k % 2) rfl (E1.op (E1.flat 2 (d := .list (ms.map .int)) (E1.ix (E1.var 2) (E1.var 5) (x_nat (dd := .int ms[k % 2]) (.inr rfl) (by rw [List.getElem?_map, List.getElem?_eq_getElem hm]; rfl) rfl))) (E1.op (E1.var 4) (E1.op (E1.var 3) E1.int o_add) (o_mul (.inr (by omega)))) o_add) (fun d z => by rw [z]; rfl) (E1.var 5) (by rw [List.length_map]; exact hm)) (fun ρ' z => ?_) fun d z => by obtain ⟨_, _, z⟩ := z; cases z) (Nat.le_refl _) fun _ z => z
    obtain ⟨d, rfl, z⟩ := z
    cases z
    refine Svs.nil ⟨ms.set (k % 2) (ms[k % 2] + cell * (k + 2)), some (.dat (.int k)), some (.dat (.int cell)), some (.dat (.int ((k % 2 : Nat) : Int))), ?_, by rw [List.length_set]; exact hms⟩
    rw [List.map_set]
    rfl
  · rintro ρ' ⟨ms, s3, s4, s5, rfl, hms⟩
    exact Svs.freeze 2 (Svs.ret1 (E1.var 2) ⟨_, rfl, ms, rfl, by omega, by omega⟩)
theorem b01 (b : Bool) : -(2 ^ 64) < (if b then (1 : Int) else 0) ∧ (if b then (1 : Int) else 0) < 2 ^ 64 := by cases b <;> decide
/-! _law_box -/
abbrev s42 : Stmt := topS 42
theorem sc42 : FnScope ["_law_script", "_law_k", "_law_cell"] ["_law_script", "_law_k"] (defScope s42) := ⟨rfl, rfl, rfl, by decide +kernel, rfl, by decide +kernel, by decide +kernel⟩
def sp_box (K : PySem.W.Frag) : Sp := fun vs H Q _ => ∃ (M : List Addr) (ns : List Int) (k : Nat), (∀ a ∈ M, Hid (H a)) ∧ Paired (Dv K (mask M H)) vs [intsL ns, .int k] ∧ k < 1000 ∧ ∀ p H', Same H H' → H p = none → BoxAt H' p 0 → Q (.ref p) H'
theorem ok_box {f : Addr} {fd : FuncData} (F : Fun K "_law_box" "_law_box" s42 f fd) (mL : mg "len" = none) (mI : mg "int" = none) (mA : mg "abs" = none) : FnOk P w K mg base CX0 1 f fd ["_law_script", "_law_k"] (sp_box K) := by
  refine F.ok sc42 (fun vs H Q E h => ?_) (fun cdv A outer s H vs Q E hr hsp => ?_)
  · obtain ⟨M, ns, k, _, wd, _⟩ := h
    exact (Paired.length wd).trans rfl
  · obtain ⟨M, ns, k, al, wd, hk, q⟩ := hsp
    have hv : vs.length = 2 := (Paired.length wd).trans rfl
    let O1 : Out → Prop := fun o => ∃ i : Int, o = .nx [some (.dat (intsL ns)), some (.dat (.int k)), some (.dat (.int i))]
    have gv : ∀ (i : Int), ∃ x y : Int, 0 ≤ x ∧ 0 ≤ y ∧ y < 2 ^ 62 ∧ x = (if i < 0 then -i else i) * (if decide ((if i < 0 then -i else i) ≥ (10 : Int) ^ (18 : Int).toNat) then 1 else 0) ∧ y = i % 2305843009213693951 + 39373 * (k : Int) + 932078 := fun i => by
      refine ⟨_, _, ?_, ?_, ?_, rfl, rfl⟩
      · refine Int.mul_nonneg ?_ ?_
        · split <;> omega
        · generalize decide ((if i < 0 then -i else i) ≥ (10 : Int) ^ (18 : Int).toNat) = b
          cases b <;> decide
      · have := Int.emod_nonneg i (show (2305843009213693951 : Int) ≠ 0 by decide)
        omega
      · have := Int.emod_lt_of_pos i (show (0 : Int) < 2305843009213693951 by decide)
        have : (2 : Int) ^ 62 = 4611686018427387904 := by decide
        omega
    refine ⟨_, pss_cons (t := tSt K (slots [intsL ns, .int k] 3) 0 O1) (ps_imp (Sv.asg (P := fun d => ∃ i : Int, d = .int i) (c := 0) 2 (Ev.ifExp (c1 := 0) (c2 := 0) (T1.cmp (E1.var 1) (E1.callB (A1.cons (E1.var 0) A1.nil) c_len mL bt_len) o_lt) (fun z => ?_) fun _ => E1.ev E1.int ⟨0, rfl⟩) sc42.nd) fun Dn σ H h => h.imp (Nat.le_refl _) fun o ⟨d, ⟨i, e1⟩, e2⟩ => ⟨i, by rw [e2, e1]; rfl⟩)
      (pss_any (ι := {r : En // O1 (.nx r)}) fun r => pss_one (ps_ret (te := tG K r.1 0 (fun s => ∃ x y : Int, s = .own (.l [.int x, .int y, .int 0]) ∧ 0 ≤ x ∧ 0 ≤ y ∧ y < 2 ^ 62)) ?_)), M, [], none, ⟨?_, fun a ha => ha.elim (al a) (fun z => by cases z), fun i d e => ?_, fun i u e => ?_, fun i j u u' p e => ?_, (fun b n e => by cases e)⟩, rfl, fun L1 σ1 H1 ρ1 s1 _ _ o1 x1 => ⟨⟨ρ1, o1⟩, M, L1, none, x1, rfl, fun v H2 sl N s2 p w2 => ?_⟩, fun v H' d st' o' w' => by obtain ⟨_, o'⟩ := o'; cases o'⟩
    · have z : decide ((k : Int) < ((ns.map PyData.int).length : Nat)) = true := z.symm
      have hlt : k < ns.length := by
        have := of_decide_eq_true z
        rw [List.length_map] at this
        omega
      exact E1.ev (E1.ix (d := .int ns[k]) (E1.var 0) (E1.var 1) (x_nat (.inr rfl) (by rw [List.getElem?_map, List.getElem?_eq_getElem hlt]; rfl) rfl)) ⟨_, rfl⟩
    · obtain ⟨ρ', i, e⟩ := r
      cases e
      obtain ⟨x, y, hx, hy, hy2, ex, ey⟩ := gv i
      refine Gv.imp (G1.lst (L1.cons (E1.cast (E1.op (E1.callB (A1.cons (E1.var 2) A1.nil) c_abs mA bt_abs) (E1.callT (A1.cons (E1.cmp (E1.callB (A1.cons (E1.var 2) A1.nil) c_abs mA bt_abs) (E1.op E1.int E1.int (o_pow ⟨by decide, by decide, by decide⟩)) o_ge) A1.nil) c_intB mI bt_int) (o_mul (.inr (b01 _)))) (d' := .int x) (by rw [ex])) (L1.cons (E1.cast (E1.op (E1.op (E1.op (E1.callT (A1.cons (E1.var 2) A1.nil) c_int mI bt_int) E1.int (o_mod (by decide))) (E1.op E1.int (E1.var 1) (o_mul (.inl (by decide)))) o_add) E1.int o_add) (d' := .int y) (by rw [ey])) (L1.cons E1.int L1.nil))) (by show 3 ≤ sizeLine; decide)) (Nat.le_refl _) fun s e => ⟨x, y, e, hx, hy, hy2⟩
    · unfold slots L2.start
      simp only [List.length_append, List.length_map, List.length_replicate, List.length_cons, List.length_nil]
      omega
    · obtain ⟨d', e1, e2⟩ := slots_get e
      cases e1
      obtain ⟨v, h1, h2⟩ := Kl.paired_get wd e2
      exact ⟨v, start_get h1, h2⟩
    · obtain ⟨d', e1, _⟩ := slots_get e
      cases e1
    · obtain ⟨d', e1, _⟩ := slots_get e
      cases e1
    · obtain ⟨x, y, rfl, hx, hy, hy2⟩ := p
      obtain ⟨r, u, rfl, rfl, n1, hr', hh, ho⟩ := w2
      have sm : Same H H2 := fun a u e => s2 a u (by simp) (s1 a u (by simp) e)
      have nH : H r = none := by
        cases z : H r with
        | none => rfl
        | some o => rw [s1 r o (by simp) z] at n1; cases n1
      cases u with
      | lst vs' =>
        have hd : DqAll K _ vs' [.int x, .int y, .int 0] := ho
        cases hd with
        | cons g1 g2 =>
          cases g2 with
          | cons g2 g3 =>
            cases g3 with
            | cons g3 g4 =>
              cases g4
              cases g1
              cases g2
              cases g3
              exact q r H2 sm nH ⟨x, y, 0, hr', hx, hy, hy2, by decide, by decide⟩
      | _ => exact False.elim ho
end
end Kl

set_option Elab.async false
set_option linter.all false
set_option maxRecDepth 100000
/-! The law's defs: the least groups by the law. -/
namespace Kl
open PySem PySem.Spec L2
def leanStep (f : List (List Nm)) (p : Nat × List Nm) : List (List Nm) := if f.any (fun o => allIn o p.2) then f else f ++ [p.2]
def leanFold (l : List (Nat × List Nm)) : List (List Nm) := l.foldl leanStep []
def leanRaw (gs : List (List Nm)) : List (List Nm) := leanFold (byLen gs)
theorem leanFold_snoc (l : List (Nat × List Nm)) (p : Nat × List Nm) : leanFold (l ++ [p]) = leanStep (leanFold l) p := by
  unfold leanFold
  rw [List.foldl_append]
  rfl
theorem leanFold_mem {l : List (Nat × List Nm)} {o : List Nm} (h : o ∈ leanFold l) : ∃ p ∈ l, p.2 = o := by
  induction l using snoc_ind generalizing o with
  | h0 => cases h
  | h1 l p ih =>
    rw [leanFold_snoc] at h
    unfold leanStep at h
    split at h
    · obtain ⟨q, h1, h2⟩ := ih h
      exact ⟨q, List.mem_append_left _ h1, h2⟩
    · rcases List.mem_append.mp h with h | h
      · obtain ⟨q, h1, h2⟩ := ih h
        exact ⟨q, List.mem_append_left _ h1, h2⟩
      · exact ⟨p, by simp, (List.mem_singleton.mp h).symm⟩
theorem leanFold_len (l : List (Nat × List Nm)) : (leanFold l).length ≤ l.length := by
  induction l using snoc_ind with
  | h0 => exact Nat.le_refl _
  | h1 l p ih =>
    rw [leanFold_snoc, List.length_append]
    unfold leanStep
    split
    · omega
    · rw [List.length_append]
      exact Nat.add_le_add ih (Nat.le_refl _)
theorem canLay_keys : ∀ ks : List (List Nm), (∀ k ∈ ks, ∀ x ∈ k, PyData.strOk x = true) → PyData.canLayAll0 (ks.map keyD) = true
  | [], _ => rfl
  | k :: ks, h => by
    rw [List.map_cons, PyData.canLayAll0, canLay_keys ks fun q hq => h q (List.mem_cons_of_mem _ hq)]
    unfold keyD
    rw [PyData.canLay0, canLay_strs k (h k List.mem_cons_self)]
    rfl
theorem depthAll_keys (ks : List (List Nm)) : PyData.depthAll (ks.map keyD) ≤ 1 := by
  induction ks with
  | nil => exact Nat.zero_le _
  | cons k ks ih =>
    rw [List.map_cons, PyData.depthAll]
    unfold keyD at ih ⊢
    rw [PyData.depth, depthAll_strs]
    exact Nat.max_le.mpr ⟨Nat.le_refl _, ih⟩
theorem shaped_keysL (ks : List (List Nm)) (h : ∀ k ∈ ks, ∀ x ∈ k, PyData.strOk x = true) : SeqAt.shaped (.list (ks.map keyD)) = true := by
  unfold SeqAt.shaped
  have := depthAll_keys ks
  rw [PyData.canLay0, canLay_keys ks h, PyData.depth]
  simp
  omega
theorem shaped_strsL (k : List Nm) (h : ∀ x ∈ k, PyData.strOk x = true) : SeqAt.shaped (nmsL k) = true := by
  unfold SeqAt.shaped
  rw [PyData.canLay0, canLay_strs k h, PyData.depth, depthAll_strs]
  decide
theorem o_eqNil {X : Cx} {ds : List D} (hu : X.A.units + 64 < cLine) (h : SeqAt.shaped (.list ds) = true) : OpOk X (compareOp .Eq) (.list ds) (.list []) (· = .bool ds.isEmpty) := by
  have := o_eqD (X := X) hu h (show SeqAt.shaped (.list []) = true by decide) rfl rfl
  have e : PyData.eqv (.list ds) (.list []) = ds.isEmpty := by
    rw [PyData.eqv]
    cases ds <;> rfl
  rwa [e] at this
theorem allIn_eq (o q : List Nm) : ((o.filter fun t => decide (¬t ∈ q)).map PyData.str).isEmpty = allIn o q := by
  unfold allIn
  rw [Bool.eq_iff_iff, List.isEmpty_iff, List.map_eq_nil_iff, List.filter_eq_nil_iff, List.all_eq_true]
  constructor
  · intro h x hx
    have := h x hx
    simpa using this
  · intro h x hx
    have := h x hx
    simpa using this
theorem none_eq (f : List (List Nm)) (q : List Nm) : (((f.filter fun o => allIn o q).map keyD).isEmpty) = !(f.any fun o => allIn o q) := by
  rw [Bool.eq_iff_iff, List.isEmpty_iff, List.map_eq_nil_iff, List.filter_eq_nil_iff, Bool.not_eq_true', List.any_eq_false]
section
variable {P : Program} {w : World} {K : PySem.W.Frag} {mg : Str → Option Value} {base : Heap}
abbrev s54 : Stmt := topS 54
theorem sc54 : FnScope ["_law_bands", "_law_found", "_law_band", "_law_own", "_law_tag"] ["_law_bands"] (defScope s54) := ⟨rfl, rfl, rfl, by decide +kernel, rfl, by decide +kernel, by decide +kernel⟩
abbrev sp_lean (K : PySem.W.Frag) : Sp := spP K (τ := List (List Nm)) (fun gs => [.list (gs.map keyD)]) (fun gs => GsOk gs ∧ CanSort ((leanRaw gs).map keyD)) (fun gs d => d = .list (((leanRaw gs).mergeSort leK).map keyD))
theorem ok_lean {f : Addr} {fd : FuncData} (F : Fun K "_law_lean" "_law_lean" s54 f fd) (mS : mg "sorted" = none) (mL : mg "len" = none) : FnOk P w K mg base CX0 1 f fd ["_law_bands"] (sp_lean K) := by
  refine okP F sc54 (fun _ => rfl) (by decide) ?_
  rintro gs ⟨⟨hg, hk⟩, hcs⟩ cdv A outer s H E hr
  have hsz : sizeLine = 16777216 := rfl
  have bl : (byLen gs).length ≤ 256 := by unfold byLen; rw [List.length_mergeSort, List.length_map]; exact hg
  refine Svs.asgG 1 (G1.lst L1.nil) sc54.nd ?_
  refine Svs.imp (Svs.forN (ys := (byLen gs).map lenD) (c0 := 0) (ct := 0) (c := 0) 2 (fun i ρ' => ∃ s2, ρ' = [some (.dat (.list (gs.map keyD))), some (.own (.l ((leanFold ((byLen gs).take i)).map keyD))), s2, none, none])
    (I1.list (E1.callB (A1.cons (E1.cast (E1.lcN (xs := gs) (en := keyD) (f := fun o => lenD (o.length, o)) 3 (I1.list (E1.var 0)) (fun o _ _ _ _ _ _ => E1.tup (L1.cons (E1.cast (E1.callB (A1.cons (E1.var 3) A1.nil) c_len mL bt_len) (by rw [List.length_map])) (L1.cons (E1.var 3) L1.nil)) (by show 2 ≤ sizeLine; decide)) (Nat.le_trans hg (by decide)) sc54.nd) (by rw [List.map_map]; rfl)) A1.nil)
      (c_sorted (bs := gs.map fun o => (o.length, o)) (enc := lenD) (lenD_alike _) (lenD_can _) (by rw [List.length_map]; exact Nat.le_trans hg (by decide)) (fun p _ => depth_lenD p) hr.units) mS bt_sorted)) ⟨none, rfl⟩ ?_ ?_ (by simp) PassesOwn.never sc54.nd) (Nat.le_refl _) fun _ z => z
  · rintro i d ρ' hi ⟨s2, rfl⟩
    rw [List.getElem?_map] at hi
    obtain ⟨p, hp, rfl⟩ := Option.map_eq_some_iff.mp hi
    have tk : (byLen gs).take (i + 1) = (byLen gs).take i ++ [p] := by rw [List.take_add_one, hp]; rfl
    have fm : ∀ o ∈ leanFold ((byLen gs).take i), o ∈ gs := fun o ho => by
      obtain ⟨q, h1, rfl⟩ := leanFold_mem ho
      exact (mem_byLen.mp (List.mem_of_mem_take h1)).1
    have fl := leanFold_len ((byLen gs).take i)
    rw [List.length_take] at fl
    have fs : ∀ o ∈ leanFold ((byLen gs).take i), ∀ x ∈ o, PyData.strOk x = true := fun o ho => (hk o (fm o ho)).2
    generalize hF : leanFold ((byLen gs).take i) = fd at fm fl fs
    refine Svs.imp (Svs.cons (c1 := 0) (c2 := 0) (O1 := fun o => o = .nx [some (.dat (.list (gs.map keyD))), some (.own (.l ((leanStep fd p).map keyD))), some (.dat (lenD p)), none, none]) (Sv.ifS (c1 := 0) (c2 := 0) (T1.castB (T1.flat 1 (d := .list (fd.map keyD)) (T1.cmp (E1.lcNIf (xs := fd) (en := keyD) (q := fun o => allIn o p.2) (f := keyD) 3 (I1.list (E1.var 1))
        (fun o ho _ _ _ _ _ => T1.castB (T1.cmp (E1.lcNIf (xs := o) (en := .str) (q := fun t => decide (¬t ∈ p.2)) (f := .str) 4 (I1.tup (E1.var 3)) (fun t _ _ _ _ _ _ => T1.cmp (E1.var 4) (E1.ix (E1.var 2) E1.int (x_t 1)) o_notIn) (fun t _ _ _ _ _ _ _ => E1.var 4) (Nat.le_trans (hk o (fm o ho)).1 (by decide)) sc54.nd) (E1.lst L1.nil) (o_eqNil hr.units (shaped_strsL _ fun x hx => fs o ho x (List.mem_filter.mp hx).1))) (allIn_eq o p.2))
        (fun o _ _ _ _ _ _ _ => E1.var 3) (by omega) sc54.nd) (E1.lst L1.nil) (o_eqNil hr.units (shaped_keysL _ fun o ho => fs o (List.mem_filter.mp ho).1)))) (none_eq fd p.2)) (fun z => ?_) fun z => ?_) (fun ρ' z => ?_) fun d z => by cases z) (Nat.le_refl _) fun _ z => z
    · refine Svs.append 1 rfl (E1.ix (E1.var 2) E1.int (x_t 1)) (by rw [List.length_map]; omega) (Svs.nil ?_)
      have z : (!(fd.any fun o => allIn o p.2)) = true := z.symm
      rw [Bool.not_eq_true'] at z
      unfold leanStep
      rw [z, if_neg Bool.false_ne_true, List.map_append]
      rfl
    · refine Svs.nil ?_
      have z : (!(fd.any fun o => allIn o p.2)) = false := z.symm
      rw [Bool.not_eq_false'] at z
      unfold leanStep
      rw [z, if_pos rfl]
      rfl
    · cases z
      refine Svs.nil ⟨some (.dat (lenD p)), ?_⟩
      rw [tk, leanFold_snoc, hF]
  · rintro ρ' ⟨s2, rfl⟩
    rw [List.length_map, List.take_of_length_le (Nat.le_refl _)]
    refine Svs.freeze 1 (Svs.ret1 (E1.callB (A1.cons (E1.var 1) A1.nil) (c_sorted (keyD_alike _) hcs (Nat.le_trans (leanFold_len _) (Nat.le_trans bl (by decide))) (fun k _ => depth_keyD k) hr.units) mS bt_sorted) ⟨_, rfl, rfl⟩)
end
end Kl

set_option Elab.async false
set_option linter.all false
set_option maxRecDepth 100000
/-! The plain law: ways and keys; the least set of keys wanted. -/
namespace Kl
open PySem PySem.Spec L2
/-! ### sets of names -/
theorem rawSubs_all {ns T : List Nm} (h : T.Sublist ns) : T ∈ rawSubs ns := by
  induction ns using snoc_ind generalizing T with
  | h0 => rw [List.sublist_nil.mp h]; simp [rawSubs]
  | h1 ns x ih =>
    obtain ⟨a, b, rfl, h1, h2⟩ := List.sublist_append_iff.mp h
    rw [rawSubs_snoc, List.mem_append, List.mem_map]
    rcases List.sublist_cons_iff.mp h2 with h3 | ⟨r, hb, h3⟩
    · rw [List.sublist_nil.mp h3, List.append_nil]
      exact .inl (ih h1)
    · rw [List.sublist_nil.mp h3] at hb
      rw [hb]
      exact .inr ⟨a, ih h1, rfl⟩
theorem subs_iff {ns T : List Nm} : T ∈ subs ns ↔ T.Sublist ns := by
  unfold subs
  rw [(List.mergeSort_perm _ _).mem_iff]
  exact ⟨mem_rawSubs, rawSubs_all⟩
/-! ### ways -/
theorem goes_iff {n : Net} {ks : List Nm} {lot : List Int} : goesB n ks lot = true ↔ ∀ far, far.Sublist (yardsOf n) → partIn n lot far ≤ valueOf n ks far := by
  unfold goesB
  rw [List.all_eq_true]
  exact ⟨fun h far hf => of_decide_eq_true (h far (subs_iff.mpr hf)), fun h far hf => decide_eq_true (h far (subs_iff.mp hf))⟩
/-- no line with less than nothing -/
def MostOk (n : Net) : Prop := ∀ l ∈ n.lines, 0 ≤ l.most
theorem sum_filter_le {α : Type} {f : α → Int} {p q : α → Bool} : ∀ (l : List α), (∀ x ∈ l, 0 ≤ f x) → (∀ x ∈ l, p x = true → q x = true) → ((l.filter p).map f).sum ≤ ((l.filter q).map f).sum
  | [], _, _ => Int.le_refl _
  | x :: l, h, hp => by
    have ih := sum_filter_le l (fun y hy => h y (List.mem_cons_of_mem _ hy)) fun y hy => hp y (List.mem_cons_of_mem _ hy)
    have h0 := h x List.mem_cons_self
    have h1 := hp x List.mem_cons_self
    rw [List.filter_cons, List.filter_cons]
    cases ep : p x with
    | true =>
      rw [h1 ep, if_pos rfl, if_pos rfl, List.map_cons, List.map_cons, List.sum_cons, List.sum_cons]
      omega
    | false =>
      rw [if_neg Bool.false_ne_true]
      cases eq : q x with
      | true =>
        rw [if_pos rfl, List.map_cons, List.sum_cons]
        omega
      | false =>
        rw [if_neg Bool.false_ne_true]
        exact ih
theorem keysOf_mem {n : Net} {k : Nm} : k ∈ keysOf n ↔ ∃ l ∈ n.lines, l.key = k := by
  unfold keysOf
  rw [mem_setOf, List.mem_map]
theorem goes_mono {n : Net} {ks ks' : List Nm} {lot : List Int} (hm : MostOk n) (h : ∀ k ∈ keysOf n, k ∈ ks → k ∈ ks') (hg : goesB n ks lot = true) : goesB n ks' lot = true := by
  rw [goes_iff] at hg ⊢
  intro far hf
  refine Int.le_trans (hg far hf) ?_
  unfold valueOf
  refine Int.add_le_add_left (sum_filter_le _ (fun l hl => hm l hl) fun l hl hc => ?_) _
  rw [Bool.and_eq_true] at hc ⊢
  exact ⟨decide_eq_true (h l.key (keysOf_mem.mpr ⟨l, hl, rfl⟩) (of_decide_eq_true hc.1)), hc.2⟩
theorem goes_congr {n : Net} {ks ks' : List Nm} {lot : List Int} (h : ∀ k ∈ keysOf n, k ∈ ks ↔ k ∈ ks') : goesB n ks lot = goesB n ks' lot := by
  rw [Bool.eq_iff_iff, goes_iff, goes_iff]
  have e : ∀ far, valueOf n ks far = valueOf n ks' far := fun far => by
    unfold valueOf
    congr 3
    apply List.filter_congr
    intro l hl
    have := h l.key (keysOf_mem.mpr ⟨l, hl, rfl⟩)
    rw [decide_eq_decide.mpr this]
  constructor
  · intro g far hf; rw [← e]; exact g far hf
  · intro g far hf; rw [e]; exact g far hf
/-! ### who holds what -/
def Has (h : Hold) (p k : Nm) : Prop := ∃ ks, (p, ks) ∈ h ∧ k ∈ ks
theorem heldBy_mem {h : Hold} {g : List Nm} {k : Nm} : k ∈ heldBy h g ↔ ∃ p ∈ g, Has h p k := by
  unfold heldBy
  rw [mem_setOf, List.mem_flatMap]
  constructor
  · rintro ⟨⟨p, ks⟩, hp, hk⟩
    obtain ⟨h1, h2⟩ := List.mem_filter.mp hp
    exact ⟨p, of_decide_eq_true h2, ks, h1, hk⟩
  · rintro ⟨p, hp, ks, h1, hk⟩
    exact ⟨(p, ks), List.mem_filter.mpr ⟨h1, decide_eq_true hp⟩, hk⟩
theorem Has.people {h : Hold} {p k : Nm} (x : Has h p k) : p ∈ people h := by
  obtain ⟨ks, h1, _⟩ := x
  exact List.mem_map.mpr ⟨(p, ks), h1, rfl⟩
theorem every_mem {h : Hold} {k : Nm} : k ∈ heldBy h (people h) ↔ ∃ p, Has h p k := by
  rw [heldBy_mem]
  exact ⟨fun ⟨p, _, x⟩ => ⟨p, x⟩, fun ⟨p, x⟩ => ⟨p, x.people, x⟩⟩
theorem handOn_people (h : Hold) (gv ky tk : Nm) : people (handOn h gv ky tk) = people h := by
  unfold people
  rw [handOn_eq, List.map_map]
  rfl
/-- behind one hand -/
theorem handOn_has {h : Hold} {gv ky tk p k : Nm} (ht : tk ∈ people h) : Has (handOn h gv ky tk) p k ↔ (Has h p k ∧ ¬(p = gv ∧ k = ky)) ∨ (p = tk ∧ k = ky) := by
  constructor
  · rintro ⟨ks, h1, hk⟩
    rw [handOn_eq, List.mem_map] at h1
    obtain ⟨q, hq, e⟩ := h1
    obtain ⟨p', ks'⟩ := q
    unfold hand1 at e
    injection e with e1 e2
    subst e1
    rw [← e2, mem_setOf] at hk
    have left : k ∈ keep1 gv ky tk (p', ks') → Has h p' k ∧ ¬(p' = gv ∧ k = ky) := fun hk => by
      obtain ⟨h1, h2⟩ := List.mem_filter.mp hk
      refine ⟨⟨ks', hq, h1⟩, fun ⟨z1, z2⟩ => ?_⟩
      simp [z1, z2] at h2
    split at hk
    · rename_i et
      rcases List.mem_append.mp hk with hk | hk
      · exact .inl (left hk)
      · exact .inr ⟨et, List.mem_singleton.mp hk⟩
    · exact .inl (left hk)
  · have mk : ∀ {ks : List Nm}, (p, ks) ∈ h → (p, (hand1 gv ky tk (p, ks)).2) ∈ handOn h gv ky tk := fun {ks} hm => by
      rw [handOn_eq]
      exact List.mem_map.mpr ⟨(p, ks), hm, rfl⟩
    rintro (⟨⟨ks, h1, hk⟩, no⟩ | ⟨rfl, rfl⟩)
    · refine ⟨_, mk h1, ?_⟩
      unfold hand1
      rw [mem_setOf]
      have : k ∈ keep1 gv ky tk (p, ks) := List.mem_filter.mpr ⟨hk, by
        by_cases z : k = ky
        · have : p ≠ gv := fun q => no ⟨q, z⟩
          simp [z, this]
        · simp [z]⟩
      split
      · exact List.mem_append_left _ this
      · exact this
    · obtain ⟨q, hq, e⟩ := List.mem_map.mp ht
      obtain ⟨p', ks⟩ := q
      have e : p' = p := e
      subst e
      refine ⟨_, mk hq, ?_⟩
      unfold hand1
      rw [mem_setOf, if_pos rfl]
      simp
/-- the keys that all hold are the same -/
theorem every_same {h : Hold} {gv ky tk k : Nm} (ht : tk ∈ people h) (hg : Has h gv ky) : (∃ p, Has (handOn h gv ky tk) p k) ↔ ∃ p, Has h p k := by
  constructor
  · rintro ⟨p, x⟩
    rcases (handOn_has ht).mp x with ⟨x, _⟩ | ⟨rfl, rfl⟩
    · exact ⟨p, x⟩
    · exact ⟨gv, hg⟩
  · rintro ⟨p, x⟩
    by_cases z : p = gv ∧ k = ky
    · exact ⟨tk, (handOn_has ht).mpr (.inr ⟨rfl, z.2⟩)⟩
    · exact ⟨p, (handOn_has ht).mpr (.inl ⟨x, z⟩)⟩
/-! ### what is wanted -/
theorem its_mem {n : Net} {h : Hold} {g : List Nm} {k : Nm} : k ∈ itsOf n h g ↔ k ∈ keysOf n ∧ (∃ p, Has h p k) ∧ ¬k ∈ heldBy h g ∧ g ≠ [] := by
  unfold itsOf
  rw [List.mem_filter, Bool.and_eq_true, Bool.and_eq_true, decide_eq_true_iff, decide_eq_true_iff, decide_eq_true_iff, every_mem]
  have : 0 < g.length ↔ g ≠ [] := List.length_pos_iff
  rw [this]
theorem its_nodup (n : Net) (h : Hold) (g : List Nm) : (itsOf n h g).Nodup := (rise_nodup (rise_setOf _)).filter _
theorem byLen_sorted (gs : List (List Nm)) : (byLen gs).Pairwise fun p q => p.1 ≤ q.1 := by
  unfold byLen
  have t : PySem.W.TotalLe leL := PySem.W.sortLe_total _ _ _
  refine (List.pairwise_mergeSort (le := leL) (fun a b c => t.trans a b c) (fun a b => ?_) _).imp fun {p q} h => ?_
  · have := t.total a b
    simpa using this
  · have h : (!PySem.W.dataLt (lenD q) (lenD p)) = true := h
    unfold lenD at h
    rw [PySem.W.dataLt_pair (by simp [PySem.W.alike]) (by unfold keyD; simp only [PySem.W.alike]; exact alikeAll_strs _ _), PySem.W.dataLt_int] at h
    simp only [PyData.eqv, beq_iff_eq] at h
    by_cases z : (q.1 : Int) = (p.1 : Int)
    · omega
    · rw [if_neg z] at h
      simp at h
      omega
theorem find_least {α : Type} {p : α → Bool} {f : α → Nat} {l : List α} {a : α} (hs : l.Pairwise fun x y => f x ≤ f y) (h : l.find? p = some a) : ∀ b ∈ l, p b = true → f a ≤ f b := by
  induction l with
  | nil => cases h
  | cons x l ih =>
    obtain ⟨h1, h2⟩ := List.pairwise_cons.mp hs
    rw [List.find?_cons] at h
    cases e : p x with
    | true =>
      rw [e] at h
      cases h
      intro b hb _
      rcases List.mem_cons.mp hb with rfl | hb
      · exact Nat.le_refl _
      · exact h1 b hb
    | false =>
      rw [e] at h
      intro b hb pb
      rcases List.mem_cons.mp hb with rfl | hb
      · rw [e] at pb; cases pb
      · exact ih h2 h b hb pb
/-- with T beside what the group holds the lot goes -/
def GoesWith (n : Net) (h : Hold) (lot : List Int) (g T : List Nm) : Prop := goesB n (heldBy h g ++ T) lot = true
theorem goes_set {n : Net} {a : List Nm} {lot : List Int} : goesB n (setOf a) lot = goesB n a lot := goes_congr fun k _ => mem_setOf
theorem wanted_some {n : Net} {h : Hold} {lot : List Int} {g f : List Nm} (e : wanted n h lot g = some f) : f.Sublist (itsOf n h g) ∧ GoesWith n h lot g f ∧ ∀ T, T.Sublist (itsOf n h g) → GoesWith n h lot g T → f.length ≤ T.length := by
  refine ⟨wanted_sub e, ?_, ?_⟩
  · unfold wanted at e
    obtain ⟨p, hp, rfl⟩ := Option.map_eq_some_iff.mp e
    have := List.find?_some hp
    unfold GoesWith
    rw [goes_set] at this
    exact this
  · intro T hT hG
    unfold wanted at e
    obtain ⟨p, hp, rfl⟩ := Option.map_eq_some_iff.mp e
    have hm := List.mem_of_find?_eq_some hp
    have := find_least (f := fun p : Nat × List Nm => p.1) (byLen_sorted _) hp (T.length, T) (mem_byLen.mpr ⟨subs_iff.mpr hT, rfl⟩) (by
      show goesB n (setOf (heldBy h g ++ T)) lot = true
      rw [goes_set]
      exact hG)
    rw [(mem_byLen.mp hm).2] at this
    exact this
theorem wanted_none {n : Net} {h : Hold} {lot : List Int} {g : List Nm} (e : wanted n h lot g = none) : ∀ T, T.Sublist (itsOf n h g) → ¬GoesWith n h lot g T := by
  intro T hT hG
  unfold wanted at e
  have e := Option.map_eq_none_iff.mp e
  have := List.find?_eq_none.mp e (T.length, T) (mem_byLen.mpr ⟨subs_iff.mpr hT, rfl⟩)
  apply this
  show goesB n (setOf (heldBy h g ++ T)) lot = true
  rw [goes_set]
  exact hG
theorem nodup_len {a b : List Nm} (nd : a.Nodup) (h : ∀ x ∈ a, x ∈ b) : a.length ≤ b.length := by
  induction a generalizing b with
  | nil => exact Nat.zero_le _
  | cons x a ih =>
    obtain ⟨h1, h2⟩ := List.nodup_cons.mp nd
    have hx := h x List.mem_cons_self
    have := ih (b := b.erase x) h2 fun y hy => (List.mem_erase_of_ne (fun e : y = x => h1 (by rw [← e]; exact hy))).mpr (h y (List.mem_cons_of_mem _ hy))
    rw [List.length_erase_of_mem hx] at this
    have := List.length_pos_of_mem hx
    rw [List.length_cons]
    omega
/-- a set of what is wanted, however written -/
theorem wanted_le {n : Net} {h : Hold} {lot : List Int} {g : List Nm} {T : List Nm} (hT : ∀ k ∈ T, k ∈ itsOf n h g) (hG : GoesWith n h lot g T) : ∃ f, wanted n h lot g = some f ∧ f.length ≤ T.length := by
  have sub : ((itsOf n h g).filter fun k => decide (k ∈ T)).Sublist (itsOf n h g) := List.filter_sublist
  have hG' : GoesWith n h lot g ((itsOf n h g).filter fun k => decide (k ∈ T)) := by
    unfold GoesWith at hG ⊢
    rw [← hG]
    apply goes_congr
    intro k _
    simp only [List.mem_append, List.mem_filter, decide_eq_true_eq]
    constructor
    · rintro (h | ⟨_, h⟩)
      · exact .inl h
      · exact .inr h
    · rintro (h | h)
      · exact .inl h
      · exact .inr ⟨hT k h, h⟩
  cases e : wanted n h lot g with
  | none => exact absurd hG' (wanted_none e _ sub)
  | some f =>
    refine ⟨f, rfl, Nat.le_trans ((wanted_some e).2.2 _ sub hG') ?_⟩
    -- no key twice: no more than in T
    have nd : ((itsOf n h g).filter fun k => decide (k ∈ T)).Nodup := (its_nodup n h g).filter _
    exact nodup_len nd fun k hk => of_decide_eq_true (List.mem_filter.mp hk).2
end Kl

set_option Elab.async false
set_option linter.all false
set_option maxRecDepth 100000
/-! The plain law: one hand. -/
namespace Kl
open PySem PySem.Spec L2
theorem heldBy_none (h : Hold) : heldBy h [] = [] := by
  unfold heldBy
  have : h.filter (fun p => decide (p.1 ∈ ([] : List Nm))) = [] := by
    rw [List.filter_eq_nil_iff]
    intro p _
    simp
  rw [this]
  rfl
/-- all that a group can have -/
def allOf (h : Hold) (g : List Nm) : List Nm := if g = [] then [] else heldBy h (people h)
theorem wanted_none_iff {n : Net} {h : Hold} {lot : List Int} {g : List Nm} (hm : MostOk n) : wanted n h lot g = none ↔ goesB n (allOf h g) lot = false := by
  constructor
  · intro e
    cases ha : goesB n (allOf h g) lot with
    | false => rfl
    | true =>
      exfalso
      refine wanted_none e (itsOf n h g) (List.Sublist.refl _) (goes_mono hm (fun k hk hx => ?_) ha)
      unfold allOf at hx
      split at hx
      · cases hx
      · rename_i hg
        rw [List.mem_append]
        by_cases z : k ∈ heldBy h g
        · exact .inl z
        · exact .inr (its_mem.mpr ⟨hk, every_mem.mp hx, z, hg⟩)
  · intro ha
    cases e : wanted n h lot g with
    | none => rfl
    | some f =>
      exfalso
      obtain ⟨h1, h2, _⟩ := wanted_some e
      suffices ∀ k ∈ keysOf n, k ∈ heldBy h g ++ f → k ∈ allOf h g by
        exact Bool.noConfusion ((goes_mono hm this h2).symm.trans ha)
      intro k hk hx
      unfold allOf
      split
      · rename_i hg
        subst hg
        rw [heldBy_none] at hx
        have : f = [] := by
          have e2 : itsOf n h [] = [] := by
            rw [List.eq_nil_iff_forall_not_mem]
            intro k hk
            exact (its_mem.mp hk).2.2.2 rfl
          rw [e2] at h1
          exact List.sublist_nil.mp h1
        rw [this] at hx
        cases hx
      · rw [every_mem]
        rcases List.mem_append.mp hx with hx | hx
        · obtain ⟨p, _, x⟩ := heldBy_mem.mp hx
          exact ⟨p, x⟩
        · exact (its_mem.mp (h1.subset hx)).2.1
theorem few_step {n : Net} {h h' : Hold} {lot : List Int} {g f : List Nm} {ky : Nm} (hm : MostOk n) (he : ∀ k, (∃ p, Has h p k) ↔ ∃ p, Has h' p k) (hk : ∀ k, k ∈ heldBy h g → k ∈ heldBy h' g ∨ k = ky) (e : wanted n h lot g = some f) : ∃ f', wanted n h' lot g = some f' ∧ f'.length ≤ f.length + 1 := by
  obtain ⟨h1, h2, _⟩ := wanted_some e
  have inc : ∀ k ∈ keysOf n, k ∈ heldBy h g ++ f → k ∈ heldBy h' g ++ (ky :: f).filter fun k => decide (k ∈ itsOf n h' g) := by
    intro k hk' hx
    rw [List.mem_append] at hx ⊢
    by_cases z : k ∈ heldBy h' g
    · exact .inl z
    · refine .inr (List.mem_filter.mpr ?_)
      rcases hx with hx | hx
      · rcases hk k hx with y | y
        · exact absurd y z
        · obtain ⟨p, hp, x⟩ := heldBy_mem.mp hx
          exact ⟨by rw [y]; exact List.mem_cons_self, decide_eq_true (its_mem.mpr ⟨hk', (he k).mp ⟨p, x⟩, z, fun q => by rw [q] at hp; cases hp⟩)⟩
      · obtain ⟨_, y, _, hg⟩ := its_mem.mp (h1.subset hx)
        exact ⟨List.mem_cons_of_mem _ hx, decide_eq_true (its_mem.mpr ⟨hk', (he k).mp y, z, hg⟩)⟩
  obtain ⟨f', e1, e2⟩ := wanted_le (n := n) (h := h') (lot := lot) (g := g) (fun k hk => of_decide_eq_true (List.mem_filter.mp hk).2) (goes_mono hm inc h2)
  exact ⟨f', e1, Nat.le_trans e2 (List.length_filter_le _ _)⟩
section
variable {n : Net} {h : Hold} {lot : List Int} {g : List Nm} {gv ky tk : Nm}
/-- a hand that can be done -/
structure HandOk (h : Hold) (gv ky tk : Nm) : Prop where
  g : Has h gv ky
  t : tk ∈ people h
theorem held_down (x : HandOk h gv ky tk) : ∀ k, k ∈ heldBy h g → k ∈ heldBy (handOn h gv ky tk) g ∨ k = ky := fun k hk => by
  obtain ⟨p, hp, y⟩ := heldBy_mem.mp hk
  by_cases z : p = gv ∧ k = ky
  · exact .inr z.2
  · exact .inl (heldBy_mem.mpr ⟨p, hp, (handOn_has x.t).mpr (.inl ⟨y, z⟩)⟩)
theorem held_up (x : HandOk h gv ky tk) : ∀ k, k ∈ heldBy (handOn h gv ky tk) g → k ∈ heldBy h g ∨ k = ky := fun k hk => by
  obtain ⟨p, hp, y⟩ := heldBy_mem.mp hk
  rcases (handOn_has x.t).mp y with ⟨y, _⟩ | ⟨_, z⟩
  · exact .inl (heldBy_mem.mpr ⟨p, hp, y⟩)
  · exact .inr z
theorem few_none (hm : MostOk n) (x : HandOk h gv ky tk) : wanted n (handOn h gv ky tk) lot g = none ↔ wanted n h lot g = none := by
  rw [wanted_none_iff hm, wanted_none_iff hm]
  have : goesB n (allOf (handOn h gv ky tk) g) lot = goesB n (allOf h g) lot := by
    apply goes_congr
    intro k _
    unfold allOf
    split
    · exact Iff.rfl
    · rw [every_mem, every_mem]
      exact every_same x.t x.g
  rw [this]
theorem few_near (hm : MostOk n) (x : HandOk h gv ky tk) {f : List Nm} (e : wanted n h lot g = some f) : ∃ f', wanted n (handOn h gv ky tk) lot g = some f' ∧ f'.length ≤ f.length + 1 ∧ f.length ≤ f'.length + 1 := by
  obtain ⟨f', e1, e2⟩ := few_step hm (fun k => (every_same x.t x.g).symm) (held_down x) e
  obtain ⟨f2, e3, e4⟩ := few_step hm (fun k => every_same x.t x.g) (held_up x) e1
  rw [e] at e3
  cases e3
  exact ⟨f', e1, e2, e4⟩
/-- a group without the taker gains nothing -/
theorem send_less (hm : MostOk n) (x : HandOk h gv ky tk) (ht : ¬tk ∈ g) (hs : sendB n (handOn h gv ky tk) lot g = true) : sendB n h lot g = true := by
  refine goes_mono hm (fun k _ hk => ?_) hs
  obtain ⟨p, hp, y⟩ := heldBy_mem.mp hk
  rcases (handOn_has x.t).mp y with ⟨y, _⟩ | ⟨z, _⟩
  · exact heldBy_mem.mpr ⟨p, hp, y⟩
  · rw [z] at hp; exact absurd hp ht
/-- a group with both keeps all -/
theorem send_same (x : HandOk h gv ky tk) (hg : gv ∈ g) (ht : tk ∈ g) : sendB n (handOn h gv ky tk) lot g = sendB n h lot g := by
  apply goes_congr
  intro k _
  rw [heldBy_mem, heldBy_mem]
  constructor
  · rintro ⟨p, hp, y⟩
    rcases (handOn_has x.t).mp y with ⟨y, _⟩ | ⟨_, rfl⟩
    · exact ⟨p, hp, y⟩
    · exact ⟨gv, hg, x.g⟩
  · rintro ⟨p, hp, y⟩
    by_cases z : p = gv ∧ k = ky
    · exact ⟨tk, ht, (handOn_has x.t).mpr (.inr ⟨rfl, z.2⟩)⟩
    · exact ⟨p, hp, (handOn_has x.t).mpr (.inl ⟨y, z⟩)⟩
end
/-! ### passed is handed -/
theorem kitOf_mem {h : Hold} (nd : (people h).Nodup) {p : Nm × List Nm} (hp : p ∈ h) : kitOf h p.1 = p.2 := by
  unfold kitOf
  cases hf : h.find? (fun q => decide (q.1 = p.1)) with
  | none =>
    have := List.find?_eq_none.mp hf p hp
    simp at this
  | some q =>
    have h1 := List.mem_of_find?_eq_some hf
    have h2 : q.1 = p.1 := of_decide_eq_true (List.find?_some (p := fun q : Nm × List Nm => decide (q.1 = p.1)) hf)
    have : q = p := by
      clear hf
      unfold people at nd
      induction h with
      | nil => cases hp
      | cons r h ih =>
        obtain ⟨n1, n2⟩ := List.nodup_cons.mp nd
        rcases List.mem_cons.mp h1 with e1 | h3
        · rcases List.mem_cons.mp hp with e2 | h4
          · rw [e1, e2]
          · exact absurd (List.mem_map.mpr ⟨p, h4, by rw [← h2, e1]⟩) n1
        · rcases List.mem_cons.mp hp with e2 | h4
          · exact absurd (List.mem_map.mpr ⟨q, h3, by rw [h2, e2]⟩) n1
          · exact ih n2 h4 h3
    rw [this]
    rfl
theorem kitOf_upd {h : Hold} (nd : (people h).Nodup) {k q : Nm} {ks : List Nm} (hq : q ∈ people h) : kitOf (updH h k ks) q = if q = k then ks else kitOf h q := by
  obtain ⟨p, hp, rfl⟩ := List.mem_map.mp hq
  have hm : (if p.1 = k then (p.1, ks) else p) ∈ updH h k ks := List.mem_map.mpr ⟨p, hp, rfl⟩
  have e : (if p.1 = k then (p.1, ks) else p).1 = p.1 := by split <;> rfl
  have := kitOf_mem (by rw [updH_people]; exact nd) hm
  rw [e] at this
  rw [this, kitOf_mem nd hp]
  split <;> rfl
theorem passed_handed {h : Hold} (nd : (people h).Nodup) (hr : ∀ p ∈ h, Rise p.2) {near ring far : Nm} (hn : near ∈ people h) (hf : far ∈ people h) : passedL h (near, ring, far) = handOn h near ring far := by
  rw [handOn_eq]
  unfold passedL
  apply List.map_congr_left
  intro p hp
  have hp1 : p.1 ∈ people h := List.mem_map.mpr ⟨p, hp, rfl⟩
  have pp : people (pass1 h near ring) = people h := updH_people _ _ _
  have k1 : ∀ q ∈ people h, kitOf (pass1 h near ring) q = if q = near then (kitOf h near).filter (fun b => decide (b ≠ ring)) else kitOf h q := fun q hq => kitOf_upd nd hq
  have k2 : kitOf (pass2 h near ring far) p.1 = if p.1 = far then setOf (kitOf (pass1 h near ring) far ++ [ring]) else kitOf (pass1 h near ring) p.1 := kitOf_upd (by rw [pp]; exact nd) (by rw [pp]; exact hp1)
  have kp := kitOf_mem nd hp
  have keep : kitOf (pass1 h near ring) p.1 = keep1 near ring far p := by
    rw [k1 p.1 hp1]
    unfold keep1
    by_cases z : p.1 = near
    · rw [if_pos z, ← z, kp]
      apply List.filter_congr
      intro b _
      simp [z]
    · rw [if_neg z, kp]
      symm
      rw [List.filter_eq_self]
      intro b _
      simp [z]
  unfold hand1
  congr 1
  show kitOf (pass2 h near ring far) p.1 = _
  rw [k2]
  by_cases z : p.1 = far
  · rw [z] at keep
    rw [if_pos z, if_pos z, keep]
  · rw [if_neg z, if_neg z, keep]
    exact (setOf_rise ((hr p hp).filter _)).symm
end Kl

set_option Elab.async false
set_option linter.all false
set_option maxRecDepth 100000
/-! The plain law: the least groups, made in two ways. -/
namespace Kl
open PySem PySem.Spec L2
/-! ### the order is total -/
theorem toks_strs : ∀ a b : List Nm, PySem.W.keyToksAll (a.map .str) = PySem.W.keyToksAll (b.map .str) → a = b
  | [], [], _ => rfl
  | [], y :: b, h => by
    rw [List.map_nil, List.map_cons, PySem.W.toks_all_cons] at h
    simp [PySem.W.keyToksAll] at h
  | x :: a, [], h => by
    rw [List.map_nil, List.map_cons, PySem.W.toks_all_cons] at h
    simp [PySem.W.keyToksAll] at h
  | x :: a, y :: b, h => by
    rw [List.map_cons, List.map_cons, PySem.W.toks_all_cons, PySem.W.toks_all_cons] at h
    simp only [PySem.W.keyToks, List.cons_append, List.nil_append, List.cons.injEq, Sum.inr.injEq, true_and] at h
    rw [PySem.W.str_of_cps h.1, toks_strs a b h.2]
theorem leK_antisymm {a b : List Nm} (h1 : leK a b = true) (h2 : leK b a = true) : a = b := by
  have h1 : (!PySem.W.dataLt (keyD b) (keyD a)) = true := h1
  have h2 : (!PySem.W.dataLt (keyD a) (keyD b)) = true := h2
  rw [Bool.not_eq_true'] at h1 h2
  have := PyProof.Rows.lex_total (O := PyProof.Rows.itemOrd) _ _ h2 h1
  exact toks_strs a b this
theorem leK_total : PySem.W.TotalLe leK := PySem.W.sortLe_total _ _ _
theorem sorted_leK (l : List (List Nm)) : (l.mergeSort leK).Pairwise fun a b => leK a b = true :=
  List.pairwise_mergeSort (le := leK) (fun a b c => leK_total.trans a b c) (fun a b => by
    have := leK_total.total a b
    simpa using this) l
theorem sort_same {l m : List (List Nm)} (h1 : l.Nodup) (h2 : m.Nodup) (h : ∀ a, a ∈ l ↔ a ∈ m) : l.mergeSort leK = m.mergeSort leK := by
  refine List.Perm.eq_of_pairwise (le := fun a b => leK a b = true) (fun a b _ _ => leK_antisymm) (sorted_leK l) (sorted_leK m) ?_
  exact (List.mergeSort_perm _ _).trans (((List.perm_ext_iff_of_nodup h1 h2).mpr h).trans (List.mergeSort_perm _ _).symm)
/-! ### groups of one list of names -/
theorem sub_eq {ns a b : List Nm} (nd : ns.Nodup) (ha : a.Sublist ns) (hb : b.Sublist ns) (h : ∀ x, x ∈ a ↔ x ∈ b) : a = b := by
  induction ns generalizing a b with
  | nil => rw [List.sublist_nil.mp ha, List.sublist_nil.mp hb]
  | cons n ns ih =>
    obtain ⟨n1, n2⟩ := List.nodup_cons.mp nd
    rcases List.sublist_cons_iff.mp ha with ha | ⟨a', rfl, ha'⟩
    · rcases List.sublist_cons_iff.mp hb with hb | ⟨b', rfl, hb⟩
      · exact ih n2 ha hb h
      · exact absurd (ha.subset ((h n).mpr List.mem_cons_self)) n1
    · rcases List.sublist_cons_iff.mp hb with hb | ⟨b', rfl, hb'⟩
      · exact absurd (hb.subset ((h n).mp List.mem_cons_self)) n1
      · refine congrArg (n :: ·) (ih n2 (by assumption) (by assumption) fun x => ?_)
        have hx := h x
        rw [List.mem_cons, List.mem_cons] at hx
        constructor
        · intro z
          rcases hx.mp (.inr z) with e | z'
          · subst e; exact absurd (ha'.subset z) n1
          · exact z'
        · intro z
          rcases hx.mpr (.inr z) with e | z'
          · subst e; exact absurd (hb'.subset z) n1
          · exact z'
theorem allIn_iff {a b : List Nm} : allIn a b = true ↔ ∀ x ∈ a, x ∈ b := by
  unfold allIn
  rw [List.all_eq_true]
  exact ⟨fun h x hx => of_decide_eq_true (h x hx), fun h x hx => decide_eq_true (h x hx)⟩
theorem nodup_sub_mem {a b : List Nm} (nd : a.Nodup) (h : ∀ x ∈ a, x ∈ b) (hl : b.length ≤ a.length) : ∀ x ∈ b, x ∈ a := by
  intro x hx
  by_cases z : x ∈ a
  · exact z
  · have := nodup_len (a := x :: a) (b := b) (List.nodup_cons.mpr ⟨z, nd⟩) (fun y hy => by
      rcases List.mem_cons.mp hy with rfl | hy
      · exact hx
      · exact h y hy)
    rw [List.length_cons] at this
    omega
theorem sub_low {ns a b : List Nm} (nd : ns.Nodup) (ha : a.Sublist ns) (hb : b.Sublist ns) (h : allIn a b = true) (hl : b.length ≤ a.length) : a = b := by
  have h := allIn_iff.mp h
  exact sub_eq nd ha hb fun x => ⟨h x, nodup_sub_mem (ha.nodup nd) h hl x⟩
theorem leanStep_sub {f : List (List Nm)} {p : Nat × List Nm} {o : List Nm} (h : o ∈ f) : o ∈ leanStep f p := by
  unfold leanStep
  split
  · exact h
  · exact List.mem_append_left _ h
theorem allIn_refl (a : List Nm) : allIn a a = true := allIn_iff.mpr fun _ h => h
theorem allIn_trans {a b c : List Nm} (h1 : allIn a b = true) (h2 : allIn b c = true) : allIn a c = true := allIn_iff.mpr fun x h => allIn_iff.mp h2 x (allIn_iff.mp h1 x h)
/-- below each group there is a lean one -/
theorem lean_below (l : List (Nat × List Nm)) : ∀ q ∈ l, ∃ o ∈ leanFold l, allIn o q.2 = true := by
  induction l using snoc_ind with
  | h0 => intro q h; cases h
  | h1 l p ih =>
    intro q hq
    rw [leanFold_snoc]
    rcases List.mem_append.mp hq with hq | hq
    · obtain ⟨o, h1, h2⟩ := ih q hq
      exact ⟨o, leanStep_sub h1, h2⟩
    · rw [List.mem_singleton.mp hq]
      unfold leanStep
      cases e : (leanFold l).any fun o => allIn o p.2 with
      | true =>
        obtain ⟨o, h1, h2⟩ := List.any_eq_true.mp e
        rw [if_pos rfl]
        exact ⟨o, h1, h2⟩
      | false =>
        rw [if_neg Bool.false_ne_true]
        exact ⟨p.2, by simp, allIn_refl _⟩
theorem lean_nodup (l : List (Nat × List Nm)) : (leanFold l).Nodup := by
  induction l using snoc_ind with
  | h0 => exact List.nodup_nil
  | h1 l p ih =>
    rw [leanFold_snoc]
    unfold leanStep
    cases e : (leanFold l).any fun o => allIn o p.2 with
    | true => rw [if_pos rfl]; exact ih
    | false =>
      rw [if_neg Bool.false_ne_true]
      refine List.nodup_append.mpr ⟨ih, by simp, fun a ha b hb => ?_⟩
      rw [List.mem_singleton.mp hb]
      intro z
      have := List.any_eq_false.mp e a ha
      rw [z, allIn_refl] at this
      exact this rfl
theorem lean_iff {ns : List Nm} (nd : ns.Nodup) (l : List (Nat × List Nm)) (hs : l.Pairwise fun p q => p.1 ≤ q.1) (hl : ∀ p ∈ l, p.1 = p.2.length ∧ p.2.Sublist ns) : ∀ o, o ∈ leanFold l ↔ (∃ p ∈ l, p.2 = o) ∧ ∀ q ∈ l, allIn q.2 o = true → q.2 = o := by
  induction l using snoc_ind with
  | h0 => intro o; constructor
          · intro h; cases h
          · rintro ⟨⟨p, hp, _⟩, _⟩; cases hp
  | h1 l p ih =>
    intro o
    obtain ⟨hs1, _, hs2⟩ := List.pairwise_append.mp hs
    have ih := ih hs1 fun q hq => hl q (List.mem_append_left _ hq)
    have hp := hl p (by simp)
    have fwd : o ∈ leanFold l → (∃ p' ∈ l ++ [p], p'.2 = o) ∧ ∀ q ∈ l ++ [p], allIn q.2 o = true → q.2 = o := by
      intro h
      obtain ⟨⟨q, hq, e⟩, h2⟩ := (ih o).mp h
      refine ⟨⟨q, List.mem_append_left _ hq, e⟩, fun r hr ha => ?_⟩
      rcases List.mem_append.mp hr with hr | hr
      · exact h2 r hr ha
      · rw [List.mem_singleton.mp hr] at ha ⊢
        have hq' := hl q (List.mem_append_left _ hq)
        have le := hs2 q hq p (by simp)
        rw [← e] at ha ⊢
        exact sub_low nd hp.2 hq'.2 ha (by omega)
    have bwd : (∃ p' ∈ l, p'.2 = o) → (∀ q ∈ l ++ [p], allIn q.2 o = true → q.2 = o) → o ∈ leanFold l := fun h1 h2 => (ih o).mpr ⟨h1, fun q hq => h2 q (List.mem_append_left _ hq)⟩
    rw [leanFold_snoc]
    unfold leanStep
    cases e : (leanFold l).any fun o => allIn o p.2 with
    | true =>
      rw [if_pos rfl]
      refine ⟨fwd, fun ⟨⟨q, hq, eq⟩, h2⟩ => ?_⟩
      rcases List.mem_append.mp hq with hq | hq
      · exact bwd ⟨q, hq, eq⟩ h2
      · rw [List.mem_singleton.mp hq] at eq
        obtain ⟨o', h3, h4⟩ := List.any_eq_true.mp e
        obtain ⟨⟨r, hr, er⟩, _⟩ := (ih o').mp h3
        rw [eq, ← er] at h4
        exact bwd ⟨r, hr, h2 r (List.mem_append_left _ hr) h4⟩ h2
    | false =>
      rw [if_neg Bool.false_ne_true]
      constructor
      · intro h
        rcases List.mem_append.mp h with h | h
        · exact fwd h
        · have h := List.mem_singleton.mp h
          refine ⟨⟨p, by simp, h.symm⟩, fun q hq ha => ?_⟩
          rcases List.mem_append.mp hq with hq | hq
          · exfalso
            obtain ⟨o', h3, h4⟩ := lean_below l q hq
            have := List.any_eq_false.mp e o' h3
            rw [h] at ha
            exact this (allIn_trans h4 ha)
          · rw [List.mem_singleton.mp hq, h]
      · rintro ⟨⟨q, hq, eq⟩, h2⟩
        rcases List.mem_append.mp hq with hq | hq
        · exact List.mem_append_left _ (bwd ⟨q, hq, eq⟩ h2)
        · rw [List.mem_singleton.mp hq] at eq
          rw [← eq]
          simp
/-- sorted as _law_lean sorts: the same groups -/
theorem leasts_lean {ns : List Nm} (nd : ns.Nodup) {gs : List (List Nm)} (hg : ∀ g ∈ gs, g.Sublist ns) (hn : gs.Nodup) : leasts gs = (leanRaw gs).mergeSort leK := by
  unfold leasts
  refine sort_same (hn.filter _) (lean_nodup _) fun o => ?_
  unfold leanRaw
  rw [lean_iff nd (byLen gs) (byLen_sorted gs) (fun p hp => ⟨(mem_byLen.mp hp).2, hg _ (mem_byLen.mp hp).1⟩) o, List.mem_filter, Bool.not_eq_true', List.any_eq_false]
  constructor
  · rintro ⟨h1, h2⟩
    refine ⟨⟨(o.length, o), mem_byLen.mpr ⟨h1, rfl⟩, rfl⟩, fun q hq ha => ?_⟩
    have := h2 q.2 (mem_byLen.mp hq).1
    by_cases z : q.2 = o
    · exact z
    · exact absurd (by simp [z, ha]) this
  · rintro ⟨⟨q, hq, rfl⟩, h2⟩
    refine ⟨(mem_byLen.mp hq).1, fun r hr ha => ?_⟩
    rw [Bool.and_eq_true] at ha
    exact of_decide_eq_true ha.1 (h2 (r.length, r) (mem_byLen.mpr ⟨hr, rfl⟩) ha.2)
/-- lean groups can be sorted -/
theorem lean_can {ns : List Nm} (nd : ns.Nodup) {gs : List (List Nm)} (hg : ∀ g ∈ gs, g.Sublist ns) : CanSort ((leanRaw gs).map keyD) := by
  have key := lean_iff nd (byLen gs) (byLen_sorted gs) (fun p hp => ⟨(mem_byLen.mp hp).2, hg _ (mem_byLen.mp hp).1⟩)
  by_cases z : ([] : List Nm) ∈ leanRaw gs
  · have all : ∀ o ∈ leanRaw gs, o = [] := fun o ho => by
      obtain ⟨⟨q, hq, e⟩, _⟩ := (key []).mp z
      have := ((key o).mp ho).2 q hq (by rw [e]; rfl)
      rw [← this, e]
    cases h : leanRaw gs with
    | nil => rw [h] at z; cases z
    | cons a r =>
      rw [h] at all
      rw [all a List.mem_cons_self]
      refine .inr ⟨r.map keyD, rfl, fun d hd => ?_⟩
      obtain ⟨k, _, rfl⟩ := List.mem_map.mp hd
      exact ⟨_, rfl⟩
  · refine .inl (.inl fun d hd => ?_)
    obtain ⟨k, hk, rfl⟩ := List.mem_map.mp hd
    cases k with
    | nil => exact absurd hk z
    | cons x k => exact ⟨_, _, rfl⟩
/-! ### the groups of a table -/
theorem rawSubs_nodup {ns : List Nm} (nd : ns.Nodup) : (rawSubs ns).Nodup := by
  induction ns using snoc_ind with
  | h0 => simp [rawSubs]
  | h1 ns x ih =>
    obtain ⟨h1, _, h2⟩ := List.nodup_append.mp nd
    have hx : ∀ T ∈ rawSubs ns, x ∉ T := fun T hT z => h2 x ((mem_rawSubs hT).subset z) x (by simp) rfl
    rw [rawSubs_snoc]
    refine List.nodup_append.mpr ⟨ih h1, ?_, fun a ha b hb => ?_⟩
    · rw [List.nodup_iff_pairwise_ne, List.pairwise_map]
      exact (List.nodup_iff_pairwise_ne.mp (ih h1)).imp fun h z => h (List.append_cancel_right z)
    · obtain ⟨T, hT, rfl⟩ := List.mem_map.mp hb
      intro z
      exact hx a ha (by rw [z]; simp)
theorem subs_nodup {ns : List Nm} (nd : ns.Nodup) : (subs ns).Nodup := (List.mergeSort_perm _ _).nodup_iff.mpr (rawSubs_nodup nd)
theorem sendTab_mem {n : Net} {h : Hold} {lot : List Int} {e : List Nm × Bool} : e ∈ sendTab n h lot ↔ e.1.Sublist (people h) ∧ e.2 = sendB n h lot e.1 := by
  unfold sendTab
  rw [mem_tabV, subs_iff]
theorem fines_nodup (n : Net) (h : Hold) (lot : List Int) : (fines (sendTab n h lot)).Nodup := by
  unfold fines
  exact (List.filter_sublist.map _).nodup (nodup_tabV _ _ _)
theorem fines_sub {n : Net} {h : Hold} {lot : List Int} : ∀ g ∈ fines (sendTab n h lot), g.Sublist (people h) := by
  intro g hg
  unfold fines at hg
  obtain ⟨e, he, rfl⟩ := List.mem_map.mp hg
  exact (sendTab_mem.mp (List.mem_filter.mp he).1).1
theorem senders_lean (n : Net) (h : Hold) (lot : List Int) (nd : (people h).Nodup) : sendersL n h lot = (leanRaw (fines (sendTab n h lot))).mergeSort leK := leasts_lean nd fines_sub (fines_nodup n h lot)
end Kl

set_option Elab.async false
set_option linter.all false
set_option maxRecDepth 100000
/-! The law's defs: the dock. -/
namespace Kl
open PySem PySem.Spec L2
def dkNet : Net := ⟨[("shore", 0), ("wharf", 9)], [⟨"one", "wharf", "shore", 3, "red"⟩, ⟨"two", "wharf", "shore", 2, "blue"⟩], [("pat", "shore")]⟩
def dkHold : Hold := [("ann", ["red"]), ("bo", ["blue"]), ("cy", ["blue", "red"])]
section
variable {P : Program} {w : World} {K : PySem.W.Frag} {mg : Str → Option Value} {base : Heap}
abbrev s55 : Stmt := topS 55
theorem sc55 : FnScope ["%0", "_law_lines", "_law_crew_here"] [] (defScope s55) := ⟨rfl, rfl, rfl, by decide +kernel, rfl, by decide +kernel, by decide +kernel⟩
abbrev sp_dock (K : PySem.W.Frag) : Sp := spP K (τ := Unit) (fun _ => []) (fun _ => True) (fun _ d => d = .tuple [netD dkNet, holdD dkHold])
theorem ok_dock {f : Addr} {fd : FuncData} (F : Fun K "_law_dock" "_law_dock" s55 f fd) : FnOk P w K mg base CX0 1 f fd [] (sp_dock K) := by
  refine okP F sc55 (fun _ => rfl) (by decide) fun _ _ cdv A outer s H E hr => ?_
  have e3 : (3 : Nat) ≤ sizeLine := by decide
  have e5 : (5 : Nat) ≤ sizeLine := by decide
  have e2 : (2 : Nat) ≤ sizeLine := by decide
  have e1 : (1 : Nat) ≤ sizeLine := by decide
  have ln : ∀ {X : Cx} {ρ : En} {p0 p1 p2 p3 p4 p5 : Pos} {k k0 k1 k2 k3 k4 : Nat} (a b c : Str) (m : Int) (d : Str), True := fun _ _ _ _ _ => trivial
  refine Svs.asg1 1 (d := .tuple (dkNet.lines.map lineD)) (E1.tup (L1.cons (E1.tup (L1.cons E1.str (L1.cons E1.str (L1.cons E1.str (L1.cons E1.int (L1.cons E1.str L1.nil))))) e5) (L1.cons (E1.tup (L1.cons E1.str (L1.cons E1.str (L1.cons E1.str (L1.cons E1.int (L1.cons E1.str L1.nil))))) e5) L1.nil)) e2) sc55.nd ?_
  refine Svs.asg1 2 (d := holdD dkHold) (E1.tupH (L1.cons (E1.tup (L1.cons E1.str (L1.cons (E1.tup (L1.cons E1.str L1.nil) e1) L1.nil)) e2) (L1.cons (E1.tup (L1.cons E1.str (L1.cons (E1.tup (L1.cons E1.str L1.nil) e1) L1.nil)) e2) (L1.cons (E1.tup (L1.cons E1.str (L1.cons (E1.tup (L1.cons E1.str (L1.cons E1.str L1.nil)) e2) L1.nil)) e2) L1.nil))) e3) sc55.nd ?_
  refine Svs.ret1 (E1.tup (L1.cons (E1.tup (L1.cons (E1.tup (L1.cons (E1.tup (L1.cons E1.str (L1.cons E1.int L1.nil)) e2) (L1.cons (E1.tup (L1.cons E1.str (L1.cons E1.int L1.nil)) e2) L1.nil)) e2) (L1.cons (E1.var 1) (L1.cons (E1.tup (L1.cons (E1.tup (L1.cons E1.str (L1.cons E1.str L1.nil)) e2) L1.nil) e1) L1.nil))) e3) (L1.cons (E1.var 2) L1.nil)) e2) rfl
end
end Kl

set_option Elab.async false
set_option linter.all false
set_option maxRecDepth 100000
/-! for over what is found at a cost. -/
namespace Kl
open PySem PySem.Spec L2
section
variable {X : Cx} {ρ : En} {c c1 c2 : Nat} {O : Out → Prop} {rest : List Stmt}
/-- a for over data that is found at some cost -/
theorem Sv.forV {tg iter : Expr} {body : List Stmt} {pos : Pos} {g : TG} {S : List Nat} {Pys : List D → Prop} {Jv : List D → Nat → En → Prop} {bind : List D → Nat → En → En} {ci c0 ct : Nat} (hi : Iv X ρ tg iter ci Pys) (hg : PG X tg g) (h0 : ∀ ys, Pys ys → Jv ys 0 ρ)
    (hT : ∀ ys, Pys ys → ∀ i d ρ', ys[i]? = some d → Jv ys i ρ' → TgOk X.K g S ρ' d (bind ys i ρ'))
    (hb : ∀ ys, Pys ys → ∀ i ρ', i < ys.length → Jv ys i ρ' → Svs X (bind ys i ρ') body c0 (fun o => match o with | .nx ρ2 => Jv ys (i + 1) ρ2 | .rt d => O (.rt d)))
    (hn : ∀ ys, Pys ys → ∀ ρ', Jv ys ys.length ρ' → O (.nx ρ')) (hct : ∀ ys, Pys ys → ys.length * c0 ≤ ct) (hp : PassesOwn (model X.prog X.w) X.A X.env X.xe) (hc : X.calm = true) (hs : ∀ x, foldedSetIterable iter X.env x = pure x := by intro _; rfl) : Sv X ρ (.For tg iter body [] pos) (ci + ct) O := by
  have hB := pss_any fun r : {r : List D × Nat × En // Pys r.1 ∧ r.2.1 < r.1.length ∧ Jv r.1 r.2.1 r.2.2} => hb r.1.1 r.2.1 r.1.2.1 r.1.2.2 r.2.2.1 r.2.2.2
  refine ps_imp (ps_for hp hc hi hg hB hs) fun Dn σ H ⟨G, L, bx, x, hb', qn, qr⟩ => ?_
  refine ⟨G, L, bx, x, hb'.le (Nat.le_add_right _ _), fun J H1 ys' s1 e1 w1 => ?_⟩
  have hct := hct ys' e1
  have x1 := x.step s1
  have s1L : Stp L bx ci H H1 := s1.mono (fun _ z => by cases z) (Nat.le_refl _)
  refine ⟨fun i m σ2 H2 => m = ys'.length - i ∧ i ≤ ys'.length ∧ ∃ L2 ρ2, Stp L bx (ci + i * c0) H H2 ∧ (∀ a ∈ L, a ∈ L2) ∧ (∀ a ∈ L2, a ∈ L ∨ H a = none) ∧ Ctx X.K G L2 (bx.add (ci + i * c0)) σ2 H2 ρ2 ∧ Jv ys' i ρ2 ∧ Same (mask (L ++ G) H1) (mask (L2 ++ G) H2),
    ⟨ys'.length, rfl, Nat.zero_le _, L, ρ, by rw [Nat.zero_mul, Nat.add_zero]; exact s1L, fun _ z => z, fun _ z => .inl z, by rw [Nat.zero_mul, Nat.add_zero]; exact x1, h0 ys' e1, Same.refl _⟩, ?_⟩
  rintro i m σ2 H2 ⟨rfl, hi', L2, ρ2, s2, a2, b2, x2, j2, sm2⟩
  by_cases hlt : i < ys'.length
  · refine .inr ⟨w1.go i H2 hlt (sm2.trans (mask_same _ _)), fun σ3 H3 => ∃ L3 ρ3, Stp L bx (ci + (i + 1) * c0) H H3 ∧ (∀ a ∈ L, a ∈ L3) ∧ (∀ a ∈ L3, a ∈ L ∨ H a = none) ∧ Ctx X.K G L3 (bx.add (ci + (i + 1) * c0)) σ3 H3 ρ3 ∧ Jv ys' (i + 1) ρ3 ∧ Same (mask (L ++ G) H1) (mask (L3 ++ G) H3),
      fun σ3 H3 h => ⟨ys'.length - (i + 1), by omega, rfl, hlt, h⟩, fun v H3 y => ?_⟩
    obtain ⟨sm3, wy⟩ := w1.yld i H2 v H3 hlt (sm2.trans (mask_same _ _)) y
    obtain ⟨d, hd, wv⟩ := wy (L2 ++ G) x2.alM sm2
    have s3 : Stp [] (bx.add (ci + i * c0)) 0 H2 H3 := Stp.same x2 sm3
    have x3 := x2.step s3
    rw [Bx.add0] at x3
    have s3L : Stp L bx (ci + i * c0) H H3 := by
      have z := s2.trans (s3.mono (L' := L) (fun _ z => by cases z) (Nat.le_refl _))
      simpa using z
    have cb : BxOk bx ((ci + i * c0) + c0) := hb'.le (by
      have := Nat.mul_le_mul_right c0 (show i + 1 ≤ ys'.length from hlt)
      rw [Nat.succ_mul] at this
      omega)
    have ad : (bx.add (ci + i * c0)).add c0 = bx.add (ci + (i + 1) * c0) := by rw [Bx.add_add, Nat.succ_mul, Nat.add_assoc]
    refine hT ys' e1 i d ρ2 hd j2 G L2 _ σ2 H3 v _ x3 wv fun σ4 x4 _ => ⟨⟨(ys', i, ρ2), e1, hlt, j2⟩, G, L2, _, x4, (bx_ne cb).2, ?_, ?_⟩
    · intro L5 σ5 H5 ρ5 s5 a5 b5 o5 x5
      rw [ad] at x5
      refine ⟨L5, ρ5, ?_, fun a ha => a5 a (a2 a ha), fun a ha => (b5 a ha).elim (b2 a) fun n => .inr (none_back s3L (fun a ha => x3.al a (.inr (a2 a ha))) n), x5, o5, ?_⟩
      · rw [Nat.succ_mul, ← Nat.add_assoc]
        exact s3L.trans' s5 b2
      · intro a o e
        have e2 := sm2 a o e
        obtain ⟨n2, e2'⟩ := mask_at e2
        have n5 : a ∉ L5 ++ G := fun z => (List.mem_append.mp z).elim (fun z => (b5 a z).elim (fun q => n2 (List.mem_append_left _ q)) fun n => by rw [sm3 _ _ e2'] at n; cases n) fun z => n2 (List.mem_append_right _ z)
        rw [mask_out n5]
        have nL : a ∉ L2 := fun z => n2 (List.mem_append_left _ z)
        cases bx with
        | none => exact s5 a o nL (sm3 _ _ e2')
        | some p =>
          refine s5.1 a o nL (fun z => n2 (List.mem_append_right _ ?_)) (sm3 _ _ e2')
          rw [z]
          exact (x2.box p.1 (p.2 + (ci + i * c0)) rfl).1
    · intro v5 H5 d5 s5 o5 w5
      refine qr v5 H5 d5 ?_ o5 w5
      have z := s3L.trans' s5 b2
      exact z.mono (fun _ z => z) (by
        have := Nat.mul_le_mul_right c0 (show i + 1 ≤ ys'.length from hlt)
        rw [Nat.succ_mul] at this
        omega)
  · have e : i = ys'.length := by omega
    subst e
    exact .inl ⟨w1.stop H2 (sm2.trans (mask_same _ _)), qn L2 σ2 H2 ρ2 (s2.mono (fun _ z => z) (Nat.add_le_add_left hct ci)) a2 b2 (hn ys' e1 _ j2) (x2.up (Nat.add_le_add_left hct ci))⟩
end
section
variable {X : Cx} {ρ : En} {c c0 ci ct : Nat} {O : Out → Prop} {rest body : List Stmt} {iter : Expr} {pos p p2 p3 : Pos} {x y : Str} {k : Nat}
/-- for x in iter -/
theorem Svs.forNV {Pys : List D → Prop} (j : Nat) (Jv : List D → Nat → En → Prop) (hi : Iv X ρ (.Name x p) iter ci Pys) (h0 : ∀ ys, Pys ys → Jv ys 0 ρ) (hb : ∀ ys, Pys ys → ∀ i d ρ', ys[i]? = some d → Jv ys i ρ' → Svs X (ρ'.set j (some (.dat d))) body c0 (fun o => match o with | .nx ρ2 => Jv ys (i + 1) ρ2 | .rt d => O (.rt d)))
    (hn : ∀ ys, Pys ys → ∀ ρ', Jv ys ys.length ρ' → Svs X ρ' rest c O) (hct : ∀ ys, Pys ys → ys.length * c0 ≤ ct) (hp : PassesOwn (model X.prog X.w) X.A X.env X.xe) (hN : X.N.Nodup) (hc : X.calm = true := by rfl) (hj : X.N[j]? = some x := by rfl) (hx : Loc X.env.scope x := by first | exact Or.inl rfl | exact Or.inr rfl) (hj0 : 0 < j := by decide)
    (hf : X.fn x = true ∨ X.env.scope.names.lookup x = some .local := by first | exact .inl rfl | exact .inr rfl) (hs : ∀ x, foldedSetIterable iter X.env x = pure x := by intro _; rfl) : Svs X ρ (.For (.Name x p) iter body [] pos :: rest) (ci + ct + c) O := by
  have go : ∀ {ys : List D} {i d}, ys[i]? = some d → ys.getD i .none = d := fun {ys i d} e => by rw [List.getD_eq_getElem?_getD, e]; rfl
  have h : Sv X ρ (.For (.Name x p) iter body [] pos) (ci + ct) (fun o => match o with | .nx ρ2 => ∃ ys, Pys ys ∧ Jv ys ys.length ρ2 | .rt d => O (.rt d)) :=
    Sv.forV (S := [j]) (Jv := Jv) (bind := fun ys i ρ' => ρ'.set j (some (.dat (ys.getD i .none)))) (c0 := c0) hi (pg_name (i := j) hN hj hx hf) h0 (fun ys hy i d ρ' e _ => by rw [go e]; exact TgOk.name j hj0)
      (fun ys hy i ρ' hl hJ => by
        have e : ys[i]? = some ys[i] := List.getElem?_eq_getElem hl
        rw [go e]
        refine Svs.imp (hb ys hy i _ ρ' e hJ) (Nat.le_refl _) fun o h => ?_
        cases o <;> exact h) (fun ys hy ρ' h => ⟨ys, hy, h⟩) hct hp hc hs
  exact Svs.cons h (fun ρ' ⟨ys, hy, z⟩ => hn ys hy ρ' z) fun d z => z
/-- for x, y in iter -/
theorem Svs.forPV {α : Type} {e1 e2 : α → D} {Pxs : List α → Prop} (i1 j1 : Nat) (Jv : List α → Nat → En → Prop) (hi : Iv X ρ (.Tuple [.Name x p, .Name y p2] k p3) iter ci (fun ys => ∃ xs, Pxs xs ∧ ys = xs.map fun a => .tuple [e1 a, e2 a])) (h0 : ∀ xs, Pxs xs → Jv xs 0 ρ)
    (hb : ∀ xs, Pxs xs → ∀ i a ρ', xs[i]? = some a → Jv xs i ρ' → Svs X ((ρ'.set i1 (some (.dat (e1 a)))).set j1 (some (.dat (e2 a)))) body c0 (fun o => match o with | .nx ρ2 => Jv xs (i + 1) ρ2 | .rt d => O (.rt d)))
    (hn : ∀ xs, Pxs xs → ∀ ρ', Jv xs xs.length ρ' → Svs X ρ' rest c O) (hct : ∀ xs, Pxs xs → xs.length * c0 ≤ ct) (hp : PassesOwn (model X.prog X.w) X.A X.env X.xe) (hN : X.N.Nodup) (hc : X.calm = true := by rfl) (hi1 : X.N[i1]? = some x := by rfl) (hj1 : X.N[j1]? = some y := by rfl) (hx : Loc X.env.scope x := by first | exact Or.inl rfl | exact Or.inr rfl) (hy : Loc X.env.scope y := by first | exact Or.inl rfl | exact Or.inr rfl)
    (hi0 : 0 < i1 := by decide) (hj0 : 0 < j1 := by decide) (hfx : X.fn x = true ∨ X.env.scope.names.lookup x = some .local := by first | exact .inl rfl | exact .inr rfl) (hfy : X.fn y = true ∨ X.env.scope.names.lookup y = some .local := by first | exact .inl rfl | exact .inr rfl)
    (hn2 : (assignEach [.Name x p, .Name y p2] X.env).length = 2 := by rfl) (hst : (assignEach [.Name x p, .Name y p2] X.env).findIdx? (·.1) = none := by rfl)
    (hg1 : (assignEach (.Name x p :: [.Name y p2]) X.env).map (·.2) = assign (.Name x p) X.env :: (assignEach [.Name y p2] X.env).map (·.2) := by rfl)
    (hg2 : (assignEach (.Name y p2 :: []) X.env).map (·.2) = assign (.Name y p2) X.env :: (assignEach [] X.env).map (·.2) := by rfl) (hs : ∀ x, foldedSetIterable iter X.env x = pure x := by intro _; rfl) :
    Svs X ρ (.For (.Tuple [.Name x p, .Name y p2] k p3) iter body [] pos :: rest) (ci + ct + c) O := by
  let part1 : D → D := fun d => match d with | .tuple [a, _] => a | _ => .none
  let part2 : D → D := fun d => match d with | .tuple [_, b] => b | _ => .none
  have go : ∀ {ys : List D} {i d}, ys[i]? = some d → ys.getD i .none = d := fun {ys i d} e => by rw [List.getD_eq_getElem?_getD, e]; rfl
  have h : Sv X ρ (.For (.Tuple [.Name x p, .Name y p2] k p3) iter body [] pos) (ci + ct) (fun o => match o with | .nx ρ2 => ∃ xs, Pxs xs ∧ Jv xs xs.length ρ2 | .rt d => O (.rt d)) :=
    Sv.forV (S := [i1, j1]) (Jv := fun ys i ρ' => ∃ xs, Pxs xs ∧ ys = xs.map (fun a => PyData.tuple [e1 a, e2 a]) ∧ Jv xs i ρ') (bind := fun ys i ρ' => (ρ'.set i1 (some (.dat (part1 (ys.getD i .none))))).set j1 (some (.dat (part2 (ys.getD i .none))))) (c0 := c0) hi (pg_tup hc (pgs_cons (pg_name (i := i1) hN hi1 hx hfx) (pgs_cons (pg_name (i := j1) hN hj1 hy hfy) pgs_nil hg2) hg1) hn2 hst) (fun ys ⟨xs, hx, e⟩ => ⟨xs, hx, e, h0 xs hx⟩)
      (fun ys hy i d ρ' e _ => by
        obtain ⟨xs, hx, rfl⟩ := hy
        rw [go e]
        rw [List.getElem?_map] at e
        obtain ⟨a, ha, rfl⟩ := Option.map_eq_some_iff.mp e
        exact TgOk.tup2 i1 j1 hi0 hj0)
      (fun ys hy i ρ' hl hJ => by
        obtain ⟨xs, hx, e0, hJ⟩ := hJ
        subst e0
        rw [List.length_map] at hl
        have e : xs[i]? = some xs[i] := List.getElem?_eq_getElem hl
        have e' : (xs.map fun a => PyData.tuple [e1 a, e2 a])[i]? = some (.tuple [e1 xs[i], e2 xs[i]]) := by rw [List.getElem?_map, e]; rfl
        rw [go e']
        refine Svs.imp (hb xs hx i _ ρ' e hJ) (Nat.le_refl _) fun o h => ?_
        cases o with
        | nx ρ2 => exact ⟨xs, hx, rfl, h⟩
        | rt d => exact h) (fun ys hy ρ' ⟨xs, hx, e0, h⟩ => ⟨xs, hx, by rw [e0, List.length_map] at h; exact h⟩) (fun ys ⟨xs, hx, e⟩ => by rw [e, List.length_map]; exact hct xs hx) hp hc hs
  exact Svs.cons h (fun ρ' ⟨xs, hx, z⟩ => hn xs hx ρ' z) fun d z => z
end
end Kl

set_option Elab.async false
set_option linter.all false
set_option maxRecDepth 100000
/-! The law's defs: taking, in short. -/
namespace Kl
open PySem PySem.Spec L2
theorem pick_names {ns : List Nm} {m : Nat} {ys : List D} (h : PickOf (ns.map .str) m ys) : ∃ zs : List Nm, ys = zs.map .str ∧ (∀ z ∈ zs, z ∈ ns) ∧ zs.length = min m ns.length ∧ (ns.Nodup → zs.Nodup) := by
  obtain ⟨rest, hp, hl⟩ := h
  let g : D → Nm := fun d => match d with | .str s => s | _ => ⟨#[]⟩
  have mem : ∀ y ∈ ys, ∃ s ∈ ns, y = .str s := fun y hy => by
    obtain ⟨s, h1, h2⟩ := List.mem_map.mp (hp.subset (List.mem_append_left _ hy))
    exact ⟨s, h1, h2.symm⟩
  have e : ys = (ys.map g).map .str := by
    rw [List.map_map]
    conv => lhs; rw [← List.map_id ys]
    apply List.map_congr_left
    intro y hy
    obtain ⟨s, _, rfl⟩ := mem y hy
    rfl
  refine ⟨ys.map g, e, fun z hz => ?_, by rw [List.length_map, hl, List.length_map], fun nd => ?_⟩
  · obtain ⟨y, hy, rfl⟩ := List.mem_map.mp hz
    obtain ⟨s, h1, rfl⟩ := mem y hy
    exact h1
  · have n1 : (ns.map PyData.str).Nodup := by
      rw [List.nodup_iff_pairwise_ne, List.pairwise_map]
      exact (List.nodup_iff_pairwise_ne.mp nd).imp fun h z => h (by injection z)
    have n2 : ys.Nodup := (List.nodup_append.mp (hp.nodup_iff.mpr n1)).1
    rw [e] at n2
    rw [List.nodup_iff_pairwise_ne] at n2 ⊢
    exact (List.pairwise_map.mp n2).imp fun h z => h (by rw [z])
section
variable {X : Cx} {ρ : En} {c c1 c2 k : Nat} {a b e : Expr} {P : D → Prop} {rest : List Stmt} {O : Out → Prop} {pos p pb : Pos} {xb : Str}
/-- one taken: below m -/
theorem Ev.take {m : Nat} (F : Fn X.prog X.w X.K X.mg X.base k "_law_take" ["_law_box_here", "_law_size_so"] (sp_take X.K)) (hr : Room k X.A) (h : E1 X ρ a (.int m)) (h0 : 0 < m ∧ m < 1000) (hN : X.N[0]? = some xb := by rfl)
    (hv : Vis X.env.scope xb := by first | exact Or.inl rfl | exact Or.inr (Or.inl rfl) | exact Or.inr (Or.inr rfl)) (hg : Gl X "_law_take" := by rfl) (hd1 : (xb == ("__debug__" : Str)) = false := by decide) (hcd : (xb == ("__classdict__" : Str)) = false := by decide)
    (hs : starEach [a] X.env = (false, eval a X.env) :: starEach [] X.env := by rfl) (he : starEach (.Name xb pb :: [a]) X.env = (false, eval (.Name xb pb) X.env) :: starEach [a] X.env := by rfl) (hpl : (backTo pos (starEach [a] X.env)).any (·.1) = false := by rfl) : Ev X ρ (.Call (.Name "_law_take" p) (.Name xb pb :: [a]) [] pos) 10 (fun d => ∃ r : Nat, d = .int r ∧ r < m) :=
  Ev.imp (Ev.callR (c := 0) (cf := 10) F hr (A1.cons h A1.nil hs) (fun ys hy => ⟨m, hy, h0, fun d h => h⟩) hN (by decide) hv hg hd1 hcd (by decide) he hpl) (by decide) fun _ z => z
/-- one of ds -/
theorem Ev.ofL {ds : List D} (F : Fn X.prog X.w X.K X.mg X.base k "_law_of" ["_law_box_here", "_law_goods_so"] (sp_of X.K)) (hr : Room k X.A) (h : E1 X ρ a (.list ds)) (h0 : 0 < ds.length ∧ ds.length < 1000) (hN : X.N[0]? = some xb := by rfl)
    (hv : Vis X.env.scope xb := by first | exact Or.inl rfl | exact Or.inr (Or.inl rfl) | exact Or.inr (Or.inr rfl)) (hg : Gl X "_law_of" := by rfl) (hd1 : (xb == ("__debug__" : Str)) = false := by decide) (hcd : (xb == ("__classdict__" : Str)) = false := by decide)
    (hs : starEach [a] X.env = (false, eval a X.env) :: starEach [] X.env := by rfl) (he : starEach (.Name xb pb :: [a]) X.env = (false, eval (.Name xb pb) X.env) :: starEach [a] X.env := by rfl) (hpl : (backTo pos (starEach [a] X.env)).any (·.1) = false := by rfl) : Ev X ρ (.Call (.Name "_law_of" p) (.Name xb pb :: [a]) [] pos) 10 (fun d => d ∈ ds) :=
  Ev.imp (Ev.callR (c := 0) (cf := 10) F hr (A1.cons h A1.nil hs) (fun ys hy => ⟨ds, hy, h0, fun d h => h⟩) hN (by decide) hv hg hd1 hcd (by decide) he hpl) (by decide) fun _ z => z
/-- some of the names ns -/
theorem Ev.pickN {ns : List Nm} {Pm : Nat → Prop} (F : Fn X.prog X.w X.K X.mg X.base k "_law_pick" ["_law_box_here", "_law_goods_so", "_law_count_so"] (sp_pick X.K)) (hr : Room k X.A) (h : E1 X ρ a (nmsL ns)) (h2 : Ev X ρ b c (fun d => ∃ m : Nat, d = .int m ∧ Pm m)) (hl : ns.length ≤ 20) (hP : ∀ m, Pm m → m ≤ 100) (hN : X.N[0]? = some xb := by rfl)
    (hv : Vis X.env.scope xb := by first | exact Or.inl rfl | exact Or.inr (Or.inl rfl) | exact Or.inr (Or.inr rfl)) (hg : Gl X "_law_pick" := by rfl) (hd1 : (xb == ("__debug__" : Str)) = false := by decide) (hcd : (xb == ("__classdict__" : Str)) = false := by decide)
    (hs2 : starEach [b] X.env = (false, eval b X.env) :: starEach [] X.env := by rfl) (hs : starEach [a, b] X.env = (false, eval a X.env) :: starEach [b] X.env := by rfl) (he : starEach (.Name xb pb :: [a, b]) X.env = (false, eval (.Name xb pb) X.env) :: starEach [a, b] X.env := by rfl) (hpl : (backTo pos (starEach [a, b] X.env)).any (·.1) = false := by rfl) :
    Ev X ρ (.Call (.Name "_law_pick" p) (.Name xb pb :: [a, b]) [] pos) (c + 200) (fun d => ∃ (m : Nat) (zs : List Nm), d = nmsL zs ∧ Pm m ∧ (∀ z ∈ zs, z ∈ ns) ∧ zs.length = min m ns.length ∧ (ns.Nodup → zs.Nodup)) :=
  Ev.imp (Ev.callR (c := 0 + (c + 0)) (cf := 200) F hr (As.cons h (P2 := fun _ r => ∃ m : Nat, r = [.int m] ∧ Pm m) (fun _ _ => As.imp (As.cons h2 (fun _ _ => A1.nil) hs2) (Nat.le_refl _) fun r ⟨d, r', e1, ⟨m, e2, pm⟩, e3⟩ => ⟨m, by rw [e1, e2, e3], pm⟩) hs) (fun ys ⟨d, r, e1, e2, m, e3, pm⟩ => ⟨(ns.map .str, m), by rw [e1, e2, e3], ⟨by simpa using hl, hP m pm⟩, fun d ⟨ys, e, h⟩ => by
    obtain ⟨zs, rfl, h1, h2, h3⟩ := pick_names h
    exact ⟨m, zs, e, pm, h1, h2, h3⟩⟩) hN (by decide) hv hg hd1 hcd (by decide) he hpl) (by omega) fun _ z => z
theorem Svs.parV {P1 P2 : Sl → Prop} (i j : Nat) {x y : Str} {px py pt : Pos} {kt k2 pt2} (h1 : Gv X ρ a c1 P1) (h2 : Gv X ρ b c2 P2) (hc : X.calm = true) (hN : X.N.Nodup)
    (hw : swappedStores [.Tuple [.Name x px, .Name y py] kt pt] (.Tuple [a, b] k2 pt2) X.env = pure (some [x, y])) (h : ∀ s1 s2, P1 s1 → P2 s2 → Svs X ((ρ.set i (some s1)).set j (some s2)) rest c O) (hi : X.N[i]? = some x := by rfl) (hj : X.N[j]? = some y := by rfl) (hij : i ≠ j := by decide) (hi0 : 0 < i := by decide) (hj0 : 0 < j := by decide)
    (hx : X.env.scope.names.lookup x = some .local := by rfl) (hy : X.env.scope.names.lookup y = some .local := by rfl)
    (hs : swapsWithSole [.Tuple [.Name x px, .Name y py] kt pt] (.Tuple [a, b] k2 pt2) pos.line X.env = pure false := by rfl)
    (hs1 : starEach [a, b] X.env = (false, eval a X.env) :: starEach [b] X.env := by rfl) (hs2 : starEach [b] X.env = (false, eval b X.env) :: starEach [] X.env := by rfl) :
    Svs X ρ (.Assign [.Tuple [.Name x px, .Name y py] kt pt] (.Tuple [a, b] k2 pt2) pos :: rest) (c1 + c2 + c) O :=
  Svs.cons (Sv.par i j h1 h2 hc hN hw hi hj hij hi0 hj0 hx hy hs hs1 hs2) (fun ρ' ⟨s1, s2, p1, p2, e⟩ => by cases e; exact h s1 s2 p1 p2) fun d ⟨_, _, _, _, e⟩ => by cases e
end
end Kl

set_option Elab.async false
set_option linter.all false
set_option maxRecDepth 100000
/-! The law's defs: the web. -/
namespace Kl
open PySem PySem.Spec L2
section
variable {X : Cx} {ρ : En} {c ce ct : Nat} {O : Out → Prop} {rest : List Stmt} {a : Expr} {pos p p2 pb : Pos} {xb : Str} {k : Nat}
theorem Iv.imp {tg e : Expr} {P P' : List D → Prop} (h : Iv X ρ tg e c P) (hP : ∀ ys, P ys → P' ys) : Iv X ρ tg e c P' := pi_imp h fun σ H R ⟨G, L, bx, x, hb, q⟩ => ⟨G, L, bx, x, hb, fun J H' ys s p w => q J H' ys s (hP ys p) w⟩
theorem Picks.all {α : Type} {p : α → Bool} {Pe : α → D → Prop} {xs : List α} {rs : List D} (h : Picks p Pe xs rs) (hp : ∀ x ∈ xs, p x = true) : rs.length = xs.length ∧ ∀ r ∈ rs, ∃ x ∈ xs, Pe x r := by
  induction h with
  | nil => exact ⟨rfl, fun r h => by cases h⟩
  | @skip xs rs x _ e ih => exact absurd (hp x (by simp)) (by rw [e]; decide)
  | take _ _ e ih =>
    obtain ⟨h1, h2⟩ := ih fun x hx => hp x (List.mem_append_left _ hx)
    refine ⟨by simp [h1], fun r hr => ?_⟩
    rcases List.mem_append.mp hr with hr | hr
    · obtain ⟨x, hx, q⟩ := h2 r hr
      exact ⟨x, List.mem_append_left _ hx, q⟩
    · rw [List.mem_singleton.mp hr]
      exact ⟨_, by simp, e⟩
/-- name = [.. for x in ..], at a cost -/
theorem Svs.setNV {α : Type} {en : α → D} {xs : List α} {Pe : α → D → Prop} {elt iter : Expr} {scope : Scope} {x y : Str} {p pos spos py : Pos} (i j : Nat) (hi : I1 X ρ (.Name x p) iter (xs.map en)) (he : ∀ a ∈ xs, InBlk X scope fun Y => Ev Y (wp1 ρ [j] j (en a)) elt ce (Pe a)) (hz : xs.length ≤ sizeLine) (hct : xs.length * ce ≤ ct) (hN : X.N.Nodup)
    (h : ∀ rs, rs.length = xs.length → (∀ r ∈ rs, ∃ a ∈ xs, Pe a r) → Svs X (ρ.set i (some (.dat (.list rs)))) rest c O) (hd : ∀ a ∈ xs, ∀ r, Pe a r → isDat r = true) (hxi : X.N[j]? = some x := by rfl) (hx : scope.names.lookup x = some .local := by rfl) (h0 : 0 < j := by decide) (ok : BlkOk X.N X.env.scope scope [(x, j)] := by exact blkOk_by (by kernel_rfl)) (hc : X.calm = true := by rfl)
    (hy : X.N[i]? = some y := by rfl) (hyl : X.env.scope.names.lookup y = some .local := by rfl) (hsw : swapsWith (.ListComp elt [⟨.Name x p, iter, [], 0⟩] scope pos) (some (.Name y py)) spos.line X.env = pure true := by rfl) (h00 : 0 < i := by decide) (hs : ∀ x, foldedSetIterable iter X.env x = pure x := by intro _; rfl) :
    Svs X ρ (.Assign [.Name y py] (.ListComp elt [⟨.Name x p, iter, [], 0⟩] scope pos) spos :: rest) (ct + c) O :=
  Svs.cons (Sv.setLc (p := fun _ => true) (Pe := Pe) (c2 := ce) (ct := ct) (S := [j]) i hi ok (pgB j hN hxi hx) (fun a _ => TgOk.name j h0) (fun j h => h) (fun a ha s H C cl fp => Ts.nil) (fun a ha _ s H C cl fp => he a ha s H C cl fp) hd hz hct (by simp; omega) hc hN hy hyl hsw h00 hs)
    (fun ρ' ⟨d, ⟨rs, e1, pk⟩, e2⟩ => by cases e2; rw [e1]; obtain ⟨h1, h2⟩ := pk.all fun _ _ => rfl; exact h rs h1 h2) fun d ⟨_, _, e2⟩ => by cases e2
/-- int(take > 0) -/
theorem Ev.coin {kk : Nat} {e0 : Expr} (h : Ev X ρ e0 c (fun d => ∃ r : Nat, d = .int r ∧ r < kk)) {kc : Nat} {pc pd pi : Pos} (hm : X.mg "int" = none) (hg : Gl X "int" := by rfl) (hmk : behindInMarks .Gt (.Constant (.int 0) kc pc) = false := by first | exact nomark _ | rfl)
    (hs : starEach [.Compare e0 [.Gt] [.Constant (.int 0) kc pc] pd] X.env = (false, eval (.Compare e0 [.Gt] [.Constant (.int 0) kc pc] pd) X.env) :: starEach [] X.env := by rfl) (hpl : (backTo pos (starEach [] X.env)).any (·.1) = false := by rfl) :
    Ev X ρ (.Call (.Name "int" pi) [.Compare e0 [.Gt] [.Constant (.int 0) kc pc] pd] [] pos) c (fun d => ∃ m : Nat, d = .int m ∧ m ≤ 1) :=
  Ev.callT (Pl := fun ds => ∃ b, ds = [.bool b]) (As.imp (As.cons (c2 := 0) (Ev.cmp (c2 := 0) (P := fun d => ∃ b, d = .bool b) (P2 := fun _ d => d = .int 0) h (fun _ _ => E1.int) (fun d1 d2 ⟨r, e1, _⟩ e2 => by rw [e1, e2]; exact o_gt.imp fun d z => ⟨_, z⟩) hmk) (fun _ _ => A1.nil) hs) (Nat.le_refl _) fun ds ⟨d, r, e1, ⟨b, e2⟩, e3⟩ => ⟨b, by rw [e1, e2, e3]⟩)
    (fun ds ⟨b, e⟩ => by
      rw [e]
      exact c_intB.imp fun d z => by
        cases b with
        | true => exact ⟨1, z, Nat.le_refl _⟩
        | false => exact ⟨0, z, by omega⟩) hm bt_int hg (by decide) (by decide) hs hpl
/-- t > 0, t taken -/
theorem Tv.coin {kk : Nat} {e0 : Expr} (h : Ev X ρ e0 c (fun d => ∃ r : Nat, d = .int r ∧ r < kk)) {kc : Nat} {pc pd : Pos} (hmk : behindInMarks .Gt (.Constant (.int 0) kc pc) = false := by first | exact nomark _ | rfl) : Tv X ρ (.Compare e0 [.Gt] [.Constant (.int 0) kc pc] pd) c (fun _ => True) :=
  Tv.cmp (c2 := 0) (P2 := fun _ d => d = .int 0) h (fun _ _ => E1.int) (fun d1 d2 ⟨r, e1, _⟩ e2 => by rw [e1, e2]; exact o_gt.imp fun d z => ⟨_, z, trivial⟩) hmk
end
theorem strs_alike (ss : List Nm) : PySem.W.AllAlike (ss.map .str) := PySem.W.AllAlike.of fun a b => rfl
theorem strs_can (ss : List Nm) : CanSort (ss.map .str) := .inl (.inr fun d hd => by
  obtain ⟨s, _, rfl⟩ := List.mem_map.mp hd
  exact ⟨(fun z => by cases z), fun xs z => by cases z⟩)
def sortN (ss : List Nm) : List Nm := ss.mergeSort (PySem.W.dataLe false PyData.str)
theorem c_sortN {X : Cx} {ss : List Nm} (hl : ss.length ≤ 4000) (hu : X.A.units + 64 < cLine) : CallOk X (.builtin "sorted") [nmsL ss] (· = nmsL (sortN ss)) :=
  c_sorted (bs := ss) (enc := .str) (strs_alike ss) (strs_can ss) (Nat.le_trans hl (by decide)) (fun _ _ => Nat.zero_le _) hu
theorem sortN_len (ss : List Nm) : (sortN ss).length = ss.length := List.length_mergeSort _
theorem lineD_alike (ls : List Line) : PySem.W.AllAlike (ls.map lineD) := PySem.W.AllAlike.of fun a b => rfl
theorem netHold (n : Net) : isHold [.tuple (n.yards.map yardD), .tuple (n.lines.map lineD), .tuple (n.custs.map custD)] = false := by
  match n.yards with
  | [] => rfl
  | [_] => rfl
  | [_, _] => rfl
  | _ :: _ :: _ :: _ => rfl
end Kl

set_option Elab.async false
set_option linter.all false
set_option maxRecDepth 100000
/-! The law's defs: the web. -/
namespace Kl
open PySem PySem.Spec L2
abbrev rgs : List Nm := ["blue", "k", "red", "zz"]
structure WebOk (n : Net) : Prop where
  ok : NetOk n
  m : MostOk n
  c0 : 0 < n.custs.length
  c3 : n.custs.length ≤ 3
  l5 : n.lines.length ≤ 5
  y : n.yards.length ≤ 3
  k : ∀ l ∈ n.lines, l.key ∈ rgs
abbrev LnOk (l : Line) : Prop := 0 ≤ l.most ∧ l.key ∈ rgs
theorem slice1 (zs : List D) (h : 1 ≤ zs.length) : (zs.drop (HT.sIx zs.length 0 none)).take (HT.sIx zs.length zs.length (some 1) - HT.sIx zs.length 0 none) = zs.take 1 := by
  rw [HT.sIx_none, show HT.sIx zs.length zs.length (some 1) = min 1 zs.length from HT.sIx_nat _ _ 1, List.drop_zero, Nat.sub_zero]
  congr 1
  omega
theorem sliceR (zs : List D) (h : 1 ≤ zs.length) : (zs.drop (HT.sIx zs.length 0 (some 1))).take (HT.sIx zs.length zs.length none - HT.sIx zs.length 0 (some 1)) = zs.drop 1 := by
  rw [HT.sIx_none, show HT.sIx zs.length 0 (some 1) = min 1 zs.length from HT.sIx_nat _ _ 1]
  have : min 1 zs.length = 1 := by omega
  rw [this, List.take_of_length_le (by rw [List.length_drop]; exact Nat.le_refl _)]
theorem of_eachY {α β : Type} {f : β → D} {xs : List α} {rs : List D} (h : ∀ r ∈ rs, ∃ a ∈ xs, ∃ y : β, r = f y) : ∃ ys : List β, rs = ys.map f := by
  induction rs with
  | nil => exact ⟨[], rfl⟩
  | cons r rs ih =>
    obtain ⟨ys, e⟩ := ih fun q hq => h q (List.mem_cons_of_mem _ hq)
    obtain ⟨_, _, y, e2⟩ := h r List.mem_cons_self
    exact ⟨y :: ys, by rw [e, e2]; rfl⟩
section
variable {P : Program} {w : World} {K : PySem.W.Frag} {mg : Str → Option Value} {base : Heap}
abbrev s56 : Stmt := topS 56
theorem sc56 : FnScope ["_law_box_here", "_law_spots_so", "_law_rings_so", "_law_ways_so", "_law_k", "_law_tag", "_law_ends_so", "_law_folk_so", "_law_found", "_law_stock_so", "_law_own"] ["_law_box_here"] (defScope s56) := ⟨rfl, rfl, rfl, by decide +kernel, rfl, by decide +kernel, by decide +kernel⟩
abbrev sp_web (K : PySem.W.Frag) : Sp := spR K (τ := Unit) 5000 (fun _ => []) (fun _ => True) (fun _ d => ∃ n, WebOk n ∧ d = netD n)
theorem ok_web {f : Addr} {fd : FuncData} (F : Fun K "_law_web" "_law_web" s56 f fd) (mI : mg "int" = none) (mL : mg "len" = none) (mE : mg "enumerate" = none) (mS : mg "sorted" = none) (mT : mg "tuple" = none)
    (F43 : Fn P w K mg base 2 "_law_take" ["_law_box_here", "_law_size_so"] (sp_take K)) (F45 : Fn P w K mg base 2 "_law_of" ["_law_box_here", "_law_goods_so"] (sp_of K)) (F46 : Fn P w K mg base 2 "_law_pick" ["_law_box_here", "_law_goods_so", "_law_count_so"] (sp_pick K)) :
    FnOk P w K mg base CX0 3 f fd ["_law_box_here"] (sp_web K) := by
  refine okR F sc56 (fun _ => rfl) (by decide) ?_
  rintro ⟨⟩ _ cdv A outer s H E hr
  have hsz : sizeLine = 16777216 := rfl
  have s2 : (2 : Nat) ≤ sizeLine := by decide
  have s3 : (3 : Nat) ≤ sizeLine := by decide
  have s4 : (4 : Nat) ≤ sizeLine := by decide
  have s5 : (5 : Nat) ≤ sizeLine := by decide
  have s6 : (6 : Nat) ≤ sizeLine := by decide
  refine Svs.imp (Svs.asg (c1 := 210) (c2 := 4000) 1 (Ev.imp (Ev.pickN (ns := ["a", "b", "c"]) (Pm := fun m => 2 ≤ m ∧ m ≤ 3) (c := 10) F46 hr (E1.lst (L1.cons E1.str (L1.cons E1.str (L1.cons E1.str L1.nil))) s3) (Ev.imp (Ev.op (c1 := 0) (c2 := 10) (P := fun d => ∃ m : Nat, d = .int m ∧ (2 ≤ m ∧ m ≤ 3)) (P2 := fun _ d => ∃ m : Nat, d = .int m ∧ m ≤ 1) E1.int (fun _ _ => Ev.coin (Ev.take F43 hr E1.int (by decide)) mI) (fun d1 d2 e1 ⟨m, e2, hm⟩ => by rw [e1, e2]; exact o_add.imp fun d z => ⟨2 + m, by rw [z]; rfl, by omega⟩)) (by decide) fun _ z => z) (by decide) (fun m hm => by omega)) (by decide) fun _ z => z) sc56.nd fun d hd => ?_) (by decide) fun _ z => z
  obtain ⟨m, zs, rfl, hm, hzm, hzl, hznd⟩ := hd
  replace hzl : zs.length = min m 3 := hzl
  obtain ⟨z0, zt, rfl⟩ : ∃ z0 zt, zs = z0 :: zt := by
    cases zs with
    | nil => simp at hzl; omega
    | cons a r => exact ⟨a, r, rfl⟩
  rw [List.length_cons] at hzl
  have hzt1 : 1 ≤ zt.length := by omega
  have hzt2 : zt.length ≤ 2 := by omega
  refine Svs.imp (Svs.parV (c1 := 210) (c2 := 0) (c := 3000) 2 3 (Gv.dat (Ev.imp (Ev.pickN (ns := rgs) (Pm := fun m => 2 ≤ m ∧ m ≤ 4) (c := 10) F46 hr (E1.lst (L1.cons E1.str (L1.cons E1.str (L1.cons E1.str (L1.cons E1.str L1.nil)))) s4) (Ev.imp (Ev.ofL (ds := [.int 2, .int 3, .int 4, .int 4]) F45 hr (E1.lst (L1.cons E1.int (L1.cons E1.int (L1.cons E1.int (L1.cons E1.int L1.nil)))) s4) (by decide)) (Nat.le_refl _) fun d hd => ?_) (by decide) (fun m hm => by omega)) (by decide) fun _ z => z)) (G1.lst L1.nil) rfl sc56.nd rfl ?_) (by decide) fun _ z => z
  · simp only [List.mem_cons, List.not_mem_nil, or_false] at hd
    rcases hd with rfl | rfl | rfl | rfl
    · exact ⟨2, rfl, by omega⟩
    · exact ⟨3, rfl, by omega⟩
    · exact ⟨4, rfl, by omega⟩
    · exact ⟨4, rfl, by omega⟩
  rintro _ _ ⟨d, rfl, m2, rs, rfl, hm2, hrm, hrl, _⟩ rfl
  replace hrl : rs.length = min m2 4 := hrl
  have hr1 : 0 < rs.length := by omega
  refine Svs.imp (Svs.forPV (α := Nat × Nm) (e1 := fun p => PyData.int p.1) (e2 := fun p => PyData.str p.2) (Pxs := fun xs => 1 ≤ xs.length ∧ xs.length ≤ 5) (ci := 210) (c0 := 430) (ct := 2150) (c := 600) 4 5
    (fun xs i ρ' => ∃ (ls : List Line) (s4 s5 s6 : Option Sl), ρ' = [none, some (.dat (nmsL (z0 :: zt))), some (.dat (nmsL rs)), some (.own (.l (ls.map lineD))), s4, s5, s6, none, none, none, none] ∧ ls.length = i ∧ ∀ l ∈ ls, LnOk l)
    (Iv.imp (Iv.enumL (c := 210) (Pl := fun ds => ∃ ts : List Nm, ds = ts.map .str ∧ 1 ≤ ts.length ∧ ts.length ≤ 5) (Ev.imp (Ev.pickN (ns := ["a", "l", "line", "m", "n"]) (Pm := fun m => 3 ≤ m ∧ m ≤ 100) (c := 10) F46 hr (E1.lst (L1.cons E1.str (L1.cons E1.str (L1.cons E1.str (L1.cons E1.str (L1.cons E1.str L1.nil))))) s5)
      (Ev.imp (Ev.op (c1 := 0) (c2 := 10) (P := fun d => ∃ m : Nat, d = .int m ∧ (3 ≤ m ∧ m ≤ 100)) (P2 := fun _ d => ∃ m : Nat, d = .int m ∧ m < 3) E1.int (fun _ _ => Ev.take F43 hr E1.int (by decide)) (fun d1 d2 e1 ⟨m, e2, hm⟩ => by rw [e1, e2]; exact o_add.imp fun d z => ⟨3 + m, by rw [z]; rfl, by omega⟩)) (by decide) fun _ z => z) (by decide) (fun m hm => hm.2)) (by decide) fun d ⟨m, ts, e, hm, _, hl, _⟩ => by
        have hl : ts.length = min m 5 := hl
        exact ⟨_, e, ts, rfl, by omega, by omega⟩) mE) fun ys ⟨ds, ⟨ts, e1, hl1, hl⟩, e2⟩ => ⟨(List.range ts.length).zip ts, by rw [List.length_zip, List.length_range, Nat.min_self]; exact ⟨hl1, hl⟩, by
        rw [e2, e1]
        unfold enumD rangeD
        rw [List.length_map]
        exact zipD_map (fun k : Nat => PyData.int k) PyData.str (List.range ts.length) ts⟩)
    (fun xs _ => ⟨[], none, none, none, rfl, rfl, fun l h => by cases h⟩) ?_ ?_ (fun xs h => by
      have := Nat.mul_le_mul_right 430 h.2
      omega) PassesOwn.never sc56.nd) (by decide) fun _ z => z
  · rintro xs hxs i ⟨k, tag⟩ ρ' hi ⟨ls, s4', s5', s6', rfl, hli, hls⟩
    have hi5 : i < 5 := Nat.lt_of_lt_of_le (List.getElem?_eq_some_iff.mp hi).1 hxs.2
    have l3 : 1 ≤ ((z0 :: zt).map PyData.str).length := by rw [List.length_map, List.length_cons]; omega
    refine Svs.imp (Svs.asg (c1 := 200) (c2 := 220) (P := fun d => ∃ e0 e1 : Nm, d = nmsL [e0, e1]) 6 (Ev.imp (Ev.op (c1 := 0) (c2 := 200) (P := fun d => ∃ e0 e1 : Nm, d = nmsL [e0, e1]) (P2 := fun _ d => ∃ y : Nm, d = nmsL [y])
      (E1.cast (Ev.slice (E1.var 1) (.inl ⟨rfl, rfl⟩) (.inr ⟨_, 1, rfl, rfl, E1.int⟩)) (d' := nmsL [z0]) (by rw [slice1 _ l3]; rfl))
      (fun _ _ => Ev.imp (Ev.pickN (ns := zt) (Pm := fun m => m = 1) (c := 0) F46 hr (E1.cast (Ev.slice (E1.var 1) (.inr ⟨_, 1, rfl, rfl, E1.int⟩) (.inl ⟨rfl, rfl⟩)) (d' := nmsL zt) (by rw [sliceR _ l3]; rfl)) (Ev.imp E1.int (Nat.le_refl _) fun d z => ⟨1, z, rfl⟩) (by omega) (fun m hm => by omega)) (by decide) fun d ⟨m, ys, e, em, _, hl, _⟩ => by
        have hl : ys.length = 1 := by omega
        obtain ⟨y, rfl⟩ := List.length_eq_one_iff.mp hl
        exact ⟨y, e⟩)
      (fun d1 d2 e1 ⟨y, e2⟩ => by rw [e1, e2]; exact (o_cat (xs := [.str z0]) (ys := [.str y]) s2).imp fun d z => ⟨z0, y, z⟩)) (by decide) fun _ z => z) sc56.nd fun d hd => ?_) (by decide) fun _ z => z
    obtain ⟨e0, e1, rfl⟩ := hd
    refine Svs.imp (Svs.asg (c1 := 210) (c2 := 10) (P := fun d => ∃ e0 e1 : Nm, d = nmsL [e0, e1]) 6 (Ev.imp (Ev.ifExp (c1 := 10) (c2 := 200) (P := fun d => ∃ e0 e1 : Nm, d = nmsL [e0, e1]) (Tv.coin (Ev.take F43 hr E1.int (by decide))) (fun _ => Ev.imp (E1.var 6) (Nat.zero_le _) fun d z => ⟨e0, e1, z⟩)
      fun _ => Ev.imp (Ev.pickN (ns := z0 :: zt) (Pm := fun m => m = 2) (c := 0) F46 hr (E1.var 1) (Ev.imp E1.int (Nat.le_refl _) fun d z => ⟨2, z, rfl⟩) (by rw [List.length_cons]; omega) (fun m hm => by omega)) (by decide) fun d ⟨m, ys, e, em, _, hl, _⟩ => by
        have hl : ys.length = 2 := by rw [hl, List.length_cons]; omega
        match ys, hl with
        | [y, y2], _ => exact ⟨y, y2, e⟩) (by decide) fun _ z => z) sc56.nd fun d hd => ?_) (by decide) fun _ z => z
    obtain ⟨f0, f1, rfl⟩ := hd
    have hkr : k % rs.length < rs.length := Nat.mod_lt _ hr1
    refine Svs.imp (Svs.cons (c1 := 10) (c2 := 0) (Sv.append (P := fun d => ∃ l : Line, d = lineD l ∧ LnOk l) 3 rfl (Ev.imp (Ev.tup (Ls.cons (c1 := 0) (c2 := 10) (P1 := (· = .str tag)) (P2 := fun _ r => ∃ l : Line, r = [.str l.start, .str l.goal, .int l.most, .str l.key] ∧ LnOk l) (E1.var 5) (fun _ _ => Ls.imp (Ls.cons (c1 := 0) (c2 := 10) (P1 := (· = .str f0)) (P2 := fun _ r => ∃ l : Line, r = [.str l.goal, .int l.most, .str l.key] ∧ LnOk l) (E1.ix (E1.var 6) E1.int (x_l 0)) (fun _ _ => Ls.imp (Ls.cons (c1 := 0) (c2 := 10) (P1 := (· = .str f1)) (P2 := fun _ r => ∃ l : Line, r = [.int l.most, .str l.key] ∧ LnOk l) (E1.ix (E1.var 6) E1.int (x_l 1))
        (fun _ _ => Ls.imp (Ls.cons (c1 := 10) (c2 := 0) (P1 := fun d => ∃ m : Int, d = .int m ∧ 0 ≤ m) (P2 := fun _ r => r = [.str rs[k % rs.length]]) (Ev.imp (Ev.ofL (ds := [.int 0, .int 1, .int 1, .int 1, .int 2, .int 3]) F45 hr (E1.lst (L1.cons E1.int (L1.cons E1.int (L1.cons E1.int (L1.cons E1.int (L1.cons E1.int (L1.cons E1.int L1.nil)))))) s6) (by decide)) (Nat.le_refl _) fun d hd => ?_)
          (fun _ _ => L1.cons (E1.ix (E1.var 2) (E1.cast (E1.op (E1.var 4) (E1.callB (A1.cons (E1.var 2) A1.nil) c_len mL bt_len) (o_mod (by rw [List.length_map]; omega))) (d' := .int ((k % rs.length : Nat) : Int)) (by rw [List.length_map, Int.natCast_emod])) (x_nat (dd := .str rs[k % rs.length]) (.inr rfl) (by rw [List.getElem?_map, List.getElem?_eq_getElem hkr]; rfl) rfl)) L1.nil) (fun d ⟨m, e, _⟩ => by rw [e]; rfl)) (Nat.le_refl _) fun r ⟨d, r', e1, ⟨m, e2, hm⟩, e3⟩ => ⟨⟨"a", "a", "a", m, rs[k % rs.length]⟩, by rw [e1, e2, e3], hm, hrm _ (List.getElem_mem hkr)⟩)
        (fun d e => by rw [e]; rfl)) (Nat.le_refl _) fun r ⟨d, r', e1, e2, l, e3, hl⟩ => ⟨⟨"a", "a", f1, l.most, l.key⟩, by rw [e1, e2, e3], hl⟩) (fun d e => by rw [e]; rfl)) (Nat.le_refl _) fun r ⟨d, r', e1, e2, l, e3, hl⟩ => ⟨⟨"a", f0, l.goal, l.most, l.key⟩, by rw [e1, e2, e3], hl⟩) (fun d e => by rw [e]; rfl))
      (fun ds ⟨d, r', e1, e2, l, e3, hl⟩ => by rw [e1, e3]; exact s5) (fun ds ⟨d, r', e1, e2, l, e3, hl⟩ => by rw [e1, e2, e3]; rfl)) (by decide) fun d ⟨ds, e0, d', r', e1, e2, l, e3, hl⟩ => ⟨⟨tag, l.start, l.goal, l.most, l.key⟩, by rw [e0, e1, e2, e3]; rfl, hl⟩) (fun d ⟨l, e, _⟩ => by rw [e]; rfl) (by rw [List.length_map]; omega)) (fun ρ' z => ?_) fun d z => by obtain ⟨_, _, z⟩ := z; cases z) (by decide) fun _ z => z
    · simp only [List.mem_cons, List.not_mem_nil, or_false] at hd
      rcases hd with rfl | rfl | rfl | rfl | rfl | rfl
      · exact ⟨0, rfl, by decide⟩
      · exact ⟨1, rfl, by decide⟩
      · exact ⟨1, rfl, by decide⟩
      · exact ⟨1, rfl, by decide⟩
      · exact ⟨2, rfl, by decide⟩
      · exact ⟨3, rfl, by decide⟩
    · obtain ⟨d, ⟨l, rfl, hl⟩, z⟩ := z
      cases z
      refine Svs.nil ⟨ls ++ [l], _, _, _, by rw [List.map_append]; rfl, by rw [List.length_append, hli]; rfl, fun q hq => ?_⟩
      rcases List.mem_append.mp hq with hq | hq
      · exact hls q hq
      · rw [List.mem_singleton.mp hq]; exact hl
  · rintro xs hxs ρ' ⟨ls, s4', s5', s6', rfl, hli, hls⟩
    have hl5 : ls.length ≤ 5 := by omega
    refine Svs.freeze 3 (d := .list (ls.map lineD)) ?_
    refine Svs.imp (Svs.parV (c1 := 210) (c2 := 0) (c := 300) 7 8 (Gv.dat (Pd := fun d => ∃ fs : List Nm, d = nmsL fs ∧ 1 ≤ fs.length ∧ fs.length ≤ 3) (Ev.callB (Pl := fun ds => ∃ fs : List Nm, ds = [nmsL fs] ∧ 1 ≤ fs.length ∧ fs.length ≤ 3) (As.imp (As.cons (c1 := 210) (c2 := 0) (P2 := fun _ r => r = []) (P1 := fun d => ∃ fs : List Nm, d = nmsL fs ∧ 1 ≤ fs.length ∧ fs.length ≤ 3) (Ev.imp (Ev.pickN (ns := ["a", "p", "q", "zoe"]) (Pm := fun m => 1 ≤ m ∧ m ≤ 3) (c := 10) F46 hr (E1.lst (L1.cons E1.str (L1.cons E1.str (L1.cons E1.str (L1.cons E1.str L1.nil)))) s4)
        (Ev.imp (Ev.op (c1 := 0) (c2 := 10) (P := fun d => ∃ m : Nat, d = .int m ∧ (1 ≤ m ∧ m ≤ 3)) (P2 := fun _ d => ∃ m : Nat, d = .int m ∧ m < 3) E1.int (fun _ _ => Ev.take F43 hr E1.int (by decide)) (fun d1 d2 e1 ⟨m, e2, hm⟩ => by rw [e1, e2]; exact o_add.imp fun d z => ⟨1 + m, by rw [z]; rfl, by omega⟩)) (by decide) fun _ z => z) (by decide) (fun m hm => by omega)) (by decide) fun d ⟨m, fs, e, hm, _, hl, _⟩ => by
          have hl : fs.length = min m 4 := hl
          exact ⟨fs, e, by omega, by omega⟩) (fun _ _ => A1.nil)) (by decide) fun ds ⟨d, r, e1, ⟨fs, e2, h⟩, e3⟩ => ⟨fs, by rw [e1, e2, e3], h⟩)
        (fun ds ⟨fs, e, h⟩ => by rw [e]; exact (c_sortN (by omega) hr.units).imp fun d z => ⟨sortN fs, z, by rw [sortN_len]; exact h⟩) mS bt_sorted)) (G1.lst L1.nil) rfl sc56.nd rfl ?_) (by decide) fun _ z => z
    rintro _ _ ⟨d, rfl, fs, rfl, hf1, hf3⟩ rfl
    refine Svs.imp (Svs.setNV (xs := sortN (z0 :: zt)) (en := .str) (Pe := fun _ r => ∃ y : Nm × Int, r = yardD y) (ce := 10) (ct := 30) (c := 100) 9 10 (I1.list (E1.callB (A1.cons (E1.var 1) A1.nil) (c_sortN (by rw [List.length_cons]; omega) hr.units) mS bt_sorted))
      (fun a _ _ _ _ _ _ => Ev.imp (Ev.tup (Ls.cons (c1 := 0) (c2 := 10) (P1 := (· = .str a)) (P2 := fun _ r => ∃ i : Int, r = [.int i]) (E1.var 10) (fun _ _ => Ls.imp (Ls.one (c := 10) (P := fun d => ∃ i : Int, d = .int i) (Ev.imp (Ev.callR (c := 0) (cf := 10) (Pl := fun ds => ∃ is : List Int, ds = [.list (is.map .int)] ∧ 0 < is.length ∧ is.length < 10) F45 hr (As.imp (As.cons (c1 := 0) (c2 := 0) (P1 := fun d => ∃ is : List Int, d = .list (is.map .int) ∧ 0 < is.length ∧ is.length < 10) (P2 := fun _ r => r = []) (Ev.ifExp (c1 := 0) (c2 := 0) (Pt := fun _ => True) (Tv.cmp (c1 := 0) (c2 := 0) (P2 := fun _ d => d = .str z0) (E1.var 10) (fun _ _ => E1.ix (E1.var 1) E1.int (x_l 0)) (fun d1 d2 e1 e2 => by rw [e1, e2]; exact o_eqS.imp fun d z => ⟨_, z, trivial⟩))
          (fun _ => Ev.imp (E1.lst (L1.cons E1.int (L1.cons E1.int (L1.cons E1.int L1.nil))) s3) (Nat.le_refl _) fun d z => ⟨[4, 5, 6], z, by decide, by decide⟩) fun _ => Ev.imp (E1.lst (L1.cons E1.int (L1.cons E1.int (L1.cons E1.int (L1.cons E1.int L1.nil)))) s4) (Nat.le_refl _) fun d z => ⟨[0, 0, 0, 1], z, by decide, by decide⟩) (fun _ _ => A1.nil)) (Nat.le_refl _) fun ds ⟨d, r, e1, ⟨is, e2, h⟩, e3⟩ => ⟨is, by rw [e1, e2, e3], h⟩)
          (P := fun d => ∃ i : Int, d = .int i) (fun ds ⟨is, e, h⟩ => ⟨is.map .int, e, by rw [List.length_map]; omega, fun d hd => by obtain ⟨i, _, e⟩ := List.mem_map.mp hd; exact ⟨i, e.symm⟩⟩)) (by decide) fun _ z => z) (fun d ⟨i, e⟩ => by rw [e]; rfl)) (Nat.le_refl _) fun r ⟨d, e1, i, e2⟩ => ⟨i, by rw [e1, e2]⟩) (fun d e => by rw [e]; rfl))
        (fun ds ⟨d, r, e1, e2, i, e3⟩ => by rw [e1, e3]; exact s2) (fun ds ⟨d, r, e1, e2, i, e3⟩ => by rw [e1, e2, e3]; rfl)) (by decide) fun d ⟨ds, e0, d', r, e1, e2, i, e3⟩ => ⟨(a, i), by rw [e0, e1, e2, e3]; rfl⟩)
      (by rw [sortN_len, List.length_cons]; omega) (by rw [sortN_len, List.length_cons]; omega) sc56.nd (fun rs' hl' hrs' => ?_) (fun a _ r ⟨y, e⟩ => by rw [e]; rfl)) (by decide) fun _ z => z
    obtain ⟨ys, rfl⟩ : ∃ ys : List (Nm × Int), rs' = ys.map yardD := of_eachY hrs'
    rw [List.length_map, sortN_len, List.length_cons] at hl'
    have hsf : (sortN fs).length ≤ 3 := by rw [sortN_len]; exact hf3
    refine Svs.imp (Svs.forN (ys := fs.map .str) (c0 := 20) (ct := 60) (c := 0) 5 (fun i ρ' => ∃ (cs : List (Nm × Nm)) (s5 : Option Sl), ρ' = [none, some (.dat (nmsL (z0 :: zt))), some (.dat (nmsL rs)), some (.dat (.list (ls.map lineD))), s4', s5, s6', some (.dat (nmsL fs)), some (.own (.l (cs.map custD))), some (.dat (.list (ys.map yardD))), none] ∧ cs.length = i)
      (I1.list (E1.var 7)) ⟨[], s5', rfl, rfl⟩ ?_ ?_ (by rw [List.length_map]; omega) PassesOwn.never sc56.nd) (by decide) fun _ z => z
    · rintro i d ρ' hi ⟨cs, s5'', rfl, hci⟩
      rw [List.getElem?_map] at hi
      obtain ⟨t, ht, rfl⟩ := Option.map_eq_some_iff.mp hi
      have hi3 : i < fs.length := (List.getElem?_eq_some_iff.mp ht).1
      refine Svs.imp (Svs.cons (c1 := 20) (c2 := 0) (Sv.append (P := fun d => ∃ y : Nm × Nm, d = custD y) 8 rfl (Ev.imp (Ev.tup (Ls.cons (c1 := 0) (c2 := 20) (P1 := (· = .str t)) (P2 := fun _ r => ∃ u : Nm, r = [.str u]) (E1.var 5) (fun _ _ => Ls.imp (Ls.one (c := 20) (P := fun d => ∃ u : Nm, d = .str u) (Ev.imp (Ev.ifExp (c1 := 10) (c2 := 10) (P := fun d => ∃ u : Nm, d = .str u) (Tv.coin (Ev.take F43 hr E1.int (by decide)))
        (fun _ => Ev.ix (c1 := 10) (c2 := 0) (P1 := fun d => ∃ l : Line, d = lineD l) (P2 := fun _ d => d = .int 2) (Ev.imp (Ev.ofL F45 hr (E1.var 3) (by rw [List.length_map]; omega)) (Nat.le_refl _) fun d hd => by obtain ⟨l, _, e⟩ := List.mem_map.mp hd; exact ⟨l, e.symm⟩) (fun _ _ => E1.int) (fun d1 d2 ⟨l, e1⟩ e2 => by rw [e1, e2]; intro M H x y Q al w1 w2 q; exact x_t (X := _) 2 rfl M H x y Q al w1 w2 fun v H' d s p w => q v H' d s ⟨l.goal, p⟩ w))
        (fun _ => Ev.imp (Ev.ofL F45 hr (E1.var 1) (by rw [List.length_map, List.length_cons]; omega)) (Nat.le_refl _) fun d hd => by obtain ⟨u, _, e⟩ := List.mem_map.mp hd; exact ⟨u, e.symm⟩)) (by decide) fun _ z => z) (fun d ⟨u, e⟩ => by rw [e]; rfl)) (Nat.le_refl _) fun r ⟨d, e1, u, e2⟩ => ⟨u, by rw [e1, e2]⟩) (fun d e => by rw [e]; rfl))
        (fun ds ⟨d, r, e1, e2, u, e3⟩ => by rw [e1, e3]; exact s2) (fun ds ⟨d, r, e1, e2, u, e3⟩ => by rw [e1, e2, e3]; rfl)) (by decide) fun d ⟨ds, e0, d', r, e1, e2, u, e3⟩ => ⟨(t, u), by rw [e0, e1, e2, e3]; rfl⟩) (fun d ⟨y, e⟩ => by rw [e]; rfl) (by rw [List.length_map]; omega)) (fun ρ' z => ?_) fun d z => by obtain ⟨_, _, z⟩ := z; cases z) (by decide) fun _ z => z
      obtain ⟨d, ⟨y, rfl⟩, z⟩ := z
      cases z
      exact Svs.nil ⟨cs ++ [y], _, by rw [List.map_append]; rfl, by rw [List.length_append, hci]; rfl⟩
    · rintro ρ' ⟨cs, s5'', rfl, hci⟩
      rw [List.length_map] at hci
      let ls' := ls.mergeSort (PySem.W.dataLe false lineD)
      have ll : ls'.length = ls.length := List.length_mergeSort _
      have lm : ∀ l ∈ ls', l ∈ ls := fun l hl => (List.mergeSort_perm _ _).mem_iff.mp hl
      let n : Net := ⟨ys, ls', cs⟩
      refine Svs.freeze 8 (d := .list (cs.map custD)) (Svs.ret1 (d := netD n) (E1.tup (L1.cons (E1.callT (A1.cons (E1.var 9) A1.nil) c_tuple mT bt_tuple) (L1.cons (E1.callT (A1.cons (E1.callB (A1.cons (E1.var 3) A1.nil) (c_sorted (lineD_alike ls) (.inl (.inl fun d hd => by obtain ⟨l, _, rfl⟩ := List.mem_map.mp hd; exact ⟨_, _, rfl⟩)) (by omega) (fun _ _ => by show (1 : Nat) ≤ 32; decide) hr.units) mS bt_sorted) A1.nil) c_tuple mT bt_tuple) (L1.cons (E1.callT (A1.cons (E1.var 8) A1.nil) c_tuple mT bt_tuple) L1.nil))) s3 (netHold n)) ⟨_, rfl, _, rfl, n, ?_, rfl⟩)
      have hk : ∀ l ∈ ls', l.key ∈ rgs := fun l hl => (hls l (lm l hl)).2
      refine ⟨⟨by show ys.length ≤ 8; omega, by show ls'.length ≤ 100; omega, by show cs.length ≤ 100; omega, ?_⟩, fun l hl => (hls l (lm l hl)).1, by show 0 < cs.length; omega, by show cs.length ≤ 3; omega, by show ls'.length ≤ 5; omega, by show ys.length ≤ 3; omega, hk⟩
      have := nodup_len (a := keysOf n) (b := rgs) (rise_nodup (rise_setOf _)) fun k hk' => by
        obtain ⟨l, hl, e⟩ := keysOf_mem.mp hk'
        rw [← e]
        exact hk l hl
      have e : rgs.length = 4 := rfl
      omega
end
end Kl

set_option Elab.async false
set_option linter.all false
set_option maxRecDepth 100000
/-! The law's defs: the crew. -/
namespace Kl
open PySem PySem.Spec L2
/-- holders as a dict's pairs, the kits as lists -/
def hdL (h : Hold) : List (Str × D) := h.map fun p => (p.1, nmsL p.2)
theorem getS_hdL {h : Hold} {k : Nm} (hk : k ∈ people h) : getS (hdL h) k = some (nmsL (kitOf h k)) := by
  unfold getS hdL kitOf
  rw [List.find?_map]
  have e : ((fun e : Str × D => decide (e.1 = k)) ∘ fun p : Nm × List Nm => (p.1, nmsL p.2)) = fun p => decide (p.1 = k) := rfl
  rw [e]
  cases hf : h.find? (fun p => decide (p.1 = k)) with
  | none =>
    obtain ⟨p, hp, rfl⟩ := List.mem_map.mp hk
    have := List.find?_eq_none.mp hf p hp
    simp at this
  | some p => rfl
theorem putS_hdL {h : Hold} {k : Nm} {ks : List Nm} (hk : k ∈ people h) : putS (hdL h) k (nmsL ks) = hdL (updH h k ks) := by
  unfold putS
  have any : ((hdL h).any fun e => decide (e.1 = k)) = true := by
    obtain ⟨p, hp, rfl⟩ := List.mem_map.mp hk
    exact List.any_eq_true.mpr ⟨(p.1, nmsL p.2), List.mem_map.mpr ⟨p, hp, rfl⟩, decide_eq_true rfl⟩
  rw [if_pos any]
  unfold hdL updH
  rw [List.map_map, List.map_map]
  apply List.map_congr_left
  intro p _
  show (if p.1 = k then (p.1, nmsL ks) else (p.1, nmsL p.2)) = ((if p.1 = k then (p.1, ks) else p).1, nmsL (if p.1 = k then (p.1, ks) else p).2)
  split <;> rfl
abbrev cnames : List Nm := ["ann", "bo", "cy", "di", "k"]
abbrev okeys : List Nm := ["odd", "blue", "k", "red", "zz"]
structure CrewOk (h : Hold) : Prop where
  n2 : 2 ≤ h.length
  n4 : h.length ≤ 4
  nr : Rise (people h)
  nm : ∀ x ∈ people h, x ∈ cnames
  kr : ∀ p ∈ h, Rise p.2
  km : ∀ p ∈ h, ∀ x ∈ p.2, x ∈ okeys
theorem rise_snoc {l : List Nm} {x : Nm} (h : Rise l) (hx : ∀ y ∈ l, ltN y x = true) : Rise (l ++ [x]) :=
  List.pairwise_append.mpr ⟨h, by simp, fun a ha b hb => by rw [List.mem_singleton.mp hb]; exact hx a ha⟩
theorem kitOf_in {h : Hold} {k x : Nm} (hx : x ∈ kitOf h k) : ∃ p ∈ h, p.1 = k ∧ x ∈ p.2 := by
  unfold kitOf at hx
  cases hf : h.find? (fun p => decide (p.1 = k)) with
  | none => rw [hf] at hx; cases hx
  | some p =>
    rw [hf] at hx
    exact ⟨p, List.mem_of_find?_eq_some hf, of_decide_eq_true (List.find?_some (p := fun p : Nm × List Nm => decide (p.1 = k)) hf), hx⟩
theorem kitOf_at {h : Hold} {k : Nm} (hk : k ∈ people h) : ∃ p ∈ h, p.1 = k ∧ kitOf h k = p.2 := by
  unfold kitOf
  cases hf : h.find? (fun p => decide (p.1 = k)) with
  | none =>
    obtain ⟨p, hp, rfl⟩ := List.mem_map.mp hk
    have := List.find?_eq_none.mp hf p hp
    simp at this
  | some p => exact ⟨p, List.mem_of_find?_eq_some hf, of_decide_eq_true (List.find?_some (p := fun p : Nm × List Nm => decide (p.1 = k)) hf), rfl⟩
/-- what the loop over one ring keeps -/
structure InRing (rs : List Nm) (i : Nat) (ys : List Nm) (h : Hold) : Prop where
  r : ∀ p ∈ h, Rise p.2
  m : ∀ p ∈ h, ∀ x ∈ p.2, x ∈ rs.take i ∨ (p.1 ∈ ys ∧ x ∈ rs.take (i + 1))
theorem InRing.step {rs : List Nm} {i : Nat} {ys : List Nm} {h : Hold} {t x : Nm} (hr : Rise rs) (a : InRing rs i ys h) (hx : rs[i]? = some x) (ht : t ∈ people h) (hn : t ∉ ys) : InRing rs i (ys ++ [t]) (updH h t (kitOf h t ++ [x])) := by
  have tk : rs.take (i + 1) = rs.take i ++ [x] := by rw [List.take_add_one, hx]; rfl
  have lt : ∀ y ∈ rs.take i, ltN y x = true := by
    have h2 : Rise (rs.take (i + 1)) := hr.sublist (List.take_sublist _ _)
    rw [tk] at h2
    intro y hy
    exact (List.pairwise_append.mp h2).2.2 y hy x (by simp)
  obtain ⟨q, hq, eq, ek⟩ := kitOf_at ht
  have low : ∀ y ∈ kitOf h t, y ∈ rs.take i := fun y hy => by
    rw [ek] at hy
    rcases a.m q hq y hy with h | ⟨h, _⟩
    · exact h
    · rw [eq] at h; exact absurd h hn
  have up : ∀ p ∈ updH h t (kitOf h t ++ [x]), (p.1 = t ∧ p.2 = kitOf h t ++ [x]) ∨ p ∈ h := fun p hp => by
    unfold updH at hp
    obtain ⟨u, hu, rfl⟩ := List.mem_map.mp hp
    by_cases z : u.1 = t
    · rw [if_pos z]; exact .inl ⟨z, rfl⟩
    · rw [if_neg z]; exact .inr hu
  constructor
  · intro p hp
    rcases up p hp with ⟨_, e⟩ | hp
    · rw [e]
      exact rise_snoc (by rw [ek]; exact a.r q hq) fun y hy => lt y (low y hy)
    · exact a.r p hp
  · intro p hp y hy
    rcases up p hp with ⟨e1, e⟩ | hp
    · rw [e] at hy
      rcases List.mem_append.mp hy with hy | hy
      · exact .inl (low y hy)
      · refine .inr ⟨by rw [e1]; simp, ?_⟩
        rw [tk, List.mem_append]
        exact .inr hy
    · rcases a.m p hp y hy with h | ⟨h, h2⟩
      · exact .inl h
      · exact .inr ⟨List.mem_append_left _ h, h2⟩
theorem InRing.next {rs : List Nm} {i : Nat} {ys : List Nm} {h : Hold} (a : InRing rs i ys h) : InRing rs (i + 1) [] h :=
  ⟨a.r, fun p hp x hx => (a.m p hp x hx).elim (fun z => .inl ((List.take_sublist_take_left (Nat.le_succ i)).subset z)) fun z => .inl z.2⟩
end Kl

set_option Elab.async false
set_option linter.all false
set_option maxRecDepth 100000
/-! The law's defs: the crew walked. -/
namespace Kl
open PySem PySem.Spec L2
section
variable {P : Program} {w : World} {K : PySem.W.Frag} {mg : Str → Option Value} {base : Heap}
abbrev s57 : Stmt := topS 57
theorem sc57 : FnScope ["_law_box_here", "_law_web_here", "_law_tags", "_law_table_here", "_law_k", "_law_ring", "_law_more_so", "_law_tag", "_law_own"] ["_law_box_here", "_law_web_here"] (defScope s57) := ⟨rfl, rfl, rfl, by decide +kernel, rfl, by decide +kernel, by decide +kernel⟩
abbrev sp_crew (K : PySem.W.Frag) : Sp := spR K (τ := Net) 3000 (fun n => [netD n]) WebOk (fun _ d => ∃ h, CrewOk h ∧ d = holdD h)
theorem ok_crew {f : Addr} {fd : FuncData} (F : Fun K "_law_crew" "_law_crew" s57 f fd) (mL : mg "len" = none) (mE : mg "enumerate" = none) (mS : mg "sorted" = none) (m2 : mg "set" = none) (mT : mg "tuple" = none) (mD : mg "dict" = none)
    (F45 : Fn P w K mg base 2 "_law_of" ["_law_box_here", "_law_goods_so"] (sp_of K)) (F46 : Fn P w K mg base 2 "_law_pick" ["_law_box_here", "_law_goods_so", "_law_count_so"] (sp_pick K)) :
    FnOk P w K mg base CX0 3 f fd ["_law_box_here", "_law_web_here"] (sp_crew K) := by
  refine okR F sc57 (fun _ => rfl) (by decide) ?_
  rintro n hn cdv A outer s H E hr
  have hsz : sizeLine = 16777216 := rfl
  have s2 : (2 : Nat) ≤ sizeLine := by decide
  have s1 : (1 : Nat) ≤ sizeLine := by decide
  have s3 : (3 : Nat) ≤ sizeLine := by decide
  have s4 : (4 : Nat) ≤ sizeLine := by decide
  have s5 : (5 : Nat) ≤ sizeLine := by decide
  have s8 : (8 : Nat) ≤ sizeLine := by decide
  refine Svs.imp (Svs.asg (c1 := 210) (c2 := 2500) 2 (Ev.imp (Ev.pickN (ns := cnames) (Pm := fun m => 2 ≤ m ∧ m ≤ 4) (c := 10) F46 hr (E1.lst (L1.cons E1.str (L1.cons E1.str (L1.cons E1.str (L1.cons E1.str (L1.cons E1.str L1.nil))))) s5) (Ev.imp (Ev.ofL (ds := [.int 2, .int 3, .int 3, .int 4]) F45 hr (E1.lst (L1.cons E1.int (L1.cons E1.int (L1.cons E1.int (L1.cons E1.int L1.nil)))) s4) (by decide)) (Nat.le_refl _) fun d hd => ?_) (by decide) (fun m hm => by omega)) (by decide) fun _ z => z) sc57.nd fun d hd => ?_) (by decide) fun _ z => z
  · simp only [List.mem_cons, List.not_mem_nil, or_false] at hd
    rcases hd with rfl | rfl | rfl | rfl
    · exact ⟨2, rfl, by omega⟩
    · exact ⟨3, rfl, by omega⟩
    · exact ⟨3, rfl, by omega⟩
    · exact ⟨4, rfl, by omega⟩
  obtain ⟨m, ts, rfl, hm, htm, htl, htnd⟩ := hd
  replace htl : ts.length = min m 5 := htl
  have tnd : ts.Nodup := htnd (by decide)
  have t1 : 0 < ts.length := by omega
  have t4 : ts.length ≤ 4 := by omega
  let h0 : Hold := ts.map fun t => (t, [])
  have p0 : people h0 = ts := by
    show (ts.map fun t => (t, ([] : List Nm))).map (·.1) = ts
    rw [List.map_map]
    exact List.map_id _
  have hd0 : (ts.map fun t => PyData.tuple [.str t, .list []]) = (hdL h0).map pairD := by
    show _ = ((ts.map fun t => (t, ([] : List Nm))).map fun p => (p.1, nmsL p.2)).map pairD
    rw [List.map_map, List.map_map]
    rfl
  have nd0 : ((hdL h0).map (·.1)).Nodup := by
    have e : (hdL h0).map (·.1) = people h0 := by unfold hdL people; rw [List.map_map]; rfl
    rw [e, p0]
    exact tnd
  refine Svs.asgG 3 (G1.cast (G1.dictL (ps := hdL h0) (E1.cast (E1.lcN (xs := ts) (en := .str) (f := fun t => .tuple [.str t, .list []]) 7 (I1.list (E1.var 2)) (fun t _ _ _ _ _ _ => E1.tup (L1.cons (E1.var 7) (L1.cons (E1.lst L1.nil) L1.nil)) s2) (by omega) sc57.nd) (by rw [hd0])) mD) (by rw [mergeS_nodup nd0])) sc57.nd ?_
  let rk : List Nm := n.lines.map (fun l : Line => l.key) ++ (["odd"] : List Nm)
  let rs : List Nm := setOf rk
  have hrs : Rise rs := rise_setOf _
  have hrm : ∀ x ∈ rs, x ∈ okeys := fun x hx => by
    rcases List.mem_append.mp (mem_setOf.mp hx) with hx | hx
    · obtain ⟨l, hl, rfl⟩ := List.mem_map.mp hx
      exact List.mem_cons_of_mem _ (hn.k l hl)
    · rw [List.mem_singleton.mp hx]; exact List.mem_cons_self
  have hr5 : rs.length ≤ 5 := nodup_len (a := rs) (b := okeys) (rise_nodup hrs) hrm
  have ln := hn.l5
  have ez : ((List.range rs.length).zip rs).map (fun p => PyData.tuple [.int p.1, .str p.2]) = enumD (rs.map .str) := by
    unfold enumD rangeD
    rw [List.length_map]
    exact (zipD_map (fun k : Nat => PyData.int k) PyData.str (List.range rs.length) rs).symm
  refine Svs.imp (Svs.forP (xs := (List.range rs.length).zip rs) (e1 := fun p : Nat × Nm => PyData.int p.1) (e2 := fun p : Nat × Nm => PyData.str p.2) (c0 := 410) (ct := 2050) (c := 0) 4 5 (fun i ρ' => ∃ (h : Hold) (s4 s5 s6 s7 : Option Sl), ρ' = [none, some (.dat (netD n)), some (.dat (nmsL ts)), some (.own (.k (hdL h))), s4, s5, s6, s7, none] ∧ people h = ts ∧ InRing rs i [] h)
    (by rw [ez]; exact I1.enumL (E1.sortedSet (ss := rk) (E1.cast (E1.op (E1.lcN (xs := n.lines) (en := lineD) (f := fun l => .str l.key) 8 (I1.tup (E1.ix (E1.var 1) E1.int (x_t 1))) (fun l _ _ _ _ _ _ => E1.ix (E1.var 8) E1.int (x_t 4)) (by omega) sc57.nd) (E1.lst (L1.cons E1.str L1.nil)) (o_cat (by rw [List.length_map]; show n.lines.length + 1 ≤ sizeLine; omega))) (by simp [rk, nmsL])) (by show (n.lines.map (fun l : Line => l.key) ++ (["odd"] : List Nm)).length ≤ 4000; rw [List.length_append, List.length_map]; show n.lines.length + 1 ≤ 4000; omega) hr.units mS m2) mE)
    ⟨h0, none, none, none, none, rfl, p0, ⟨fun p hp => by obtain ⟨t, _, rfl⟩ := List.mem_map.mp hp; exact List.Pairwise.nil, fun p hp x hx => by obtain ⟨t, _, rfl⟩ := List.mem_map.mp hp; cases hx⟩⟩ ?_ ?_ (by rw [List.length_zip, List.length_range, Nat.min_self]; omega) PassesOwn.never sc57.nd) (by decide) fun _ z => z
  · rintro i ⟨k, ring⟩ ρ' hi ⟨h, s4', s5', s6', s7', rfl, hp, hin⟩
    have hri : rs[i]? = some ring := by
      have := List.getElem?_zip_eq_some.mp hi
      exact this.2
    have hkl : k % ts.length < ts.length := Nat.mod_lt _ t1
    refine Svs.imp (Svs.asg (c1 := 400) (c2 := 10) (P := fun d => ∃ ms : List (List Nm), d = .list (ms.map nmsL) ∧ ms.length = 8 ∧ ∀ m ∈ ms, m.Nodup ∧ ∀ x ∈ m, x ∈ ts) 6 (Ev.imp (Ev.op (c1 := 0) (c2 := 400) (P2 := fun _ d => ∃ m1 m2 : List Nm, d = .list ([[], m1, m2].map nmsL) ∧ (m1.Nodup ∧ ∀ x ∈ m1, x ∈ ts) ∧ (m2.Nodup ∧ ∀ x ∈ m2, x ∈ ts))
      (E1.cast (E1.op (E1.lst (L1.cons (E1.lst (L1.cons (E1.ix (E1.var 2) (E1.cast (E1.op (E1.var 4) (E1.callB (A1.cons (E1.var 2) A1.nil) c_len mL bt_len) (o_mod (by rw [List.length_map]; omega))) (d' := .int ((k % ts.length : Nat) : Int)) (by rw [List.length_map, Int.natCast_emod])) (x_nat (dd := .str ts[k % ts.length]) (.inr rfl) (by rw [List.getElem?_map, List.getElem?_eq_getElem hkl]; rfl) rfl)) L1.nil) s1) L1.nil) s1) E1.int (o_rep (n := 5) (by decide) s5)) (d' := .list ((List.replicate 5 [ts[k % ts.length]]).map nmsL)) (by rfl))
      (fun _ _ => Ev.imp (Ev.lst (Ls.cons (c1 := 0) (c2 := 400) (P1 := (· = nmsL [])) (P2 := fun _ r => ∃ m1 m2 : List Nm, r = [nmsL m1, nmsL m2] ∧ (m1.Nodup ∧ ∀ x ∈ m1, x ∈ ts) ∧ (m2.Nodup ∧ ∀ x ∈ m2, x ∈ ts)) (E1.lst L1.nil) (fun _ _ => Ls.imp (Ls.cons (c1 := 200) (c2 := 200) (P1 := fun d => ∃ m1 : List Nm, d = nmsL m1 ∧ m1.Nodup ∧ ∀ x ∈ m1, x ∈ ts) (P2 := fun _ r => ∃ m1 : List Nm, r = [nmsL m1] ∧ m1.Nodup ∧ ∀ x ∈ m1, x ∈ ts)
          (Ev.imp (Ev.pickN (ns := ts) (Pm := fun m => m = 2) (c := 0) F46 hr (E1.var 2) (Ev.imp E1.int (Nat.le_refl _) fun d z => ⟨2, z, rfl⟩) (by omega) (fun m hm => by omega)) (by decide) fun d ⟨_, zs, e, _, h1, _, h3⟩ => ⟨zs, e, h3 tnd, h1⟩)
          (fun _ _ => Ls.imp (Ls.one (c := 200) (P := fun d => ∃ m1 : List Nm, d = nmsL m1 ∧ m1.Nodup ∧ ∀ x ∈ m1, x ∈ ts) (Ev.imp (Ev.pickN (ns := ts) (Pm := fun m => m = 3) (c := 0) F46 hr (E1.var 2) (Ev.imp E1.int (Nat.le_refl _) fun d z => ⟨3, z, rfl⟩) (by omega) (fun m hm => by omega)) (by decide) fun d ⟨_, zs, e, _, h1, _, h3⟩ => ⟨zs, e, h3 tnd, h1⟩) (fun d ⟨_, e, _⟩ => by rw [e]; rfl)) (by decide) fun r ⟨d, e1, m1, e2, hm⟩ => ⟨m1, by rw [e1, e2], hm⟩)
          (fun d ⟨_, e, _⟩ => by rw [e]; rfl)) (by decide) fun r ⟨d, r', e1, ⟨m1, e2, h1⟩, m2, e3, h2⟩ => ⟨m1, m2, by rw [e1, e2, e3], h1, h2⟩) (fun d e => by rw [e]; rfl))
        (fun ds ⟨d, r, e1, e2, m1, m2, e3, _⟩ => by rw [e1, e3]; exact s3)) (by decide) fun d ⟨ds, e0, d', r, e1, e2, m1, m2, e3, h⟩ => ⟨m1, m2, by rw [e0, e1, e2, e3]; rfl, h⟩)
      (fun d1 d2 e1 ⟨m1, m2, e2, h1, h2⟩ => by
        rw [e1, e2]
        exact (o_cat (xs := (List.replicate 5 [ts[k % ts.length]]).map nmsL) (ys := [[], m1, m2].map nmsL) s8).imp fun d z => ⟨List.replicate 5 [ts[k % ts.length]] ++ [[], m1, m2], by rw [z, List.map_append], rfl, fun m hm => by
          rcases List.mem_append.mp hm with hm | hm
          · rw [List.eq_of_mem_replicate hm]
            exact ⟨by simp, fun x hx => by rw [List.mem_singleton.mp hx]; exact List.getElem_mem hkl⟩
          · simp only [List.mem_cons, List.not_mem_nil, or_false] at hm
            rcases hm with rfl | rfl | rfl
            · exact ⟨List.nodup_nil, fun x hx => by cases hx⟩
            · exact h1
            · exact h2⟩)) (by decide) fun _ z => z) sc57.nd fun d hd => ?_) (by decide) fun _ z => z
    obtain ⟨ms, rfl, hms, hmo⟩ := hd
    refine Svs.imp (Svs.forNV (Pys := fun ys => ∃ m : List Nm, ys = m.map .str ∧ m.Nodup ∧ ∀ x ∈ m, x ∈ ts) (ci := 10) (c0 := 0) (ct := 0) (c := 0) 7 (fun ys j ρ' => ∃ (m : List Nm) (h : Hold) (s7 : Option Sl), ys = m.map .str ∧ m.Nodup ∧ (∀ x ∈ m, x ∈ ts) ∧ ρ' = [none, some (.dat (netD n)), some (.dat (nmsL ts)), some (.own (.k (hdL h))), some (.dat (.int k)), some (.dat (.str ring)), some (.dat (.list (ms.map nmsL))), s7, none] ∧ people h = ts ∧ InRing rs i (m.take j) h)
      (Iv.list (Ev.imp (Ev.ofL F45 hr (E1.var 6) (by rw [List.length_map]; omega)) (Nat.le_refl _) fun d hd => by
        obtain ⟨m, hm, e⟩ := List.mem_map.mp hd
        exact ⟨m.map .str, e.symm, m, rfl, hmo m hm⟩)) (fun ys ⟨m, e, h1, h2⟩ => ⟨m, h, s7', e, h1, h2, rfl, hp, hin⟩) ?_ ?_ (fun ys _ => Nat.le_refl _) PassesOwn.never sc57.nd) (by decide) fun _ z => z
    · rintro ys _ j d ρ' hj ⟨m, h, s7, rfl, hmd, hmt, rfl, hp, hin⟩
      rw [List.getElem?_map] at hj
      obtain ⟨t, ht, rfl⟩ := Option.map_eq_some_iff.mp hj
      have htt : t ∈ people h := by rw [hp]; exact hmt t (List.mem_of_getElem? ht)
      have tk : m.take (j + 1) = m.take j ++ [t] := by rw [List.take_add_one, ht]; rfl
      have hno : t ∉ m.take j := by
        have : (m.take (j + 1)).Nodup := (List.take_sublist _ _).nodup hmd
        rw [tk] at this
        intro z
        exact (List.nodup_append.mp this).2.2 t z t (by simp) rfl
      have hk5 : (kitOf h t).length ≤ 5 := by
        obtain ⟨q, hq, eq, ek⟩ := kitOf_at htt
        rw [ek]
        refine Nat.le_trans (nodup_len (b := rs) (rise_nodup (hin.r q hq)) fun x hx => ?_) hr5
        rcases hin.m q hq x hx with z | ⟨_, z⟩
        · exact List.mem_of_mem_take z
        · exact List.mem_of_mem_take z
      have hl8 : (hdL h).length ≤ 4 := by
        have : (people h).length = ts.length := by rw [hp]
        unfold people at this
        unfold hdL
        rw [List.length_map] at this ⊢
        omega
      refine Svs.imp (Svs.cons (c1 := 0) (c2 := 0) (Sv.putK 3 (s := t) rfl (E1.cast (E1.op (E1.getK 3 (E1.var 7) (getS_hdL htt) (roomU hr)) (E1.lst (L1.cons (E1.var 5) L1.nil) s1) (o_cat (by rw [List.length_map]; exact Nat.le_trans (Nat.add_le_add hk5 (Nat.le_refl 1)) (by decide)))) (d' := nmsL (kitOf h t ++ [ring])) (by simp [nmsL])) (fun d z => by rw [z]; rfl) (E1.var 7) (Nat.lt_of_le_of_lt hl8 (by decide)) (roomU hr)) (fun ρ' z => ?_) fun d z => by obtain ⟨_, _, z⟩ := z; cases z) (Nat.le_refl _) fun _ z => z
      obtain ⟨d, rfl, z⟩ := z
      rw [putS_hdL htt] at z
      cases z
      refine Svs.nil ⟨m, updH h t (kitOf h t ++ [ring]), some (.dat (.str t)), rfl, hmd, hmt, rfl, by rw [updH_people]; exact hp, ?_⟩
      rw [tk]
      exact hin.step hrs hri htt hno
    · rintro ys _ ρ' ⟨m, h, s7, rfl, hmd, hmt, rfl, hp, hin⟩
      exact Svs.nil ⟨h, _, _, _, _, rfl, hp, hin.next⟩
  · rintro ρ' ⟨h, s4', s5', s6', s7', rfl, hp, hin⟩
    let h' : Hold := (sortN ts).map fun t => (t, kitOf h t)
    have pt : ∀ t ∈ sortN ts, t ∈ people h := fun t ht => by rw [hp]; exact (List.mergeSort_perm _ _).mem_iff.mp ht
    have pp : people h' = sortN ts := by
      show ((sortN ts).map fun t => (t, kitOf h t)).map (·.1) = sortN ts
      rw [List.map_map]
      exact List.map_id _
    refine Svs.ret1 (d := holdD h') (E1.cast (E1.callT (A1.cons (E1.lcN (xs := sortN ts) (en := .str) (f := fun t => heldD (t, kitOf h t)) 7 (I1.list (E1.callB (A1.cons (E1.var 2) A1.nil) (c_sortN (by omega) hr.units) mS bt_sorted)) (fun t ht _ _ _ _ _ => E1.tup (L1.cons (E1.var 7) (L1.cons (E1.callT (A1.cons (E1.getK 3 (E1.var 7) (getS_hdL (pt t ht)) (roomU hr)) A1.nil) c_tuple mT bt_tuple) L1.nil)) s2) (by rw [sortN_len]; omega) sc57.nd) A1.nil) c_tuple mT bt_tuple) (by show _ = PyData.tuple (h'.map heldD); rw [List.map_map]; rfl)) ⟨h', ?_, rfl⟩
    have hm' : ∀ p ∈ h', ∃ q ∈ h, p.1 = q.1 ∧ p.2 = q.2 := fun p hp' => by
      obtain ⟨t, ht, rfl⟩ := List.mem_map.mp hp'
      obtain ⟨q, hq, e1, e2⟩ := kitOf_at (pt t ht)
      exact ⟨q, hq, e1.symm, e2⟩
    have l1 : h'.length = ts.length := by show ((sortN ts).map _).length = _; rw [List.length_map, sortN_len]
    refine ⟨by omega, by omega, by rw [pp]; exact le_rise tnd, fun x hx => ?_, fun p hp' => ?_, fun p hp' x hx => ?_⟩
    · rw [pp] at hx
      exact htm x ((List.mergeSort_perm _ _).mem_iff.mp hx)
    · obtain ⟨q, hq, _, e⟩ := hm' p hp'
      rw [e]
      exact hin.r q hq
    · obtain ⟨q, hq, _, e⟩ := hm' p hp'
      rw [e] at hx
      rcases hin.m q hq x hx with z | ⟨_, z⟩
      · exact hrm x (List.mem_of_mem_take z)
      · exact hrm x (List.mem_of_mem_take z)
end
end Kl

set_option Elab.async false
set_option linter.all false
set_option maxRecDepth 100000
/-! The law's defs: the lot. -/
namespace Kl
open PySem PySem.Spec L2
section
variable {X : Cx} {ρ : En} {a : Expr} {p p2 pos pos2 : Pos}
theorem dqa_range {K : PySem.W.Frag} {M : Hp} (l : List Nat) : DqAll K M (l.map fun i => V.int ((0 : Int) + (i : Nat))) (l.map fun (k : Nat) => PyData.int (k : Int)) := by
  induction l with
  | nil => exact .nil
  | cons i l ih =>
    rw [List.map_cons, List.map_cons, Int.zero_add]
    exact .cons (.int _) ih
/-- list(range(n)) -/
theorem E1.listRange {n : Nat} (h : E1 X ρ a (.int n)) (hn : n ≤ 1000) (mL : X.mg "list" = none) (mR : X.mg "range" = none) (hc : X.calm = true := by rfl) (g1 : Gl X "list" := by rfl) (g2 : Gl X "range" := by rfl)
    (na : starEach [.Call (.Name "range" p2) [a] [] pos2] X.env = (false, eval (.Call (.Name "range" p2) [a] [] pos2) X.env) :: starEach [] X.env := by rfl) (na2 : starEach [a] X.env = (false, eval a X.env) :: starEach [] X.env := by rfl) :
    E1 X ρ (.Call (.Name "list" p) [.Call (.Name "range" p2) [a] [] pos2] [] pos) (.list (rangeD n)) := by
  refine pe_imp (pe_listRg hc g1 mL (prg_1 g2 mR h na2) na) fun σ H Q ⟨G, L, bx, x, hb, q⟩ => ⟨G, L, bx, x, hb, fun v H1 d s e w => ?_⟩
  subst e
  have ev := w.int
  subst ev
  refine ⟨n, rfl, RgOk.of_le (Int.le_refl 0) (by omega) (by decide) (by omega), fun r nr => q _ _ _ (Stp.andSame (x.step s) s (same_upd nr)) rfl (Dv.newL (x.step s).alM nr ?_)⟩
  have e : rgV 0 n = (List.range n).map fun i => V.int ((0 : Int) + (i : Nat)) := by
    unfold rgV
    congr 2
  rw [e]
  exact dqa_range _
/-- some of the first n numbers -/
theorem pick_nums {n m : Nat} {ys : List D} (h : PickOf (rangeD n) m ys) : ∃ zs : List Nat, ys = zs.map (fun (k : Nat) => PyData.int (k : Int)) ∧ (∀ z ∈ zs, z < n) ∧ zs.length ≤ n := by
  obtain ⟨rest, hp, hl⟩ := h
  have mem : ∀ y ∈ ys, ∃ k : Nat, k < n ∧ y = .int k := fun y hy => by
    obtain ⟨s, h1, h2⟩ := List.mem_map.mp (hp.subset (List.mem_append_left _ hy))
    exact ⟨s, List.mem_range.mp h1, h2.symm⟩
  rw [rangeD_len] at hl
  have l2 : ys.length ≤ n := by omega
  clear hp hl
  induction ys with
  | nil => exact ⟨[], rfl, fun z h => (by cases h), Nat.zero_le _⟩
  | cons y ys ih =>
    obtain ⟨k, hk, e⟩ := mem y List.mem_cons_self
    obtain ⟨zs, e2, h2, h3⟩ := ih (fun z hz => mem z (List.mem_cons_of_mem _ hz)) (by rw [List.length_cons] at l2; omega)
    refine ⟨k :: zs, by rw [e, e2]; rfl, fun z hz => ?_, ?_⟩
    · rcases List.mem_cons.mp hz with rfl | hz
      · exact hk
      · exact h2 z hz
    · have := congrArg List.length e2
      rw [List.length_map] at this
      rw [List.length_cons] at l2 ⊢
      omega
end
end Kl

set_option Elab.async false
set_option linter.all false
set_option maxRecDepth 100000
/-! The law's defs: the lot walked. -/
namespace Kl
open PySem PySem.Spec L2
theorem slice_mid (ds : List D) (k : Nat) (h : k < ds.length) : (ds.drop (HT.sIx ds.length 0 none)).take (HT.sIx ds.length ds.length (some (k : Int)) - HT.sIx ds.length 0 none) = ds.take k ∧ (ds.drop (HT.sIx ds.length 0 (some ((k : Int) + 1)))).take (HT.sIx ds.length ds.length none - HT.sIx ds.length 0 (some ((k : Int) + 1))) = ds.drop (k + 1) := by
  have e : ((k : Int) + 1) = ((k + 1 : Nat) : Int) := rfl
  rw [HT.sIx_none, HT.sIx_none, HT.sIx_nat, e, HT.sIx_nat, List.drop_zero, Nat.sub_zero]
  have e1 : min k ds.length = k := by omega
  have e2 : min (k + 1) ds.length = k + 1 := by omega
  rw [e1, e2]
  exact ⟨rfl, List.take_of_length_le (by rw [List.length_drop]; exact Nat.le_refl _)⟩
section
variable {P : Program} {w : World} {K : PySem.W.Frag} {mg : Str → Option Value} {base : Heap}
abbrev s58 : Stmt := topS 58
theorem sc58 : FnScope ["_law_box_here", "_law_web_here", "_law_kit", "_law_bits_so", "_law_k", "_law_lap", "_law_far", "_law_bit", "_law_own"] ["_law_box_here", "_law_web_here", "_law_kit"] (defScope s58) := ⟨rfl, rfl, rfl, by decide +kernel, rfl, by decide +kernel, by decide +kernel⟩
abbrev sp_bits (K : PySem.W.Frag) : Sp := spR K (τ := Net × List Nm) 300 (fun t => [netD t.1, nmsT t.2]) (fun t => WebOk t.1) (fun _ d => ∃ lot : List Int, d = lotD lot)
theorem ok_bits {f : Addr} {fd : FuncData} (F : Fun K "_law_bits" "_law_bits" s58 f fd) (mL : mg "len" = none) (mLi : mg "list" = none) (mR : mg "range" = none) (mM : mg "max" = none) (mT : mg "tuple" = none)
    (F43 : Fn P w K mg base 2 "_law_take" ["_law_box_here", "_law_size_so"] (sp_take K)) (F45 : Fn P w K mg base 2 "_law_of" ["_law_box_here", "_law_goods_so"] (sp_of K)) (F46 : Fn P w K mg base 2 "_law_pick" ["_law_box_here", "_law_goods_so", "_law_count_so"] (sp_pick K)) (F51 : Fn P w K mg base 2 "_law_go" ["_law_web_here", "_law_kit", "_law_bits_so"] (sp_go K)) :
    FnOk P w K mg base CX0 3 f fd ["_law_box_here", "_law_web_here", "_law_kit"] (sp_bits K) := by
  refine okR F sc58 (fun _ => rfl) (by decide) ?_
  rintro ⟨n, ks⟩ hn cdv A outer s H E hr
  have hn : WebOk n := hn
  have hsz : sizeLine = 16777216 := rfl
  have s1 : (1 : Nat) ≤ sizeLine := by decide
  have s6 : (6 : Nat) ≤ sizeLine := by decide
  have c0 := hn.c0
  have c3 := hn.c3
  refine Svs.setN (xs := n.custs) (en := custD) (f := fun _ => .int 0) 3 8 (I1.tup (E1.ix (E1.var 1) E1.int (x_t 2))) (fun _ _ _ _ _ _ _ => E1.int) (by omega) sc58.nd ?_
  have e0 : PyData.list (n.custs.map fun _ => PyData.int 0) = .list ((List.replicate n.custs.length (0 : Int)).map .int) := by
    rw [List.map_replicate, List.map_const']
  rw [e0]
  have l0 : ((List.replicate n.custs.length (0 : Int)).map PyData.int).length = n.custs.length := by rw [List.length_map, List.length_replicate]
  refine Svs.imp (Svs.forNV (Pys := fun ys => ∃ zs : List Nat, ys = zs.map (fun (k : Nat) => PyData.int (k : Int)) ∧ ∀ z ∈ zs, z < n.custs.length) (ci := 200) (c0 := 0) (ct := 0) (c := 90) 4 (fun ys j ρ' => ∃ (zs : List Nat) (is : List Int) (s4 s5 s6 : Option Sl), ys = zs.map (fun (k : Nat) => PyData.int (k : Int)) ∧ (∀ z ∈ zs, z < n.custs.length) ∧ ρ' = [none, some (.dat (netD n)), some (.dat (nmsT ks)), some (.dat (.list (is.map .int))), s4, s5, s6, none, none] ∧ is.length = n.custs.length)
    (Iv.list (Ev.imp (Ev.callR (c := 0) (cf := 200) F46 hr (A1.cons (E1.listRange (n := n.custs.length) (E1.cast (E1.callB (A1.cons (E1.var 3) A1.nil) c_len mL bt_len) (by rw [l0])) (by omega) mLi mR) (A1.cons E1.int A1.nil)) (fun ys hy => ⟨(rangeD n.custs.length, 9), hy, ⟨by rw [rangeD_len]; omega, by show 9 ≤ 100; decide⟩, fun d h => h⟩)) (by decide) fun d ⟨ys, e, h⟩ => by
      obtain ⟨zs, e2, h2, _⟩ := pick_nums h
      exact ⟨ys, e, zs, e2, h2⟩)) (fun ys ⟨zs, e, h⟩ => ⟨zs, _, none, none, none, e, h, rfl, by rw [List.length_replicate]⟩) ?_ ?_ (fun ys _ => Nat.le_refl _) PassesOwn.never sc58.nd) (by decide) fun _ z => z
  · rintro ys _ j d ρ' hj ⟨zs, is, s4', s5', s6', rfl, hz, rfl, hl⟩
    rw [List.getElem?_map] at hj
    obtain ⟨k, hk, rfl⟩ := Option.map_eq_some_iff.mp hj
    have hkn : k < n.custs.length := hz k (List.mem_of_getElem? hk)
    refine Svs.imp (Svs.forN (ys := rangeD 5) (c0 := 0) (ct := 0) (c := 0) 5 (fun i ρ' => ∃ (is : List Int) (s5 s6 : Option Sl), ρ' = [none, some (.dat (netD n)), some (.dat (nmsT ks)), some (.dat (.list (is.map .int))), some (.dat (.int k)), s5, s6, none, none] ∧ is.length = n.custs.length) (I1.range (n := 5) E1.int (by decide) mR) ⟨is, s5', s6', rfl, hl⟩ ?_ ?_ (by decide) PassesOwn.never sc58.nd) (by decide) fun _ z => z
    · rintro i d ρ' hi ⟨is, s5, s6, rfl, hl⟩
      have hk1 : k < is.length := by omega
      have hkl : k < (is.map PyData.int).length := by rw [List.length_map]; omega
      obtain ⟨e1, e2⟩ := slice_mid (is.map PyData.int) k hkl
      let js : List Int := is.take k ++ [is[k] + 1] ++ is.drop (k + 1)
      have hj3 : js.length = n.custs.length := by
        show (is.take k ++ [is[k] + 1] ++ is.drop (k + 1)).length = _
        rw [List.length_append, List.length_append, List.length_take, List.length_drop, List.length_singleton]
        omega
      refine Svs.asg1 6 (d := .list (js.map .int)) (E1.cast (E1.op (E1.op (E1.cast (Ev.slice (E1.var 3) (.inl ⟨rfl, rfl⟩) (.inr ⟨_, (k : Int), rfl, rfl, E1.var 4⟩)) (d' := .list ((is.take k).map .int)) (by rw [e1, List.map_take])) (E1.lst (L1.cons (E1.op (E1.ix (E1.var 3) (E1.var 4) (x_nat (dd := .int is[k]) (.inr rfl) (by rw [List.getElem?_map, List.getElem?_eq_getElem hk1]; rfl) rfl)) E1.int o_add) L1.nil) s1) (o_cat (by rw [List.length_map, List.length_take]; show min k is.length + 1 ≤ sizeLine; omega)))
        (E1.cast (Ev.slice (E1.var 3) (.inr ⟨_, (k : Int) + 1, rfl, rfl, E1.op (E1.var 4) E1.int o_add⟩) (.inl ⟨rfl, rfl⟩)) (d' := .list ((is.drop (k + 1)).map .int)) (by rw [e2, List.map_drop])) (o_cat (by rw [List.length_append, List.length_map, List.length_map, List.length_take, List.length_drop, List.length_singleton]; omega))) (by show _ = PyData.list ((is.take k ++ [is[k] + 1] ++ is.drop (k + 1)).map .int); rw [List.map_append, List.map_append]; rfl)) sc58.nd ?_
      refine Svs.imp (Svs.asg (c1 := 0) (c2 := 0) (P := fun d => ∃ js : List Int, d = .list (js.map .int) ∧ js.length = n.custs.length) 3 (Ev.ifExp (c1 := 0) (c2 := 0) (T1.val (E1.callF F51 hr (A1.cons (E1.var 1) (A1.cons (E1.var 2) (A1.cons (E1.var 6) A1.nil))) (n, ks, false, js) rfl hn.ok fun d h => h)) (fun _ => Ev.imp (E1.var 6) (Nat.le_refl _) fun d z => ⟨js, z, hj3⟩) fun _ => Ev.imp (E1.var 3) (Nat.le_refl _) fun d z => ⟨is, z, hl⟩) sc58.nd fun d hd => ?_) (by decide) fun _ z => z
      obtain ⟨is', rfl, hl'⟩ := hd
      exact Svs.nil ⟨is', _, _, rfl, hl'⟩
    · rintro ρ' ⟨is, s5, s6, rfl, hl⟩
      exact Svs.nil ⟨zs, is, _, _, _, rfl, hz, rfl, hl⟩
  · rintro ys _ ρ' ⟨zs, is, s4', s5', s6', rfl, hz, rfl, hl⟩
    refine Svs.imp (Svs.cons (c1 := 30) (c2 := 50) (Sv.setLcG (xs := is) (en := .int) (p := fun _ => true) (Pe := fun _ r => ∃ i : Int, r = .int i) (c2 := 10) (ct := 30) (S := [7]) (own := [("_law_bit", 7)]) 3 (I1.list (E1.var 3)) (by exact blkOk_by (by kernel_rfl)) (pgB 7 sc58.nd rfl rfl) (fun a _ => TgOk.name 7 (by decide)) (fun j h => h) (fun a _ s H C cl fp => Ts.nil)
      (fun a _ _ s H C cl fp => Ev.imp (Ev.callB (c := 10) (Pl := fun ds => ∃ i : Int, ds = [.int 0, .int i]) (As.imp (As.cons (c1 := 0) (c2 := 10) (P2 := fun _ r => ∃ i : Int, r = [.int i]) E1.int (fun _ _ => As.imp (As.cons (c1 := 10) (c2 := 0) (P1 := fun d => ∃ i : Int, d = .int i) (P2 := fun _ r => r = []) (Ev.imp (Ev.op (c1 := 0) (c2 := 10) (P := fun d => ∃ i : Int, d = .int i) (P2 := fun _ d => ∃ i : Int, d = .int i) (E1.var 7) (fun _ _ => Ev.imp (Ev.ofL (ds := [.int 0, .int 0, .int 0, .int 0, .int 1, .int 2]) F45 hr (E1.lst (L1.cons E1.int (L1.cons E1.int (L1.cons E1.int (L1.cons E1.int (L1.cons E1.int (L1.cons E1.int L1.nil)))))) s6) (by decide)) (Nat.le_refl _) fun d hd => ?_) (fun d1 d2 e1 ⟨i, e2⟩ => by rw [e1, e2]; exact o_sub.imp fun d z => ⟨_, z⟩)) (by decide) fun _ z => z) (fun _ _ => A1.nil)) (by decide) fun r ⟨d, r', e1, ⟨i, e2⟩, e3⟩ => ⟨i, by rw [e1, e2, e3]⟩)) (by decide) fun r ⟨d, r', e1, e2, i, e3⟩ => ⟨i, by rw [e1, e2, e3]⟩) (fun ds ⟨i, e⟩ => by rw [e]; exact (c_max2 rfl).imp fun d z => ⟨_, z⟩) mM bt_max) (by decide) fun _ z => z)
      (fun a _ r ⟨i, e⟩ => by rw [e]; rfl) (by omega) (by omega) (by decide) rfl sc58.nd rfl rfl rfl (by decide)) (fun ρ' z => ?_) fun d z => by obtain ⟨_, _, z⟩ := z; cases z) (by decide) fun _ z => z
    · simp only [List.mem_cons, List.not_mem_nil, or_false] at hd
      rcases hd with rfl | rfl | rfl | rfl | rfl | rfl <;> exact ⟨_, rfl⟩
    obtain ⟨rs, pk, z⟩ := z
    cases z
    obtain ⟨hrl, hrs⟩ := pk.all fun _ _ => rfl
    obtain ⟨js, rfl⟩ : ∃ js : List Int, rs = js.map .int := of_eachY hrs
    rw [List.length_map] at hrl
    have hj0 : 0 < js.length := by omega
    refine Svs.imp (Svs.cons (c1 := 10) (c2 := 0) (O1 := fun o => ∃ js : List Int, o = .nx [none, some (.dat (netD n)), some (.dat (nmsT ks)), some (.own (.l (js.map .int))), s4', s5', s6', none, none]) (Sv.ifS (c1 := 10) (c2 := 0) (Tv.cmp (c1 := 10) (c2 := 0) (P := fun _ => True) (P2 := fun _ d => d = .int 0) (Ev.take F43 hr E1.int (by decide)) (fun _ _ => E1.int) (fun d1 d2 ⟨r, e1, _⟩ e2 => by rw [e1, e2]; exact o_eqI.imp fun d z => ⟨_, z, trivial⟩)) (fun _ => ?_) fun _ => Svs.nil ⟨js, rfl⟩) (fun ρ' z => ?_) fun d z => by obtain ⟨_, z⟩ := z; cases z) (by decide) fun _ z => z
    · refine Svs.imp (Svs.cons (c1 := 0) (c2 := 0) (Sv.putL 3 (m := 0) rfl (E1.op (E1.flat 3 (d := .list (js.map .int)) (E1.ix (E1.var 3) E1.int (x_nat (dd := .int js[0]) (.inr rfl) (by rw [List.getElem?_map, List.getElem?_eq_getElem hj0]; rfl) rfl))) E1.int o_add) (fun d z => by rw [z]; rfl) E1.int (by rw [List.length_map]; exact hj0)) (fun ρ' z => ?_) fun d z => by obtain ⟨_, _, z⟩ := z; cases z) (Nat.le_refl _) fun _ z => z
      obtain ⟨d, rfl, z⟩ := z
      cases z
      exact Svs.nil ⟨js.set 0 (js[0] + 1), by rw [List.map_set]; rfl⟩
    · obtain ⟨js', z⟩ := z
      cases z
      exact Svs.freeze 3 (d := .list (js'.map .int)) (Svs.ret1 (E1.callT (A1.cons (E1.var 3) A1.nil) c_tuple mT bt_tuple) ⟨_, rfl, js', rfl⟩)
end
end Kl

set_option Elab.async false
set_option linter.all false
set_option maxRecDepth 100000
/-! The plain law: crews, one hand enough, the hands that are told. -/
namespace Kl
open PySem PySem.Spec L2
theorem okeys_ok : ∀ x ∈ okeys, PyData.strOk x = true := by decide +kernel
theorem cnames_ok : ∀ x ∈ cnames, PyData.strOk x = true := by decide +kernel
theorem mem_allHands {h : Hold} {x : Nm × Nm × Nm} : x ∈ allHands h ↔ Has h x.1 x.2.1 ∧ x.2.2 ∈ people h := by
  unfold allHands
  rw [List.mem_flatMap]
  constructor
  · rintro ⟨p, hp, h2⟩
    obtain ⟨r, hr, h3⟩ := List.mem_flatMap.mp h2
    obtain ⟨far, hf, rfl⟩ := List.mem_map.mp h3
    exact ⟨⟨p.2, hp, hr⟩, hf⟩
  · rintro ⟨⟨ks, hp, hr⟩, hf⟩
    refine ⟨(x.1, ks), hp, List.mem_flatMap.mpr ⟨x.2.1, hr, List.mem_map.mpr ⟨x.2.2, hf, rfl⟩⟩⟩
namespace CrewOk
variable {h : Hold} (c : CrewOk h)
include c
theorem k5 : ∀ p ∈ h, p.2.length ≤ 5 := fun p hp => nodup_len (b := okeys) (rise_nodup (c.kr p hp)) (c.km p hp)
theorem nd : (people h).Nodup := rise_nodup c.nr
theorem hold : HoldOk h where
  n := Nat.le_trans c.n4 (by decide)
  k := fun p hp => Nat.le_trans (c.k5 p hp) (by decide)
  s := fun p hp => cnames_ok _ (c.nm _ (List.mem_map.mpr ⟨p, hp, rfl⟩))
theorem isH : isHold (h.map heldD) = true := by
  have h1 := c.n2
  have h2 := c.nd
  match h, h1, h2 with
  | p :: q :: r, _, h2 =>
    unfold people at h2
    rw [List.map_cons, List.map_cons, List.nodup_cons] at h2
    exact decide_eq_true fun e => h2.1 (by rw [e]; exact List.mem_cons_self)
theorem hands : ∀ x ∈ allHands h, HandOk h x.1 x.2.1 x.2.2 := fun x hx => ⟨(mem_allHands.mp hx).1, (mem_allHands.mp hx).2⟩
theorem hand {gv ky tk : Nm} (x : HandOk h gv ky tk) : CrewOk (handOn h gv ky tk) where
  n2 := by rw [handOn_eq, List.length_map]; exact c.n2
  n4 := by rw [handOn_eq, List.length_map]; exact c.n4
  nr := by rw [handOn_people]; exact c.nr
  nm := by rw [handOn_people]; exact c.nm
  kr := fun p hp => by
    rw [handOn_eq] at hp
    obtain ⟨q, _, rfl⟩ := List.mem_map.mp hp
    exact rise_setOf _
  km := fun p hp k hk => by
    have y : Has (handOn h gv ky tk) p.1 k := ⟨p.2, hp, hk⟩
    rcases (handOn_has x.t).mp y with ⟨⟨ks, h1, h2⟩, _⟩ | ⟨_, rfl⟩
    · exact c.km _ h1 k h2
    · obtain ⟨ks, h1, h2⟩ := x.g
      exact c.km _ h1 _ h2
theorem pass {gv ky tk : Nm} (x : HandOk h gv ky tk) : passedL h (gv, ky, tk) = handOn h gv ky tk := passed_handed c.nd c.kr x.g.people x.t
theorem passOk {x : Nm × Nm × Nm} (y : HandOk h x.1 x.2.1 x.2.2) : PassOk h x := ⟨c.hold, c.nd, c.isH, y.g.people, y.t⟩
theorem handOk {gv ky tk : Nm} (x : HandOk h gv ky tk) : HT.ok (h, gv, ky, tk) := ⟨c.hold, x.g.people, x.t, heldBy_mem.mpr ⟨gv, by simp, x.g⟩⟩
theorem hands_len : (allHands h).length ≤ 80 := by
  unfold allHands
  have h1 := flatMap_len (f := fun p : Nm × List Nm => p.2.flatMap (handsAt h p.1)) (m := 20) h fun p hp => by
    have h2 := flatMap_len (f := handsAt h p.1) (m := 4) p.2 fun r _ => by
      unfold handsAt
      rw [List.length_map, people_len]
      exact c.n4
    have := c.k5 p hp
    omega
  have := c.n4
  omega
theorem hands_ok : ∀ x ∈ allHands h, PyData.strOk x.1 = true ∧ PyData.strOk x.2.1 = true ∧ PyData.strOk x.2.2 = true := fun x hx => by
  obtain ⟨h1, h2⟩ := mem_allHands.mp hx
  refine ⟨cnames_ok _ (c.nm _ h1.people), ?_, cnames_ok _ (c.nm _ h2)⟩
  obtain ⟨ks, h3, h4⟩ := h1
  exact okeys_ok _ (c.km _ h3 _ h4)
theorem tab_len (n : Net) (lot : List Int) : (sendTab n h lot).length ≤ 16 := by
  refine Nat.le_trans (tabV_len _ _ _) ?_
  rw [subs_len, people_len]
  have := c.n4
  exact Nat.pow_le_pow_right (by decide) this
theorem lot_ok (n : Net) (lot : List Int) : GsOk (fines (sendTab n h lot)) := by
  refine ⟨?_, fun g hg => ?_⟩
  · unfold fines
    rw [List.length_map]
    exact Nat.le_trans (List.length_filter_le _ _) (Nat.le_trans (c.tab_len n lot) (by decide))
  · have hs := fines_sub g hg
    refine ⟨?_, fun x hx => cnames_ok _ (c.nm _ (hs.subset hx))⟩
    have h1 := hs.length_le
    have h2 := c.n4
    rw [people_len] at h1
    omega
end CrewOk
/-! ### how many hands -/
section
variable {n : Net} {h : Hold} {lot : List Int} {g : List Nm}
theorem with_none : GoesWith n h lot g [] ↔ sendB n h lot g = true := by
  unfold GoesWith sendB
  rw [List.append_nil]
theorem few_zero : fewest n h lot g = some 0 ↔ sendB n h lot g = true := by
  unfold fewest
  constructor
  · intro e
    obtain ⟨f, h1, h2⟩ := Option.map_eq_some_iff.mp e
    obtain ⟨_, h3, _⟩ := wanted_some h1
    rw [List.length_eq_zero_iff.mp h2] at h3
    exact with_none.mp h3
  · intro e
    obtain ⟨f, h1, h2⟩ := wanted_le (T := []) (fun k hk => by cases hk) (with_none.mpr e)
    rw [h1]
    show some f.length = some 0
    have : f.length ≤ 0 := h2
    rw [Nat.le_zero.mp this]
/-- behind a hand from outside into the group -/
theorem held_gain {gv ky tk : Nm} (x : HandOk h gv ky tk) (hn : ¬gv ∈ g) (ht : tk ∈ g) {k : Nm} : k ∈ heldBy (handOn h gv ky tk) g ↔ k ∈ heldBy h g ∨ k = ky := by
  constructor
  · exact held_up x k
  · rintro (hk | rfl)
    · obtain ⟨p, hp, y⟩ := heldBy_mem.mp hk
      exact heldBy_mem.mpr ⟨p, hp, (handOn_has x.t).mpr (.inl ⟨y, fun z => hn (z.1 ▸ hp)⟩)⟩
    · exact heldBy_mem.mpr ⟨tk, ht, (handOn_has x.t).mpr (.inr ⟨rfl, rfl⟩)⟩
theorem few_one (hm : MostOk n) (c : CrewOk h) (hg : ∀ x ∈ g, x ∈ people h) : fewest n h lot g = some 1 ↔ (∃ x ∈ allHands h, sendB n (passedL h x) lot g = true) ∧ sendB n h lot g = false := by
  constructor
  · intro e
    unfold fewest at e
    obtain ⟨f, h1, h2⟩ := Option.map_eq_some_iff.mp e
    obtain ⟨h3, h4, h5⟩ := wanted_some h1
    obtain ⟨k, rfl⟩ := List.length_eq_one_iff.mp h2
    obtain ⟨hk, ⟨p, hp⟩, hno, hgn⟩ := its_mem.mp (h3.subset List.mem_cons_self)
    constructor
    · cases g with
      | nil => exact absurd rfl hgn
      | cons y r =>
        have x : HandOk h p k y := ⟨hp, hg y List.mem_cons_self⟩
        refine ⟨(p, k, y), mem_allHands.mpr ⟨hp, x.t⟩, ?_⟩
        rw [c.pass x]
        refine goes_mono hm (fun j _ hj => ?_) h4
        rw [held_gain x (fun z => hno (heldBy_mem.mpr ⟨p, z, hp⟩)) List.mem_cons_self]
        rcases List.mem_append.mp hj with hj | hj
        · exact .inl hj
        · exact .inr (List.mem_singleton.mp hj)
    · cases es : sendB n h lot g with
      | false => rfl
      | true => exact absurd (h5 [] (List.nil_sublist _) (with_none.mpr es)) (by show ¬1 ≤ 0; decide)
  · rintro ⟨⟨x, hx, hs⟩, hno⟩
    have hx := c.hands x hx
    rw [c.pass hx] at hs
    have hG : GoesWith n h lot g ([x.2.1].filter fun k => decide (k ∈ itsOf n h g)) := by
      refine goes_mono hm (fun k hk hj => ?_) hs
      rw [List.mem_append]
      by_cases z : k ∈ heldBy h g
      · exact .inl z
      · rcases held_up hx k hj with hj' | rfl
        · exact absurd hj' z
        · refine .inr (List.mem_filter.mpr ⟨by simp, decide_eq_true (its_mem.mpr ⟨hk, ⟨_, hx.g⟩, z, fun e => ?_⟩)⟩)
          subst e
          rw [heldBy_none] at hj
          cases hj
    obtain ⟨f, h1, h2⟩ := wanted_le (fun k hk => of_decide_eq_true (List.mem_filter.mp hk).2) hG
    have h2 : f.length ≤ 1 := Nat.le_trans h2 (List.length_filter_le _ _)
    unfold fewest
    rw [h1]
    show some f.length = some 1
    have : f.length ≠ 0 := fun z => by
      obtain ⟨_, h3, _⟩ := wanted_some h1
      rw [List.length_eq_zero_iff.mp z] at h3
      rw [with_none.mp h3] at hno
      cases hno
    congr 1
    omega
/-- on the way: what is still to be handed -/
structure Way (n : Net) (lot : List Int) (g : List Nm) (who : Nm → Nm) (h : Hold) (r : List Nm) : Prop where
  c : CrewOk h
  gr : ∀ x ∈ g, x ∈ people h
  go : GoesWith n h lot g r
  nd : r.Nodup
  its : ∀ k ∈ r, k ∈ itsOf n h g
  w : ∀ k ∈ r, Has h (who k) k
  few : fewest n h lot g = some r.length
abbrev whoOf (h : Hold) (k : Nm) : Nm := (whoHolds h k).headD ⟨#[]⟩
theorem who_has {k : Nm} (hk : ∃ p, Has h p k) : Has h (whoOf h k) k := by
  obtain ⟨p, ks, h1, h2⟩ := hk
  have : p ∈ whoHolds h k := List.mem_map.mpr ⟨(p, ks), List.mem_filter.mpr ⟨h1, decide_eq_true h2⟩, rfl⟩
  unfold whoOf
  cases e : whoHolds h k with
  | nil => rw [e] at this; cases this
  | cons x r =>
    have hx : x ∈ whoHolds h k := by rw [e]; exact List.mem_cons_self
    obtain ⟨q, hq, rfl⟩ := List.mem_map.mp hx
    obtain ⟨h3, h4⟩ := List.mem_filter.mp hq
    exact ⟨q.2, h3, of_decide_eq_true h4⟩
theorem Way.start {f : List Nm} (c : CrewOk h) (hg : ∀ x ∈ g, x ∈ people h) (e : wanted n h lot g = some f) : Way n lot g (whoOf h) h f := by
  obtain ⟨h1, h2, _⟩ := wanted_some e
  refine ⟨c, hg, h2, h1.nodup (its_nodup n h g), fun k hk => h1.subset hk, fun k hk => who_has (its_mem.mp (h1.subset hk)).2.1, ?_⟩
  unfold fewest
  rw [e]
  rfl
variable {who : Nm → Nm} {k : Nm} {r : List Nm}
theorem Way.hand (w : Way n lot g who h (k :: r)) : HandOk h (who k) k (g.headD ⟨#[]⟩) := by
  refine ⟨w.w k List.mem_cons_self, ?_⟩
  have := (its_mem.mp (w.its k List.mem_cons_self)).2.2.2
  cases g with
  | nil => exact absurd rfl this
  | cons y g => exact w.gr y List.mem_cons_self
theorem Way.no (w : Way n lot g who h (k :: r)) : sendB n h lot g = false := by
  cases e : sendB n h lot g with
  | false => rfl
  | true =>
    have := few_zero.mpr e
    rw [w.few] at this
    cases this
theorem Way.next (hm : MostOk n) (w : Way n lot g who h (k :: r)) : Way n lot g who (handOn h (who k) k (g.headD ⟨#[]⟩)) r := by
  have x := w.hand
  obtain ⟨n1, n2⟩ := List.nodup_cons.mp w.nd
  obtain ⟨i1, i2, i3, i4⟩ := its_mem.mp (w.its k List.mem_cons_self)
  have hw : ¬who k ∈ g := fun z => i3 (heldBy_mem.mpr ⟨_, z, x.g⟩)
  have ht : g.headD ⟨#[]⟩ ∈ g := by
    cases g with
    | nil => exact absurd rfl i4
    | cons y g => exact List.mem_cons_self
  have gain := fun j => held_gain (k := j) x hw ht
  have go' : GoesWith n (handOn h (who k) k (g.headD ⟨#[]⟩)) lot g r := by
    have := w.go
    unfold GoesWith at this ⊢
    rw [← this]
    refine goes_congr fun j _ => ?_
    rw [List.mem_append, List.mem_append, gain j, List.mem_cons, or_assoc]
  have its' : ∀ j ∈ r, j ∈ itsOf n (handOn h (who k) k (g.headD ⟨#[]⟩)) g := fun j hj => by
    obtain ⟨j1, j2, j3, j4⟩ := its_mem.mp (w.its j (List.mem_cons_of_mem _ hj))
    refine its_mem.mpr ⟨j1, (every_same x.t x.g).mpr j2, fun z => ?_, j4⟩
    rcases (gain j).mp z with z | rfl
    · exact j3 z
    · exact n1 hj
  refine ⟨w.c.hand x, by rw [handOn_people]; exact w.gr, go', n2, its', fun j hj => ?_, ?_⟩
  · refine (handOn_has x.t).mpr (.inl ⟨w.w j (List.mem_cons_of_mem _ hj), fun z => n1 (z.2 ▸ hj)⟩)
  · obtain ⟨f', e1, e2⟩ := wanted_le its' go'
    have hf := w.few
    unfold fewest at hf ⊢
    obtain ⟨f, e3, e4⟩ := Option.map_eq_some_iff.mp hf
    obtain ⟨f2, e5, _, e6⟩ := few_near hm x e3
    rw [e1] at e5
    cases e5
    rw [e1]
    show some f'.length = some r.length
    rw [List.length_cons] at e4
    congr 1
    omega
theorem Way.done (w : Way n lot g who h []) : sendB n h lot g = true := with_none.mp w.go
end
end Kl

set_option Elab.async false
set_option linter.all false
set_option maxRecDepth 100000
/-! The law's defs: one hand, walked. -/
namespace Kl
open PySem PySem.Spec L2
/-! ### data of which _law_same can tell -/
theorem cs_s (m : Nat) (s : Nm) : Cs m (.str s) := by
  cases m with
  | zero => exact rfl
  | succ m => exact .inl rfl
theorem cs_key (m : Nat) (k : List Nm) (h : k.length ≤ 100) : Cs (m + 1) (keyD k) :=
  .inr ⟨k.map .str, .inr rfl, by rw [List.length_map]; exact h, fun x hx => by
    obtain ⟨s, _, rfl⟩ := List.mem_map.mp hx
    exact cs_s m s⟩
theorem cs_keys (m : Nat) (ks : List (List Nm)) (h : ks.length ≤ 100) (h2 : ∀ k ∈ ks, k.length ≤ 100) : Cs (m + 2) (.list (ks.map keyD)) :=
  .inr ⟨ks.map keyD, .inl rfl, by rw [List.length_map]; exact h, fun x hx => by
    obtain ⟨k, hk, rfl⟩ := List.mem_map.mp hx
    exact cs_key m k (h2 k hk)⟩
theorem cs_hold (m : Nat) (h : Hold) (n : h.length ≤ 100) (k : ∀ p ∈ h, p.2.length ≤ 100) : Cs (m + 3) (holdD h) :=
  .inr ⟨h.map heldD, .inr rfl, by rw [List.length_map]; exact n, fun x hx => by
    obtain ⟨p, hp, rfl⟩ := List.mem_map.mp hx
    refine .inr ⟨[.str p.1, nmsT p.2], .inr rfl, by show 2 ≤ 100; decide, fun y hy => ?_⟩
    rcases List.mem_cons.mp hy with rfl | hy
    · exact cs_s _ _
    · rw [List.mem_singleton.mp hy]
      exact cs_key m p.2 (k p hp)⟩
theorem CrewOk.cs {h : Hold} (c : CrewOk h) (m : Nat) : Cs (m + 3) (holdD h) := cs_hold m h (Nat.le_trans c.n4 (by decide)) fun p hp => Nat.le_trans (c.k5 p hp) (by decide)
theorem CrewOk.cs_senders {h : Hold} (c : CrewOk h) (n : Net) (lot : List Int) (m : Nat) : Cs (m + 2) (.list ((sendersL n h lot).map keyD)) := by
  have e : ∀ g ∈ sendersL n h lot, g ∈ fines (sendTab n h lot) := fun g hg => by
    unfold sendersL leasts at hg
    exact (List.mem_filter.mp ((List.mergeSort_perm _ _).mem_iff.mp hg)).1
  refine cs_keys m _ ?_ fun g hg => ((c.lot_ok n lot).2 g (e g hg)).1
  unfold sendersL leasts
  rw [List.length_mergeSort]
  refine Nat.le_trans (List.length_filter_le _ _) ?_
  unfold fines
  rw [List.length_map]
  exact Nat.le_trans (List.length_filter_le _ _) (Nat.le_trans (c.tab_len n lot) (by decide))
/-! ### tables of groups -/
theorem mapV_keys {β : Type} (g : β → D) (es : List (List Nm × β)) : (mapV g es).map (fun e => keyD e.1) = es.map fun e => keyD e.1 := by
  unfold mapV
  rw [List.map_map]
  rfl
theorem subs_head (ns : List Nm) : ∃ r, subs ns = [] :: r := by
  have hm : [] ∈ subs ns := subs_iff.mpr (List.nil_sublist _)
  have hs : (subs ns).Pairwise fun a b => leK a b = true := sorted_leK _
  cases e : subs ns with
  | nil => rw [e] at hm; cases hm
  | cons a r =>
    rw [e] at hm hs
    cases a with
    | nil => exact ⟨r, rfl⟩
    | cons x a =>
      exfalso
      rcases List.mem_cons.mp hm with z | z
      · cases z
      · have h1 : (!PySem.W.dataLt (keyD []) (keyD (x :: a))) = true := (List.pairwise_cons.mp hs).1 [] z
        unfold keyD at h1
        rw [PySem.W.dataLt_tuple, List.map_cons, PySem.W.toks_all_cons, List.map_nil, show PySem.W.keyToksAll [] = [.inl 0] from rfl, PyProof.Rows.lex_cons] at h1
        simp at h1
        exact absurd h1.1 (by decide)
theorem tabV_head {β : Type} (vf : List Nm → β) (k : List Nm) (r : List (List Nm)) : ∃ q, (tabV (fun x => x) vf (k :: r)).map (·.1) = k :: q := by
  unfold tabV
  rw [List.foldl_cons]
  suffices ∀ (xs : List (List Nm)) (t : List (List Nm × β)), (∃ q, t.map (·.1) = k :: q) → ∃ q, (xs.foldl (fun t x => putV t x (vf x)) t).map (·.1) = k :: q from this r _ ⟨[], by unfold putV; rfl⟩
  intro xs
  induction xs with
  | nil => intro t h; exact h
  | cons x xs ih =>
    rintro t ⟨q, h⟩
    rw [List.foldl_cons]
    refine ih _ ?_
    rw [keys_putV, h]
    split
    · exact ⟨q, rfl⟩
    · exact ⟨q ++ [x], rfl⟩
theorem tab_can (n : Net) (h : Hold) (lot : List Int) : CanSort ((mapV .bool (sendTab n h lot)).map fun e => keyD e.1) := by
  obtain ⟨r, e⟩ := subs_head (people h)
  obtain ⟨q, e2⟩ := tabV_head (sendB n h lot) [] r
  rw [mapV_keys]
  have : (sendTab n h lot).map (fun e => keyD e.1) = ((sendTab n h lot).map (·.1)).map keyD := by rw [List.map_map]; rfl
  rw [this]
  unfold sendTab
  rw [e, e2]
  exact canKeys _ ⟨q, rfl⟩
theorem tab_get {n : Net} {h : Hold} {lot : List Int} {g : List Nm} (hg : g ∈ subs (people h)) : getT (mapV .bool (sendTab n h lot)) g = some (.bool (sendB n h lot g)) := by
  rw [mapV_get]
  unfold sendTab
  rw [getV_tabV hg]
  rfl
section
variable {P : Program} {w : World} {K : PySem.W.Frag} {mg : Str → Option Value} {base : Heap}
abbrev s61 : Stmt := topS 61
theorem sc61 : FnScope ["_law_web_here", "_law_crew_here", "_law_bits_so", "_law_band", "_law_own", "_law_later", "_law_table_here", "_law_told_so", "_law_after_so", "_law_leasts_so", "_law_far", "_law_ahead", "_law_behind"] ["_law_web_here", "_law_crew_here", "_law_bits_so", "_law_band", "_law_own"] (defScope s61) := ⟨rfl, rfl, rfl, by decide +kernel, rfl, by decide +kernel, by decide +kernel⟩
abbrev T5 := Net × Hold × List Int × List Nm × Nm × Nm × Nm
abbrev T5.enc (t : T5) : List D := [netD t.1, holdD t.2.1, lotD t.2.2.1, nmsT t.2.2.2.1, handD t.2.2.2.2]
abbrev T5.ok (t : T5) : Prop := WebOk t.1 ∧ CrewOk t.2.1 ∧ (∀ x ∈ t.2.2.2.1, x ∈ people t.2.1) ∧ HandOk t.2.1 t.2.2.2.2.1 t.2.2.2.2.2.1 t.2.2.2.2.2.2
abbrev sp_step (K : PySem.W.Frag) : Sp := spP K (τ := T5) T5.enc T5.ok (fun _ d => d = .bool true)
theorem ok_step {f : Addr} {fd : FuncData} (F : Fun K "_law_step_right" "_law_step_right" s61 f fd) (mS : mg "sorted" = none) (mA : mg "abs" = none)
    (F59 : Fn P w K mg base 6 "_law_passed" ["_law_crew_here", "_law_own"] (sp_passed K)) (F53 : Fn P w K mg base 6 "_law_table" ["_law_web_here", "_law_crew_here", "_law_bits_so"] (sp_table K)) (F37 : Fn P w K mg base 6 "handed" ["holders", "giver", "key", "taker"] (sp_handed K))
    (F54 : Fn P w K mg base 6 "_law_lean" ["_law_bands"] (sp_lean K)) (F47 : Fn P w K mg base 6 "_law_same" ["_law_mine", "_law_due"] (sp_same K 4)) (F35 : Fn P w K mg base 6 "senders" ["net", "holders", "lot"] (sp_senders K)) (F39 : Fn P w K mg base 6 "fewest_hands" ["net", "holders", "lot", "group"] (sp_fewest K)) :
    FnOk P w K mg base CX0 7 f fd ["_law_web_here", "_law_crew_here", "_law_bits_so", "_law_band", "_law_own"] (sp_step K) := by
  refine okP F sc61 (fun _ => rfl) (by decide) ?_
  rintro ⟨n, h, lot, g, gv, ky, tk⟩ ⟨hn, c, hg, x⟩ cdv A outer s H E hr
  have hn : WebOk n := hn
  have c : CrewOk h := c
  have hg : ∀ x ∈ g, x ∈ people h := hg
  have x : HandOk h gv ky tk := x
  have c' := c.hand x
  have pe : people (handOn h gv ky tk) = people h := handOn_people h gv ky tk
  have e7 := c.pass x
  generalize hh' : handOn h gv ky tk = h' at c' pe e7
  have p0 : PassOk h (gv, ky, tk) := c.passOk (x := (gv, ky, tk)) x
  have tl : (sendTab n h' lot).length ≤ sizeLine := Nat.le_trans (c'.tab_len n lot) (by decide)
  have lean := senders_lean n h' lot c'.nd
  refine Svs.par 5 6 (G1.dat (E1.callF F59 hr (A1.cons (E1.var 1) (A1.cons (E1.var 4) A1.nil)) (h, gv, ky, tk) rfl p0 fun d z => z.trans (congrArg holdD e7))) (G1.dat (E1.callF F53 hr (A1.cons (E1.var 0) (A1.cons (E1.var 1) (A1.cons (E1.var 2) A1.nil))) (n, h, lot) rfl ⟨hn.ok, c.hold⟩ fun d z => z)) rfl sc61.nd rfl ?_
  refine Svs.parC 7 8 (G1.dat (E1.callF F37 hr (A1.cons (E1.var 1) (A1.cons (E1.ix (E1.var 4) E1.int (x_t 0)) (A1.cons (E1.ix (E1.var 4) E1.int (x_t 1)) (A1.cons (E1.ix (E1.var 4) E1.int (x_t 2)) A1.nil)))) (h, gv, ky, tk) rfl (c.handOk x) fun d z => z.trans (congrArg holdD hh'))) (G1.dat (E1.callF F53 hr (A1.cons (E1.var 0) (A1.cons (E1.var 5) (A1.cons (E1.var 2) A1.nil))) (n, h', lot) rfl ⟨hn.ok, c'.hold⟩ fun d z => z)) rfl sc61.nd ?_
  refine Svs.asg1 9 (d := .list ((sendersL n h' lot).map keyD)) (E1.callF F54 hr (A1.cons (E1.lock (tb := mapV .bool (sendTab n h' lot)) 8 (E1.cast (E1.lcNIf (xs := sendTab n h' lot) (en := fun e => keyD e.1) (q := fun e => e.2) (f := fun e => keyD e.1) 10 (by rw [← mapV_keys PyData.bool]; exact I1.keys (E1.var 8))
      (fun e he _ _ _ _ _ => T1.val (E1.getT (tb := mapV .bool (sendTab n h' lot)) (k := e.1) (d := .bool e.2) (E1.var 8) (.inr rfl) (E1.var 10) (by rw [tab_get (subs_iff.mpr (sendTab_mem.mp he).1), ← (sendTab_mem.mp he).2]) (roomU hr))) (fun e _ _ _ _ _ _ _ => E1.var 10) tl sc61.nd) (d' := .list ((fines (sendTab n h' lot)).map keyD)) (by unfold fines; rw [List.map_map]; rfl))) A1.nil)
    (fines (sendTab n h' lot)) rfl ⟨c'.lot_ok n lot, lean_can c'.nd fines_sub⟩ fun d z => z.trans (by rw [lean])) sc61.nd ?_
  have csv : Cs 4 (.list [holdD h', .list ((sendersL n h' lot).map keyD)]) := .inr ⟨_, .inl rfl, by show 2 ≤ 100; decide, fun y hy => by
    rcases List.mem_cons.mp hy with rfl | hy
    · exact c'.cs 0
    · rw [List.mem_singleton.mp hy]
      exact c'.cs_senders n lot 1⟩
  refine Svs.ifS (k := false) (T1.not (k := true) (T1.val (E1.callF F47 hr (A1.cons (E1.lst (L1.cons (E1.var 7) (L1.cons (E1.callF F35 hr (A1.cons (E1.var 0) (A1.cons (E1.var 7) (A1.cons (E1.var 2) A1.nil))) (n, h', lot) rfl ⟨hn.ok, c'.hold⟩ fun d z => z) L1.nil)) (by show 2 ≤ sizeLine; decide)) (A1.cons (E1.lst (L1.cons (E1.var 5) (L1.cons (E1.var 9) L1.nil)) (by show 2 ≤ sizeLine; decide)) A1.nil)) _ rfl csv fun d z => z))) (fun z => by cases z) (fun _ => ?_) rfl
  have kmem : ∀ g' ∈ ((mapV .bool (sendTab n h lot)).map (·.1)).mergeSort leK, g' ∈ subs (people h) := fun g' hg' => by
    have := (List.mergeSort_perm _ _).mem_iff.mp hg'
    obtain ⟨e, he, rfl⟩ := List.mem_map.mp this
    unfold mapV at he
    obtain ⟨e2, he2, rfl⟩ := List.mem_map.mp he
    exact subs_iff.mpr (sendTab_mem.mp he2).1
  obtain ⟨keys, hkeys⟩ : ∃ ks, ks = ((mapV .bool (sendTab n h lot)).map (·.1)).mergeSort leK := ⟨_, rfl⟩
  rw [← hkeys] at kmem
  refine Svs.imp (Svs.forN (ys := keys.map keyD) (c0 := 0) (ct := 0) (c := 0) 10 (fun i ρ' => ∃ s10, ρ' = [some (.dat (netD n)), some (.dat (holdD h)), some (.dat (lotD lot)), some (.dat (nmsT g)), some (.dat (handD (gv, ky, tk))), some (.dat (holdD h')), some (.dat (tabD (mapV .bool (sendTab n h lot)))), some (.dat (holdD h')), some (.dat (tabD (mapV .bool (sendTab n h' lot)))), some (.dat (.list ((sendersL n h' lot).map keyD))), s10, none, none])
    (I1.list (E1.callB (A1.cons (E1.var 6) A1.nil) ((c_sortedTab (tab_can n h lot) rfl hr.units).imp fun d z => z.trans (by rw [hkeys])) mS bt_sorted)) ⟨none, rfl⟩ ?_ ?_ (by simp) PassesOwn.never sc61.nd) (Nat.le_refl _) fun _ z => z
  · rintro i d ρ' hi ⟨s10, rfl⟩
    rw [List.getElem?_map] at hi
    obtain ⟨far, hf, rfl⟩ := Option.map_eq_some_iff.mp hi
    have hm := kmem far (List.mem_of_getElem? hf)
    have g1 := tab_get (n := n) (lot := lot) hm
    have g2 := tab_get (n := n) (h := h') (lot := lot) (g := far) (by rw [pe]; exact hm)
    have less : ¬tk ∈ far → sendB n h' lot far = true → sendB n h lot far = true := by rw [← hh']; exact send_less hn.m x
    have same : gv ∈ far → tk ∈ far → sendB n h' lot far = sendB n h lot far := by rw [← hh']; exact send_same x
    refine Svs.ifS (k := false) (T1.castB (W1.t (W1.and (T1.cmp (E1.ix (E1.var 4) E1.int (x_t 2)) (E1.var 10) o_notIn) fun _ => W1.and (T1.val (E1.getT (E1.var 8) (.inl rfl) (E1.var 10) g2 (roomU hr))) fun _ => W1.and1 (T1.not (T1.val (E1.getT (E1.var 6) (.inl rfl) (E1.var 10) g1 (roomU hr)))))) ?_) (fun z => by cases z) (fun _ => ?_) rfl
    · rw [Bool.eq_false_iff]
      intro z
      rw [Bool.and_eq_true, Bool.and_eq_true, Bool.not_eq_true'] at z
      rw [less (of_decide_eq_true z.1) z.2.1] at z
      cases z.2.2
    refine Svs.ifS (k := false) (T1.castB (W1.t (W1.and (T1.cmp (E1.ix (E1.var 4) E1.int (x_t 0)) (E1.var 10) o_in) fun _ => W1.and (T1.cmp (E1.ix (E1.var 4) E1.int (x_t 2)) (E1.var 10) o_in) fun _ => W1.and1 (T1.cmp (E1.getT (E1.var 8) (.inl rfl) (E1.var 10) g2 (roomU hr)) (E1.getT (E1.var 6) (.inl rfl) (E1.var 10) g1 (roomU hr)) o_neB))) ?_) (fun z => by cases z) (fun _ => Svs.nil ⟨_, rfl⟩) rfl
    rw [Bool.eq_false_iff]
    intro z
    rw [Bool.and_eq_true, Bool.and_eq_true, bne_iff_ne] at z
    exact z.2.2 (same (of_decide_eq_true z.1) (of_decide_eq_true z.2.1))
  · rintro ρ' ⟨s10, rfl⟩
    have ok1 : T4.ok (n, h, lot, g) := ⟨hn.ok, c.hold, hg⟩
    have ok2 : T4.ok (n, h', lot, g) := ⟨hn.ok, c'.hold, fun y hy => by rw [pe]; exact hg y hy⟩
    refine Svs.par 11 12 (G1.dat (E1.callF F39 hr (A1.cons (E1.var 0) (A1.cons (E1.var 1) (A1.cons (E1.var 2) (A1.cons (E1.var 3) A1.nil)))) (n, h, lot, g) rfl ok1 fun d z => z)) (G1.dat (E1.callF F39 hr (A1.cons (E1.var 0) (A1.cons (E1.var 5) (A1.cons (E1.var 2) (A1.cons (E1.var 3) A1.nil)))) (n, h', lot, g) rfl ok2 fun d z => z)) rfl sc61.nd rfl ?_
    unfold fewest
    have none' := few_none (lot := lot) (g := g) hn.m x
    have near := fun f => few_near (lot := lot) (g := g) hn.m x (f := f)
    rw [hh'] at none' near
    cases e : wanted n h lot g with
    | none =>
      rw [none'.mpr e]
      exact Svs.ret1 (E1.and (k := true) (E1.cmp (E1.cmp (E1.var 11) E1.non o_isN) (E1.cmp (E1.var 12) E1.non o_isN) o_eqB) fun _ => E1.one (E1.or (k := true) (l := true) (E1.cmp (E1.var 11) E1.non o_isN) fun z => by cases z)) rfl
    | some f =>
      obtain ⟨f', e1, e2, e3⟩ := near f e
      rw [e1]
      refine Svs.ret1 (E1.and (k := true) (E1.cmp (E1.cmp (E1.var 11) E1.non o_isN) (E1.cmp (E1.var 12) E1.non o_isN) o_eqB) fun _ => E1.one (E1.or (k := false) (E1.cmp (E1.var 11) E1.non o_isN) fun _ => E1.one (E1.cmp (E1.callB (A1.cons (E1.op (E1.var 11) (E1.var 12) o_sub) A1.nil) c_abs mA bt_abs) E1.int o_le))) ?_
      show PyData.bool _ = .bool true
      congr 1
      have g2 : f'.length ≤ f.length + 1 := e2
      have g3 : f.length ≤ f'.length + 1 := e3
      show decide ((if ((f.length : Int) - (f'.length : Int)) < 0 then -((f.length : Int) - (f'.length : Int)) else ((f.length : Int) - (f'.length : Int))) ≤ 1) = true
      refine decide_eq_true ?_
      split <;> omega
end
end Kl

set_option Elab.async false
set_option linter.all false
set_option maxRecDepth 100000
/-! The law's defs: the hands one by one. -/
namespace Kl
open PySem PySem.Spec L2
theorem roomU65 {k : Nat} {A : Around} (h : Room k A) : A.units + 65 < cLine := by
  have := h.un
  omega
theorem hand_lay {x : Nm × Nm × Nm} (h : PyData.strOk x.1 = true ∧ PyData.strOk x.2.1 = true ∧ PyData.strOk x.2.2 = true) : (handD x).canLay0 = true := by
  have := canLay_strs [x.1, x.2.1, x.2.2] (fun y hy => by
    simp only [List.mem_cons, List.not_mem_nil, or_false] at hy
    rcases hy with rfl | rfl | rfl
    · exact h.1
    · exact h.2.1
    · exact h.2.2)
  unfold handD
  rw [PyData.canLay0]
  exact this
theorem hand_depth (x : Nm × Nm × Nm) : (handD x).depth = 1 := by
  have := depthAll_strs [x.1, x.2.1, x.2.2]
  unfold handD
  rw [PyData.depth]
  rw [show PyData.depthAll [PyData.str x.1, .str x.2.1, .str x.2.2] = 0 from this]
theorem shaped_hand {x : Nm × Nm × Nm} (h : PyData.strOk x.1 = true ∧ PyData.strOk x.2.1 = true ∧ PyData.strOk x.2.2 = true) : SeqAt.shaped (handD x) = true := by
  unfold SeqAt.shaped
  rw [hand_lay h, hand_depth]
  decide
theorem shaped_hands (xs : List (Nm × Nm × Nm)) (h : ∀ x ∈ xs, PyData.strOk x.1 = true ∧ PyData.strOk x.2.1 = true ∧ PyData.strOk x.2.2 = true) : SeqAt.shaped (.list (xs.map handD)) = true := by
  have lay : PyData.canLayAll0 (xs.map handD) = true := by
    induction xs with
    | nil => rfl
    | cons x xs ih =>
      rw [List.map_cons, PyData.canLayAll0, hand_lay (h x List.mem_cons_self), ih fun y hy => h y (List.mem_cons_of_mem _ hy)]
      rfl
  have dep : PyData.depthAll (xs.map handD) ≤ 1 := by
    clear h lay
    induction xs with
    | nil => exact Nat.zero_le _
    | cons x xs ih =>
      rw [List.map_cons, PyData.depthAll, hand_depth]
      exact Nat.max_le.mpr ⟨Nat.le_refl _, ih⟩
  unfold SeqAt.shaped
  rw [PyData.canLay0, lay, PyData.depth]
  simp
  omega
theorem any_hand {xs : List (Nm × Nm × Nm)} {x : Nm × Nm × Nm} (hx : x ∈ xs) (h : PyData.strOk x.1 = true ∧ PyData.strOk x.2.1 = true ∧ PyData.strOk x.2.2 = true) : ((xs.map handD).any fun z => PyData.eqv z (handD x)) = true :=
  List.any_eq_true.mpr ⟨handD x, List.mem_map.mpr ⟨x, hx, rfl⟩, SeqAt.eqv_refl _ (hand_lay h)⟩
section
variable {P : Program} {w : World} {K : PySem.W.Frag} {mg : Str → Option Value} {base : Heap}
abbrev s62 : Stmt := topS 62
theorem sc62 : FnScope ["_law_web_here", "_law_crew_here", "_law_bits_so", "_law_band", "_law_row_so", "_law_k", "_law_own", "_law_kit", "_law_mine"] ["_law_web_here", "_law_crew_here", "_law_bits_so", "_law_band"] (defScope s62) := ⟨rfl, rfl, rfl, by decide +kernel, rfl, by decide +kernel, by decide +kernel⟩
abbrev sp_way (K : PySem.W.Frag) : Sp := spP K (τ := T4) T4.enc (fun t => WebOk t.1 ∧ CrewOk t.2.1 ∧ ∀ x ∈ t.2.2.2, x ∈ people t.2.1) (fun _ d => d = .bool true)
theorem ok_way {f : Addr} {fd : FuncData} (F : Fun K "_law_way_right" "_law_way_right" s62 f fd) (mL : mg "len" = none) (mE : mg "enumerate" = none) (mT : mg "tuple" = none) (mI : mg "isinstance" = none)
    (F40 : Fn P w K mg base 6 "hands_for" ["net", "holders", "lot", "group"] (sp_hands_for K)) (F39 : Fn P w K mg base 6 "fewest_hands" ["net", "holders", "lot", "group"] (sp_fewest K)) (F31 : Fn P w K mg base 6 "sends" ["net", "holders", "lot", "group"] (sp_sends K))
    (F60 : Fn P w K mg base 6 "_law_all_hands" ["_law_crew_here"] (sp_all_hands K)) (F37 : Fn P w K mg base 6 "handed" ["holders", "giver", "key", "taker"] (sp_handed K)) (F29 : Fn P w K mg base 6 "keys_held" ["holders", "group"] (sp_keys_held K))
    (F24 : Fn P w K mg base 6 "goes" ["net", "keys", "lot"] (sp_goes K)) (F47 : Fn P w K mg base 6 "_law_same" ["_law_mine", "_law_due"] (sp_same K 4)) (F52 : Fn P w K mg base 6 "_law_purse" ["_law_crew_here", "_law_band"] (sp_purse K)) :
    FnOk P w K mg base CX0 7 f fd ["_law_web_here", "_law_crew_here", "_law_bits_so", "_law_band"] (sp_way K) := by
  refine okP F sc62 (fun _ => rfl) (by decide) ?_
  rintro ⟨n, h, lot, g⟩ ⟨hn, c, hg⟩ cdv A outer s H E hr
  have hn : WebOk n := hn
  have c : CrewOk h := c
  have hg : ∀ x ∈ g, x ∈ people h := hg
  have hsz : sizeLine = 16777216 := rfl
  have ok : T4.ok (n, h, lot, g) := ⟨hn.ok, c.hold, hg⟩
  cases e : wanted n h lot g with
  | none =>
    have e1 : handsFor n h lot g = none := by unfold handsFor; rw [e]; rfl
    have e2 : fewest n h lot g = none := by unfold fewest; rw [e]; rfl
    have e3 : sendB n h lot g = false := by
      cases z : sendB n h lot g with
      | false => rfl
      | true => rw [few_zero.mpr z] at e2; cases e2
    refine Svs.asg1 4 (d := .none) (E1.callF F40 hr (A1.cons (E1.var 0) (A1.cons (E1.var 1) (A1.cons (E1.var 2) (A1.cons (E1.var 3) A1.nil)))) (n, h, lot, g) rfl ok fun d z => z.trans (congrArg rowD e1)) sc62.nd ?_
    refine Svs.ifS (k := true) (T1.cmp (E1.var 4) E1.non o_isN) (fun _ => ?_) (fun z => by cases z) rfl
    exact Svs.ret1 (E1.and (k := true) (E1.cmp (E1.callF F39 hr (A1.cons (E1.var 0) (A1.cons (E1.var 1) (A1.cons (E1.var 2) (A1.cons (E1.var 3) A1.nil)))) (n, h, lot, g) rfl ok fun d z => z.trans (congrArg optD e2)) E1.non o_isN) fun _ => E1.one (E1.not (E1.callF F31 hr (A1.cons (E1.var 0) (A1.cons (E1.var 1) (A1.cons (E1.var 2) (A1.cons (E1.var 3) A1.nil)))) (n, h, lot, g) rfl ok fun d z => z.trans (congrArg PyData.bool e3)))) ⟨_, rfl, rfl⟩
  | some f =>
    have e1 : handsFor n h lot g = some (handsOf h g f) := by unfold handsFor; rw [e]; rfl
    have e2 : fewest n h lot g = some f.length := by unfold fewest; rw [e]; rfl
    have w0 := Way.start c hg e
    have fl : f.length ≤ 8 := Nat.le_trans (wanted_sub e).length_le (its_len hn.ok h g)
    let hk : Nm → Nm × Nm × Nm := fun k => (whoOf h k, k, g.headD ⟨#[]⟩)
    have row : (handsOf h g f).map handD = f.map fun k => handD (hk k) := by unfold handsOf; rw [List.map_map]; rfl
    refine Svs.asg1 4 (d := .tuple (f.map fun k => handD (hk k))) (E1.callF F40 hr (A1.cons (E1.var 0) (A1.cons (E1.var 1) (A1.cons (E1.var 2) (A1.cons (E1.var 3) A1.nil)))) (n, h, lot, g) rfl ok fun d z => z.trans ((congrArg rowD e1).trans (congrArg PyData.tuple row))) sc62.nd ?_
    refine Svs.ifS (k := false) (T1.cmp (E1.var 4) E1.non o_isN) (fun z => by cases z) (fun _ => ?_) rfl
    refine Svs.ifS (k := false) (T1.castB (W1.t (W1.or (k := false) (T1.castB (k := !isOf (.tuple (f.map fun k => handD (hk k))) "tuple") (T1.not (T1.val (E1.isOne (E1.var 4) .tuple bt_tuple mT mI))) (by simp [isOf, tyD])) fun _ => W1.or1 (T1.cmp (E1.callB (A1.cons (E1.var 4) A1.nil) c_len mL bt_len) (E1.callF F39 hr (A1.cons (E1.var 0) (A1.cons (E1.var 1) (A1.cons (E1.var 2) (A1.cons (E1.var 3) A1.nil)))) (n, h, lot, g) rfl ok fun d z => z.trans (congrArg optD e2)) o_neO'))) (by simp)) (fun z => by cases z) (fun _ => ?_) rfl
    have ez : ((List.range f.length).zip f).map (fun p => PyData.tuple [.int p.1, handD (hk p.2)]) = enumD (f.map fun k => handD (hk k)) := by
      unfold enumD rangeD
      rw [List.length_map]
      exact (zipD_map (fun k : Nat => PyData.int k) (fun k => handD (hk k)) (List.range f.length) f).symm
    refine Svs.imp (Svs.forP (xs := (List.range f.length).zip f) (e1 := fun p : Nat × Nm => PyData.int p.1) (e2 := fun p : Nat × Nm => handD (hk p.2)) (c0 := 0) (ct := 0) (c := 0) 5 6 (fun i ρ' => ∃ (hc : Hold) (s5 s6 : Option Sl), ρ' = [some (.dat (netD n)), some (.dat (holdD hc)), some (.dat (lotD lot)), some (.dat (nmsT g)), some (.dat (.tuple (f.map fun k => handD (hk k)))), s5, s6, none, none] ∧ Way n lot g (whoOf h) hc (f.drop i))
      (by rw [ez]; exact I1.enumT (E1.var 4) mE) ⟨h, none, none, rfl, w0⟩ ?_ ?_ (by simp) PassesOwn.never sc62.nd) (Nat.le_refl _) fun _ z => z
    · rintro i ⟨j, key⟩ ρ' hi ⟨hc, s5, s6, rfl, wy⟩
      have hi := List.getElem?_zip_eq_some.mp hi
      have hf : f[i]? = some key := hi.2
      have hji : j = i := by
        obtain ⟨hl, e⟩ := List.getElem?_eq_some_iff.mp hi.1
        rw [List.getElem_range] at e
        exact e.symm
      subst hji
      have dr : f.drop j = key :: f.drop (j + 1) := by
        obtain ⟨hl, rfl⟩ := List.getElem?_eq_some_iff.mp hf
        exact List.drop_eq_getElem_cons hl
      have hl : j < f.length := (List.getElem?_eq_some_iff.mp hf).1
      rw [dr] at wy
      have x := wy.hand
      have okc : T4.ok (n, hc, lot, g) := ⟨hn.ok, wy.c.hold, wy.gr⟩
      have hin : hk key ∈ allHands hc := mem_allHands.mpr ⟨x.g, x.t⟩
      have hok := wy.c.hands_ok _ hin
      have wn := wy.next hn.m
      have okn : T4.ok (n, handOn hc (whoOf h key) key (g.headD ⟨#[]⟩), lot, g) := ⟨hn.ok, wn.c.hold, wn.gr⟩
      refine Svs.ifS (k := false) (T1.castB (W1.t (W1.or (k := false) (T1.castB (T1.cmp (E1.var 6) (E1.callF F60 hr (A1.cons (E1.var 1) A1.nil) hc rfl wy.c.hold fun d z => z) (o_notInD (roomU65 hr) (shaped_hand hok) (shaped_hands _ wy.c.hands_ok) rfl)) (by rw [any_hand hin hok]; rfl)) fun _ => W1.or1 (T1.val (E1.callF F31 hr (A1.cons (E1.var 0) (A1.cons (E1.var 1) (A1.cons (E1.var 2) (A1.cons (E1.var 3) A1.nil)))) (n, hc, lot, g) rfl okc fun d z => z)))) (by show (false || sendB n hc lot g) = false; rw [wy.no]; rfl)) (fun z => by cases z) (fun _ => ?_) rfl
      refine Svs.asg1 1 (E1.callF F37 hr (A1.cons (E1.var 1) (A1.cons (E1.ix (E1.var 6) E1.int (x_t 0)) (A1.cons (E1.ix (E1.var 6) E1.int (x_t 1)) (A1.cons (E1.ix (E1.var 6) E1.int (x_t 2)) A1.nil)))) (hc, whoOf h key, key, g.headD ⟨#[]⟩) rfl (wy.c.handOk x) fun d z => z) sc62.nd ?_
      refine Svs.ifS (k := false) (T1.castB (T1.cmp (E1.callF F39 hr (A1.cons (E1.var 0) (A1.cons (E1.var 1) (A1.cons (E1.var 2) (A1.cons (E1.var 3) A1.nil)))) (n, handOn hc (whoOf h key) key (g.headD ⟨#[]⟩), lot, g) rfl okn fun d z => z.trans (congrArg optD wn.few)) (E1.op (E1.op (E1.callB (A1.cons (E1.var 4) A1.nil) c_len mL bt_len) (E1.var 5) o_sub) E1.int o_sub) o_neO) ?_) (fun z => by cases z) (fun _ => Svs.nil ⟨_, _, _, rfl, wn⟩) rfl
      rw [Bool.not_eq_false', decide_eq_true_iff]
      refine ⟨_, rfl, ?_⟩
      rw [List.length_drop, List.length_map]
      omega
    · rintro ρ' ⟨hc, s5, s6, rfl, wy⟩
      rw [List.length_zip, List.length_range, Nat.min_self, List.drop_length] at wy
      have okc : T4.ok (n, hc, lot, g) := ⟨hn.ok, wy.c.hold, wy.gr⟩
      have sd := wy.done
      have gd : goesB n (heldBy hc g) lot = true := sd
      have kl := heldBy_len wy.c.hold g
      have kl2 : (heldBy hc g).length ≤ 100 := by
        have := nodup_len (a := heldBy hc g) (b := okeys) (rise_nodup (rise_setOf _)) fun k hk' => by
          obtain ⟨p, _, ks, h1, h2⟩ := heldBy_mem.mp hk'
          exact wy.c.km _ h1 k h2
        exact Nat.le_trans this (by decide)
      refine Svs.asg1 7 (d := keyD (heldBy hc g)) (E1.callF F29 hr (A1.cons (E1.var 1) (A1.cons (E1.var 3) A1.nil)) (hc, true, g) rfl okc.2 fun d z => z) sc62.nd ?_
      refine Svs.asg1 8 (d := .list [.bool true, .bool true, keyD (heldBy hc g)]) (E1.lst (L1.cons (E1.callF F31 hr (A1.cons (E1.var 0) (A1.cons (E1.var 1) (A1.cons (E1.var 2) (A1.cons (E1.var 3) A1.nil)))) (n, hc, lot, g) rfl okc fun d z => z.trans (congrArg PyData.bool sd)) (L1.cons (E1.callF F24 hr (A1.cons (E1.var 0) (A1.cons (E1.var 7) (A1.cons (E1.var 2) A1.nil))) (n, heldBy hc g, lot) rfl hn.ok fun d z => z.trans (congrArg PyData.bool gd)) (L1.cons (E1.var 7) L1.nil))) (by show 3 ≤ sizeLine; decide)) sc62.nd ?_
      refine Svs.ret1 (E1.callF F47 hr (A1.cons (E1.var 8) (A1.cons (E1.lst (L1.cons E1.bl (L1.cons E1.bl (L1.cons (E1.callF F52 hr (A1.cons (E1.var 1) (A1.cons (E1.var 3) A1.nil)) (hc, true, g) rfl wy.c.hold fun d z => z) L1.nil))) (by show 3 ≤ sizeLine; decide)) A1.nil)) (.list [.bool true, .bool true, keyD (heldBy hc g)]) rfl ?_ fun d z => z) rfl
      refine .inr ⟨_, .inl rfl, by show 3 ≤ 100; decide, fun y hy => ?_⟩
      rcases List.mem_cons.mp hy with rfl | hy
      · exact .inl rfl
      rcases List.mem_cons.mp hy with rfl | hy
      · exact .inl rfl
      rw [List.mem_singleton.mp hy]
      exact cs_key 2 _ kl2
end
end Kl

set_option Elab.async false
set_option linter.all false
set_option maxRecDepth 100000
/-! The dock's values. -/
namespace Kl
open PySem PySem.Spec L2
def keysRaw (h : Hold) (g : List Nm) : List Nm := (h.filter fun p => decide (p.1 ∈ g)).flatMap (·.2)
def sendRaw (n : Net) (h : Hold) (lot : List Int) (g : List Nm) : Bool := (rawSubs (yardsOf n)).all fun far => decide (partIn n lot far ≤ valueOf n (keysRaw h g) far)
theorem send_raw (n : Net) (h : Hold) (lot : List Int) (g : List Nm) : sendB n h lot g = sendRaw n h lot g := by
  have e : sendB n h lot g = goesB n (keysRaw h g) lot := goes_set
  rw [e, Bool.eq_iff_iff, goes_iff]
  unfold sendRaw
  rw [List.all_eq_true]
  exact ⟨fun z far hf => decide_eq_true (z far (mem_rawSubs hf)), fun z far hf => of_decide_eq_true (z far (rawSubs_all hf))⟩
def leastRaw (n : Net) (h : Hold) (lot : List Int) : List (List Nm) := (rawSubs (people h)).filter fun own => sendRaw n h lot own && !((rawSubs (people h)).any fun far => sendRaw n h lot far && (decide (far ≠ own) && allIn far own))
theorem fines_mem {n : Net} {h : Hold} {lot : List Int} {g : List Nm} : g ∈ fines (sendTab n h lot) ↔ g.Sublist (people h) ∧ sendB n h lot g = true := by
  unfold fines
  rw [List.mem_map]
  constructor
  · rintro ⟨e, he, rfl⟩
    obtain ⟨h1, h2⟩ := List.mem_filter.mp he
    obtain ⟨h3, h4⟩ := sendTab_mem.mp h1
    exact ⟨h3, by rw [← h4]; exact h2⟩
  · rintro ⟨h1, h2⟩
    exact ⟨(g, true), List.mem_filter.mpr ⟨sendTab_mem.mpr ⟨h1, h2.symm⟩, rfl⟩, rfl⟩
theorem senders_raw {n : Net} {h : Hold} {lot : List Int} {g : List Nm} (nd : (people h).Nodup) (e : leastRaw n h lot = [g]) : sendersL n h lot = [g] := by
  unfold sendersL leasts
  rw [show [g] = [g].mergeSort leK from (List.mergeSort_singleton g).symm]
  refine sort_same ((fines_nodup n h lot).filter _) (by simp) fun a => ?_
  rw [← e]
  unfold leastRaw
  rw [List.mem_filter, List.mem_filter, fines_mem, Bool.and_eq_true, Bool.not_eq_true', Bool.not_eq_true', List.any_eq_false, List.any_eq_false, ← send_raw]
  constructor
  · rintro ⟨⟨h1, h2⟩, h3⟩
    refine ⟨rawSubs_all h1, h2, fun far hf z => ?_⟩
    rw [Bool.and_eq_true, ← send_raw] at z
    exact h3 far (fines_mem.mpr ⟨mem_rawSubs hf, z.1⟩) z.2
  · rintro ⟨h1, h2, h3⟩
    refine ⟨⟨mem_rawSubs h1, h2⟩, fun far hf z => ?_⟩
    obtain ⟨h4, h5⟩ := fines_mem.mp hf
    rw [send_raw] at h5
    exact h3 far (rawSubs_all h4) (by rw [h5, z]; rfl)
def dkC : Nat → Hold
  | 0 => dkHold
  | 1 => [("ann", ["red"]), ("bo", []), ("cy", ["blue", "red"])]
  | 2 => [("ann", ["blue", "red"]), ("bo", []), ("cy", ["red"])]
  | 3 => [("ann", ["blue", "red"]), ("bo", ["red"]), ("cy", [])]
  | _ => [("ann", ["red"]), ("bo", ["blue", "red"]), ("cy", [])]
def dkX : List (Nm × Nm × Nm) := [("bo", "blue", "cy"), ("cy", "blue", "ann"), ("cy", "red", "bo"), ("ann", "blue", "bo")]
def dkS : Nat → List Nm
  | 0 => ["cy"]
  | 1 => ["ann"]
  | 2 => ["ann"]
  | _ => ["bo"]
def dkF : Nat → Nat
  | 0 => 1
  | 1 => 0
  | 2 => 0
  | _ => 1
def dkFar : Hold := [("ann", []), ("bo", ["blue"]), ("cy", ["red"])]
theorem web_dk : WebOk dkNet where
  ok := ⟨by decide, by decide, by decide, by decide +kernel⟩
  m := by unfold MostOk; decide +kernel
  c0 := by decide
  c3 := by decide
  l5 := by decide
  y := by decide
  k := by decide +kernel
theorem crew_dk (i : Nat) : CrewOk (dkC i) := by
  match i with
  | 0 => exact ⟨by decide, by decide, by decide +kernel, by decide +kernel, by decide +kernel, by decide +kernel⟩
  | 1 => exact ⟨by decide, by decide, by decide +kernel, by decide +kernel, by decide +kernel, by decide +kernel⟩
  | 2 => exact ⟨by decide, by decide, by decide +kernel, by decide +kernel, by decide +kernel, by decide +kernel⟩
  | 3 => exact ⟨by decide, by decide, by decide +kernel, by decide +kernel, by decide +kernel, by decide +kernel⟩
  | _ + 4 => show CrewOk (dkC 4); exact ⟨by decide, by decide, by decide +kernel, by decide +kernel, by decide +kernel, by decide +kernel⟩
theorem crew_far : CrewOk dkFar := ⟨by decide, by decide, by decide +kernel, by decide +kernel, by decide +kernel, by decide +kernel⟩
theorem hand_of {h : Hold} {x : Nm × Nm × Nm} (e : decide (x ∈ allHands h) = true) : HandOk h x.1 x.2.1 x.2.2 := ⟨(mem_allHands.mp (of_decide_eq_true e)).1, (mem_allHands.mp (of_decide_eq_true e)).2⟩
theorem few_is1 {n : Net} {h : Hold} {lot : List Int} {g : List Nm} (hm : MostOk n) (c : CrewOk h) (hg : ∀ x ∈ g, x ∈ people h) (x : Nm × Nm × Nm) (e : decide (x ∈ allHands h) = true) (e1 : sendRaw n (handOn h x.1 x.2.1 x.2.2) lot g = true) (e2 : sendRaw n h lot g = false) : fewest n h lot g = some 1 := by
  refine (few_one hm c hg).mpr ⟨⟨x, of_decide_eq_true e, ?_⟩, by rw [send_raw]; exact e2⟩
  have : passedL h x = handOn h x.1 x.2.1 x.2.2 := c.pass (hand_of e)
  rw [this, send_raw]
  exact e1
theorem dk_ann (i : Nat) : ∀ x ∈ (["ann"] : List Nm), x ∈ people (dkC i) := by
  match i with
  | 0 => decide +kernel
  | 1 => decide +kernel
  | 2 => decide +kernel
  | 3 => decide +kernel
  | _ + 4 => show ∀ x ∈ (["ann"] : List Nm), x ∈ people (dkC 4); decide +kernel
theorem dk_few0 : fewest dkNet dkHold [4] ["ann"] = some 1 := few_is1 web_dk.m (crew_dk 0) (dk_ann 0) ("cy", "blue", "ann") (by decide +kernel) (by decide +kernel) (by decide +kernel)
theorem dk_step {i : Nat} {x : Nm × Nm × Nm} (hx : dkX[i]? = some x) : HandOk (dkC i) x.1 x.2.1 x.2.2 ∧ handOn (dkC i) x.1 x.2.1 x.2.2 = dkC (i + 1) ∧ sendersL dkNet (dkC (i + 1)) [4] = [dkS i] ∧ fewest dkNet (dkC (i + 1)) [4] ["ann"] = some (dkF i) := by
  match i, hx with
  | 0, hx =>
    cases hx
    exact ⟨hand_of (by decide +kernel), by decide +kernel, senders_raw (crew_dk 1).nd (by decide +kernel), few_is1 web_dk.m (crew_dk 1) (dk_ann 1) ("cy", "blue", "ann") (by decide +kernel) (by decide +kernel) (by decide +kernel)⟩
  | 1, hx =>
    cases hx
    exact ⟨hand_of (by decide +kernel), by decide +kernel, senders_raw (crew_dk 2).nd (by decide +kernel), few_zero.mpr (by rw [send_raw]; decide +kernel)⟩
  | 2, hx =>
    cases hx
    exact ⟨hand_of (by decide +kernel), by decide +kernel, senders_raw (crew_dk 3).nd (by decide +kernel), few_zero.mpr (by rw [send_raw]; decide +kernel)⟩
  | 3, hx =>
    cases hx
    exact ⟨hand_of (by decide +kernel), by decide +kernel, senders_raw (crew_dk 4).nd (by decide +kernel), few_is1 web_dk.m (crew_dk 4) (dk_ann 4) ("bo", "blue", "ann") (by decide +kernel) (by decide +kernel) (by decide +kernel)⟩
  | i + 4, hx =>
    exact absurd hx (by simp [dkX])
def dkM : Nat → List D
  | 0 => [.int 1]
  | i + 1 => dkM i ++ [.list [keyD (dkS i)], optD (some (dkF i))]
theorem dkM_len (i : Nat) : (dkM i).length = 1 + 2 * i := by
  induction i with
  | zero => rfl
  | succ i ih =>
    show (dkM i ++ _).length = _
    rw [List.length_append, ih]
    show 1 + 2 * i + 2 = _
    omega
end Kl

set_option Elab.async false
set_option linter.all false
set_option maxRecDepth 100000
/-! The law's defs: by hand. -/
namespace Kl
open PySem PySem.Spec L2
abbrev dkRow := Hold × List Int × List Nm
def dkRowD (r : dkRow) : D := .tuple [holdD r.1, lotD r.2.1, nmsT r.2.2]
def dkRows : List dkRow := [(dkFar, [5], ["ann"]), (dkFar, [5], ["bo"]), (dkFar, [6], ["ann"]), (dkFar, [5], []), (dkC 4, [0], [])]
theorem dkRows_ok : ∀ r ∈ dkRows, CrewOk r.1 ∧ ∀ x ∈ r.2.2, x ∈ people r.1 := by
  intro r hr
  simp only [dkRows, List.mem_cons, List.not_mem_nil, or_false] at hr
  rcases hr with rfl | rfl | rfl | rfl | rfl
  · exact ⟨crew_far, by decide +kernel⟩
  · exact ⟨crew_far, by decide +kernel⟩
  · exact ⟨crew_far, by decide +kernel⟩
  · exact ⟨crew_far, fun x h => by cases h⟩
  · exact ⟨crew_dk 4, fun x h => by cases h⟩
def dkDue : List D := [.int 1, .list [keyD ["cy"]], .int 1, .list [keyD ["ann"]], .int 0, .list [keyD ["ann"]], .int 0, .list [keyD ["bo"]], .int 1]
theorem dkDue_cs : Cs 4 (.list (dkDue ++ [holdD (dkC 4)])) := by
  refine .inr ⟨_, .inl rfl, by decide, fun y hy => ?_⟩
  have ks : ∀ s : Nm, Cs 3 (.list [keyD [s]]) := fun s => cs_keys 1 [[s]] (by show 1 ≤ 100; decide) fun k hk => by rw [List.mem_singleton.mp hk]; show 1 ≤ 100; decide
  have is : ∀ i : Int, Cs 3 (.int i) := fun i => .inl rfl
  simp only [dkDue, List.cons_append, List.nil_append, List.mem_cons, List.not_mem_nil, or_false] at hy
  rcases hy with rfl | rfl | rfl | rfl | rfl | rfl | rfl | rfl | rfl | rfl
  · exact is _
  · exact ks _
  · exact is _
  · exact ks _
  · exact is _
  · exact ks _
  · exact is _
  · exact ks _
  · exact is _
  · exact (crew_dk 4).cs 0
section
variable {P : Program} {w : World} {K : PySem.W.Frag} {mg : Str → Option Value} {base : Heap}
abbrev s63 : Stmt := topS 63
theorem sc63 : FnScope ["%0", "_law_web_here", "_law_crew_here", "_law_mine", "_law_due", "_law_own", "_law_far", "_law_rows"] [] (defScope s63) := ⟨rfl, rfl, rfl, by decide +kernel, rfl, by decide +kernel, by decide +kernel⟩
abbrev sp_by_hand (K : PySem.W.Frag) : Sp := spP K (τ := Unit) (fun _ => []) (fun _ => True) (fun _ d => d = .bool true)
theorem ok_by_hand {f : Addr} {fd : FuncData} (F : Fun K "_law_by_hand_right" "_law_by_hand_right" s63 f fd) (mA : mg "all" = none)
    (F55 : Fn P w K mg base 7 "_law_dock" [] (sp_dock K)) (F39 : Fn P w K mg base 7 "fewest_hands" ["net", "holders", "lot", "group"] (sp_fewest K)) (F61 : Fn P w K mg base 7 "_law_step_right" ["_law_web_here", "_law_crew_here", "_law_bits_so", "_law_band", "_law_own"] (sp_step K))
    (F37 : Fn P w K mg base 7 "handed" ["holders", "giver", "key", "taker"] (sp_handed K)) (F35 : Fn P w K mg base 7 "senders" ["net", "holders", "lot"] (sp_senders K)) (F47 : Fn P w K mg base 7 "_law_same" ["_law_mine", "_law_due"] (sp_same K 4))
    (F62 : Fn P w K mg base 7 "_law_way_right" ["_law_web_here", "_law_crew_here", "_law_bits_so", "_law_band"] (sp_way K)) :
    FnOk P w K mg base CX0 8 f fd [] (sp_by_hand K) := by
  refine okP F sc63 (fun _ => rfl) (by decide) fun _ _ cdv A outer s H E hr => ?_
  have hsz : sizeLine = 16777216 := rfl
  have e1 : (1 : Nat) ≤ sizeLine := by decide
  have e2 : (2 : Nat) ≤ sizeLine := by decide
  have e3 : (3 : Nat) ≤ sizeLine := by decide
  have e4 : (4 : Nat) ≤ sizeLine := by decide
  have e5 : (5 : Nat) ≤ sizeLine := by decide
  have e8 : (8 : Nat) ≤ sizeLine := by decide
  refine Svs.imp (Svs.cons (c1 := 0) (c2 := 0) (Sv.asgT (P := fun d => d = .tuple [netD dkNet, holdD dkHold]) (Ev.callF0 F55 hr () rfl trivial fun d z => z) (pg_tup rfl (pgs_cons (pg_name (i := 1) sc63.nd rfl (Or.inr rfl)) (pgs_cons (pg_name (i := 2) sc63.nd rfl (Or.inl rfl)) pgs_nil)) (by rfl) (by rfl)) (ρ' := fun _ => [none, some (.dat (netD dkNet)), some (.dat (holdD dkHold)), none, none, none, none, none]) (fun d z => by rw [z]; exact TgOk.tup2 1 2)) (fun ρ' z => ?_) fun d z => by obtain ⟨_, _, z⟩ := z; cases z) (Nat.le_refl _) fun _ z => z
  obtain ⟨_, _, z⟩ := z
  cases z
  have ok0 : T4.ok (dkNet, dkHold, [4], ["ann"]) := ⟨web_dk.ok, (crew_dk 0).hold, dk_ann 0⟩
  refine Svs.par 3 4 (G1.dat (d := .list (dkM 0)) (E1.lst (L1.cons (E1.callF F39 hr (A1.cons (E1.var 1) (A1.cons (E1.var 2) (A1.cons (E1.tup (L1.cons E1.int L1.nil) e1) (A1.cons (E1.tup (L1.cons E1.str L1.nil) e1) A1.nil)))) (dkNet, dkHold, [4], ["ann"]) rfl ok0 fun d z => z.trans (congrArg optD dk_few0)) L1.nil) e1)) (G1.dat (d := .list [.int 1]) (E1.lst (L1.cons E1.int L1.nil) e1)) rfl sc63.nd rfl ?_
  refine Svs.imp (Svs.forN (ys := dkX.map handD) (c0 := 0) (ct := 0) (c := 0) 5 (fun i ρ' => ∃ s5, ρ' = [none, some (.dat (netD dkNet)), some (.dat (holdD (dkC i))), some (.dat (.list (dkM i))), some (.dat (.list [.int 1])), s5, none, none])
    (I1.tup (E1.tup (L1.cons (E1.tup (L1.cons E1.str (L1.cons E1.str (L1.cons E1.str L1.nil))) e3) (L1.cons (E1.tup (L1.cons E1.str (L1.cons E1.str (L1.cons E1.str L1.nil))) e3) (L1.cons (E1.tup (L1.cons E1.str (L1.cons E1.str (L1.cons E1.str L1.nil))) e3) (L1.cons (E1.tup (L1.cons E1.str (L1.cons E1.str (L1.cons E1.str L1.nil))) e3) L1.nil)))) e4)) ⟨none, rfl⟩ ?_ ?_ (by simp) PassesOwn.never sc63.nd) (Nat.le_refl _) fun _ z => z
  · rintro i d ρ' hi ⟨s5, rfl⟩
    rw [List.getElem?_map] at hi
    obtain ⟨⟨gv, ky, tk⟩, hx, rfl⟩ := Option.map_eq_some_iff.mp hi
    have hl : i < 4 := (List.getElem?_eq_some_iff.mp hx).1
    obtain ⟨x, eh, es, ef⟩ := dk_step hx
    have x : HandOk (dkC i) gv ky tk := x
    have c := crew_dk i
    have c' := crew_dk (i + 1)
    have okn : T4.ok (dkNet, dkC (i + 1), [4], ["ann"]) := ⟨web_dk.ok, c'.hold, dk_ann (i + 1)⟩
    have ml := dkM_len i
    refine Svs.ifS (k := false) (T1.not (k := true) (T1.val (E1.callF F61 hr (A1.cons (E1.var 1) (A1.cons (E1.var 2) (A1.cons (E1.tup (L1.cons E1.int L1.nil) e1) (A1.cons (E1.tup (L1.cons E1.str L1.nil) e1) (A1.cons (E1.var 5) A1.nil))))) (dkNet, dkC i, [4], ["ann"], gv, ky, tk) rfl ⟨web_dk, c, dk_ann i, x⟩ fun d z => z))) (fun z => by cases z) (fun _ => ?_) rfl
    refine Svs.asg1 2 (d := holdD (dkC (i + 1))) (E1.callF F37 hr (A1.cons (E1.var 2) (A1.cons (E1.ix (E1.var 5) E1.int (x_t 0)) (A1.cons (E1.ix (E1.var 5) E1.int (x_t 1)) (A1.cons (E1.ix (E1.var 5) E1.int (x_t 2)) A1.nil)))) (dkC i, gv, ky, tk) rfl (c.handOk x) fun d z => z.trans (congrArg holdD eh)) sc63.nd ?_
    refine Svs.asg1 3 (d := .list (dkM (i + 1))) (E1.op (E1.var 3) (E1.lst (L1.cons (E1.callF F35 hr (A1.cons (E1.var 1) (A1.cons (E1.var 2) (A1.cons (E1.tup (L1.cons E1.int L1.nil) e1) A1.nil))) (dkNet, dkC (i + 1), [4]) rfl ⟨web_dk.ok, c'.hold⟩ fun d z => z.trans (congrArg (fun l : List (List Nm) => PyData.list (l.map keyD)) es)) (L1.cons (E1.callF F39 hr (A1.cons (E1.var 1) (A1.cons (E1.var 2) (A1.cons (E1.tup (L1.cons E1.int L1.nil) e1) (A1.cons (E1.tup (L1.cons E1.str L1.nil) e1) A1.nil)))) (dkNet, dkC (i + 1), [4], ["ann"]) rfl okn fun d z => z.trans (congrArg optD ef)) L1.nil)) e2) (o_cat (by rw [ml]; show 1 + 2 * i + 2 ≤ sizeLine; omega))) sc63.nd (Svs.nil ⟨_, rfl⟩)
  · rintro ρ' ⟨s5, rfl⟩
    refine Svs.asgG 4 (s := .own (.l dkDue)) (G1.op (E1.var 4) (E1.lst (L1.cons (E1.lst (L1.cons (E1.tup (L1.cons E1.str L1.nil) e1) L1.nil) e1) (L1.cons E1.int (L1.cons (E1.lst (L1.cons (E1.tup (L1.cons E1.str L1.nil) e1) L1.nil) e1) (L1.cons E1.int (L1.cons (E1.lst (L1.cons (E1.tup (L1.cons E1.str L1.nil) e1) L1.nil) e1) (L1.cons E1.int (L1.cons (E1.lst (L1.cons (E1.tup (L1.cons E1.str L1.nil) e1) L1.nil) e1) (L1.cons E1.int L1.nil)))))))) e8) (o_catN (xs := [.int 1]) (ys := [.list [keyD ["cy"]], .int 1, .list [keyD ["ann"]], .int 0, .list [keyD ["ann"]], .int 0, .list [keyD ["bo"]], .int 1]) (by show 1 + 8 ≤ sizeLine; decide))) sc63.nd ?_
    refine Svs.append 4 (d := holdD (dkC 4)) rfl (E1.tupH (L1.cons (E1.tup (L1.cons E1.str (L1.cons (E1.tup (L1.cons E1.str L1.nil) e1) L1.nil)) e2) (L1.cons (E1.tup (L1.cons E1.str (L1.cons (E1.tup (L1.cons E1.str (L1.cons E1.str L1.nil)) e2) L1.nil)) e2) (L1.cons (E1.tup (L1.cons E1.str (L1.cons (E1.tup L1.nil) L1.nil)) e2) L1.nil))) e3) (by show 9 < sizeLine; decide) ?_
    refine Svs.freeze 4 (d := .list (dkDue ++ [holdD (dkC 4)])) ?_
    refine Svs.asg1 6 (d := holdD dkFar) (E1.tupH (L1.cons (E1.tup (L1.cons E1.str (L1.cons (E1.tup L1.nil) L1.nil)) e2) (L1.cons (E1.tup (L1.cons E1.str (L1.cons (E1.tup (L1.cons E1.str L1.nil) e1) L1.nil)) e2) (L1.cons (E1.tup (L1.cons E1.str (L1.cons (E1.tup (L1.cons E1.str L1.nil) e1) L1.nil)) e2) L1.nil))) e3) sc63.nd ?_
    refine Svs.ifS (k := false) (T1.not (k := true) (T1.val (E1.callF F47 hr (A1.cons (E1.op (E1.var 3) (E1.lst (L1.cons (E1.var 2) L1.nil) e1) (o_cat (by show 9 + 1 ≤ sizeLine; decide))) (A1.cons (E1.var 4) A1.nil)) (.list (dkDue ++ [holdD (dkC 4)])) rfl dkDue_cs fun d z => z))) (fun z => by cases z) (fun _ => ?_) rfl
    refine Svs.asg1 7 (d := .list (dkRows.map dkRowD)) (E1.lst (L1.cons (E1.tup (L1.cons (E1.var 6) (L1.cons (E1.tup (L1.cons E1.int L1.nil) e1) (L1.cons (E1.tup (L1.cons E1.str L1.nil) e1) L1.nil))) e3) (L1.cons (E1.tup (L1.cons (E1.var 6) (L1.cons (E1.tup (L1.cons E1.int L1.nil) e1) (L1.cons (E1.tup (L1.cons E1.str L1.nil) e1) L1.nil))) e3) (L1.cons (E1.tup (L1.cons (E1.var 6) (L1.cons (E1.tup (L1.cons E1.int L1.nil) e1) (L1.cons (E1.tup (L1.cons E1.str L1.nil) e1) L1.nil))) e3)
      (L1.cons (E1.tup (L1.cons (E1.var 6) (L1.cons (E1.tup (L1.cons E1.int L1.nil) e1) (L1.cons (E1.tup L1.nil) L1.nil))) e3) (L1.cons (E1.tup (L1.cons (E1.var 2) (L1.cons (E1.tup (L1.cons E1.int L1.nil) e1) (L1.cons (E1.tup L1.nil) L1.nil))) e3) L1.nil))))) e5) sc63.nd ?_
    refine Svs.ret1 (E1.callB (A1.cons (E1.lcN (xs := dkRows) (en := dkRowD) (f := fun _ => .bool true) 5 (I1.list (E1.var 7)) (fun r hr' _ _ _ _ _ => E1.callF F62 hr (A1.cons (E1.var 1) (A1.cons (E1.ix (E1.var 5) E1.int (x_t 0)) (A1.cons (E1.ix (E1.var 5) E1.int (x_t 1)) (A1.cons (E1.ix (E1.var 5) E1.int (x_t 2)) A1.nil)))) (dkNet, r.1, r.2.1, r.2.2) rfl ⟨web_dk, (dkRows_ok r hr').1, (dkRows_ok r hr').2⟩ fun d z => z) (by show 5 ≤ sizeLine; decide) sc63.nd) A1.nil) (c_allF dkRows (fun _ => true) rfl) mA bt_all) ⟨_, rfl, ?_⟩
    simp
end
end Kl

set_option Elab.async false
set_option linter.all false
set_option maxRecDepth 100000
/-! The law's defs: one drawn net. -/
namespace Kl
open PySem PySem.Spec L2
theorem o_neNil {X : Cx} {ds : List D} (hu : X.A.units + 64 < cLine) (h : SeqAt.shaped (.list ds) = true) : OpOk X (compareOp .NotEq) (.list ds) (.list []) (· = .bool (!ds.isEmpty)) := by
  have := o_neD (X := X) hu h (show SeqAt.shaped (.list []) = true by decide) rfl rfl
  have e : PyData.eqv (.list ds) (.list []) = ds.isEmpty := by
    rw [PyData.eqv]
    cases ds <;> rfl
  rwa [e] at this
theorem filter_any {α : Type} {q : α → Bool} {f : α → D} (xs : List α) : (!((xs.filter q).map f).isEmpty) = true ↔ ∃ x ∈ xs, q x = true := by
  rw [Bool.not_eq_true', Bool.eq_false_iff, ne_eq, List.isEmpty_iff, List.map_eq_nil_iff, List.filter_eq_nil_iff]
  constructor
  · intro h
    exact Classical.byContradiction fun z => h fun x hx hq => z ⟨x, hx, hq⟩
  · rintro ⟨x, hx, hq⟩ h
    exact h x hx hq
theorem CrewOk.some_hand {h : Hold} {p k : Nm} (hh : Has h p k) : allHands h ≠ [] := fun e => by
  have : (p, k, p) ∈ allHands h := mem_allHands.mpr ⟨hh, hh.people⟩
  rw [e] at this
  cases this
section
variable {P : Program} {w : World} {K : PySem.W.Frag} {mg : Str → Option Value} {base : Heap}
abbrev s64 : Stmt := topS 64
theorem sc64 : FnScope ["_law_box_here", "_law_web_here", "_law_crew_here", "_law_tags", "_law_bits_so", "_law_bands", "_law_band", "_law_hands_so", "_law_single", "_law_few_so", "_law_lap", "_law_own"] ["_law_box_here"] (defScope s64) := ⟨rfl, rfl, rfl, by decide +kernel, rfl, by decide +kernel, by decide +kernel⟩
abbrev sp_right (K : PySem.W.Frag) : Sp := spR K (τ := Unit) 9000 (fun _ => []) (fun _ => True) (fun _ d => d = .bool true)
theorem ok_right {f : Addr} {fd : FuncData} (F : Fun K "_law_right" "_law_right" s64 f fd) (mL : mg "len" = none) (mR : mg "range" = none)
    (F56 : Fn P w K mg base 7 "_law_web" ["_law_box_here"] (sp_web K)) (F57 : Fn P w K mg base 7 "_law_crew" ["_law_box_here", "_law_web_here"] (sp_crew K)) (F58 : Fn P w K mg base 7 "_law_bits" ["_law_box_here", "_law_web_here", "_law_kit"] (sp_bits K))
    (F52 : Fn P w K mg base 7 "_law_purse" ["_law_crew_here", "_law_band"] (sp_purse K)) (F48 : Fn P w K mg base 7 "_law_sets" ["_law_goods_so"] (sp_sets K)) (F43 : Fn P w K mg base 7 "_law_take" ["_law_box_here", "_law_size_so"] (sp_take K)) (F45 : Fn P w K mg base 7 "_law_of" ["_law_box_here", "_law_goods_so"] (sp_of K))
    (F60 : Fn P w K mg base 7 "_law_all_hands" ["_law_crew_here"] (sp_all_hands K)) (F51 : Fn P w K mg base 7 "_law_go" ["_law_web_here", "_law_kit", "_law_bits_so"] (sp_go K)) (F59 : Fn P w K mg base 7 "_law_passed" ["_law_crew_here", "_law_own"] (sp_passed K))
    (F39 : Fn P w K mg base 7 "fewest_hands" ["net", "holders", "lot", "group"] (sp_fewest K)) (F61 : Fn P w K mg base 7 "_law_step_right" ["_law_web_here", "_law_crew_here", "_law_bits_so", "_law_band", "_law_own"] (sp_step K)) (F62 : Fn P w K mg base 7 "_law_way_right" ["_law_web_here", "_law_crew_here", "_law_bits_so", "_law_band"] (sp_way K)) :
    FnOk P w K mg base CX0 8 f fd ["_law_box_here"] (sp_right K) := by
  refine okR F sc64 (fun _ => rfl) (by decide) ?_
  rintro ⟨⟩ _ cdv A outer s H E hr
  have hsz : sizeLine = 16777216 := rfl
  refine Svs.imp (Svs.asg (c1 := 5000) (c2 := 4000) 1 (P := fun d => ∃ n, WebOk n ∧ d = netD n) (Ev.imp (Ev.callR (c := 0) (cf := 5000) F56 hr A1.nil (fun ys hy => ⟨(), hy, trivial, fun d h => h⟩)) (by decide) fun _ z => z) sc64.nd fun d hd => ?_) (by decide) fun _ z => z
  obtain ⟨n, hn, rfl⟩ := hd
  refine Svs.imp (Svs.asg (c1 := 3000) (c2 := 1000) 2 (P := fun d => ∃ h, CrewOk h ∧ d = holdD h) (Ev.imp (Ev.callR (c := 0) (cf := 3000) F57 hr (A1.cons (E1.var 1) A1.nil) (fun ys hy => ⟨n, hy, hn, fun d h => h⟩)) (by decide) fun _ z => z) sc64.nd fun d hd => ?_) (by decide) fun _ z => z
  obtain ⟨h, c, rfl⟩ := hd
  have n4 := c.n4
  have pl : (people h).length = h.length := people_len h
  refine Svs.setN (xs := h) (en := heldD) (f := fun p => .str p.1) 3 11 (I1.tup (E1.var 2)) (fun p _ _ _ _ _ _ => E1.ix (E1.var 11) E1.int (x_t 0)) (by omega) sc64.nd ?_
  have et : PyData.list (h.map fun p => PyData.str p.1) = nmsL (people h) := by unfold nmsL people; rw [List.map_map]; rfl
  rw [et]
  have sl : (subs (people h)).length ≤ 16 := by
    rw [subs_len, pl]
    exact Nat.pow_le_pow_right (by decide) n4
  refine Svs.imp (Svs.cons (c1 := 300) (c2 := 700) (Sv.parC (c1 := 300) (c2 := 0) 4 5 (Gv.dat (Pd := fun d => ∃ lot : List Int, d = lotD lot) (Ev.imp (Ev.callR (c := 0) (cf := 300) F58 hr (A1.cons (E1.var 1) (A1.cons (E1.callF F52 hr (A1.cons (E1.var 2) (A1.cons (E1.var 3) A1.nil)) (h, false, people h) rfl c.hold fun d z => z) A1.nil)) (fun ys hy => ⟨(n, heldBy h (people h)), hy, hn, fun d h => h⟩)) (by decide) fun _ z => z))
    (G1.dat (E1.callF F48 hr (A1.cons (E1.var 3) A1.nil) (people h) rfl (by show (people h).length ≤ 8; omega) fun d z => z)) rfl sc64.nd) (fun ρ' z => ?_) fun d z => by obtain ⟨_, _, _, _, z⟩ := z; cases z) (by decide) fun _ z => z
  obtain ⟨_, _, ⟨_, rfl, lot, rfl⟩, rfl, z⟩ := z
  cases z
  have fine : ∀ gs : List (List Nm), (∀ g ∈ gs, g ∈ subs (people h)) → 0 < gs.length → gs.length ≤ 16 → True := fun _ _ _ _ => trivial
  have one : 0 < ((subs (people h)).filter fun g => decide ((g.length : Int) = 1)).length := by
    obtain ⟨p, r, e⟩ : ∃ p r, people h = p :: r := by
      have := c.n2
      cases e : people h with
      | nil => rw [e] at pl; simp at pl; omega
      | cons p r => exact ⟨p, r, rfl⟩
    refine List.length_pos_of_mem (a := [p]) (List.mem_filter.mpr ⟨subs_iff.mpr ?_, by show decide (((1 : Nat) : Int) = 1) = true; decide⟩)
    rw [e]
    exact List.Sublist.cons₂ p (List.nil_sublist _)
  refine Svs.imp (Svs.asg (c1 := 20) (c2 := 600) 6 (P := fun d => ∃ g : List Nm, d = keyD g ∧ g ∈ subs (people h)) (Ev.imp (Ev.callR (c := 10) (cf := 10) (Pl := fun ds => ∃ gs : List (List Nm), ds = [.list (gs.map keyD)] ∧ (∀ g ∈ gs, g ∈ subs (people h)) ∧ 0 < gs.length ∧ gs.length ≤ 16) F45 hr
      (As.imp (As.cons (c1 := 10) (c2 := 0) (P1 := fun d => ∃ gs : List (List Nm), d = .list (gs.map keyD) ∧ (∀ g ∈ gs, g ∈ subs (people h)) ∧ 0 < gs.length ∧ gs.length ≤ 16) (P2 := fun _ r => r = []) (Ev.imp (Ev.ifExp (c1 := 10) (c2 := 0) (P := fun d => ∃ gs : List (List Nm), d = .list (gs.map keyD) ∧ (∀ g ∈ gs, g ∈ subs (people h)) ∧ 0 < gs.length ∧ gs.length ≤ 16) (Tv.coin (Ev.take F43 hr E1.int (by decide)))
          (fun _ => Ev.imp (E1.lcNIf (xs := subs (people h)) (en := keyD) (q := fun g => decide ((g.length : Int) = 1)) (f := keyD) 11 (I1.list (E1.var 5)) (fun g _ _ _ _ _ _ => T1.castB (T1.cmp (E1.callB (A1.cons (E1.var 11) A1.nil) c_len mL bt_len) E1.int o_eqI) (by rw [List.length_map])) (fun g _ _ _ _ _ _ _ => E1.var 11) (by omega) sc64.nd) (Nat.le_refl _) fun d z => ⟨_, z, fun g hg => (List.mem_filter.mp hg).1, one, Nat.le_trans (List.length_filter_le _ _) sl⟩)
          (fun _ => Ev.imp (E1.var 5) (Nat.le_refl _) fun d z => ⟨_, z, fun g hg => hg, by rw [subs_len]; exact Nat.two_pow_pos _, sl⟩)) (by decide) fun _ z => z) (fun _ _ => A1.nil)) (by decide) fun ds ⟨d, r, e1, ⟨gs, e2, h1⟩, e3⟩ => ⟨gs, by rw [e1, e2, e3], h1⟩)
      (P := fun d => ∃ g : List Nm, d = keyD g ∧ g ∈ subs (people h)) (fun ds ⟨gs, e, h1, h2, h3⟩ => ⟨gs.map keyD, e, by rw [List.length_map]; omega, fun d hd => by obtain ⟨g, hg, e⟩ := List.mem_map.mp hd; exact ⟨g, e.symm, h1 g hg⟩⟩)) (by decide) fun _ z => z) sc64.nd fun d hd => ?_) (by decide) fun _ z => z
  obtain ⟨g, rfl, hgs⟩ := hd
  have hg : ∀ x ∈ g, x ∈ people h := fun x hx => (subs_iff.mp hgs).subset hx
  have hl := c.hands_len
  refine Svs.asg1 7 (d := .list ((allHands h).map handD)) (E1.callF F60 hr (A1.cons (E1.var 2) A1.nil) h rfl c.hold fun d z => z) sc64.nd ?_
  refine Svs.setNIf (xs := allHands h) (en := handD) (q := fun x => sendB n (passedL h x) lot g) (f := handD) 8 11 (I1.list (E1.var 7)) (fun x hx _ _ _ _ _ => T1.val (E1.callF F51 hr (A1.cons (E1.var 1) (A1.cons (E1.callF F52 hr (A1.cons (E1.callF F59 hr (A1.cons (E1.var 2) (A1.cons (E1.var 11) A1.nil)) (h, x) rfl (c.passOk (c.hands x hx)) fun d z => z) (A1.cons (E1.var 6) A1.nil)) (passedL h x, true, g) rfl (by rw [c.pass (c.hands x hx)]; exact (c.hand (c.hands x hx)).hold) fun d z => z) (A1.cons (E1.var 4) A1.nil))) (n, heldBy (passedL h x) g, true, lot) rfl hn.ok fun d z => z)) (fun x _ _ _ _ _ _ _ => E1.var 11) (by omega) sc64.nd ?_
  have ok : T4.ok (n, h, lot, g) := ⟨hn.ok, c.hold, hg⟩
  refine Svs.asg1 9 (E1.callF F39 hr (A1.cons (E1.var 1) (A1.cons (E1.var 2) (A1.cons (E1.var 4) (A1.cons (E1.var 6) A1.nil)))) (n, h, lot, g) rfl ok fun d z => z) sc64.nd ?_
  refine Svs.ifS (k := false) (T1.castB (T1.cmp (E1.cmp (E1.var 9) E1.int (o_eqO (j := 1))) (E1.and (E1.cmp (E1.var 8) (E1.lst L1.nil) (o_neNil hr.units (shaped_hands _ fun x hx => c.hands_ok x (List.mem_filter.mp hx).1))) fun _ => E1.one (E1.not (E1.callF F51 hr (A1.cons (E1.var 1) (A1.cons (E1.callF F52 hr (A1.cons (E1.var 2) (A1.cons (E1.var 6) A1.nil)) (h, true, g) rfl c.hold fun d z => z) (A1.cons (E1.var 4) A1.nil))) (n, heldBy h g, true, lot) rfl hn.ok fun d z => z))) o_neB) ?_) (fun z => by cases z) (fun _ => ?_) rfl
  · rw [bne_eq_false_iff_eq, Bool.eq_iff_iff, decide_eq_true_iff, Bool.and_eq_true, filter_any, Bool.not_eq_true']
    exact few_one hn.m c hg
  refine Svs.ifS (k := false) (T1.not (k := true) (T1.val (E1.callF F62 hr (A1.cons (E1.var 1) (A1.cons (E1.var 2) (A1.cons (E1.var 4) (A1.cons (E1.var 6) A1.nil)))) (n, h, lot, g) rfl ⟨hn, c, hg⟩ fun d z => z))) (fun z => by cases z) (fun _ => ?_) rfl
  refine Svs.imp (Svs.forN (ys := rangeD (if (!((allHands h).map handD).isEmpty) = true then 3 else 0)) (c0 := 10) (ct := 30) (c := 0) 10 (fun i ρ' => ∃ (hc : Hold) (s10 s11 : Option Sl), ρ' = [none, some (.dat (netD n)), some (.dat (holdD hc)), some (.dat (nmsL (people h))), some (.dat (lotD lot)), some (.dat (.list ((subs (people h)).map keyD))), some (.dat (keyD g)), some (.dat (.list ((allHands h).map handD))), some (.dat (.list (((allHands h).filter fun x => sendB n (passedL h x) lot g).map handD))), some (.dat (optD (fewest n h lot g))), s10, s11] ∧ CrewOk hc ∧ people hc = people h ∧ (allHands h ≠ [] → allHands hc ≠ []))
    (I1.range (E1.ifExp (T1.cmp (E1.var 7) (E1.lst L1.nil) (o_neNil hr.units (shaped_hands _ c.hands_ok))) (fun z => E1.cast E1.int (by rw [if_pos z]; rfl)) fun z => E1.cast E1.int (by rw [if_neg (by rw [z]; exact Bool.false_ne_true)]; rfl)) (by split <;> decide) mR) ⟨h, none, none, rfl, c, rfl, fun z => z⟩ ?_ ?_ ?_ PassesOwn.never sc64.nd) (by decide) fun _ z => z
  · rintro i d ρ' hi ⟨hc, s10, s11, rfl, cc, pc, hne⟩
    have hl := (List.getElem?_eq_some_iff.mp hi).1
    rw [rangeD_len] at hl
    have h0 : allHands h ≠ [] := fun e => by
      rw [e, if_neg (by decide)] at hl
      omega
    have hne := hne h0
    have hcl := cc.hands_len
    have h1 : 0 < (allHands hc).length := List.length_pos_iff.mpr hne
    refine Svs.imp (Svs.asg (c1 := 10) (c2 := 0) 11 (P := fun d => ∃ x ∈ allHands hc, d = handD x) (Ev.imp (Ev.ofL F45 hr (E1.callF F60 hr (A1.cons (E1.var 2) A1.nil) hc rfl cc.hold fun d z => z) (by rw [List.length_map]; omega)) (by decide) fun d hd => by obtain ⟨x, hx, e⟩ := List.mem_map.mp hd; exact ⟨x, hx, e.symm⟩) sc64.nd fun d hd => ?_) (by decide) fun _ z => z
    obtain ⟨⟨gv, ky, tk⟩, hx, rfl⟩ := hd
    have x : HandOk hc gv ky tk := cc.hands _ hx
    refine Svs.ifS (k := false) (T1.not (k := true) (T1.val (E1.callF F61 hr (A1.cons (E1.var 1) (A1.cons (E1.var 2) (A1.cons (E1.var 4) (A1.cons (E1.var 6) (A1.cons (E1.var 11) A1.nil))))) (n, hc, lot, g, gv, ky, tk) rfl ⟨hn, cc, fun y hy => by show y ∈ people hc; rw [pc]; exact hg y hy, x⟩ fun d z => z))) (fun z => by cases z) (fun _ => ?_) rfl
    refine Svs.asg1 2 (d := holdD (handOn hc gv ky tk)) (E1.callF F59 hr (A1.cons (E1.var 2) (A1.cons (E1.var 11) A1.nil)) (hc, gv, ky, tk) rfl (cc.passOk (x := (gv, ky, tk)) x) fun d z => z.trans (congrArg holdD (cc.pass x))) sc64.nd (Svs.nil ⟨_, _, _, rfl, cc.hand x, by rw [handOn_people]; exact pc, fun _ => CrewOk.some_hand ((handOn_has x.t).mpr (.inr ⟨rfl, rfl⟩))⟩)
  · rintro ρ' ⟨hc, s10, s11, rfl, _⟩
    exact Svs.ret1 E1.bl rfl
  · rw [rangeD_len]
    split <;> decide
end
end Kl

set_option Elab.async false
set_option linter.all false
set_option maxRecDepth 100000
/-! The law's defs: the law. -/
namespace Kl
open PySem PySem.Spec L2
section
variable {X : Cx} {ρ : En} {e : Expr} {es : List Expr} {p p2 pos pos2 : Pos} {k : Nat}
/-- _law_right(_law_box(rows, k)) -/
theorem E1.rightBox (F64 : Fn X.prog X.w X.K X.mg X.base k "_law_right" ["_law_box_here"] (sp_right X.K)) (F42 : Fn X.prog X.w X.K X.mg X.base k "_law_box" ["_law_script", "_law_k"] (sp_box X.K)) (hr : Room k X.A) {ns : List Int} {j : Nat} (ha : A1 X ρ (e :: es) [intsL ns, .int j]) (hj : j < 1000)
    (g1 : Gl X "_law_right" := by rfl) (g2 : Gl X "_law_box" := by rfl) (he : starEach (e :: es) X.env = (false, eval e X.env) :: starEach es X.env := by rfl) (hpl : (backTo pos2 (starEach es X.env)).any (·.1) = false := by rfl)
    (he2 : starEach [.Call (.Name "_law_box" p2) (e :: es) [] pos2] X.env = (false, eval (.Call (.Name "_law_box" p2) (e :: es) [] pos2) X.env) :: starEach [] X.env := by rfl) (hpl2 : (backTo pos (starEach [] X.env)).any (·.1) = false := by rfl) :
    E1 X ρ (.Call (.Name "_law_right" p) [.Call (.Name "_law_box" p2) (e :: es) [] pos2] [] pos) (.bool true) := by
  obtain ⟨f, fd, hm, hk, hb, FF⟩ := F64
  obtain ⟨f', fd', hm', hk', hb', FF'⟩ := F42
  refine pe_imp (pe_call FF hr g1 hm hk hb .nil pass0 (pa_cons (pe_call FF' hr g2 hm' hk' hb' .nil pass0 ha (by decide) he hpl) pa_nil he2) (by decide) he2 hpl2) fun σ H Q ⟨G, L, bx, x, hbx, q⟩ => ?_
  refine ⟨G, L, bx, x, hbx, fun vs H1 ds s pd w => ?_⟩
  subst pd
  have x1 := x.step s
  refine ⟨L ++ G, ns, j, x1.alM, by rw [List.append_nil]; exact w, hj, fun r H2 sm nr hB => ?_⟩
  have hid : Hid (H2 r) := by
    obtain ⟨x, y, z, h0, _⟩ := hB
    rw [h0]
    exact trivial
  refine ⟨[r], (), r, 0, [], rfl, by simp, hB, by decide, fun a ha => by rw [List.mem_singleton.mp ha]; exact hid, .nil, trivial, fun v H3 d s3 rd w3 => ?_⟩
  subst rd
  have ev := w3.bool
  subst ev
  have keep : Same H1 H3 := fun a o e => s3.1 a o (by simp) (fun z => by rw [z, nr] at e; cases e) (sm a o e)
  exact q _ H3 _ (Stp.andSame x1 s keep) rfl (.dat (.bl _))
end
section
variable {P : Program} {w : World} {K : PySem.W.Frag} {mg : Str → Option Value} {base : Heap}
abbrev s65 : Stmt := topS 65
theorem sc65 : FnScope ["_law_script", "_law_rows", "_law_k"] ["_law_script"] (defScope s65) := ⟨rfl, rfl, rfl, by decide +kernel, rfl, by decide +kernel, by decide +kernel⟩
def sp_law (K : PySem.W.Frag) : Sp := fun vs H Q _ => ∃ (a : Addr) (ns : List Int), vs = [.ref a] ∧ L2.SqL K H a (ns.map L2.V.int) ∧ ns.length ≤ 63 ∧ ∀ H', Q (.bl true) H'
theorem ok_law {f : Addr} {fd : FuncData} (F : Fun K "law" "law" s65 f fd) (mL : mg "len" = none) (mR : mg "range" = none) (mA : mg "all" = none)
    (F44 : Fn P w K mg base 19 "_law_cells" ["_law_script", "_law_top_so"] (sp_cells K)) (F63 : Fn P w K mg base 19 "_law_by_hand_right" [] (sp_by_hand K)) (F64 : Fn P w K mg base 19 "_law_right" ["_law_box_here"] (sp_right K)) (F42 : Fn P w K mg base 19 "_law_box" ["_law_script", "_law_k"] (sp_box K)) :
    FnOk P w K mg base CX0 20 f fd ["_law_script"] (sp_law K) := by
  refine F.ok sc65 (fun vs H Q E h => ?_) (fun cdv A outer s H vs Q E hr hsp => ?_)
  · obtain ⟨a, ns, rfl, _⟩ := h
    rfl
  · obtain ⟨a, ns, rfl, hS, hl, q⟩ := hsp
    have body : Svs (cxOf CX0 P w K mg base ["_law_script", "_law_rows", "_law_k"] "law" (defScope s65) f cdv A outer s H E).nox [some (.dat (scrD ns)), none, none] (defBody s65) 0 (fun o => match o with | .rt d => d = .bool true | .nx _ => False) := by
      refine Svs.imp (Svs.asg (c1 := 0) (c2 := 0) 1 (P := fun d => ∃ ms : List Int, d = intsL ms ∧ 0 < ms.length ∧ ms.length ≤ 2) (Ev.callF (Pl := (· = [scrD ns, .int 2])) F44 hr (A1.cons (E1.var 0) (A1.cons E1.int A1.nil)) (fun ds e => ⟨ns, e, hl, fun d h => h⟩)) sc65.nd fun d hd => ?_) (by decide) fun _ z => z
      obtain ⟨ms, rfl, _, h2⟩ := hd
      refine Svs.ret1 (E1.and (k := true) (l := true) (Ev.imp (Ev.callF0 F63 hr () rfl trivial fun d z => z) (Nat.le_refl _) fun d z => z) fun _ => E1.one (E1.callB (A1.cons (E1.lcN (xs := List.range ms.length) (en := fun k : Nat => PyData.int (k : Int)) (f := fun _ => .bool true) 2 (I1.range (E1.cast (E1.callB (A1.cons (E1.var 1) A1.nil) c_len mL bt_len) (by rw [List.length_map])) (by omega) mR)
        (fun j hj _ _ _ _ _ => E1.rightBox F64 F42 hr (A1.cons (E1.var 1) (A1.cons (E1.var 2) A1.nil)) (by have := List.mem_range.mp hj; omega)) (by rw [List.length_range]; exact Nat.le_trans h2 (by decide)) sc65.nd) A1.nil) ((c_allF (List.range ms.length) (fun _ => true) rfl).imp fun d z => z.trans (congrArg PyData.bool (by simp))) mA bt_all)) rfl
    refine ⟨_, body, [], [], none, ⟨?_, fun a ha => ha.elim (fun z => by cases z) (fun z => by cases z), fun i d e => ?_, fun i u e => ?_, fun i j u u' p e => ?_, (fun b n e => by cases e)⟩, rfl, fun L' σ' H' ρ' st' _ _ o' x' => (by cases o'), fun v H' d st' o' w' => ?_⟩
    · unfold L2.start
      simp
    · match i with
      | 0 =>
        cases e
        exact ⟨.ref a, rfl, .scr hS⟩
      | 1 => cases e
      | 2 => cases e
      | _ + 3 => cases e
    · match i with
      | 0 => cases e
      | 1 => cases e
      | 2 => cases e
      | _ + 3 => cases e
    · match i with
      | 0 => cases e
      | 1 => cases e
      | 2 => cases e
      | _ + 3 => cases e
    · have o' : d = .bool true := o'
      subst o'
      rw [w'.bool]
      exact q H'
end
end Kl

set_option Elab.async false
set_option linter.all false
set_option maxRecDepth 100000
/-! All defs that the top has written. -/
namespace Kl
open PySem PySem.Spec L2
/-- a def that the top has written -/
structure Top (K : PySem.W.Frag) (mg : Str → Option Value) (x : Str) (st : Stmt) : Prop where
  ex : ∃ (f : Addr) (fd : FuncData), mg x = some (.ref f) ∧ Fun K x x st f fd
section
variable {P : Program} {w : World} {K : PySem.W.Frag} {mg : Str → Option Value} {base : Heap} {h : Heap}
theorem top_mk {x : Str} {st : Stmt} {f : Addr} {oc : Value} {od an : Option Addr} {osl : Array (Option Value)} {kV doc pm cdv ct : Value} (X : K.In h) (G : h.Ns mainGlobals mg) (a : PySem.W.nsIn K mainGlobals x = some (some (.ref f))) (l : K.lookup f = some ⟨oc, od, .func (PySem.W.fnOf x x (defArgs st) (defBody st) (defScope st) .none kV doc pm an cdv ct), osl⟩)
    (c : PySem.W.codeIn K cdv x = true) (k : PySem.W.keepIn K (.ref f) = true) : Top K mg x st := ⟨f, _, PySem.W.mg_of X G a, fun_mk l c k⟩
theorem int_mk {x : Str} {i : Int} {t : _} (X : K.In h) (G : h.Ns mainGlobals mg) (a : PySem.W.nsIn K mainGlobals x = some (some (.int i t))) : ∃ t, mg x = some (.int i t) := ⟨t, PySem.W.mg_of X G a⟩
theorem Top.fn {x : Str} {st : Stmt} {ps : List Str} {sp : Sp} {k : Nat} (T : Top K mg x st) (hb : ∀ (kV doc pm : Value) (an : Option Addr) (cdv ct : Value) (us : List Value), us.length = ps.length → bindArgs (PySem.W.fnOf x x (defArgs st) (defBody st) (defScope st) .none kV doc pm an cdv ct) ⟨us, []⟩ = pure (ps.zip us))
    (ok : ∀ (f : Addr) (fd : FuncData), Fun K x x st f fd → FnOk P w K mg base CX0 k f fd ps sp) : Fn P w K mg base k x ps sp := by
  obtain ⟨f, fd, m, F⟩ := T.ex
  exact ⟨f, fd, m, F.kp, F.binds hb, ok f fd F⟩
/-- what the law needs of the top, but the law itself -/
structure All (K : PySem.W.Frag) (mg : Str → Option Value) : Prop where
  t_set_of : Top K mg "set_of" (topS 5)
  t_tupled : Top K mg "tupled" (topS 6)
  t_yard_names : Top K mg "yard_names" (topS 9)
  t_keys_of : Top K mg "keys_of" (topS 10)
  t_subsets_of : Top K mg "subsets_of" (topS 19)
  t_value_of : Top K mg "value_of" (topS 20)
  t_values_by : Top K mg "values_by" (topS 21)
  t_part_in : Top K mg "part_in" (topS 22)
  t_goes_by : Top K mg "goes_by" (topS 23)
  t_goes : Top K mg "goes" (topS 24)
  t_people_in : Top K mg "people_in" (topS 26)
  t_check_people : Top K mg "check_people" (topS 27)
  t_held_by : Top K mg "held_by" (topS 28)
  t_keys_held : Top K mg "keys_held" (topS 29)
  t_who_holds : Top K mg "who_holds" (topS 30)
  t_sends : Top K mg "sends" (topS 31)
  t_send_table : Top K mg "send_table" (topS 32)
  t_all_in_group : Top K mg "all_in_group" (topS 33)
  t_leasts_of : Top K mg "leasts_of" (topS 34)
  t_senders : Top K mg "senders" (topS 35)
  t_handed_on : Top K mg "handed_on" (topS 36)
  t_handed : Top K mg "handed" (topS 37)
  t_keys_wanted : Top K mg "keys_wanted" (topS 38)
  t_fewest_hands : Top K mg "fewest_hands" (topS 39)
  t_hands_for : Top K mg "hands_for" (topS 40)
  t__law_box : Top K mg "_law_box" (topS 42)
  t__law_take : Top K mg "_law_take" (topS 43)
  t__law_cells : Top K mg "_law_cells" (topS 44)
  t__law_of : Top K mg "_law_of" (topS 45)
  t__law_pick : Top K mg "_law_pick" (topS 46)
  t__law_same : Top K mg "_law_same" (topS 47)
  t__law_sets : Top K mg "_law_sets" (topS 48)
  t__law_have : Top K mg "_law_have" (topS 49)
  t__law_want : Top K mg "_law_want" (topS 50)
  t__law_go : Top K mg "_law_go" (topS 51)
  t__law_purse : Top K mg "_law_purse" (topS 52)
  t__law_table : Top K mg "_law_table" (topS 53)
  t__law_lean : Top K mg "_law_lean" (topS 54)
  t__law_dock : Top K mg "_law_dock" (topS 55)
  t__law_web : Top K mg "_law_web" (topS 56)
  t__law_crew : Top K mg "_law_crew" (topS 57)
  t__law_bits : Top K mg "_law_bits" (topS 58)
  t__law_passed : Top K mg "_law_passed" (topS 59)
  t__law_all_hands : Top K mg "_law_all_hands" (topS 60)
  t__law_step_right : Top K mg "_law_step_right" (topS 61)
  t__law_way_right : Top K mg "_law_way_right" (topS 62)
  t__law_by_hand_right : Top K mg "_law_by_hand_right" (topS 63)
  t__law_right : Top K mg "_law_right" (topS 64)
  b_abs : mg "abs" = none
  b_all : mg "all" = none
  b_any : mg "any" = none
  b_bool : mg "bool" = none
  b_dict : mg "dict" = none
  b_enumerate : mg "enumerate" = none
  b_int : mg "int" = none
  b_isinstance : mg "isinstance" = none
  b_len : mg "len" = none
  b_list : mg "list" = none
  b_max : mg "max" = none
  b_min : mg "min" = none
  b_range : mg "range" = none
  b_set : mg "set" = none
  b_sorted : mg "sorted" = none
  b_str : mg "str" = none
  b_sum : mg "sum" = none
  b_tuple : mg "tuple" = none
  b_zip : mg "zip" = none
  i_WIDE : ∃ t, mg "WIDE" = some (.int 5 t)
  i_NAME : ∃ t, mg "NAME" = some (.int 0 t)
  i_SUPPLY : ∃ t, mg "SUPPLY" = some (.int 1 t)
  i_START : ∃ t, mg "START" = some (.int 1 t)
  i_GOAL : ∃ t, mg "GOAL" = some (.int 2 t)
  i_MOST : ∃ t, mg "MOST" = some (.int 3 t)
  i_KEY : ∃ t, mg "KEY" = some (.int 4 t)
  i_YARD : ∃ t, mg "YARD" = some (.int 1 t)
set_option maxHeartbeats 0 in
theorem all_law (T : All K mg) {f : Addr} {fd : FuncData} (F : Fun K "law" "law" (topS 65) f fd) : FnOk P w K mg base CX0 20 f fd ["_law_script"] (sp_law K) := by
  have f0 : Fn P w K mg base 1 "set_of" ["some"] (sp_set_of K) := T.t_set_of.fn (fun _ _ _ _ _ _ us hl => match us, hl with | [_], _ => rfl) fun f fd F => ok_set_of F T.b_tuple T.b_sorted T.b_set
  have f1 : Fn P w K mg base 1 "yard_names" ["net"] (sp_yard_names K) := T.t_yard_names.fn (fun _ _ _ _ _ _ us hl => match us, hl with | [_], _ => rfl) fun f fd F => ok_yard_names F T.b_tuple
  have f2 : Fn P w K mg base 2 "keys_of" ["net"] (sp_keys_of K) := T.t_keys_of.fn (fun _ _ _ _ _ _ us hl => match us, hl with | [_], _ => rfl) fun f fd F => ok_keys_of F T.i_WIDE (f0.mono (by decide))
  have f3 : Fn P w K mg base 1 "subsets_of" ["names"] (sp_subsets_of K) := T.t_subsets_of.fn (fun _ _ _ _ _ _ us hl => match us, hl with | [_], _ => rfl) fun f fd F => ok_subsets_of F T.b_sorted
  have f4 : Fn P w K mg base 1 "value_of" ["net", "keys", "far"] (sp_value_of K) := T.t_value_of.fn (fun _ _ _ _ _ _ us hl => match us, hl with | [_, _, _], _ => rfl) fun f fd F => ok_value_of F T.b_sum T.i_NAME T.i_SUPPLY T.i_START T.i_GOAL T.i_MOST T.i_KEY
  have f5 : Fn P w K mg base 1 "part_in" ["net", "lot", "far"] (sp_part_in K) := T.t_part_in.fn (fun _ _ _ _ _ _ us hl => match us, hl with | [_, _, _], _ => rfl) fun f fd F => ok_part_in F T.b_sum T.b_zip T.i_YARD
  have f6 : Fn P w K mg base 2 "values_by" ["net", "keys"] (sp_values_by K) := T.t_values_by.fn (fun _ _ _ _ _ _ us hl => match us, hl with | [_, _], _ => rfl) fun f fd F => ok_values_by F (f1.mono (by decide)) (f3.mono (by decide)) (f4.mono (by decide))
  have f7 : Fn P w K mg base 2 "goes_by" ["net", "values", "lot"] (sp_goes_by K) := T.t_goes_by.fn (fun _ _ _ _ _ _ us hl => match us, hl with | [_, _, _], _ => rfl) fun f fd F => ok_goes_by F T.b_all (f5.mono (by decide))
  have f8 : Fn P w K mg base 3 "goes" ["net", "keys", "lot"] (sp_goes K) := T.t_goes.fn (fun _ _ _ _ _ _ us hl => match us, hl with | [_, _, _], _ => rfl) fun f fd F => ok_goes F (f6.mono (by decide)) (f7.mono (by decide))
  have f9 : Fn P w K mg base 1 "people_in" ["holders"] (sp_people_in K) := T.t_people_in.fn (fun _ _ _ _ _ _ us hl => match us, hl with | [_], _ => rfl) fun f fd F => ok_people_in F T.b_tuple
  have f10 : Fn P w K mg base 2 "check_people" ["holders", "names"] (sp_check_people K) := T.t_check_people.fn (fun _ _ _ _ _ _ us hl => match us, hl with | [_, _], _ => rfl) fun f fd F => ok_check_people F (f9.mono (by decide))
  have f11 : Fn P w K mg base 2 "held_by" ["holders", "group"] (sp_held_by K) := T.t_held_by.fn (fun _ _ _ _ _ _ us hl => match us, hl with | [_, _], _ => rfl) fun f fd F => ok_held_by F (f0.mono (by decide))
  have f12 : Fn P w K mg base 3 "keys_held" ["holders", "group"] (sp_keys_held K) := T.t_keys_held.fn (fun _ _ _ _ _ _ us hl => match us, hl with | [_, _], _ => rfl) fun f fd F => ok_keys_held F (f10.mono (by decide)) (f11.mono (by decide))
  have f13 : Fn P w K mg base 1 "who_holds" ["holders", "key"] (sp_who_holds K) := T.t_who_holds.fn (fun _ _ _ _ _ _ us hl => match us, hl with | [_, _], _ => rfl) fun f fd F => ok_who_holds F T.b_tuple
  have f14 : Fn P w K mg base 4 "sends" ["net", "holders", "lot", "group"] (sp_sends K) := T.t_sends.fn (fun _ _ _ _ _ _ us hl => match us, hl with | [_, _, _, _], _ => rfl) fun f fd F => ok_sends F (f8.mono (by decide)) (f12.mono (by decide))
  have f15 : Fn P w K mg base 4 "send_table" ["net", "holders", "lot"] (sp_send_table K) := T.t_send_table.fn (fun _ _ _ _ _ _ us hl => match us, hl with | [_, _, _], _ => rfl) fun f fd F => ok_send_table F (f3.mono (by decide)) (f8.mono (by decide)) (f9.mono (by decide)) (f11.mono (by decide))
  have f16 : Fn P w K mg base 1 "all_in_group" ["one", "other"] (sp_all_in K) := T.t_all_in_group.fn (fun _ _ _ _ _ _ us hl => match us, hl with | [_, _], _ => rfl) fun f fd F => ok_all_in F T.b_all
  have f17 : Fn P w K mg base 2 "leasts_of" ["groups"] (sp_leasts_of K) := T.t_leasts_of.fn (fun _ _ _ _ _ _ us hl => match us, hl with | [_], _ => rfl) fun f fd F => ok_leasts_of F T.b_sorted T.b_any (f16.mono (by decide))
  have f18 : Fn P w K mg base 5 "senders" ["net", "holders", "lot"] (sp_senders K) := T.t_senders.fn (fun _ _ _ _ _ _ us hl => match us, hl with | [_, _, _], _ => rfl) fun f fd F => ok_senders F (f15.mono (by decide)) (f17.mono (by decide))
  have f19 : Fn P w K mg base 1 "tupled" ["value"] (sp_tupled K 0) := T.t_tupled.fn (fun _ _ _ _ _ _ us hl => match us, hl with | [_], _ => rfl) fun f fd F => ok_tupled0 F T.b_tuple T.b_list T.b_isinstance
  have f20 : Fn P w K mg base 2 "tupled" ["value"] (sp_tupled K 1) := T.t_tupled.fn (fun _ _ _ _ _ _ us hl => match us, hl with | [_], _ => rfl) fun f fd F => ok_tupledS F T.b_tuple T.b_list T.b_isinstance (f19.mono (by decide))
  have f21 : Fn P w K mg base 3 "tupled" ["value"] (sp_tupled K 2) := T.t_tupled.fn (fun _ _ _ _ _ _ us hl => match us, hl with | [_], _ => rfl) fun f fd F => ok_tupledS F T.b_tuple T.b_list T.b_isinstance (f20.mono (by decide))
  have f22 : Fn P w K mg base 4 "tupled" ["value"] (sp_tupled K 3) := T.t_tupled.fn (fun _ _ _ _ _ _ us hl => match us, hl with | [_], _ => rfl) fun f fd F => ok_tupledS F T.b_tuple T.b_list T.b_isinstance (f21.mono (by decide))
  have f23 : Fn P w K mg base 5 "handed_on" ["holders", "giver", "key", "taker"] (sp_handed_on K) := T.t_handed_on.fn (fun _ _ _ _ _ _ us hl => match us, hl with | [_, _, _, _], _ => rfl) fun f fd F => ok_handed_on F T.b_tuple (f0.mono (by decide)) (f22.mono (by decide))
  have f24 : Fn P w K mg base 6 "handed" ["holders", "giver", "key", "taker"] (sp_handed K) := T.t_handed.fn (fun _ _ _ _ _ _ us hl => match us, hl with | [_, _, _, _], _ => rfl) fun f fd F => ok_handed F (f10.mono (by decide)) (f11.mono (by decide)) (f23.mono (by decide))
  have f25 : Fn P w K mg base 4 "keys_wanted" ["net", "holders", "lot", "group"] (sp_keys_wanted K) := T.t_keys_wanted.fn (fun _ _ _ _ _ _ us hl => match us, hl with | [_, _, _, _], _ => rfl) fun f fd F => ok_keys_wanted F T.b_sorted T.b_len (f0.mono (by decide)) (f2.mono (by decide)) (f3.mono (by decide)) (f8.mono (by decide)) (f9.mono (by decide)) (f11.mono (by decide))
  have f26 : Fn P w K mg base 5 "fewest_hands" ["net", "holders", "lot", "group"] (sp_fewest K) := T.t_fewest_hands.fn (fun _ _ _ _ _ _ us hl => match us, hl with | [_, _, _, _], _ => rfl) fun f fd F => ok_fewest F T.b_len (f10.mono (by decide)) (f25.mono (by decide))
  have f27 : Fn P w K mg base 5 "hands_for" ["net", "holders", "lot", "group"] (sp_hands_for K) := T.t_hands_for.fn (fun _ _ _ _ _ _ us hl => match us, hl with | [_, _, _, _], _ => rfl) fun f fd F => ok_hands_for F T.b_tuple (f10.mono (by decide)) (f13.mono (by decide)) (f25.mono (by decide))
  have f28 : Fn P w K mg base 1 "_law_take" ["_law_box_here", "_law_size_so"] (sp_take K) := T.t__law_take.fn (fun _ _ _ _ _ _ us hl => match us, hl with | [_, _], _ => rfl) fun f fd F => ok_take F T.b_int
  have f29 : Fn P w K mg base 2 "_law_of" ["_law_box_here", "_law_goods_so"] (sp_of K) := T.t__law_of.fn (fun _ _ _ _ _ _ us hl => match us, hl with | [_, _], _ => rfl) fun f fd F => ok_of F T.b_len (f28.mono (by decide))
  have f30 : Fn P w K mg base 2 "_law_pick" ["_law_box_here", "_law_goods_so", "_law_count_so"] (sp_pick K) := T.t__law_pick.fn (fun _ _ _ _ _ _ us hl => match us, hl with | [_, _, _], _ => rfl) fun f fd F => ok_pick F T.b_len T.b_int T.b_min T.b_range T.b_list (f28.mono (by decide))
  have f31 : Fn P w K mg base 1 "_law_sets" ["_law_goods_so"] (sp_sets K) := T.t__law_sets.fn (fun _ _ _ _ _ _ us hl => match us, hl with | [_], _ => rfl) fun f fd F => ok_sets F T.b_sorted
  have f32 : Fn P w K mg base 1 "_law_have" ["_law_web_here", "_law_kit", "_law_some_so"] (sp_have K) := T.t__law_have.fn (fun _ _ _ _ _ _ us hl => match us, hl with | [_, _, _], _ => rfl) fun f fd F => ok_have F T.b_sum
  have f33 : Fn P w K mg base 1 "_law_want" ["_law_web_here", "_law_bits_so", "_law_some_so"] (sp_want K) := T.t__law_want.fn (fun _ _ _ _ _ _ us hl => match us, hl with | [_, _, _], _ => rfl) fun f fd F => ok_want F T.b_sum T.b_zip
  have f34 : Fn P w K mg base 2 "_law_go" ["_law_web_here", "_law_kit", "_law_bits_so"] (sp_go K) := T.t__law_go.fn (fun _ _ _ _ _ _ us hl => match us, hl with | [_, _, _], _ => rfl) fun f fd F => ok_go F (f31.mono (by decide)) (f32.mono (by decide)) (f33.mono (by decide))
  have f35 : Fn P w K mg base 1 "_law_purse" ["_law_crew_here", "_law_band"] (sp_purse K) := T.t__law_purse.fn (fun _ _ _ _ _ _ us hl => match us, hl with | [_, _], _ => rfl) fun f fd F => ok_purse F T.b_tuple T.b_sorted T.b_set T.b_list
  have f36 : Fn P w K mg base 3 "_law_table" ["_law_web_here", "_law_crew_here", "_law_bits_so"] (sp_table K) := T.t__law_table.fn (fun _ _ _ _ _ _ us hl => match us, hl with | [_, _, _], _ => rfl) fun f fd F => ok_table F (f31.mono (by decide)) (f34.mono (by decide)) (f35.mono (by decide))
  have f37 : Fn P w K mg base 1 "_law_all_hands" ["_law_crew_here"] (sp_all_hands K) := T.t__law_all_hands.fn (fun _ _ _ _ _ _ us hl => match us, hl with | [_], _ => rfl) fun f fd F => ok_all_hands F 
  have f38 : Fn P w K mg base 1 "_law_passed" ["_law_crew_here", "_law_own"] (sp_passed K) := T.t__law_passed.fn (fun _ _ _ _ _ _ us hl => match us, hl with | [_, _], _ => rfl) fun f fd F => ok_passed F T.b_tuple T.b_dict T.b_sorted T.b_set
  have f39 : Fn P w K mg base 1 "_law_same" ["_law_mine", "_law_due"] (sp_same K 0) := T.t__law_same.fn (fun _ _ _ _ _ _ us hl => match us, hl with | [_, _], _ => rfl) fun f fd F => ok_same0 F ⟨T.b_isinstance, T.b_list, T.b_tuple, T.b_bool, T.b_str, T.b_int, T.b_len, T.b_all, T.b_zip⟩
  have f40 : Fn P w K mg base 2 "_law_same" ["_law_mine", "_law_due"] (sp_same K 1) := T.t__law_same.fn (fun _ _ _ _ _ _ us hl => match us, hl with | [_, _], _ => rfl) fun f fd F => ok_sameS F ⟨T.b_isinstance, T.b_list, T.b_tuple, T.b_bool, T.b_str, T.b_int, T.b_len, T.b_all, T.b_zip⟩ (f39.mono (by decide))
  have f41 : Fn P w K mg base 3 "_law_same" ["_law_mine", "_law_due"] (sp_same K 2) := T.t__law_same.fn (fun _ _ _ _ _ _ us hl => match us, hl with | [_, _], _ => rfl) fun f fd F => ok_sameS F ⟨T.b_isinstance, T.b_list, T.b_tuple, T.b_bool, T.b_str, T.b_int, T.b_len, T.b_all, T.b_zip⟩ (f40.mono (by decide))
  have f42 : Fn P w K mg base 4 "_law_same" ["_law_mine", "_law_due"] (sp_same K 3) := T.t__law_same.fn (fun _ _ _ _ _ _ us hl => match us, hl with | [_, _], _ => rfl) fun f fd F => ok_sameS F ⟨T.b_isinstance, T.b_list, T.b_tuple, T.b_bool, T.b_str, T.b_int, T.b_len, T.b_all, T.b_zip⟩ (f41.mono (by decide))
  have f43 : Fn P w K mg base 5 "_law_same" ["_law_mine", "_law_due"] (sp_same K 4) := T.t__law_same.fn (fun _ _ _ _ _ _ us hl => match us, hl with | [_, _], _ => rfl) fun f fd F => ok_sameS F ⟨T.b_isinstance, T.b_list, T.b_tuple, T.b_bool, T.b_str, T.b_int, T.b_len, T.b_all, T.b_zip⟩ (f42.mono (by decide))
  have f44 : Fn P w K mg base 1 "_law_cells" ["_law_script", "_law_top_so"] (sp_cells K) := T.t__law_cells.fn (fun _ _ _ _ _ _ us hl => match us, hl with | [_, _], _ => rfl) fun f fd F => ok_cells F T.b_list T.b_enumerate T.b_int
  have f45 : Fn P w K mg base 1 "_law_box" ["_law_script", "_law_k"] (sp_box K) := T.t__law_box.fn (fun _ _ _ _ _ _ us hl => match us, hl with | [_, _], _ => rfl) fun f fd F => ok_box F T.b_len T.b_int T.b_abs
  have f46 : Fn P w K mg base 1 "_law_lean" ["_law_bands"] (sp_lean K) := T.t__law_lean.fn (fun _ _ _ _ _ _ us hl => match us, hl with | [_], _ => rfl) fun f fd F => ok_lean F T.b_sorted T.b_len
  have f47 : Fn P w K mg base 1 "_law_dock" [] (sp_dock K) := T.t__law_dock.fn (fun _ _ _ _ _ _ us hl => match us, hl with | [], _ => rfl) fun f fd F => ok_dock F 
  have f48 : Fn P w K mg base 3 "_law_web" ["_law_box_here"] (sp_web K) := T.t__law_web.fn (fun _ _ _ _ _ _ us hl => match us, hl with | [_], _ => rfl) fun f fd F => ok_web F T.b_int T.b_len T.b_enumerate T.b_sorted T.b_tuple (f28.mono (by decide)) (f29.mono (by decide)) (f30.mono (by decide))
  have f49 : Fn P w K mg base 3 "_law_crew" ["_law_box_here", "_law_web_here"] (sp_crew K) := T.t__law_crew.fn (fun _ _ _ _ _ _ us hl => match us, hl with | [_, _], _ => rfl) fun f fd F => ok_crew F T.b_len T.b_enumerate T.b_sorted T.b_set T.b_tuple T.b_dict (f29.mono (by decide)) (f30.mono (by decide))
  have f50 : Fn P w K mg base 3 "_law_bits" ["_law_box_here", "_law_web_here", "_law_kit"] (sp_bits K) := T.t__law_bits.fn (fun _ _ _ _ _ _ us hl => match us, hl with | [_, _, _], _ => rfl) fun f fd F => ok_bits F T.b_len T.b_list T.b_range T.b_max T.b_tuple (f28.mono (by decide)) (f29.mono (by decide)) (f30.mono (by decide)) (f34.mono (by decide))
  have f51 : Fn P w K mg base 7 "_law_step_right" ["_law_web_here", "_law_crew_here", "_law_bits_so", "_law_band", "_law_own"] (sp_step K) := T.t__law_step_right.fn (fun _ _ _ _ _ _ us hl => match us, hl with | [_, _, _, _, _], _ => rfl) fun f fd F => ok_step F T.b_sorted T.b_abs (f38.mono (by decide)) (f36.mono (by decide)) (f24.mono (by decide)) (f46.mono (by decide)) (f43.mono (by decide)) (f18.mono (by decide)) (f26.mono (by decide))
  have f52 : Fn P w K mg base 7 "_law_way_right" ["_law_web_here", "_law_crew_here", "_law_bits_so", "_law_band"] (sp_way K) := T.t__law_way_right.fn (fun _ _ _ _ _ _ us hl => match us, hl with | [_, _, _, _], _ => rfl) fun f fd F => ok_way F T.b_len T.b_enumerate T.b_tuple T.b_isinstance (f27.mono (by decide)) (f26.mono (by decide)) (f14.mono (by decide)) (f37.mono (by decide)) (f24.mono (by decide)) (f12.mono (by decide)) (f8.mono (by decide)) (f43.mono (by decide)) (f35.mono (by decide))
  have f53 : Fn P w K mg base 8 "_law_by_hand_right" [] (sp_by_hand K) := T.t__law_by_hand_right.fn (fun _ _ _ _ _ _ us hl => match us, hl with | [], _ => rfl) fun f fd F => ok_by_hand F T.b_all (f47.mono (by decide)) (f26.mono (by decide)) (f51.mono (by decide)) (f24.mono (by decide)) (f18.mono (by decide)) (f43.mono (by decide)) (f52.mono (by decide))
  have f54 : Fn P w K mg base 8 "_law_right" ["_law_box_here"] (sp_right K) := T.t__law_right.fn (fun _ _ _ _ _ _ us hl => match us, hl with | [_], _ => rfl) fun f fd F => ok_right F T.b_len T.b_range (f48.mono (by decide)) (f49.mono (by decide)) (f50.mono (by decide)) (f35.mono (by decide)) (f31.mono (by decide)) (f28.mono (by decide)) (f29.mono (by decide)) (f37.mono (by decide)) (f34.mono (by decide)) (f38.mono (by decide)) (f26.mono (by decide)) (f51.mono (by decide)) (f52.mono (by decide))
  exact ok_law F T.b_len T.b_range T.b_all (f44.mono (by decide)) (f53.mono (by decide)) (f54.mono (by decide)) (f45.mono (by decide))
/-- the end: what walk_of wants -/
theorem law_mk {l : PySem.W.OpenLaw} {fa f : Addr} {oc : Value} {od an : Option Addr} {osl : Array (Option Value)} {kV doc pm cdv ct : Value} (X : K.In h) (G : h.Ns mainGlobals mg) (hfa : mg "law" = some (.ref fa)) (T : All K mg) (a : PySem.W.nsIn K mainGlobals "law" = some (some (.ref f))) (l1 : K.lookup f = some ⟨oc, od, .func (PySem.W.fnOf "law" "law" (defArgs (topS 65)) (defBody (topS 65)) (defScope (topS 65)) .none kV doc pm an cdv ct), osl⟩)
    (c : PySem.W.codeIn K cdv "law" = true) (k : PySem.W.keepIn K (.ref f) = true) :
    ∃ fd : FuncData, (∀ (s : Shared) (v : Value), BindsTo s fd ⟨[v], []⟩ [("_law_script", v)]) ∧ ∀ base : Heap, K.In base → base.Ns mainGlobals mg → FnOk l.prog w K mg base CX0 20 fa fd ["_law_script"] (sp_law K) := by
  have e := hfa.symm.trans (PySem.W.mg_of X G a)
  cases e
  exact ⟨PySem.W.fnOf "law" "law" (defArgs (topS 65)) (defBody (topS 65)) (defScope (topS 65)) .none kV doc pm an cdv ct, fun s v => .of_eq rfl, fun base _ _ => all_law T (fun_mk l1 c k)⟩
end
end Kl

set_option Elab.async false
set_option linter.all false
set_option maxRecDepth 100000
open PySem PySem.W PyProof.Rows
set_option maxHeartbeats 0 in
theorem PySem.Challenge.cw_keyedlines_k78_whole_hands_one_by_one_holds : PySem.Challenge.rw_keyedlines_k78_whole_hands_one_by_one.Holds := by
  w_on; o_law; k_head; (case hw => w_witness2)
  k_fill
  refine L2.walk_of (l := PySem.Challenge.rw_keyedlines_k78_whole_hands_one_by_one) (n := 63) (k := 20) (x := "_law_script") (CX := fun _ => L2.CX0) (sp := fun w => Kl.sp_law _) rfl (by decide) rfl ⟨rfl, by decide, by decide⟩ (fun w h Y => PySem.W.kIn_of Y) ?F (fun _ _ a ns hl _ hS => ⟨a, ns, rfl, hS, hl, fun _ => rfl⟩) (fun _ _ _ _ _ h => h)
  case F =>
    intro w mg fa h KX G hmg
    refine' Kl.law_mk KX G hmg ⟨?t_set_of, ?t_tupled, ?t_yard_names, ?t_keys_of, ?t_subsets_of, ?t_value_of, ?t_values_by, ?t_part_in, ?t_goes_by, ?t_goes, ?t_people_in, ?t_check_people, ?t_held_by, ?t_keys_held, ?t_who_holds, ?t_sends, ?t_send_table, ?t_all_in_group, ?t_leasts_of, ?t_senders, ?t_handed_on, ?t_handed, ?t_keys_wanted, ?t_fewest_hands, ?t_hands_for, ?t__law_box, ?t__law_take, ?t__law_cells, ?t__law_of, ?t__law_pick, ?t__law_same, ?t__law_sets, ?t__law_have, ?t__law_want, ?t__law_go, ?t__law_purse, ?t__law_table, ?t__law_lean, ?t__law_dock, ?t__law_web, ?t__law_crew, ?t__law_bits, ?t__law_passed, ?t__law_all_hands, ?t__law_step_right, ?t__law_way_right, ?t__law_by_hand_right, ?t__law_right, ?b_abs, ?b_all, ?b_any, ?b_bool, ?b_dict, ?b_enumerate, ?b_int, ?b_isinstance, ?b_len, ?b_list, ?b_max, ?b_min, ?b_range, ?b_set, ?b_sorted, ?b_str, ?b_sum, ?b_tuple, ?b_zip, ?i_WIDE, ?i_NAME, ?i_SUPPLY, ?i_START, ?i_GOAL, ?i_MOST, ?i_KEY, ?i_YARD⟩ ?a ?l ?c ?k
    (case a => k_is); (case l => k_is); (case c => k_is); (case k => k_is)
    case t_set_of =>
      refine' Kl.top_mk KX G ?a ?l ?c ?k
      (case a => k_is); (case l => k_is); (case c => k_is); (case k => k_is)
    case t_tupled =>
      refine' Kl.top_mk KX G ?a ?l ?c ?k
      (case a => k_is); (case l => k_is); (case c => k_is); (case k => k_is)
    case t_yard_names =>
      refine' Kl.top_mk KX G ?a ?l ?c ?k
      (case a => k_is); (case l => k_is); (case c => k_is); (case k => k_is)
    case t_keys_of =>
      refine' Kl.top_mk KX G ?a ?l ?c ?k
      (case a => k_is); (case l => k_is); (case c => k_is); (case k => k_is)
    case t_subsets_of =>
      refine' Kl.top_mk KX G ?a ?l ?c ?k
      (case a => k_is); (case l => k_is); (case c => k_is); (case k => k_is)
    case t_value_of =>
      refine' Kl.top_mk KX G ?a ?l ?c ?k
      (case a => k_is); (case l => k_is); (case c => k_is); (case k => k_is)
    case t_values_by =>
      refine' Kl.top_mk KX G ?a ?l ?c ?k
      (case a => k_is); (case l => k_is); (case c => k_is); (case k => k_is)
    case t_part_in =>
      refine' Kl.top_mk KX G ?a ?l ?c ?k
      (case a => k_is); (case l => k_is); (case c => k_is); (case k => k_is)
    case t_goes_by =>
      refine' Kl.top_mk KX G ?a ?l ?c ?k
      (case a => k_is); (case l => k_is); (case c => k_is); (case k => k_is)
    case t_goes =>
      refine' Kl.top_mk KX G ?a ?l ?c ?k
      (case a => k_is); (case l => k_is); (case c => k_is); (case k => k_is)
    case t_people_in =>
      refine' Kl.top_mk KX G ?a ?l ?c ?k
      (case a => k_is); (case l => k_is); (case c => k_is); (case k => k_is)
    case t_check_people =>
      refine' Kl.top_mk KX G ?a ?l ?c ?k
      (case a => k_is); (case l => k_is); (case c => k_is); (case k => k_is)
    case t_held_by =>
      refine' Kl.top_mk KX G ?a ?l ?c ?k
      (case a => k_is); (case l => k_is); (case c => k_is); (case k => k_is)
    case t_keys_held =>
      refine' Kl.top_mk KX G ?a ?l ?c ?k
      (case a => k_is); (case l => k_is); (case c => k_is); (case k => k_is)
    case t_who_holds =>
      refine' Kl.top_mk KX G ?a ?l ?c ?k
      (case a => k_is); (case l => k_is); (case c => k_is); (case k => k_is)
    case t_sends =>
      refine' Kl.top_mk KX G ?a ?l ?c ?k
      (case a => k_is); (case l => k_is); (case c => k_is); (case k => k_is)
    case t_send_table =>
      refine' Kl.top_mk KX G ?a ?l ?c ?k
      (case a => k_is); (case l => k_is); (case c => k_is); (case k => k_is)
    case t_all_in_group =>
      refine' Kl.top_mk KX G ?a ?l ?c ?k
      (case a => k_is); (case l => k_is); (case c => k_is); (case k => k_is)
    case t_leasts_of =>
      refine' Kl.top_mk KX G ?a ?l ?c ?k
      (case a => k_is); (case l => k_is); (case c => k_is); (case k => k_is)
    case t_senders =>
      refine' Kl.top_mk KX G ?a ?l ?c ?k
      (case a => k_is); (case l => k_is); (case c => k_is); (case k => k_is)
    case t_handed_on =>
      refine' Kl.top_mk KX G ?a ?l ?c ?k
      (case a => k_is); (case l => k_is); (case c => k_is); (case k => k_is)
    case t_handed =>
      refine' Kl.top_mk KX G ?a ?l ?c ?k
      (case a => k_is); (case l => k_is); (case c => k_is); (case k => k_is)
    case t_keys_wanted =>
      refine' Kl.top_mk KX G ?a ?l ?c ?k
      (case a => k_is); (case l => k_is); (case c => k_is); (case k => k_is)
    case t_fewest_hands =>
      refine' Kl.top_mk KX G ?a ?l ?c ?k
      (case a => k_is); (case l => k_is); (case c => k_is); (case k => k_is)
    case t_hands_for =>
      refine' Kl.top_mk KX G ?a ?l ?c ?k
      (case a => k_is); (case l => k_is); (case c => k_is); (case k => k_is)
    case t__law_box =>
      refine' Kl.top_mk KX G ?a ?l ?c ?k
      (case a => k_is); (case l => k_is); (case c => k_is); (case k => k_is)
    case t__law_take =>
      refine' Kl.top_mk KX G ?a ?l ?c ?k
      (case a => k_is); (case l => k_is); (case c => k_is); (case k => k_is)
    case t__law_cells =>
      refine' Kl.top_mk KX G ?a ?l ?c ?k
      (case a => k_is); (case l => k_is); (case c => k_is); (case k => k_is)
    case t__law_of =>
      refine' Kl.top_mk KX G ?a ?l ?c ?k
      (case a => k_is); (case l => k_is); (case c => k_is); (case k => k_is)
    case t__law_pick =>
      refine' Kl.top_mk KX G ?a ?l ?c ?k
      (case a => k_is); (case l => k_is); (case c => k_is); (case k => k_is)
    case t__law_same =>
      refine' Kl.top_mk KX G ?a ?l ?c ?k
      (case a => k_is); (case l => k_is); (case c => k_is); (case k => k_is)
    case t__law_sets =>
      refine' Kl.top_mk KX G ?a ?l ?c ?k
      (case a => k_is); (case l => k_is); (case c => k_is); (case k => k_is)
    case t__law_have =>
      refine' Kl.top_mk KX G ?a ?l ?c ?k
      (case a => k_is); (case l => k_is); (case c => k_is); (case k => k_is)
    case t__law_want =>
      refine' Kl.top_mk KX G ?a ?l ?c ?k
      (case a => k_is); (case l => k_is); (case c => k_is); (case k => k_is)
    case t__law_go =>
      refine' Kl.top_mk KX G ?a ?l ?c ?k
      (case a => k_is); (case l => k_is); (case c => k_is); (case k => k_is)
    case t__law_purse =>
      refine' Kl.top_mk KX G ?a ?l ?c ?k
      (case a => k_is); (case l => k_is); (case c => k_is); (case k => k_is)
    case t__law_table =>
      refine' Kl.top_mk KX G ?a ?l ?c ?k
      (case a => k_is); (case l => k_is); (case c => k_is); (case k => k_is)
    case t__law_lean =>
      refine' Kl.top_mk KX G ?a ?l ?c ?k
      (case a => k_is); (case l => k_is); (case c => k_is); (case k => k_is)
    case t__law_dock =>
      refine' Kl.top_mk KX G ?a ?l ?c ?k
      (case a => k_is); (case l => k_is); (case c => k_is); (case k => k_is)
    case t__law_web =>
      refine' Kl.top_mk KX G ?a ?l ?c ?k
      (case a => k_is); (case l => k_is); (case c => k_is); (case k => k_is)
    case t__law_crew =>
      refine' Kl.top_mk KX G ?a ?l ?c ?k
      (case a => k_is); (case l => k_is); (case c => k_is); (case k => k_is)
    case t__law_bits =>
      refine' Kl.top_mk KX G ?a ?l ?c ?k
      (case a => k_is); (case l => k_is); (case c => k_is); (case k => k_is)
    case t__law_passed =>
      refine' Kl.top_mk KX G ?a ?l ?c ?k
      (case a => k_is); (case l => k_is); (case c => k_is); (case k => k_is)
    case t__law_all_hands =>
      refine' Kl.top_mk KX G ?a ?l ?c ?k
      (case a => k_is); (case l => k_is); (case c => k_is); (case k => k_is)
    case t__law_step_right =>
      refine' Kl.top_mk KX G ?a ?l ?c ?k
      (case a => k_is); (case l => k_is); (case c => k_is); (case k => k_is)
    case t__law_way_right =>
      refine' Kl.top_mk KX G ?a ?l ?c ?k
      (case a => k_is); (case l => k_is); (case c => k_is); (case k => k_is)
    case t__law_by_hand_right =>
      refine' Kl.top_mk KX G ?a ?l ?c ?k
      (case a => k_is); (case l => k_is); (case c => k_is); (case k => k_is)
    case t__law_right =>
      refine' Kl.top_mk KX G ?a ?l ?c ?k
      (case a => k_is); (case l => k_is); (case c => k_is); (case k => k_is)
    case b_abs =>
      refine' PySem.W.mg_none_of KX G ?a
      (case a => k_is)
    case b_all =>
      refine' PySem.W.mg_none_of KX G ?a
      (case a => k_is)
    case b_any =>
      refine' PySem.W.mg_none_of KX G ?a
      (case a => k_is)
    case b_bool =>
      refine' PySem.W.mg_none_of KX G ?a
      (case a => k_is)
    case b_dict =>
      refine' PySem.W.mg_none_of KX G ?a
      (case a => k_is)
    case b_enumerate =>
      refine' PySem.W.mg_none_of KX G ?a
      (case a => k_is)
    case b_int =>
      refine' PySem.W.mg_none_of KX G ?a
      (case a => k_is)
    case b_isinstance =>
      refine' PySem.W.mg_none_of KX G ?a
      (case a => k_is)
    case b_len =>
      refine' PySem.W.mg_none_of KX G ?a
      (case a => k_is)
    case b_list =>
      refine' PySem.W.mg_none_of KX G ?a
      (case a => k_is)
    case b_max =>
      refine' PySem.W.mg_none_of KX G ?a
      (case a => k_is)
    case b_min =>
      refine' PySem.W.mg_none_of KX G ?a
      (case a => k_is)
    case b_range =>
      refine' PySem.W.mg_none_of KX G ?a
      (case a => k_is)
    case b_set =>
      refine' PySem.W.mg_none_of KX G ?a
      (case a => k_is)
    case b_sorted =>
      refine' PySem.W.mg_none_of KX G ?a
      (case a => k_is)
    case b_str =>
      refine' PySem.W.mg_none_of KX G ?a
      (case a => k_is)
    case b_sum =>
      refine' PySem.W.mg_none_of KX G ?a
      (case a => k_is)
    case b_tuple =>
      refine' PySem.W.mg_none_of KX G ?a
      (case a => k_is)
    case b_zip =>
      refine' PySem.W.mg_none_of KX G ?a
      (case a => k_is)
    case i_WIDE =>
      refine' Kl.int_mk KX G ?a
      (case a => k_is)
    case i_NAME =>
      refine' Kl.int_mk KX G ?a
      (case a => k_is)
    case i_SUPPLY =>
      refine' Kl.int_mk KX G ?a
      (case a => k_is)
    case i_START =>
      refine' Kl.int_mk KX G ?a
      (case a => k_is)
    case i_GOAL =>
      refine' Kl.int_mk KX G ?a
      (case a => k_is)
    case i_MOST =>
      refine' Kl.int_mk KX G ?a
      (case a => k_is)
    case i_KEY =>
      refine' Kl.int_mk KX G ?a
      (case a => k_is)
    case i_YARD =>
      refine' Kl.int_mk KX G ?a
      (case a => k_is)
