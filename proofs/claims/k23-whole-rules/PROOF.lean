import PyProof.Rows.All
import Wide.All
import OpenK.AllK
import Wide.FinOn
import HandS.ForMost
import HandS.Set
import HandS.SetFor
import HandS.SetTxt0
import HandS.Walk
import KE.GoesMore
import HandS.Evl
import HandS.Codes
import HandS.Steps
import PySem.Challenge.RW_soundturns_k23_whole_rules_and_their_mac
import HandS.TupAny
import HandS.Replace
import HandS.DictComp
import HandS.CallRecv
import HandS.EndBits
set_option Elab.async false
set_option linter.all false
set_option maxRecDepth 100000
set_option maxHeartbeats 4000000
namespace K23
abbrev Wd := List Nat
/-- the six letters by their codes -/
def abc : Wd := [97, 98, 99, 100, 101, 102]
/-- a rule: letter, new, left, right -/
structure Rl where
  c : Nat
  new : Wd
  left : List Wd
  right : List Wd
/-- what stands at a place of a word, inside or out -/
def look (w : Wd) (i : Int) : Option Nat := if i < 0 then none else w[i.toNat]?
def fitO (p : Wd) : Option Nat → Bool
  | none => decide (p = [35])
  | some c => !decide (p = [35]) && decide (c ∈ p)
def fit (p w : Wd) (i : Int) : Bool := fitO p (look w i)
def fitsL : List Wd → Wd → Int → Bool
  | [], _, _ => true
  | p :: ps, w, i => fit p w i && fitsL ps w (i + 1)
def isThere (r : Rl) (w : Wd) (a : Int) : Bool :=
  decide (look w a = some r.c) && (fitsL r.left w (a - (r.left.length : Int)) && fitsL r.right w (a + 1))
def becomes (r : Rl) (w : Wd) (a : Int) : Wd := if isThere r w a = true then r.new else (look w a).toList
/-- what becomes of n letters from the index i on -/
def seg (r : Rl) (w : Wd) (i n : Nat) : Wd := ((List.range n).map fun (j : Nat) => becomes r w ((i : Int) + (j : Int))).flatten
def made (r : Rl) (w : Wd) : Wd := seg r w 0 w.length

theorem look_nat (w : Wd) (i : Nat) : look w (i : Int) = w[i]? := by
  unfold look
  rw [if_neg (by omega), Int.toNat_natCast]
theorem look_neg {w : Wd} {i : Int} (h : i < 0) : look w i = none := by
  unfold look
  rw [if_pos h]
theorem look_out {w : Wd} {i : Int} (h : (w.length : Int) ≤ i) : look w i = none := by
  unfold look
  rw [if_neg (by omega)]
  exact List.getElem?_eq_none (by omega)
theorem look_in {w : Wd} {i : Int} (h0 : 0 ≤ i) (h1 : i < (w.length : Int)) : look w i = some (w[i.toNat]'(by omega)) := by
  unfold look
  rw [if_neg (by omega)]
  exact List.getElem?_eq_getElem (by omega)
theorem look_app {w u : Wd} {i : Int} (h1 : i < (w.length : Int)) : look (w ++ u) i = look w i := by
  by_cases h : i < 0
  · rw [look_neg h, look_neg h]
  · unfold look
    rw [if_neg h, if_neg h]
    exact List.getElem?_append_left (by omega)
theorem look_pre {p w : Wd} {i : Int} (h0 : 0 ≤ i) : look (p ++ w) (i + (p.length : Int)) = look w i := by
  unfold look
  rw [if_neg (by omega), if_neg (by omega)]
  rw [List.getElem?_append_right (by omega)]
  congr 1
  omega

theorem fitsL_iff : ∀ (ps : List Wd) (w : Wd) (i : Int), fitsL ps w i = true ↔ ∀ (j : Nat) (p : Wd), ps[j]? = some p → fit p w (i + (j : Int)) = true
  | [], w, i => by simp [fitsL]
  | p :: ps, w, i => by
    unfold fitsL
    rw [Bool.and_eq_true, fitsL_iff ps w (i + 1)]
    constructor
    · rintro ⟨h1, h2⟩ j q hq
      cases j with
      | zero =>
        simp at hq
        subst hq
        simpa using h1
      | succ j =>
        have := h2 j q (by simpa using hq)
        have e : i + ((j + 1 : Nat) : Int) = i + 1 + (j : Int) := by omega
        rw [e]
        exact this
    · intro h
      refine ⟨by simpa using h 0 p (by simp), fun j q hq => ?_⟩
      have := h (j + 1) q (by simpa using hq)
      have e : i + ((j + 1 : Nat) : Int) = i + 1 + (j : Int) := by omega
      rw [e] at this
      exact this
theorem fitsL_congr {w w' : Wd} : ∀ (ps : List Wd) (i i' : Int), (∀ j : Nat, j < ps.length → look w (i + (j : Int)) = look w' (i' + (j : Int))) → fitsL ps w i = fitsL ps w' i'
  | [], _, _, _ => rfl
  | p :: ps, i, i', h => by
    unfold fitsL
    have h0 := h 0 (by simp)
    simp at h0
    rw [fitsL_congr ps (i + 1) (i' + 1) fun j hj => by
      have := h (j + 1) (by simpa using hj)
      have e : i + ((j + 1 : Nat) : Int) = i + 1 + (j : Int) := by omega
      have e' : i' + ((j + 1 : Nat) : Int) = i' + 1 + (j : Int) := by omega
      rw [e, e'] at this
      exact this]
    unfold fit
    rw [h0]
/-- a rule looks at few places alone -/
theorem isThere_local {r : Rl} {w w' : Wd} {a a' : Int}
    (h : ∀ p : Int, -(r.left.length : Int) ≤ p → p ≤ (r.right.length : Int) → look w (a + p) = look w' (a' + p)) : isThere r w a = isThere r w' a' := by
  unfold isThere
  have h0 := h 0 (by omega) (by omega)
  simp at h0
  rw [h0]
  congr 2
  · refine fitsL_congr _ _ _ fun j hj => ?_
    have := h (-(r.left.length : Int) + (j : Int)) (by omega) (by omega)
    have e : a - (r.left.length : Int) + (j : Int) = a + (-(r.left.length : Int) + (j : Int)) := by omega
    have e' : a' - (r.left.length : Int) + (j : Int) = a' + (-(r.left.length : Int) + (j : Int)) := by omega
    rw [e, e']
    exact this
  · refine fitsL_congr _ _ _ fun j hj => ?_
    have := h (1 + (j : Int)) (by omega) (by omega)
    have e : a + 1 + (j : Int) = a + (1 + (j : Int)) := by omega
    have e' : a' + 1 + (j : Int) = a' + (1 + (j : Int)) := by omega
    rw [e, e']
    exact this
theorem becomes_local {r : Rl} {w w' : Wd} {a a' : Int}
    (h : ∀ p : Int, -(r.left.length : Int) ≤ p → p ≤ (r.right.length : Int) → look w (a + p) = look w' (a' + p)) : becomes r w a = becomes r w' a' := by
  unfold becomes
  have h0 := h 0 (by omega) (by omega)
  simp at h0
  rw [isThere_local h, h0]

/-! ### windows -/
def lastn (n : Nat) (w : Wd) : Wd := w.drop (w.length - n)
theorem lastn_len (n : Nat) (w : Wd) : (lastn n w).length = min n w.length := by
  unfold lastn
  rw [List.length_drop]
  omega
theorem lastn_split (n : Nat) (w : Wd) : w = w.take (w.length - n) ++ lastn n w := (List.take_append_drop _ _).symm
theorem lastn_snoc (n : Nat) (v : Wd) (c : Nat) : lastn n (lastn n v ++ [c]) = lastn n (v ++ [c]) := by
  have hv := lastn_split n v
  have hl := lastn_len n v
  have hp : (v.take (v.length - n)).length = v.length - n := by rw [List.length_take]; omega
  generalize lastn n v = s at hv hl ⊢
  generalize v.take (v.length - n) = p at hv hp
  unfold lastn
  rw [hv, List.append_assoc]
  have hL : v.length = p.length + s.length := by rw [hv, List.length_append]
  have e : (p ++ (s ++ [c])).length - n = p.length + ((s ++ [c]).length - n) := by
    simp only [List.length_append, List.length_cons, List.length_nil]
    omega
  rw [e, ← List.drop_drop, List.drop_left]
/-- entry: the letter that is due -/
def outOf (r : Rl) (s : Wd) (c : Nat) : Wd := if r.right.length ≤ s.length then becomes r (s ++ [c]) ((s.length : Int) - (r.right.length : Int)) else []
/-- what is written at the end -/
def lastOf (r : Rl) (s : Wd) : Wd := seg r s (s.length - r.right.length) (s.length - (s.length - r.right.length))
abbrev sizeOf (r : Rl) : Nat := r.left.length + r.right.length

theorem out_eq {r : Rl} (v u : Wd) (c : Nat) (h : r.right.length ≤ v.length) :
    outOf r (lastn (sizeOf r) v) c = becomes r (v ++ (c :: u)) (((v.length - r.right.length : Nat) : Int) + ((0 : Nat) : Int)) := by
  have hv := lastn_split (sizeOf r) v
  have hl := lastn_len (sizeOf r) v
  have hp : (v.take (v.length - sizeOf r)).length = v.length - sizeOf r := by rw [List.length_take]; omega
  generalize lastn (sizeOf r) v = s at hv hl ⊢
  generalize v.take (v.length - sizeOf r) = p at hv hp
  have hL : v.length = p.length + s.length := by rw [hv, List.length_append]
  have hz : sizeOf r = r.left.length + r.right.length := rfl
  unfold outOf
  rw [if_pos (by omega)]
  refine becomes_local fun q q1 q2 => ?_
  have e2 : v ++ c :: u = p ++ ((s ++ [c]) ++ u) := by rw [hv]; simp
  rw [e2]
  by_cases hq : (s.length : Int) - (r.right.length : Int) + q < 0
  · rw [look_neg hq, look_neg (by omega)]
  · have e3 : ((v.length - r.right.length : Nat) : Int) + ((0 : Nat) : Int) + q = ((s.length : Int) - (r.right.length : Int) + q) + (p.length : Int) := by omega
    rw [e3, look_pre (by omega)]
    refine (look_app ?_).symm
    rw [List.length_append, List.length_cons, List.length_nil]
    omega
theorem last_eq {r : Rl} (v : Wd) : lastOf r (lastn (sizeOf r) v) = seg r v (v.length - r.right.length) (v.length - (v.length - r.right.length)) := by
  have hv := lastn_split (sizeOf r) v
  have hl := lastn_len (sizeOf r) v
  have hp : (v.take (v.length - sizeOf r)).length = v.length - sizeOf r := by rw [List.length_take]; omega
  generalize lastn (sizeOf r) v = s at hv hl ⊢
  generalize v.take (v.length - sizeOf r) = p at hv hp
  have hL : v.length = p.length + s.length := by rw [hv, List.length_append]
  have hz : sizeOf r = r.left.length + r.right.length := rfl
  unfold lastOf seg
  have en : s.length - (s.length - r.right.length) = v.length - (v.length - r.right.length) := by omega
  rw [en]
  congr 1
  refine List.map_congr_left fun j hj => ?_
  have hj' : j < v.length - (v.length - r.right.length) := by simpa using hj
  refine becomes_local fun q q1 q2 => ?_
  by_cases hq : ((s.length - r.right.length : Nat) : Int) + (j : Int) + q < 0
  · rw [look_neg hq, look_neg (by omega)]
  · have e3 : ((v.length - r.right.length : Nat) : Int) + (j : Int) + q = (((s.length - r.right.length : Nat) : Int) + (j : Int) + q) + (p.length : Int) := by omega
    rw [e3]
    conv => rhs; rw [hv]
    rw [look_pre (by omega)]
theorem seg_cons (r : Rl) (w : Wd) (i n : Nat) : seg r w i (n + 1) = becomes r w ((i : Int) + ((0 : Nat) : Int)) ++ seg r w (i + 1) n := by
  unfold seg
  rw [List.range_succ_eq_map, List.map_cons, List.flatten_cons, List.map_map]
  congr 3
  funext j
  show becomes r w ((i : Int) + ((j + 1 : Nat) : Int)) = becomes r w (((i + 1 : Nat) : Int) + (j : Int))
  congr 1
  omega
theorem seg_add (r : Rl) (w : Wd) : ∀ (n i m : Nat), seg r w i (n + m) = seg r w i n ++ seg r w (i + n) m
  | 0, i, m => by simp [seg]
  | n + 1, i, m => by
    rw [show n + 1 + m = (n + m) + 1 by omega, seg_cons, seg_cons, seg_add r w n (i + 1) m, List.append_assoc, show i + 1 + n = i + (n + 1) by omega]
theorem seg_succ (r : Rl) (w : Wd) (i n : Nat) : seg r w i (n + 1) = seg r w i n ++ becomes r w ((i : Int) + (n : Int)) := by
  rw [seg_add r w n i 1]
  congr 1
  unfold seg
  simp
theorem seg_pre {r : Rl} {v u : Wd} {i n : Nat} (h : i + n + r.right.length ≤ v.length) : seg r (v ++ u) i n = seg r v i n := by
  unfold seg
  congr 1
  refine List.map_congr_left fun j hj => ?_
  have hj' : j < n := by simpa using hj
  refine becomes_local fun q q1 q2 => ?_
  exact look_app (by omega)

/-! ### machines -/
abbrev Rows := List (Wd × List (Wd × Nat))
def stepM (rows : Rows) (s c : Nat) : Wd × Nat := ((rows.getD s ([], [])).2).getD (abc.idxOf c) ([], 0)
def walkM (rows : Rows) : Nat → Wd → Wd × Nat
  | s, [] => ([], s)
  | s, c :: w => ((stepM rows s c).1 ++ (walkM rows (stepM rows s c).2 w).1, (walkM rows (stepM rows s c).2 w).2)
def lastM (rows : Rows) (s : Nat) : Wd := (rows.getD s ([], [])).1
/-- a word over the first k letters -/
def Ov (k : Nat) (w : Wd) : Prop := ∀ c ∈ w, c ∈ abc.take k
/-- the rows of a rule's machine over the states' words -/
structure Good (r : Rl) (k : Nat) (ws : List Wd) (rows : Rows) : Prop where
  len : rows.length = ws.length
  start : ws[0]? = some []
  last : ∀ (i : Nat) (s : Wd), ws[i]? = some s → lastM rows i = lastOf r s
  ent : ∀ (i : Nat) (s : Wd) (c : Nat), ws[i]? = some s → c ∈ abc.take k → (stepM rows i c).1 = outOf r s c ∧ ws[(stepM rows i c).2]? = some (lastn (sizeOf r) (s ++ [c]))
theorem walk_good {r : Rl} {k : Nat} {ws : List Wd} {rows : Rows} (G : Good r k ws rows) : ∀ (w v : Wd) (st : Nat), Ov k w → ws[st]? = some (lastn (sizeOf r) v) →
    (walkM rows st w).1 = seg r (v ++ w) (v.length - r.right.length) ((v.length + w.length - r.right.length) - (v.length - r.right.length)) ∧ ws[(walkM rows st w).2]? = some (lastn (sizeOf r) (v ++ w))
  | [], v, st, _, h => by
    refine ⟨?_, by simpa [walkM] using h⟩
    simp [walkM, seg]
  | c :: w, v, st, hw, h => by
    obtain ⟨e1, e2⟩ := G.ent st _ c h (hw c (by simp))
    rw [lastn_snoc] at e2
    obtain ⟨i1, i2⟩ := walk_good G w (v ++ [c]) (stepM rows st c).2 (fun d hd => hw d (by simp [hd])) e2
    rw [List.append_assoc] at i1 i2
    refine ⟨?_, i2⟩
    show (stepM rows st c).1 ++ (walkM rows (stepM rows st c).2 w).1 = _
    rw [i1, e1]
    simp only [List.length_append, List.length_cons, List.length_nil, List.singleton_append]
    by_cases hr : r.right.length ≤ v.length
    · rw [out_eq v w c hr]
      rw [show v.length + (0 + 1) - r.right.length = (v.length - r.right.length) + 1 by omega]
      rw [show v.length + (w.length + 1) - r.right.length - (v.length - r.right.length) = (v.length + (0 + 1) + w.length - r.right.length - (v.length - r.right.length + 1)) + 1 by omega]
      rw [seg_cons]
    · have hl := lastn_len (sizeOf r) v
      have hz : sizeOf r = r.left.length + r.right.length := rfl
      have z : outOf r (lastn (sizeOf r) v) c = [] := by
        unfold outOf
        rw [if_neg (by omega)]
      rw [z, List.nil_append]
      rw [show v.length + (0 + 1) - r.right.length = v.length - r.right.length by omega]
      rw [show v.length + (0 + 1) + w.length = v.length + (w.length + 1) by omega]
/-- the form of a word by the rule's machine -/
theorem form_made {r : Rl} {k : Nat} {ws : List Wd} {rows : Rows} (G : Good r k ws rows) {w : Wd} (hw : Ov k w) :
    (walkM rows 0 w).1 ++ lastM rows (walkM rows 0 w).2 = made r w := by
  obtain ⟨h1, h2⟩ := walk_good G w [] 0 hw (by rw [G.start]; simp [lastn])
  rw [List.nil_append] at h1 h2
  rw [h1, G.last _ _ h2, last_eq]
  simp only [List.length_nil, Nat.zero_add, Nat.zero_sub, Nat.sub_zero]
  unfold made
  conv => rhs; rw [show w.length = (w.length - r.right.length) + (w.length - (w.length - r.right.length)) by omega]
  rw [seg_add, Nat.zero_add]
/-- what is written behind a word -/
theorem written_made {r : Rl} {k : Nat} {ws : List Wd} {rows : Rows} (G : Good r k ws rows) {w : Wd} (u : Wd) (hw : Ov k w) :
    (walkM rows 0 w).1 = seg r (w ++ u) 0 (w.length - r.right.length) := by
  obtain ⟨h1, _⟩ := walk_good G w [] 0 hw (by rw [G.start]; simp [lastn])
  rw [List.nil_append] at h1
  rw [h1]
  simp only [List.length_nil, Nat.zero_add, Nat.zero_sub, Nat.sub_zero]
  by_cases h : r.right.length ≤ w.length
  · exact (seg_pre (by omega)).symm
  · rw [show w.length - r.right.length = 0 by omega]
    rfl
end K23


/-! set(text) and sorted(set of texts) over the layer; list(text). -/
namespace K23
open PySem PySem.Spec PyProof.Rows L2 PySem.Froz

structure SetTx (P : Program) (w : World) (D : SD) (l : List Str) : Prop where
  ok : TxOk P w D l
  perm : (D.1.toList.map fun e => strOf e.2).Perm l
  ris : Ris D.2.2.place.toList
  led : w.params.followText "set-order" = true ∨ D.2.2.led = true

section
variable {P : Program} {w : World}
theorem setTx_tail {ep : Nat} {es1 : Array (Int × Value)} {t2 : SetTable} {wd : Bool} {l : List Str} (F : SetTx P w (es1, ep, t2) l) : SetTx P w (tailTx ep es1 t2 wd) l := by
  unfold tailTx
  by_cases c : (!wd && t2.tooFull) = true
  · rw [if_pos c]
    refine ⟨F.ok.perm (relayAll_perm t2 es1 _) (relayAll_fits t2 es1 _), ((relayAll_perm t2 es1 _).map _).trans F.perm, relayAll_ris t2 es1 _, ?_⟩
    rcases F.led with h | h
    · exact .inl h
    · exact .inr ((relayAll_led t2 es1 _).trans h)
  · rw [if_neg c]
    exact ⟨⟨F.ok.el, F.ok.mem, F.ok.sz, F.ok.fit⟩, F.perm, F.ris, F.led⟩
theorem setTx_add {D : SD} {l : List Str} {k : Str} (u : Tok) (F : SetTx P w D l) : SetTx P w (addTx (hashStr w k) (.str k u) D) (k :: l) := by
  obtain ⟨es, ep, t⟩ := D
  have hp := layNew_perm t es (hashStr w k) (.str k u)
  have hf := layNew_fits t es (hashStr w k) (.str k u)
  have hr := layNew_ris t es (hashStr w k) (.str k u) F.ris
  have hl := layNew_led t es (hashStr w k) (.str k u)
  show SetTx P w (tailTx ep (layNew t es (hashStr w k) (.str k u)).1 (if (layNew t es (hashStr w k) (.str k u)).2.1.plain = true then { (layNew t es (hashStr w k) (.str k u)).2.1 with plain := false } else (layNew t es (hashStr w k) (.str k u)).2.1) (layNew t es (hashStr w k) (.str k u)).2.2.1) (k :: l)
  refine setTx_tail ⟨F.ok.push hp ?_, ?_, ?_, ?_⟩
  · split
    · exact SetTable.fits_plain_off hf
    · exact hf
  · have q := hp.map fun e => strOf e.2
    rw [Array.toList_push, List.map_append] at q
    exact q.trans ((List.perm_append_singleton _ _).trans (F.perm.cons k))
  · show Ris (if _ then _ else _ : SetTable).place.toList
    split
    · exact hr
    · exact hr
  · rcases F.led with h | h
    · exact .inl h
    · refine .inr ?_
      show (if _ then _ else _ : SetTable).led = true
      split
      · exact hl.trans h
      · exact hl.trans h
theorem setTx_run : ∀ (cs : List Nat) (tk : Tok) (D : SD) (l : List Str), SetTx P w D l → SetTx P w (runD w cs tk D) ((cs.map sing).reverse ++ l)
  | [], _, D, l, F => F
  | c :: r, tk, D, l, F => by
    have q := setTx_run r (tk + 2) _ (sing c :: l) (setTx_add (k := sing c) tk F)
    rw [List.map_cons, List.reverse_cons, List.append_assoc]
    exact q
end
section
variable {P : Program} {w : World} {A : Around} {E : Value → Shared → Prop} {s : Shared}

theorem two_at {h : Heap} {a b : Addr} {X Y o : Obj} (hne : a ≠ b) (ho : h.get? a = some o) (hX : X.isFreed = false) : (two h a X b Y).get? a = some X := by
  unfold two
  exact PySem.Heap.get?_update_of_ne _ (Ne.symm hne) (get_upd X ho hX)
theorem two_old {h : Heap} {a b c : Addr} {X Y o : Obj} (ha : c ≠ a) (hb : c ≠ b) (ho : h.get? c = some o) : (two h a X b Y).get? c = some o := by
  unfold two
  exact PySem.Heap.get?_update_of_ne _ (Ne.symm hb) (PySem.Heap.get?_update_of_ne _ (Ne.symm ha) ho)
set_option maxHeartbeats 3200000 in
/-- set(x), x of unlike ASCII signs -/
theorem call_set_text {x : Str} {u : Tok} {Q : Value → Shared → Prop} (hh : A.handled = none) (ha : x.cps.all (· < 128) = true) (hnd : x.cps.toList.Nodup) (hb : x.cps.toList.length < 4000)
    (h : ∀ (h' : Heap) (tk : Nat) (D : SD), h'.get? s.heap.objs.size = some (sObj "set" D) → SetTx P w D (x.cps.toList.map sing).reverse → (∀ b o, s.heap.get? b = some o → h'.get? b = some o) → Q (.ref s.heap.objs.size) { s with heap := h', toks := tk }) :
    wpAny (model P w) A (call (.type "set") [.str x u]) Q E s := by
  obtain ⟨c, tl, hmro⟩ := PySem.F.called_set.mro
  have hmade := PySem.F.called_set.made
  have hsub := PySem.F.called_set.sub
  refine wpAny_call (codeAny_of_tree ?_)
  show wpAny _ _ (callAny (.type "set") _) _ _ _
  refine wpAny_pure ⟨Code.quiet_builtin _ (by decide +kernel), codeAny_builtin PySem.F.entry_type_call ?_⟩
  rw [Around.under_plain (weight_type_call_type "set" [.str x u] []) rfl]
  have h1 := PySem.F.called_set.notType
  have h2 := PySem.F.called_set.canCreate
  have hct := PySem.F.typeCall_set_1 (.str x u)
  repeat (any_goals (first | assumption | wp_step))
  refine codeAny_mono (code_set_led1 (.str x u) (E := E) (Q₁ := fun obj s₁ => obj = .ref s.heap.objs.size ∧ s₁ = { s with heap := s.heap.push { cls := .type "set", dict := none, data := .set #[] 0 (.fresh 0 0 (!w.params.followText "set-order")) } }) ⟨rfl, rfl⟩) fun r s₁ hr => ?_
  cases r with
  | error e => exact hr
  | ok fl =>
    cases fl with
    | ret obj =>
      obtain ⟨rfl, rfl⟩ := hr
      have hS : (s.heap.push { cls := .type "set", dict := none, data := .set #[] 0 (.fresh 0 0 (!w.params.followText "set-order")) }).get? s.heap.objs.size = some { cls := .type "set", dict := none, data := .set #[] 0 (.fresh 0 0 (!w.params.followText "set-order")) } := Heap.get?_push_size _ rfl
      have hT : Shared.TypeIs { s with heap := s.heap.push { cls := .type "set", dict := none, data := .set #[] 0 (.fresh 0 0 (!w.params.followText "set-order")) } } (.ref s.heap.objs.size) "set" := ⟨_, hS, rfl⟩
      have hli := PySem.F.called_set.init.lookup
      have hbi := PySem.F.called_set.init.bind (.ref s.heap.objs.size)
      repeat (any_goals (first | assumption | wp_step))
      refine codeAny_mono (codeAny_call_builtin (R := wants (fun r s₂ => r = .none ∧ ∃ h' tk D, s₂ = { s with heap := h', toks := tk } ∧ h'.get? s.heap.objs.size = some (sObj "set" D) ∧ SetTx P w D (x.cps.toList.map sing).reverse ∧
          (∀ b o, s.heap.get? b = some o → h'.get? b = some o)) E) PySem.F.called_set.init.plain PySem.F.entry_set_init (check_set_init_1 hT ?_)) fun r₂ s₂ hr₂ => ?_
      · have hsls := PySem.F.sub_str_set
        have hslf := PySem.F.sub_str_frozenset
        have hne : (Value.type "str" == Value.type "dict") = false := by decide
        unfold Builtin.«set.__init__» noKeywords Builtin.Frozenset.updateFrom
        generalize hPI : pyIter = PI
        wp_walk
        subst hPI
        refine wpAny_pyIter_ascii ha ?_
        refine wpAny_bind (wpAny_runValue ?_)
        have hh3 : A.in1.in1.handled = none := by simp [hh]
        have hz1 : (s.heap.push { cls := .type "set", dict := none, data := .set #[] 0 (.fresh 0 0 (!w.params.followText "set-order")) }).objs.size = s.heap.objs.size + 1 := Heap.size_push ..
        have hne2 : s.heap.objs.size ≠ (s.heap.push { cls := .type "set", dict := none, data := .set #[] 0 (.fresh 0 0 (!w.params.followText "set-order")) }).objs.size := by rw [hz1]; omega
        refine code_update (T := "set") (x := x) (u := u) hne2 hh3 x.cps.toList 0 (#[], 0, .fresh 0 0 (!w.params.followText "set-order")) [] { s with heap := (s.heap.push { cls := .type "set", dict := none, data := .set #[] 0 (.fresh 0 0 (!w.params.followText "set-order")) }).push (itObj x u 0) } (by simp) (by exact Heap.get?_push_of_some _ hS) (by exact Heap.get?_push_size _ rfl)
          (TxOk.nil (by rfl)) (fun c _ hm => by cases hm) hnd (by unfold scanBound; simp only [List.length_nil]; omega) ?_
        have hRun := setTx_run (P := P) (w := w) x.cps.toList s.toks (#[], 0, .fresh 0 0 (!w.params.followText "set-order")) [] ⟨TxOk.nil (by rfl), List.Perm.refl _, List.Pairwise.nil, by
          cases w.params.followText "set-order"
          · exact .inr rfl
          · exact .inl rfl⟩
        rw [List.append_nil] at hRun
        show wpAny _ _ _ _ _ _
        refine wpAny_pure ?_
        show wpAny _ _ (ret Value.none) _ _ _
        refine wpAny_pure ⟨rfl, _, _, _, rfl, ?_, hRun, fun b o e => ?_⟩
        · exact Heap.get?_push_of_some _ (Heap.get?_push_of_some _ (two_at hne2 (Heap.get?_push_of_some _ hS) rfl))
        · have hlt := Heap.lt_size e
          exact Heap.get?_push_of_some _ (Heap.get?_push_of_some _ (two_old (Nat.ne_of_lt hlt) (by rw [hz1]; exact Nat.ne_of_lt (Nat.lt_succ_of_lt hlt)) (Heap.get?_push_of_some _ (Heap.get?_push_of_some _ e))))
      · cases r₂ with
        | error e => exact hr₂
        | ok fl₂ =>
          cases fl₂ with
          | ret r =>
            obtain ⟨rfl, h', tk, D, rfl, hS', g', hk'⟩ := hr₂
            repeat (any_goals (first | assumption | wp_step))
            exact h _ _ _ hS' g' hk'
          | _ => exact hr₂.elim
    | _ => exact hr.elim
/-- sorted(set) -/
theorem sorted_setTx {a : Addr} {D : SD} {l : List Str} {Q : Value → Shared → Prop} (ho : s.heap.get? a = some (sObj "set" D)) (F : SetTx P w D l) (hh : A.handled = none) (h64 : l.length < 64)
    (hQ : ∀ s' p (out : Array Value) (c : Nat) (ys : List Str), (∀ b o, s.heap.get? b = some o → s'.heap.get? b = some o) → s'.gens = s.gens → s'.os = s.os → s.heap.objs.size ≤ p →
      s'.heap.get? p = some (seqObj "list" out c) → StrsAre out.toList ys → ys.Perm l → sortedS ys = true → Q (.ref p) s') :
    wpAny (model P w) A (call (.builtin "sorted") [.ref a]) Q E s := by
  obtain ⟨es, ep, t⟩ := D
  have hsz : es.size = l.length := F.ok.sz
  refine Calls.call_function_entry kind_sorted plain_sorted entry_sorted (args_sorted1 _) ?_
  unfold Builtin.«sorted»
  refine wpAny_bind (m := checkCount "sorted" 1 1 _) (wpAny_pure ?_)
  refine wpAny_bind (collect_set (A := A.in1) hh ⟨_, ho, rfl, rfl⟩ F.ok.fit (by rw [hsz]; unfold scanBound; omega) F.ris F.led fun s1 vs k1 hz g1 o1 pm => ?_)
  have hvl : vs.length = l.length := by rw [pm.length_eq, List.length_map, Array.length_toList]; exact hsz
  have hall : ∀ v, v ∈ vs → ∃ x u, v = .str x u := fun v hv => by
    obtain ⟨e, he, q⟩ := List.mem_map.mp (pm.mem_iff.mp hv)
    obtain ⟨⟨k, h1, _⟩, _⟩ := F.ok.el e he
    rw [← q]
    obtain ⟨u, e2⟩ := Value.isStrOf_shape (x := k) (v := e.2) h1
    exact ⟨k, u, e2⟩
  have hI : StrsAre vs (vs.map strOf) := strsAre_map vs hall
  have pk : (vs.map strOf).Perm l := by
    have q := pm.map strOf
    rw [List.map_map] at q
    exact q.trans F.perm
  refine wpAny_bind (wpAny_newList ?_ (by rw [hvl, sizeLine_eq]; omega))
  have hoL : (s1.heap.push (seqObj "list" vs.toArray 0)).get? s1.heap.objs.size = some (seqObj "list" vs.toArray 0) := Heap.get?_push_size _ rfl
  refine wpAny_bind (wpAny_holding (wpAny_call_entry slot_list_sort ⟨_, hoL, rfl⟩ entry_list_sort (list_sort_treeK strKind_oneLt hoL hI.keysOf (fun v₁ v₂ rest e => keyKind_strs (by rw [← e]; exact hI)) (by rw [hvl]; exact h64) fun st' hp hs => ⟨_, rfl, ?_⟩) (args_list_sort _)))
  obtain ⟨ss', a1, a2, a3⟩ := sorted_out_str hI hp hs
  obtain ⟨c, hc⟩ := sortedHeap_at (vs := vs) (out := (arrOf st').map (·.2)) hoL
  refine wpAny_pure ⟨_, rfl, hQ _ s1.heap.objs.size _ c ss' (fun b u e => ?_) g1 o1 hz hc a1 (a2.trans pk) a3⟩
  have q := k1 b u e
  have hlt := Heap.lt_size q
  show (sortedHeap (s1.heap.push (seqObj "list" vs.toArray 0)) s1.heap.objs.size vs _).get? b = some u
  rw [sortedHeap_old (Nat.ne_of_lt hlt) (by rw [size_push']; exact Nat.lt_succ_of_lt hlt)]
  exact Heap.get?_push_of_some _ q
end

/-! ### over the layer -/
def SetXO (P : Program) (w : World) (a : Addr) (l : List Str) : HO := .ext fun h => ∃ D, h.get? a = some (sObj "set" D) ∧ SetTx P w D l
section
variable {X : Cx}
def rSetX (P : Program) (w : World) : List V → Hp → VK → Prop := fun xs H Q => ∃ z : Str, xs = [.str z] ∧ z.cps.all (· < 128) = true ∧ z.cps.toList.Nodup ∧ z.cps.toList.length < 4000 ∧
  ∀ p, H p = none → Q (.ref p) (upd H p (SetXO P w p (z.cps.toList.map sing).reverse))
theorem cr_setX (hc : X.calm = true) : CallR X (.type "set") (rSetX X.prog X.w) := by
  intro pins s σ H xs us Q I r h
  obtain ⟨z, rfl, ha, hnd, hb, q⟩ := h
  obtain ⟨u, rfl, ru⟩ := vals1 r
  obtain ⟨tk0, rfl⟩ := ru
  have hn : H s.heap.objs.size = none := I.hok.fresh (Nat.le_refl _)
  refine call_set_text (P := X.prog) (w := X.w) (I.ok.hd hc) ha hnd hb fun h' tk D hD F k => ?_
  refine ⟨.ref s.heap.objs.size, upd H s.heap.objs.size (SetXO X.prog X.w s.heap.objs.size (z.cps.toList.map sing).reverse), I.laid (t' := tk) k (Nat.le_refl _) ?_, rfl, q _ hn⟩
  exact ⟨⟨D, hD, F⟩, ⟨_, hD⟩, fun h1 h2 ⟨D', hD', F'⟩ k' => ⟨D', k' _ hD', F'⟩⟩
def rSortX (P : Program) (w : World) : List V → Hp → VK → Prop := fun vs H Q => ∃ (a : Addr) (l : List Str), vs = [V.ref a] ∧ H a = some (SetXO P w a l) ∧ l.length < 64 ∧
  ∀ (ys : List Str) (p : Addr), ys.Perm l → sortedS ys = true → H p = none → Q (.ref p) (upd H p (.lst (ys.map V.str)))
theorem cr_sortX (hc : X.calm = true) : CallR X (.builtin "sorted") (rSortX X.prog X.w) := by
  intro pins s σ H vs us Q I r h
  obtain ⟨a, l, rfl, ha, h64, q⟩ := h
  obtain ⟨⟨D, hD, F⟩, _⟩ : ObjOk X.prog X.w H s.heap a (SetXO X.prog X.w a l) := I.hok a _ ha
  rw [Vals.ref1 r]
  refine sorted_setTx hD F (I.ok.hd hc) h64 fun s' p out c ys k g o hp hg hi hpm hs => ?_
  have hlen : (ys.map V.str).length ≤ sizeLine := by rw [List.length_map, hpm.length_eq, sizeLine_eq]; omega
  have hn : H p = none := I.hok.fresh hp
  have J : Inv X pins σ (upd H p (.lst (ys.map V.str))) { s with heap := s'.heap, gens := s'.gens, drawn := s'.drawn, toks := s'.toks } :=
    I.call (ch := []) (Un.laid k hp hn) (I.hok.laid k hp ⟨hlen, out.toList, c, vals_of_strs hi, hg⟩) (by rw [g]; exact I.bare) (fun _ z => nomatch z)
  have e : s' = { s with heap := s'.heap, gens := s'.gens, drawn := s'.drawn, toks := s'.toks } := by
    cases s'
    cases s
    cases o
    rfl
  rw [e]
  exact ⟨.ref p, _, J, rfl, q ys p hpm hs hn⟩
/-- list(text) -/
def rListX : List V → Hp → VK → Prop := fun xs H Q => ∃ z : Str, xs = [.str z] ∧ z.cps.toList.length ≤ sizeLine ∧ ∀ p, H p = none → Q (.ref p) (upd H p (.lst (z.cps.toList.map fun c => V.str (sing c))))
theorem cr_listX (hc : X.calm = true) : CallR X (.type "list") rListX := by
  intro pins s σ H xs us Q I r h
  obtain ⟨z, rfl, hz, q⟩ := h
  obtain ⟨u, rfl, ru⟩ := vals1 r
  obtain ⟨tk0, rfl⟩ := ru
  have hn : H s.heap.objs.size = none := I.hok.fresh (Nat.le_refl _)
  refine call_list_str (I.ok.hd hc) z tk0 (hn := by simpa using hz) fun h' tk acc c k hg hi => ?_
  refine ⟨.ref s.heap.objs.size, upd H s.heap.objs.size (.lst (z.cps.toList.map fun c => V.str (sing c))), I.laid (t' := tk) k (Nat.le_refl _) ⟨by rw [List.length_map]; exact hz, acc.toList, c, ?_, hg⟩, rfl, q _ hn⟩
  have aux : ∀ (cs : List Nat) (vs : List Value), vs.length = cs.length → (∀ (i : Nat) (v : Value), vs[i]? = some v → ∃ c u, cs[i]? = some c ∧ v = .str ⟨#[c]⟩ u) → Vals (cs.map fun c => V.str (sing c)) vs := by
    intro cs
    induction cs with
    | nil =>
      intro vs hl _
      cases vs with
      | nil => exact .nil
      | cons _ _ => simp at hl
    | cons c cs ih =>
      intro vs hl hv
      cases vs with
      | nil => simp at hl
      | cons v vs =>
        obtain ⟨c', u, h1, h2⟩ := hv 0 v rfl
        have e1 : c = c' := by simpa using h1
        subst e1
        exact .cons ⟨u, h2⟩ (ih vs (by simpa using hl) fun i v' hv' => by simpa using hv (i + 1) v' (by simpa using hv'))
  refine aux _ _ (by simp [hi.1]) fun i v hv => ?_
  obtain ⟨c', u, h1, h2⟩ := hi.2 i v (by simpa using hv)
  exact ⟨c', u, by simpa using h1, h2⟩
end
end K23


/-! enumerate(tuple) as what a for or a comprehension walks. -/
namespace K23
open PySem PySem.Spec PyProof.Rows L2
open AutoSeq1 (wpAny_loadPart')

theorem meets_enumT (l : Addr) (items : Array Value) (n : Nat) (dct : Option Addr) (sl : Array (Option Value)) :
    Meets (Builtin.«enumerate.__new__» ⟨[.type "enumerate", .ref l], []⟩) (fun _ R s => s.heap.get? l = some { cls := .type "tuple", dict := dct, data := .seq items n, slots := sl } ∧
      R (.ok (.ret (.ref (s.heap.push { cls := .type "tuple_iterator", data := .fields #[.ref l, .int 0 0] }).objs.size)))
        { s with heap := (s.heap.push { cls := .type "tuple_iterator", data := .fields #[.ref l, .int 0 0] }).push { cls := .type "enumerate", data := .fields #[.none, .bool false, .ref s.heap.objs.size, rawInt 0, .none, .none] } }) :=
  .of_wp fun prog w A R s h => by
    obtain ⟨hp, g, d, tk, os⟩ := s; obtain ⟨hl, h⟩ := h
    have hsub := sub_enumerate
    have hL : Heap.IsTuple (Shared.heap ⟨hp, g, d, tk, os⟩) l items := ⟨_, hl, rfl, n, rfl⟩
    wp_walk using wpAny_loadPart' hl
    refine wpAny_stack_any fun st => wpAny_pure ?_
    split
    · rename_i c _ _ _ _ _
      cases (c == Value.type "enumerate")
      · wp_walk using wpAny_loadPart' hl, wpAny_pyIter_tuple hL
        exact ⟨_, rfl, h⟩
      · wp_walk using wpAny_loadPart' hl, wpAny_pyIter_tuple hL
        exact ⟨_, rfl, h⟩
    · wp_walk using wpAny_loadPart' hl, wpAny_pyIter_tuple hL
      exact ⟨_, rfl, h⟩

section
variable {prog : Program} {w : World} {A : Around} {E : Value → Shared → Prop} {s : Shared}
theorem call_enumT {l : Addr} {items : Array Value} {Q : Value → Shared → Prop} (hL : s.heap.IsTuple l items)
    (h : ∀ h', IsEnum h' (s.heap.objs.size + 1) s.heap.objs.size 0 .none → h'.IsTupleIter s.heap.objs.size l 0 → h'.objs.size = s.heap.objs.size + 2 →
      (∀ b o, s.heap.get? b = some o → h'.get? b = some o) → Q (.ref (s.heap.objs.size + 1)) { s with heap := h' }) :
    wpAny (model prog w) A (call (.type "enumerate") [.ref l]) Q E s := by
  obtain ⟨⟨c, dct, dt, sl⟩, hl, hc, n, hd⟩ := hL
  replace hc : c = .type "tuple" := hc
  replace hd : dt = .seq items n := hd
  subst hc hd
  refine callType_new F.called_enumerate (by decide) (F.typeCall_enumerate_1 _) (F.newCall_enumerate_1 _) (fun obj => F.args_object_init_2 obj _) F.entry_enumerate_new
    (meets_enumT l items n dct sl) ⟨hl, ?_⟩
  have hz : (s.heap.push { cls := .type "tuple_iterator", data := .fields #[.ref l, .int 0 0] }).objs.size = s.heap.objs.size + 1 := Heap.size_push ..
  show _ ∧ _
  rw [hz]
  have he : IsEnum ((s.heap.push { cls := .type "tuple_iterator", data := .fields #[.ref l, .int 0 0] }).push
      { cls := .type "enumerate", data := .fields #[.none, .bool false, .ref s.heap.objs.size, rawInt 0, .none, .none] }) (s.heap.objs.size + 1) s.heap.objs.size 0 .none := by
    have := Heap.get?_push_size (s.heap.push { cls := .type "tuple_iterator", data := .fields #[.ref l, .int 0 0] })
      (o := { cls := .type "enumerate", data := .fields #[.none, .bool false, .ref s.heap.objs.size, rawInt 0, .none, .none] }) rfl
    rw [hz] at this; exact this
  refine ⟨⟨_, he, rfl⟩, h _ he ⟨_, Heap.get?_push_of_some _ (Heap.get?_push_size _ rfl), rfl, rfl⟩ (by rw [Heap.size_push, hz]) fun b o x => Heap.get?_push_of_some _ (Heap.get?_push_of_some _ x)⟩
theorem enumT_end {e it l : Addr} {i : Nat} {items : Array Value} {old : Value} {Q : Option Value → Shared → Prop} (hh : A.handled = none)
    (he : IsEnum s.heap e it i old) (hit : s.heap.IsTupleIter it l i) (hl : s.heap.IsTuple l items) (hx : items[i]? = none)
    (hQ : ∀ h', Heap.ExtBut it s.heap h' → Q none { s with heap := h' }) : wpAny (model prog w) A (pyNext (.ref e)) Q E s := by
  have hT : s.TypeIs (.ref e) "enumerate" := ⟨_, he, rfl⟩
  unfold pyNext
  refine wpAny_bind (wpAny_attempt (wpAny_callSpecial?_slot (name := Str.ofString "__next__") hT F.slot_enumerate_next
    (wpAny_call_entry F.slot_enumerate_next hT F.entry_enumerate_next ?_ (F.args_enumerate_next_1 _))))
  show wpAny _ _ (field (.ref e) 2 >>= _) _ _ _
  refine wpAny_bind (wpAny_field he rfl (x := .ref it) rfl ?_)
  refine wpAny_bind (wpAny_nextOf_tuple_end hh hit hl hx fun h' x he' hx' => ?_)
  obtain ⟨o, ho, hc⟩ := hx'
  refine wpAny_bind (wpAny_isInstance (T := "StopIteration") (b := true) ⟨o, ho, hc⟩ isSubtype_stop ?_)
  exact wpAny_pure (hQ _ he')
end

/-- the tuple at a, each item in a new pair -/
def IteT (K : PySem.W.Frag) (a : Addr) : It :=
  ⟨fun i H => ∃ (xs : List V) (x : V), SqT K H a xs ∧ xs[i]? = some x, fun i H v H' => ∃ T x, v = .ref T ∧ H T = none ∧ H' = upd H T (.tup [.int (i : Nat), x]) ∧ ∀ xs, SqT K H a xs → xs[i]? = some x, fun i H => ∃ xs : List V, SqT K H a xs ∧ xs.length ≤ i⟩
theorem turn_enumT {P : Program} {w : World} {K : PySem.W.Frag} {elts : List Expr} {kk : Nat} {tpos : Pos} (a e it : Addr) :
    Turn P w K (.Tuple elts kk tpos) (IteT K a) [e, it] e (fun i h => (∃ old, IsEnum h e it ((i : Nat) : Int) old) ∧ h.IsTupleIter it a i ∧ e ≠ it) where
  mem := by simp
  obj := fun i h st b hb => by
    obtain ⟨⟨old, he⟩, ⟨o, ho, hc, hd⟩, _⟩ := st
    have e' : b = e ∨ b = it := by simpa using hb
    rcases e' with z | z
    · rw [z]; exact ⟨_, he, fun v q => nomatch q⟩
    · rw [z]; exact ⟨o, ho, fun v q => by rw [hd] at q; cases q⟩
  keep := fun i h h' st k => let ⟨⟨old, he⟩, hi, hne⟩ := st; ⟨⟨old, k e (by simp) _ he⟩, hi.at fun o q => k it (by simp) o q, hne⟩
  item := by
    intro X hP hw hK hc i pins s σ H E I hf st hg
    subst hP hw hK
    obtain ⟨⟨old, he⟩, hit, hne⟩ := st
    obtain ⟨xs, x, hq, hx⟩ := hg
    obtain ⟨its, rv, p, hz⟩ := I.tuple hq
    obtain ⟨u, hu, ru⟩ := rv.get hx
    have hel : e < s.heap.objs.size := Heap.lt_size he
    have hil : it < s.heap.objs.size := by obtain ⟨_, q, _⟩ := hit; exact Heap.lt_size q
    have hp : s.heap.IsTuple a its.toArray := p
    have hae : a ≠ e := fun z => by
      obtain ⟨o, ho, hcl, _⟩ := id hp
      rw [z] at ho
      have q : s.heap.get? e = some _ := he
      rw [q] at ho
      cases ho
      exact absurd (Value.type.inj hcl) (by decide)
    have hai : a ≠ it := fun z => by
      obtain ⟨o, ho, hcl, _⟩ := id hp
      obtain ⟨o', ho', hcl', _⟩ := id hit
      rw [z, ho'] at ho
      cases ho
      rw [hcl'] at hcl
      exact absurd (Value.type.inj hcl) (by decide)
    have D := Draws.tuple (prog := X.prog) (w := X.w) (A := X.A.in1) (I.ok.hd hc) it a hai its.toArray
    have hlt : i < its.length := (List.getElem?_eq_some_iff.mp hu).1
    refine wpAny_pyNext_enum_itemD D he ⟨hit, hp⟩ (by simpa using hlt) hne (by simp only [List.mem_cons, List.not_mem_nil, or_false, not_or]; exact ⟨hne, Ne.symm hae⟩) fun u' h' tk hu' ho ⟨hit', hp'⟩ hT hsz hk => ?_
    have eu : u' = u := by
      have q : its.toArray[i]? = some u := by simpa using hu
      rw [q] at hu'
      exact (Option.some.inj hu').symm
    subst eu
    refine ⟨_, rfl, wpAny_letOwnedTupleGo_enum (s := { s with heap := h', toks := tk + 1 }) ho fun h'' he' sb => ?_⟩
    have hT2 : h''.get? s.heap.objs.size = some { cls := .type "tuple", data := .seq #[.int i tk, u'] } := (sb.2 _ (Nat.ne_of_gt hel)).trans hT
    have new : ObjOk X.prog X.w (upd H s.heap.objs.size (.tup [.int (i : Nat), x])) h'' s.heap.objs.size (.tup [.int (i : Nat), x]) :=
      ⟨by show 2 ≤ sizeLine; decide, [.int i tk, u'], .cons ⟨_, rfl⟩ (.cons ru .nil), ⟨_, hT2, rfl, _, rfl⟩⟩
    have I1 : Inv X pins σ (upd H s.heap.objs.size (.tup [.int (i : Nat), x])) { s with heap := h'', toks := tk + 1 } :=
      I.turnedNew (ch := [e, it]) (fun b ob hb q => (sb.2 b (fun z => hb (by simp [z]))).trans (hk b ob (fun z => hb (by simp [z])) (fun z => hb (by simp [z])) q)) hf (Nat.le_refl _) new
    refine ⟨.ref s.heap.objs.size, _, I1, rfl, ⟨_, x, rfl, I.hok.fresh (Nat.le_refl _), rfl, fun ys hy => by rw [I.tuple_inj hy hq]; exact hx⟩, ⟨⟨u', ?_⟩, hit'.at fun o q => (sb.2 it (Ne.symm hne)).trans q, hne⟩, fun b hb => ?_⟩
    · have e1 : ((i + 1 : Nat) : Int) = (i : Int) + 1 := by omega
      rw [e1]; exact he'
    · have hb' : b < s.heap.objs.size := by
        have e' : b = e ∨ b = it := by simpa using hb
        rcases e' with z | z
        · rw [z]; exact hel
        · rw [z]; exact hil
      rw [upd_ne (Nat.ne_of_lt hb')]
      exact (hf b hb).1
  done := by
    intro X hP hw hK hc i pins s σ H E I hf st hg
    subst hP hw hK
    obtain ⟨⟨old, he⟩, hit, hne⟩ := st
    obtain ⟨xs, hq, hx⟩ := hg
    obtain ⟨its, rv, p, hz⟩ := I.tuple hq
    obtain ⟨f0, f1, f2, f3, f4, f5⟩ := hf it (by simp)
    have hl := rv.length
    have hp : s.heap.IsTuple a its.toArray := p
    have hai : a ≠ it := fun z => by
      obtain ⟨o, ho, hcl, _⟩ := id hp
      obtain ⟨o', ho', hcl', _⟩ := id hit
      rw [z, ho'] at ho
      cases ho
      rw [hcl'] at hcl
      exact absurd (Value.type.inj hcl) (by decide)
    exact enumT_end (I.ok.hd hc) he hit hp (by simp; omega) fun h' eb => ⟨rfl, I.turned (t' := s.toks) (fun b o hb q => eb b o hb q) f0 f1 f3 f4 f5⟩
  self := fun A i s Q E st h => let ⟨⟨_, he⟩, _⟩ := st; wpAny_pyIter_enum he h
def iEnumT (K : PySem.W.Frag) (ta : TA) : TI := fun σ H R => ta σ H fun vs H1 => ∃ a xs, vs = [.ref a] ∧ SqT K H1 a xs ∧ R (IteT K a) H1
theorem pi_enumT {X : Cx} {e : Expr} {ta : TA} {p pos tpos : Pos} {elts : List Expr} {kk : Nat} (hg : Gl X "enumerate") (hm : X.mg "enumerate" = none) (ha : PA X [e] ta) (hs : starEach [e] X.env = [(false, eval e X.env)] := by rfl) :
    PI X (.Tuple elts kk tpos) (.Call (.Name "enumerate" p) [e] [] pos) (iEnumT X.K ta) := by
  refine ⟨fun pins s σ H R I h => ?_⟩
  refine Call_ (ld_blt I hg hm boot_enumerate (PyProof.Rows.callWith_type1 (thn (ha.run pos pins s σ H _ I h) fun us s1 ⟨vs, H1, I1, r1, q1⟩ => ?_) hs rfl))
  obtain ⟨a, xs, ex, hq, q⟩ := q1
  subst ex
  cases r1 with
  | cons r rr =>
    cases rr
    cases r
    obtain ⟨its, rv, p', hz⟩ := I1.tuple hq
    refine call_enumT (show s1.heap.IsTuple a its.toArray from p') fun h' he hit hsz hk => wpAny_pyIter_enum he ?_
    have I2 : Inv X pins σ H1 { s1 with heap := h' } := I1.kept (t' := s1.toks) hk
    refine ⟨s1.heap.objs.size + 1, [s1.heap.objs.size + 1, s1.heap.objs.size], _, _, H1, rfl, I2, turn_enumT a (s1.heap.objs.size + 1) s1.heap.objs.size, ⟨⟨.none, he⟩, hit, Nat.succ_ne_self _⟩, fun b hb => ?_, q⟩
    have e' : b = s1.heap.objs.size + 1 ∨ b = s1.heap.objs.size := by simpa using hb
    have hle : s1.heap.objs.size ≤ b := by
      rcases e' with z | z
      · rw [z]; exact Nat.le_add_right _ _
      · rw [z]; exact Nat.le_refl _
    exact I1.fpOk hle (I1.hok.fresh hle)
theorem walk_enumT {K : PySem.W.Frag} {a : Addr} {xs : List V} : Walk (IteT K a) xs.length (fun H => SqT K H a xs) (YPair (fun i => some (.int (i : Nat))) (fun i => xs[i]?)) := by
  refine ⟨fun i _ hi q => ⟨xs, xs[i], q, by simp [hi]⟩, fun _ q => ⟨xs, q, Nat.le_refl _⟩, fun i H v H' _ q y => ?_⟩
  obtain ⟨T, x, h1, h2, h3, h4⟩ := y
  exact ⟨T, .int (i : Nat), x, h1, h2, h3, rfl, h4 xs q⟩
end K23


/-! The text by places; words as texts; what the walks share. -/
namespace K23
open PySem L2 Evl
abbrev S (l : List Nat) : Str := SX.S l
def topS (i : Nat) : Stmt := PySem.Challenge.pw_soundturns_k23_whole_rules_and_their_mac.main.body.getD i (.Pass ⟨0, 0, 0, 0⟩)
abbrev tCheckSize : Stmt := topS 9
abbrev tHasLetters : Stmt := topS 10
abbrev tIsWord : Stmt := topS 11
abbrev tCheckWord : Stmt := topS 12
abbrev tIsString : Stmt := topS 16
abbrev tIsRow : Stmt := topS 17
abbrev tIsFormed : Stmt := topS 18
abbrev tIsWide : Stmt := topS 19
abbrev tCheckWide : Stmt := topS 20
abbrev tWalked : Stmt := topS 21
abbrev tChangedM : Stmt := topS 22
abbrev tCheckCall : Stmt := topS 24
abbrev tForm : Stmt := topS 25
abbrev tWritten : Stmt := topS 26
abbrev tIsPlace : Stmt := topS 32
abbrev tArePlaces : Stmt := topS 33
abbrev tIsRule : Stmt := topS 34
abbrev tIsRules : Stmt := topS 35
abbrev tCheckRule : Stmt := topS 36
abbrev tCheckRules : Stmt := topS 37
abbrev tFits : Stmt := topS 38
abbrev tIsThere : Stmt := topS 39
abbrev tPiecesOf : Stmt := topS 40
abbrev tChangedR : Stmt := topS 41
abbrev tInit : Stmt := inClass (topS 44) 0
abbrev tBecomes : Stmt := inClass (topS 44) 1
abbrev tEntry : Stmt := inClass (topS 44) 2
abbrev tLast : Stmt := inClass (topS 44) 3
abbrev tMachine : Stmt := inClass (topS 44) 4
abbrev tRuleMachine : Stmt := topS 45
abbrev tNumber : Stmt := topS 47
abbrev tDraws : Stmt := topS 48
abbrev tNext : Stmt := topS 49
abbrev tText : Stmt := topS 50
abbrev tPlace : Stmt := topS 53
abbrev tRule : Stmt := topS 54
abbrev tStands : Stmt := topS 55
abbrev tMade : Stmt := topS 56
abbrev tWords : Stmt := topS 57
abbrev tCut : Stmt := topS 58
abbrev tLaw : Stmt := topS 59

/-- the module's names -/
structure Glo (mg : Str → Option Value) : Prop where
  letters : ∃ t, mg "LETTERS" = some (.str (S abc) t)
  mostLetters : ∃ t, mg "MOST_LETTERS" = some (.int 60 t)
  mostWide : ∃ t, mg "MOST_WIDE" = some (.int 2000 t)
  longest : ∃ t, mg "LONGEST" = some (.int 60 t)
  edge : ∃ t, mg "EDGE" = some (.str (S [35]) t)
  mostNew : ∃ t, mg "MOST_NEW" = some (.int 3 t)
  mostPlaces : ∃ t, mg "MOST_PLACES" = some (.int 2 t)
  mostRules : ∃ t, mg "MOST_RULES" = some (.int 8 t)
  len : mg "len" = none
  all : mg "all" = none
  list : mg "list" = none
  sorted : mg "sorted" = none
  set : mg "set" = none
  enumerate : mg "enumerate" = none
  range : mg "range" = none
  max : mg "max" = none
  tuple : mg "tuple" = none
  int : mg "int" = none

section
variable {P : Program} {w : World} {K : PySem.W.Frag} {mg : Str → Option Value} {base : Heap}
theorem glS {X : Cx} {x : Str} {z : Str} {pos : Pos} (hg : Gl X x) (h : ∃ t, X.mg x = some (.str z t)) (hd : (x == ("__debug__" : Str)) = false := by decide) : PE X (.Name x pos) (tC (.str z)) :=
  let ⟨_, e⟩ := h; pe_glob hg e ⟨_, rfl⟩ hd
theorem glI {X : Cx} {x : Str} {z : Int} {pos : Pos} (hg : Gl X x) (h : ∃ t, X.mg x = some (.int z t)) (hd : (x == ("__debug__" : Str)) = false := by decide) : PE X (.Name x pos) (tC (.int z)) :=
  let ⟨_, e⟩ := h; pe_glob hg e ⟨_, rfl⟩ hd

/-- the first k letters -/
def ltrs (k : Int) : Wd := abc.take k.toNat
/-- a def of the text: x its global name, y its own -/
structure DefK (K : PySem.W.Frag) (mg : Str → Option Value) (x y : Str) (st : Stmt) (ps : List Str) : Prop where
  ex : ∃ (f : Addr) (fd : FuncData), Fun K y y st f fd ∧ mg x = some (.ref f) ∧ Binds K fd ps []
/-- its promise, by its body -/
theorem calK {x y : Str} {st : Stmt} {N ps : List Str} {k : Nat} {sp : Sp} (D : DefK K mg x y st ps) (S : FnScope N ps (defScope st)) (len : ∀ vs H Q E, sp vs H Q E → vs.length = ps.length)
    (hbody : ∀ (f : Addr) (cdv : Value) (A : Around) (outer : List Env) (s : Shared) (H : Hp) (vs : List V) (Q : VK) (E : XK), Room k (A.deeper (PyProof.Rows.envOfC y (defScope st) s.heap.objs.size f cdv)) → sp vs H Q E →
      ∃ t, PSs (cxOf CX0 P w K mg base N y (defScope st) f cdv A outer s H E).nox (defBody st) t ∧ t { nx := fun _ H' => Q .non H', rt := Q } (start N vs) H) : C8.Cal P w K mg base (k + 1) x sp [] := by
  obtain ⟨f, fd, F, hm, b⟩ := D.ex
  exact ⟨f, fd, ps, [], F.ok S len fun cdv A outer s H vs Q E hr h => hbody f cdv A outer s H vs Q E hr h, hm, F.kp, b, .nil⟩
/-- a method of the class at C -/
structure MetK (K : PySem.W.Frag) (C : Addr) (m qual : Str) (st : Stmt) (ps : List Str) : Prop where
  ex : ∃ (f : Addr) (fd : FuncData), Fun K m qual st f fd ∧ Meth K C m f ∧ Binds K fd ps []
theorem metK {m qual : Str} {C : Addr} {st : Stmt} {N ps : List Str} {k : Nat} {sp : Sp} (c : Cls K C) (D : MetK K C m qual st ps) (S : FnScope N ps (defScope st)) (len : ∀ vs H Q E, sp vs H Q E → vs.length = ps.length)
    (hbody : ∀ (f : Addr) (cdv : Value) (A : Around) (outer : List Env) (s : Shared) (H : Hp) (vs : List V) (Q : VK) (E : XK), Room k (A.deeper (PyProof.Rows.envOfC qual (defScope st) s.heap.objs.size f cdv)) → sp vs H Q E →
      ∃ t, PSs (cxOf CX0 P w K mg base N qual (defScope st) f cdv A outer s H E).nox (defBody st) t ∧ t { nx := fun _ H' => Q .non H', rt := Q } (start N vs) H) : C8.Met P w K mg base (k + 1) C m sp [] := by
  obtain ⟨f, fd, F, hm, b⟩ := D.ex
  exact ⟨f, fd, ps, [], c, hm, F.ok S len fun cdv A outer s H vs Q E hr h => hbody f cdv A outer s H vs Q E hr h, b, .nil⟩

/-! ### comprehensions over any walk -/
theorem lc_ev {J : It} {n : Nat} {G : Hp → Prop} {Y : Nat → Hp → V → Hp → Prop} (wk : Walk J n G Y) {g : TG} {te : TE} {vs : List Nat} {σ : L2.St} {H1 : Hp} {D : Addr} {Qd : Hp → Prop}
    (f : Nat → V) (hn : n ≤ 40000) (hD : H1 D = none) (hG : ∀ H, Ex H1 H → G H)
    (hs : ∀ i x H H', i < n → Ex H1 H → Y i H x H' → Ex H H' ∧ ∀ N : L2.St → Hp → Prop, (∀ σ2, wipe σ2 vs = wipe σ vs → Ev te σ2 H' (f i) → N σ2 H') → g x (wipe σ vs) H' N)
    (hd : ∀ H, Ex H1 H → H D = some (.lst ((List.range n).map f)) → Qd H) :
    ∃ W : Nat → Nat → Hp → Prop, (∃ m, W 0 m (upd H1 D (.lst []))) ∧ ∀ i m H, W i m H →
      (J.stop i H ∧ Qd H) ∨ (J.go i H ∧ ∃ Nx : Hp → Prop, (∀ H', Nx H' → ∃ m', m' < m ∧ W (i + 1) m' H') ∧ ∀ x H', J.yld i H x H' → g x (wipe σ vs) H' fun σ2 H2 => wipe σ2 vs = wipe σ vs ∧ tYes σ2 H2 fun b H3 =>
        if b = true then te σ2 H3 fun y H4 => ∃ acc, H4 D = some (.lst acc) ∧ acc.length < sizeLine ∧ Nx (upd H4 D (.lst (acc ++ [y]))) else Nx H3) :=
  lc_it wk (fun i H => Ex H1 H ∧ H D = some (.lst ((List.range i).map f))) ⟨Ex.new hD, upd_same⟩ (fun i H _ p => hG H p.1)
    (fun i x H H' hi p y => by
      obtain ⟨e1, hg⟩ := hs i x H H' hi p.1 y
      refine hg _ fun σ2 hw ev => ⟨hw, ?_⟩
      show te σ2 H' fun y H4 => ∃ acc, H4 D = some (.lst acc) ∧ acc.length < sizeLine ∧ Ex H1 (upd H4 D (.lst (acc ++ [y]))) ∧ upd H4 D (.lst (acc ++ [y])) D = some (.lst ((List.range (i + 1)).map f))
      refine ev H' (Ex.refl _) _ fun H4 e4 => ⟨_, e4 D _ (e1 D _ p.2), ?_, Ex.mut ((p.1.trans e1).trans e4) hD, ?_⟩
      · rw [List.length_map, List.length_range]
        exact sz_lt (by omega)
      · rw [upd_same, List.range_succ, List.map_append] <;> rfl)
    (fun H p => hd H p.1 p.2)
theorem rangeD {f : Nat → V} {l : List Nat} : (List.range l.length).map (fun i => f (l.getD i 0)) = l.map f := by
  apply List.ext_getElem
  · simp
  · intro i h1 h2
    have hi : i < l.length := by simpa using h2
    simp [hi]
section
variable {σ : L2.St} {H : Hp}
/-- over the signs of a text -/
theorem el_lcS {tl te : TE} {j : Nat} {vs : List Nat} {z : Wd} (f : Nat → V) (h : Ev tl σ H (.str (S z))) (hz : z.length ≤ 40000) (hw : ∀ x, wipe ((wipe σ vs).set j (some x)) vs = wipe σ vs)
    (he : ∀ c H1, Ex H H1 → c ∈ z → Ev te ((wipe σ vs).set j (some (.str (S [c])))) H1 (f c)) : EvL (tLc (iStr tl) (gName j) tYes te vs) σ H (z.map f) := fun H0 e Q q => h H0 e _ fun H1 e1 => ⟨S z, rfl, fun D hD =>
  lc_ev walk_str (fun i => f (z.getD i 0)) (by simpa using hz) hD (fun _ _ => trivial) (fun i x H2 H3 hi e2 y => by
    obtain ⟨rfl, c, hc, rfl⟩ := y
    refine ⟨Ex.refl _, fun N k => k _ (hw _) ?_⟩
    have hc' : z[i]? = some c := by simpa using hc
    have ec : z.getD i 0 = c := by rw [List.getD_eq_getElem?_getD, hc']; rfl
    rw [ec]
    exact he c _ ((e.trans e1).trans e2) (List.mem_of_getElem? hc')) (fun H2 e2 h2 => q D H2 (fresh_back e1 hD) (e1.trans e2) (by
      have es : (S z).cps.size = z.length := by simp
      rw [h2, es, rangeD]))⟩
/-- over a tuple -/
theorem el_lcT {K : PySem.W.Frag} {tl te : TE} {j : Nat} {vs : List Nat} {a : Addr} {xs : List V} (f : Nat → V) (h : Ev tl σ H (.ref a)) (hx : SqT K H a xs) (hz : xs.length ≤ 40000) (hw : ∀ x, wipe ((wipe σ vs).set j (some x)) vs = wipe σ vs)
    (he : ∀ i x H1, Ex H H1 → xs[i]? = some x → Ev te ((wipe σ vs).set j (some x)) H1 (f i)) : EvL (tLc (iTup K tl) (gName j) tYes te vs) σ H ((List.range xs.length).map f) := fun H0 e Q q => h H0 e _ fun H1 e1 => ⟨a, rfl, ⟨xs, ex_t (e.trans e1) hx⟩, fun D hD =>
  lc_ev (walk_tup (xs := xs)) f hz hD (fun H2 e2 => ex_t ((e.trans e1).trans e2) hx) (fun i x H2 H3 hi e2 y => by
    obtain ⟨rfl, hc⟩ := y
    exact ⟨Ex.refl _, fun N k => k _ (hw _) (he i x _ ((e.trans e1).trans e2) hc)⟩) (fun H2 e2 h2 => q D H2 (fresh_back e1 hD) (e1.trans e2) h2)⟩
/-- over a tuple of pairs, the target a pair of names -/
theorem el_lcP {K : PySem.W.Frag} {tl te : TE} {j1 j2 : Nat} {vs : List Nat} {a : Addr} {xs : List V} (f : Nat → V) (h : Ev tl σ H (.ref a)) (hx : SqT K H a xs) (hz : xs.length ≤ 40000)
    (hw : ∀ x y, wipe (((wipe σ vs).set j1 (some x)).set j2 (some y)) vs = wipe σ vs)
    (he : ∀ i x H1, Ex H H1 → xs[i]? = some x → ∃ T y z, x = .ref T ∧ SqT K H1 T [y, z] ∧ Ev te (((wipe σ vs).set j1 (some y)).set j2 (some z)) H1 (f i)) :
    EvL (tLc (iTup K tl) (gTup K 2 (gCons (gName j1) (gCons (gName j2) gNil))) tYes te vs) σ H ((List.range xs.length).map f) := fun H0 e Q q => h H0 e _ fun H1 e1 => ⟨a, rfl, ⟨xs, ex_t (e.trans e1) hx⟩, fun D hD =>
  lc_ev (walk_tup (xs := xs)) f hz hD (fun H2 e2 => ex_t ((e.trans e1).trans e2) hx) (fun i x H2 H3 hi e2 y => by
    obtain ⟨rfl, hc⟩ := y
    obtain ⟨T, y, z, rfl, ht, ev⟩ := he i x _ ((e.trans e1).trans e2) hc
    exact ⟨Ex.refl _, fun N k => ⟨T, [y, z], rfl, ht, rfl, y, [z], rfl, z, [], rfl, rfl, k _ (hw _ _) ev⟩⟩) (fun H2 e2 h2 => q D H2 (fresh_back e1 hD) (e1.trans e2) h2)⟩
/-- over enumerate(tuple) -/
theorem el_lcE {K : PySem.W.Frag} {te : TE} {ta : TA} {j1 j2 : Nat} {vs : List Nat} {a : Addr} {xs : List V} (f : Nat → V) (h : EvA ta σ H [.ref a]) (hx : SqT K H a xs) (hz : xs.length ≤ 40000)
    (hw : ∀ x y, wipe (((wipe σ vs).set j1 (some x)).set j2 (some y)) vs = wipe σ vs)
    (he : ∀ i x H1, Ex H H1 → xs[i]? = some x → Ev te (((wipe σ vs).set j1 (some (.int (i : Nat)))).set j2 (some x)) H1 (f i)) :
    EvL (tLc (iEnumT K ta) (gTup K 2 (gCons (gName j1) (gCons (gName j2) gNil))) tYes te vs) σ H ((List.range xs.length).map f) := fun H0 e Q q => h H0 e _ fun H1 e1 => ⟨a, xs, rfl, ex_t (e.trans e1) hx, fun D hD =>
  lc_ev (walk_enumT (xs := xs)) f hz hD (fun H2 e2 => ex_t ((e.trans e1).trans e2) hx) (fun i x H2 H3 hi e2 y => by
    obtain ⟨T, u, z, rfl, hT, rfl, hu, hz'⟩ := y
    have eu : u = .int (i : Nat) := (Option.some.inj hu).symm
    subst eu
    exact ⟨Ex.new hT, fun N k => ⟨T, [.int (i : Nat), z], rfl, st_of upd_same, rfl, _, [z], rfl, z, [], rfl, rfl, k _ (hw _ _) (he i z _ (((e.trans e1).trans e2).trans (Ex.new hT)) hz')⟩⟩) (fun H2 e2 h2 => q D H2 (fresh_back e1 hD) (e1.trans e2) h2)⟩
/-- over range(lo, n) -/
theorem el_lcR2 {te : TE} {ta : TA} {j : Nat} {vs : List Nat} {lo n : Int} (f : Nat → V) (h : EvA ta σ H [.int lo, .int n]) (hb : 0 ≤ lo ∧ lo ≤ 40000 ∧ 0 ≤ n ∧ n ≤ 40000) (hw : ∀ x, wipe ((wipe σ vs).set j (some x)) vs = wipe σ vs)
    (he : ∀ (i : Nat) H1, Ex H H1 → lo + (i : Int) < n → Ev te ((wipe σ vs).set j (some (.int (lo + (i : Int))))) H1 (f i)) :
    EvL (tLc (iRng2 ta) (gName j) tYes te vs) σ H ((List.range (n - lo).toNat).map f) := fun H0 e Q q => h H0 e _ fun H1 e1 => ⟨lo, n, rfl, ⟨by omega, by omega, by omega, by omega⟩, fun D hD =>
  lc_ev (walk_range (lo := lo) (n := (n - lo).toNat)) f (by omega) hD (fun _ _ => trivial) (fun i x H2 H3 hi e2 y => by
    obtain ⟨rfl, rfl⟩ := y
    exact ⟨Ex.refl _, fun N k => k _ (hw _) (he i _ ((e.trans e1).trans e2) (by omega))⟩) (fun H2 e2 h2 => q D H2 (fresh_back e1 hD) (e1.trans e2) h2)⟩
/-- over range(n) -/
theorem el_lcR {te : TE} {ta : TA} {j : Nat} {vs : List Nat} {n : Nat} (f : Nat → V) (h : EvA ta σ H [.int (n : Int)]) (hb : n ≤ 40000) (hw : ∀ x, wipe ((wipe σ vs).set j (some x)) vs = wipe σ vs)
    (he : ∀ (i : Nat) H1, Ex H H1 → i < n → Ev te ((wipe σ vs).set j (some (.int (i : Int)))) H1 (f i)) :
    EvL (tLc (iRng1 ta) (gName j) tYes te vs) σ H ((List.range n).map f) := fun H0 e Q q => h H0 e _ fun H1 e1 => ⟨(n : Int), rfl, by omega, by omega, fun D hD =>
  lc_ev (walk_range (lo := 0) (n := ((n : Int)).toNat)) f (by omega) hD (fun _ _ => trivial) (fun i x H2 H3 hi e2 y => by
    obtain ⟨rfl, rfl⟩ := y
    have e0 : (0 : Int) + (i : Int) = (i : Int) := Int.zero_add _
    refine ⟨Ex.refl _, fun N k => k _ (hw _) ?_⟩
    show Ev te ((wipe σ vs).set j (some (.int ((0 : Int) + (i : Int))))) _ (f i)
    rw [e0]
    exact he i _ ((e.trans e1).trans e2) (by omega)) (fun H2 e2 h2 => q D H2 (fresh_back e1 hD) (e1.trans e2) (by rw [h2, Int.toNat_natCast]))⟩
/-- all(..) of a list of truth values -/
theorem ev_all {K : PySem.W.Frag} {tl : TE} {bs : List Bool} (h : EvL tl σ H (bs.map V.bl)) : Ev (tCB (rAll K) (tCons tl tNil)) σ H (.bl (bs.all id)) := fun H1 e Q q =>
  h H1 e _ fun p H2 _ e2 h2 => ⟨p, bs, rfl, sq_of h2, q H2 e2⟩
theorem join_nil : ∀ ws : List Wd, TL.joinL [] ws = ws.flatten
  | [] => rfl
  | [w] => by simp [TL.joinL]
  | w :: v :: r => by
    rw [List.flatten_cons, ← join_nil (v :: r)]
    simp [TL.joinL]
abbrev rJoin (K : PySem.W.Frag) : V → List V → Hp → VK → Prop := fun x xs H Q => ∃ a p, ∃ ys : List Str, x = .str a ∧ xs = [.ref p] ∧ (SqL K H p (ys.map V.str) ∨ SqT K H p (ys.map V.str)) ∧
      (ys.map (·.length)).sum + ys.length * a.length ≤ 16777216 ∧ Q (.str (PySem.Txt.join a ys)) H
theorem ev_join {K : PySem.W.Frag} {to tl : TE} {ws : List Wd} (ho : Ev to σ H (.str (S []))) (h : EvL tl σ H (ws.map fun x => V.str (S x))) (hz : (ws.map List.length).sum ≤ 1000000) :
    Ev (tM1 (rJoin K) to tl) σ H (.str (S ws.flatten)) := fun H1 e Q q =>
  ho H1 e _ fun H2 e2 => ⟨⟨_, rfl⟩, h H2 (e.trans e2) _ fun p H3 _ e3 h3 => ⟨S [], p, ws.map S, rfl, rfl, .inl (sq_of (by rw [h3, List.map_map]; rfl)), (by
    rw [SX.lens, List.length_map, SX.S_len, List.length_nil, Nat.mul_zero]
    exact Nat.le_trans (Nat.le_of_eq (Nat.add_zero _)) (Nat.le_trans hz (by decide))), (by
    rw [SX.join_S, join_nil]
    exact q H3 (e2.trans e3))⟩⟩
end

end
end K23


/-! what expressions evaluate to: texts, lengths, chains, calls. -/
namespace K23
open PySem L2 Evl
section
variable {K : PySem.W.Frag} {σ : L2.St} {H : Hp} {ta tb tc te tk : TE}
theorem el_is {xs ys : List V} (h : EvL te σ H xs) (e : xs = ys) : EvL te σ H ys := by
  rw [← e]
  exact h
theorem S_small {a : Wd} {n : Nat} (h : a.length ≤ n) (hn : n ≤ 100000) : (S a).length ≤ sizeLine := by
  rw [SX.S_len]
  exact sz_of (Nat.le_trans h hn)
theorem ev_sliceTo {a : Wd} {i : Int} (h : Ev te σ H (.str (S a))) (hi : Ev tk σ H (.int i)) (h0 : 0 ≤ i) (hz : a.length ≤ 100000) : Ev (tSl C8.rSlX te tNoPart (tPart tk)) σ H (.str (S (a.take i.toNat))) := fun H1 e Q q =>
  h H1 e _ fun H2 e2 => hi H2 (e.trans e2) _ fun H3 e3 => ⟨i, rfl, S a, rfl, S_small hz (Nat.le_refl _), by
    rw [SX.slice_to h0]
    exact q H3 (e2.trans e3)⟩
theorem ev_sliceFrom {a : Wd} {i : Int} (h : Ev te σ H (.str (S a))) (hi : Ev tk σ H (.int i)) (h0 : 0 ≤ i) (hz : a.length ≤ 100000) : Ev (tSl C8.rSlX te (tPart tk) tNoPart) σ H (.str (S (a.drop i.toNat))) := fun H1 e Q q =>
  h H1 e _ fun H2 e2 => hi H2 (e.trans e2) _ fun H3 e3 => ⟨i, rfl, S a, rfl, S_small hz (Nat.le_refl _), by
    rw [SX.slice_from h0]
    exact q H3 (e2.trans e3)⟩
/-- LETTERS[:k] -/
theorem ev_ltrs {k : Int} (hi : Ev tk σ H (.int k)) (h0 : 0 ≤ k) : Ev (tSl C8.rSlX (tC (.str (S abc))) tNoPart (tPart tk)) σ H (.str (S (ltrs k))) := ev_sliceTo (a := abc) ev_c hi h0 (by decide)
theorem ev_inS {c : Nat} {z : Wd} (h1 : Ev ta σ H (.str (S [c]))) (h2 : Ev tb σ H (.str (S z))) : Ev (tOp rInS ta tb) σ H (.bl (decide (c ∈ z))) := fun H1 e Q q =>
  h1 H1 e _ fun H2 e2 => h2 H2 (e.trans e2) _ fun H3 e3 => ⟨c, S z, rfl, rfl, q H3 (e2.trans e3)⟩
theorem ev_notInS {c : Nat} {z : Wd} (h1 : Ev ta σ H (.str (S [c]))) (h2 : Ev tb σ H (.str (S z))) : Ev (tOp rNotInS ta tb) σ H (.bl (!decide (c ∈ z))) := fun H1 e Q q =>
  h1 H1 e _ fun H2 e2 => h2 H2 (e.trans e2) _ fun H3 e3 => ⟨c, S z, rfl, rfl, q H3 (e2.trans e3)⟩
abbrev rLenStr : List V → Hp → VK → Prop := fun xs H Q => ∃ z, xs = [.str z] ∧ z.length ≤ sizeLine ∧ Q (.int z.length) H
theorem ev_lenS {z : Wd} (h : Ev te σ H (.str (S z))) (hz : z.length ≤ 100000) : Ev (tCB rLenStr (tCons te tNil)) σ H (.int (z.length : Int)) := fun H1 e Q q =>
  h H1 e _ fun H2 e2 => ⟨S z, rfl, S_small hz (Nat.le_refl _), by
    rw [SX.S_len]
    exact q H2 e2⟩
theorem ev_lenT {p : Addr} {xs : List V} (ha : Ev ta σ H (.ref p)) (h : SqT K H p xs) : Ev (tCB (rLenS K) (tCons ta tNil)) σ H (.int (xs.length : Int)) := fun H1 e Q q =>
  ha H1 e _ fun H2 e2 => ⟨p, xs, rfl, Or.inr (ex_t (e.trans e2) h), q H2 e2⟩
theorem eqS_dec {a b : Wd} : decide (V.str (S a) = V.str (S b)) = decide (a = b) := by
  by_cases h : a = b
  · rw [h, decide_eq_true rfl, decide_eq_true rfl]
  · rw [decide_eq_false h, decide_eq_false]
    exact fun z => h (SX.S_inj (V.str.inj z))
theorem ev_eqS {a b : Wd} (h1 : Ev ta σ H (.str (S a))) (h2 : Ev tb σ H (.str (S b))) : Ev (tOp rEq ta tb) σ H (.bl (decide (a = b))) := ev_is (ev_op h1 h2 (rv_eq rfl)) (by rw [eqS_dec])
theorem ev_neS {a b : Wd} (h1 : Ev ta σ H (.str (S a))) (h2 : Ev tb σ H (.str (S b))) : Ev (tOp rNe ta tb) σ H (.bl (!decide (a = b))) := ev_is (ev_op h1 h2 (rv_ne rfl)) (by rw [eqS_dec])
theorem eqI_dec {a b : Int} : decide (V.int a = V.int b) = decide (a = b) := by
  by_cases h : a = b
  · rw [h, decide_eq_true rfl, decide_eq_true rfl]
  · rw [decide_eq_false h, decide_eq_false]
    exact fun z => h (V.int.inj z)
theorem ev_eqI {a b : Int} (h1 : Ev ta σ H (.int a)) (h2 : Ev tb σ H (.int b)) : Ev (tOp rEq ta tb) σ H (.bl (decide (a = b))) := ev_is (ev_op h1 h2 (rv_eq rfl)) (by rw [eqI_dec])
theorem ev_neI {a b : Int} (h1 : Ev ta σ H (.int a)) (h2 : Ev tb σ H (.int b)) : Ev (tOp rNe ta tb) σ H (.bl (!decide (a = b))) := ev_is (ev_op h1 h2 (rv_ne rfl)) (by rw [eqI_dec])
theorem ev_I0 {g : Int → Int → V} {i j : Int} (h1 : Ev ta σ H (.int i)) (h2 : Ev tb σ H (.int j)) : Ev (tOp (rI0 g) ta tb) σ H (g i j) := ev_op h1 h2 rv_I0
/-- a <= b < c -/
theorem ev_chain {g g' : Int → Int → Bool} {i j l : Int} (h1 : Ev ta σ H (.int i)) (h2 : Ev tb σ H (.int j)) (h3 : Ev tc σ H (.int l)) :
    Ev (tChain (rI0 fun i j => .bl (g i j)) (rI0 fun i j => .bl (g' i j)) ta tb tc) σ H (.bl (g i j && g' j l)) := fun H1 e Q q =>
  h1 H1 e _ fun H2 e2 => h2 H2 (e.trans e2) _ fun H3 e3 => ⟨i, j, rfl, rfl, g i j, rfl, by
    cases hg : g i j with
    | true =>
      show tc σ H3 _
      refine h3 H3 ((e.trans e2).trans e3) _ fun H4 e4 => ⟨j, l, rfl, rfl, ?_⟩
      have := q H4 ((e2.trans e3).trans e4)
      rw [hg, Bool.true_and] at this
      exact this
    | false =>
      show Q (.bl false) H3
      have := q H3 (e2.trans e3)
      rw [hg, Bool.false_and] at this
      exact this⟩
abbrev rAddStr : R2 := fun x y H Q => ∃ i j, x = .str i ∧ y = .str j ∧ i.length + j.length ≤ sizeLine ∧ Q (.str (i ++ j)) H
theorem ev_addS {a b : Wd} (h1 : Ev ta σ H (.str (S a))) (h2 : Ev tb σ H (.str (S b))) (hz : a.length + b.length ≤ 100000) : Ev (tOp rAddStr ta tb) σ H (.str (S (a ++ b))) := fun H1 e Q q =>
  h1 H1 e _ fun H2 e2 => h2 H2 (e.trans e2) _ fun H3 e3 => ⟨S a, S b, rfl, rfl, by
    rw [SX.S_len, SX.S_len]
    exact sz_of hz, by
    rw [SX.S_cat]
    exact q H3 (e2.trans e3)⟩
theorem ev_ixS {a : Wd} {i : Nat} {c : Nat} (h1 : Ev ta σ H (.str (S a))) (h2 : Ev tb σ H (.int (i : Int))) (hz : a.length ≤ 100000) (h : a[i]? = some c) : Ev (tOp rIxS ta tb) σ H (.str (S [c])) :=
  ev_op h1 h2 (rv_ixS (by rw [SX.S_len]; exact hz) (atI_nat (by simpa using h)))
theorem ev_ixT {p : Addr} {xs : List V} {i : Nat} {v : V} (h1 : Ev ta σ H (.ref p)) (h2 : Ev tb σ H (.int (i : Int))) (h : SqT K H p xs) (hv : xs[i]? = some v) : Ev (tOp (rIxT K) ta tb) σ H v :=
  ev_op h1 h2 (rv_ixT h (atI_nat hv))
theorem ev_ixL {p : Addr} {xs : List V} {i : Nat} {v : V} (h1 : Ev ta σ H (.ref p)) (h2 : Ev tb σ H (.int (i : Int))) (h : SqL K H p xs) (hv : xs[i]? = some v) : Ev (tOp (rIxL K) ta tb) σ H v :=
  ev_op h1 h2 (rv_ixL h (atI_nat hv))
end
end K23


namespace K23
open PySem L2 Evl
section
variable {P : Program} {w : World} {K : PySem.W.Frag} {mg : Str → Option Value} {base : Heap}
/-! ### check_size -/
theorem scCheckSize : FnScope ["k"] ["k"] (defScope tCheckSize) := ⟨rfl, rfl, rfl, by decide +kernel, rfl, by decide +kernel, by decide +kernel⟩
def spCheckSize : Sp := fun vs H Q _ => ∃ k : Int, vs = [.int k] ∧ 2 ≤ k ∧ k ≤ 6 ∧ Q .non H
theorem cal_check_size (D : DefK K mg "check_size" "check_size" tCheckSize ["k"]) (T : Glo mg) : C8.Cal P w K mg base 1 "check_size" spCheckSize [] := by
  refine calK D scCheckSize (fun vs H Q E h => ?_) (fun f cdv A outer s H vs Q E hr h => ?_)
  · obtain ⟨k, rfl, _⟩ := h
    rfl
  · obtain ⟨k, rfl, h2, h6, q⟩ := h
    refine ⟨_, pss_one (ps_if (pt_not (pt_chain op_le op_le pe_int (pv 0) (pe_callB call_len_str (by rfl) T.len PySem.boot_len (pa_cons (glS (by rfl) T.letters) pa_nil)))) (pss_one ps_never) pss_nil), ?_⟩
    refine ⟨V.int k, rfl, 2, k, rfl, rfl, decide (2 ≤ k), rfl, ?_⟩
    rw [decide_eq_true h2]
    refine iteT ⟨S abc, rfl, by decide, k, 6, rfl, rfl, decide (k ≤ 6), rfl, ?_⟩
    exact iteNS h6 q
theorem v_check_size {k : Int} {H : Hp} (h2 : 2 ≤ k) (h6 : k ≤ 6) : SpV spCheckSize [.int k] H .non := fun H1 _ Q q _ => ⟨k, rfl, h2, h6, q H1 (Ex.refl _)⟩
/-! ### has_letters -/
theorem scHasLetters : FnScope ["k", "word", "letter"] ["k", "word"] (defScope tHasLetters) := ⟨rfl, rfl, rfl, by decide +kernel, rfl, by decide +kernel, by decide +kernel⟩
def hasL (k : Int) (z : Wd) : Bool := z.all fun c => decide (c ∈ ltrs k)
def spHasLetters : Sp := fun vs H Q _ => ∃ (k : Int) (z : Wd), vs = [.int k, .str (S z)] ∧ 0 ≤ k ∧ z.length ≤ 1000 ∧ ∀ H', Ex H H' → Q (.bl (hasL k z)) H'
theorem cal_has_letters (D : DefK K mg "has_letters" "has_letters" tHasLetters ["k", "word"]) (T : Glo mg) : C8.Cal P w K mg base 1 "has_letters" spHasLetters [] := by
  refine calK D scHasLetters (fun vs H Q E h => ?_) (fun f cdv A outer s H vs Q E hr h => ?_)
  · obtain ⟨k, z, rfl, _⟩ := h
    rfl
  · obtain ⟨k, z, rfl, h0, hl, q⟩ := h
    refine ⟨_, pss_one (ps_ret (pe_callB (cr_all rfl) (by rfl) T.all (by decide +kernel) (pa_cons
      (pe_lc (own := [("letter", 2)]) (g := gName 2) (tt := tYes) rfl scHasLetters.nd (pi_str (pv 1)) (blkOk_by (N := ["k", "word", "letter"]) (sc := defScope tHasLetters) (by decide +kernel))
        (fun _ _ _ _ _ => pg_name (i := 2) scHasLetters.nd rfl (Or.inl rfl)) (fun _ _ _ _ _ => pts_nil)
        (fun _ _ _ _ _ => pe_cmpR op_inS (pv 2) (pe_slice C8.sl_txt (glS (by rfl) T.letters) po_none (po_some (pv 0))) (by rfl))) pa_nil))), ?_⟩
    have em : (z.map fun c => V.bl (decide (c ∈ ltrs k))) = (z.map fun c => decide (c ∈ ltrs k)).map V.bl := by rw [List.map_map]; rfl
    refine s_ret (H := H) (ev_is (ev_all (bs := z.map fun c => decide (c ∈ ltrs k)) (em ▸ el_lcS (z := z) (fun c => V.bl (decide (c ∈ ltrs k))) (ev_var rfl) (by omega) (fun _ => rfl) fun c H1 e hc => ?_)) (by rw [List.all_map]; rfl)) fun H1 e => q H1 e
    exact ev_inS (ev_var rfl) (ev_ltrs (ev_var rfl) h0)
theorem v_has_letters {k : Int} {z : Wd} {H : Hp} (h0 : 0 ≤ k) (hl : z.length ≤ 1000) : SpV spHasLetters [.int k, .str (S z)] H (.bl (hasL k z)) := fun H1 _ Q q _ => ⟨k, z, rfl, h0, hl, q⟩
/-! ### is_word -/
theorem scIsWord : FnScope ["k", "word"] ["k", "word"] (defScope tIsWord) := ⟨rfl, rfl, rfl, by decide +kernel, rfl, by decide +kernel, by decide +kernel⟩
def spIsWord : Sp := fun vs H Q _ => ∃ (k : Int) (z : Wd), vs = [.int k, .str (S z)] ∧ 2 ≤ k ∧ k ≤ 6 ∧ z.length ≤ 1000 ∧ ∀ H', Ex H H' → Q (.bl (decide ((z.length : Int) ≤ 60) && hasL k z)) H'
theorem cal_is_word (D : DefK K mg "is_word" "is_word" tIsWord ["k", "word"]) (T : Glo mg) (C1 : C8.Cal P w K mg base 1 "check_size" spCheckSize []) (C2 : C8.Cal P w K mg base 1 "has_letters" spHasLetters []) : C8.Cal P w K mg base 2 "is_word" spIsWord [] := by
  refine calK D scIsWord (fun vs H Q E h => ?_) (fun f cdv A outer s H vs Q E hr h => ?_)
  · obtain ⟨k, z, rfl, _⟩ := h
    rfl
  · obtain ⟨k, z, rfl, h2, h6, hl, q⟩ := h
    refine ⟨_, pss_cons (ps_expr (C8.pe_c C1 hr (by decide) (by rfl) (pa_cons (pv 0) pa_nil)))
      (pss_one (ps_ret (pe_and (pe_cmpR op_le (pe_callB call_len_str (by rfl) T.len PySem.boot_len (pa_cons (pv 1) pa_nil)) (glI (by rfl) T.mostLetters) (nomark _))
        (pe_one (C8.pe_c C2 hr (by decide) (by rfl) (pa_cons (pv 0) (pa_cons (pv 1) pa_nil))))))), ?_⟩
    refine q_drop (H := H) (ev_call (ea_cons (ev_var rfl) ea_nil) (v_check_size h2 h6)) fun H1 e1 => ?_
    refine s_ret (ev_andV (ev_I0 (ev_lenS (z := z) (ev_var rfl) (by omega)) ev_c) fun _ => ev_call (ea_cons (ev_var rfl) (ea_cons (ev_var rfl) ea_nil)) (v_has_letters (by omega) hl)) fun H2 e2 => q H2 (e1.trans e2)
theorem v_is_word {k : Int} {z : Wd} {H : Hp} (h2 : 2 ≤ k) (h6 : k ≤ 6) (hl : z.length ≤ 1000) : SpV spIsWord [.int k, .str (S z)] H (.bl (decide ((z.length : Int) ≤ 60) && hasL k z)) := fun H1 _ Q q _ => ⟨k, z, rfl, h2, h6, hl, q⟩
end
end K23


namespace K23
open PySem L2 Evl
section
variable {P : Program} {w : World} {K : PySem.W.Frag} {mg : Str → Option Value} {base : Heap}
/-! ### check_word -/
theorem scCheckWord : FnScope ["k", "word"] ["k", "word"] (defScope tCheckWord) := ⟨rfl, rfl, rfl, by decide +kernel, rfl, by decide +kernel, by decide +kernel⟩
def spCheckWord : Sp := fun vs H Q _ => ∃ (k : Int) (z : Wd), vs = [.int k, .str (S z)] ∧ 2 ≤ k ∧ k ≤ 6 ∧ z.length ≤ 60 ∧ hasL k z = true ∧ ∀ H', Ex H H' → Q .non H'
theorem cal_check_word (D : DefK K mg "check_word" "check_word" tCheckWord ["k", "word"]) (T : Glo mg) (C1 : C8.Cal P w K mg base 2 "is_word" spIsWord []) : C8.Cal P w K mg base 3 "check_word" spCheckWord [] := by
  refine calK D scCheckWord (fun vs H Q E h => ?_) (fun f cdv A outer s H vs Q E hr h => ?_)
  · obtain ⟨k, z, rfl, _⟩ := h
    rfl
  · obtain ⟨k, z, rfl, h2, h6, hl, hh, q⟩ := h
    refine ⟨_, pss_one (ps_if (pt_not (pt_val (C8.pe_c C1 hr (by decide) (by rfl) (pa_cons (pv 0) (pa_cons (pv 1) pa_nil))))) (pss_one ps_never) pss_nil), ?_⟩
    have hb : (decide ((z.length : Int) ≤ 60) && hasL k z) = true := by rw [hh, decide_eq_true (by omega)] <;> rfl
    refine s_when (H := H) (et_not (et_B (ev_call (ea_cons (ev_var rfl) (ea_cons (ev_var rfl) ea_nil)) (v_is_word h2 h6 (by omega))))) (fun hc => ?_) fun _ H1 e => q H1 e
    rw [hb] at hc
    cases hc
theorem v_check_word {k : Int} {z : Wd} {H : Hp} (h2 : 2 ≤ k) (h6 : k ≤ 6) (hl : z.length ≤ 60) (hh : hasL k z = true) : SpV spCheckWord [.int k, .str (S z)] H .non := fun H1 _ Q q _ => ⟨k, z, rfl, h2, h6, hl, hh, q⟩
/-! ### is_string -/
theorem scIsString : FnScope ["k", "text"] ["k", "text"] (defScope tIsString) := ⟨rfl, rfl, rfl, by decide +kernel, rfl, by decide +kernel, by decide +kernel⟩
def spIsString : Sp := fun vs H Q _ => ∃ (k : Int) (z : Wd), vs = [.int k, .str (S z)] ∧ 0 ≤ k ∧ z.length ≤ 60 ∧ hasL k z = true ∧ ∀ H', Ex H H' → Q (.bl true) H'
theorem cal_is_string (D : DefK K mg "is_string" "is_string" tIsString ["k", "text"]) (T : Glo mg) (C2 : C8.Cal P w K mg base 1 "has_letters" spHasLetters []) : C8.Cal P w K mg base 2 "is_string" spIsString [] := by
  refine calK D scIsString (fun vs H Q E h => ?_) (fun f cdv A outer s H vs Q E hr h => ?_)
  · obtain ⟨k, z, rfl, _⟩ := h
    rfl
  · obtain ⟨k, z, rfl, h0, hl, hh, q⟩ := h
    refine ⟨_, pss_one (ps_ret (pe_and (pe_cmpR op_le (pe_callB call_len_str (by rfl) T.len PySem.boot_len (pa_cons (pv 1) pa_nil)) (glI (by rfl) T.longest) (nomark _))
        (pe_one (C8.pe_c C2 hr (by decide) (by rfl) (pa_cons (pv 0) (pa_cons (pv 1) pa_nil)))))), ?_⟩
    refine s_ret (H := H) (ev_is (ev_andV (ev_I0 (ev_lenS (z := z) (ev_var rfl) (by omega)) ev_c) fun _ => ev_call (ea_cons (ev_var rfl) (ea_cons (ev_var rfl) ea_nil)) (v_has_letters h0 (by omega))) ?_) fun H2 e2 => q H2 e2
    rw [hh, Bool.and_true, decide_eq_true (by omega)]
theorem v_is_string {k : Int} {z : Wd} {H : Hp} (h0 : 0 ≤ k) (hl : z.length ≤ 60) (hh : hasL k z = true) : SpV spIsString [.int k, .str (S z)] H (.bl true) := fun H1 _ Q q _ => ⟨k, z, rfl, h0, hl, hh, q⟩
/-! ### fits -/
theorem scFits : FnScope ["place", "word", "at", "inside"] ["place", "word", "at"] (defScope tFits) := ⟨rfl, rfl, rfl, by decide +kernel, rfl, by decide +kernel, by decide +kernel⟩
def spFits : Sp := fun vs H Q _ => ∃ (p z : Wd) (i : Int), vs = [.str (S p), .str (S z), .int i] ∧ z.length ≤ 1000 ∧ ∀ H', Ex H H' → Q (.bl (fit p z i)) H'
theorem cal_fits (D : DefK K mg "fits" "fits" tFits ["place", "word", "at"]) (T : Glo mg) : C8.Cal P w K mg base 1 "fits" spFits [] := by
  refine calK D scFits (fun vs H Q E h => ?_) (fun f cdv A outer s H vs Q E hr h => ?_)
  · obtain ⟨p, z, i, rfl, _⟩ := h
    rfl
  · obtain ⟨p, z, i, rfl, hl, q⟩ := h
    refine ⟨_, pss_cons (ps_set (i := 3) scFits.nd rfl (.inl rfl) (pe_chain op_le op_lt pe_int (pv 2) (pe_callB call_len_str (by rfl) T.len PySem.boot_len (pa_cons (pv 1) pa_nil))))
      (pss_cons (ps_if (pt_cmpR op_eq (pv 0) (glS (by rfl) T.edge) (nomark _)) (pss_one (ps_ret (pe_not (pv 3)))) pss_nil)
      (pss_one (ps_ret (pe_and (pv 3) (pe_one (pe_cmpR op_inS (pe_ix ix_str (pv 1) (pv 2) (fun _ _ => rfl)) (pv 0) (by rfl))))))), ?_⟩
    refine q_asg (H := H) (ev_chain (g := fun i j => decide (i ≤ j)) (g' := fun i j => decide (i < j)) ev_c (ev_var rfl) (ev_lenS (z := z) (ev_var rfl) (by omega))) fun H1 e1 => ?_
    refine q_when (et_test (ev_eqS (a := p) (b := [35]) (ev_var rfl) ev_c)) (fun hp H2 e2 => ?_) (fun hp H2 e2 => ?_)
    · have hp' : p = [35] := of_decide_eq_true hp
      refine s_ret (ev_is (ev_notV (ev_var rfl)) ?_) fun H3 e3 => q H3 ((e1.trans e2).trans e3)
      congr 1
      unfold fit
      rw [hp']
      by_cases hi : 0 ≤ i ∧ i < (z.length : Int)
      · rw [look_in hi.1 hi.2, decide_eq_true hi.1, decide_eq_true hi.2]
        rfl
      · have hn : look z i = none := by
          by_cases h0 : i < 0
          · exact look_neg h0
          · exact look_out (by omega)
        rw [hn]
        by_cases h0 : 0 ≤ i
        · rw [decide_eq_true h0, decide_eq_false (by omega)]
          rfl
        · rw [decide_eq_false h0]
          rfl
    · have hp' : ¬ p = [35] := of_decide_eq_false hp
      by_cases hi : 0 ≤ i ∧ i < (z.length : Int)
      · have hz : z[i.toNat]? = some (z[i.toNat]'(by omega)) := List.getElem?_eq_getElem (by omega)
        have ei : ((i.toNat : Nat) : Int) = i := Int.toNat_of_nonneg hi.1
        refine s_ret (ev_is (ev_andV (b := decide (z[i.toNat]'(by omega) ∈ p)) (ev_var rfl) fun _ => ev_inS (ev_ixS (i := i.toNat) (ev_var rfl) (by rw [ei]; exact ev_var rfl) (by omega) hz) (ev_var rfl)) ?_) fun H3 e3 => q H3 ((e1.trans e2).trans e3)
        congr 1
        unfold fit
        rw [look_in hi.1 hi.2, decide_eq_true hi.1, decide_eq_true hi.2]
        unfold fitO
        rw [decide_eq_false hp']
        rfl
      · have hn : look z i = none := by
          by_cases h0 : i < 0
          · exact look_neg h0
          · exact look_out (by omega)
        have hb : (decide (0 ≤ i) && decide (i < (z.length : Int))) = false := by
          by_cases h0 : 0 ≤ i
          · rw [decide_eq_true h0, decide_eq_false (by omega)]
            rfl
          · rw [decide_eq_false h0]
            rfl
        refine s_ret (ev_is (ev_andV (b := false) (ev_var rfl) fun hc => ?_) ?_) fun H3 e3 => q H3 ((e1.trans e2).trans e3)
        · rw [hb] at hc
          cases hc
        · congr 1
          rw [hb]
          unfold fit
          rw [hn]
          unfold fitO
          rw [decide_eq_false hp']
          rfl
theorem v_fits {p z : Wd} {i : Int} {H : Hp} (hl : z.length ≤ 1000) : SpV spFits [.str (S p), .str (S z), .int i] H (.bl (fit p z i)) := fun H1 _ Q q _ => ⟨p, z, i, rfl, hl, q⟩
end
end K23


namespace K23
open PySem L2 Evl
abbrev strsV (ps : List Wd) : List V := ps.map fun p => V.str (S p)
/-- a rule stands at v -/
structure RuleAt (K : PySem.W.Frag) (H : Hp) (v : V) (r : Rl) : Prop where
  ex : ∃ a l b, v = .ref a ∧ SqT K H a [.str (S [r.c]), .str (S r.new), .ref l, .ref b] ∧ SqT K H l (strsV r.left) ∧ SqT K H b (strsV r.right)
theorem RuleAt.mono {K : PySem.W.Frag} {H H' : Hp} {v : V} {r : Rl} (h : RuleAt K H v r) (e : Ex H H') : RuleAt K H' v r := by
  obtain ⟨a, l, b, h1, h2, h3, h4⟩ := h.ex
  exact ⟨a, l, b, h1, ex_t e h2, ex_t e h3, ex_t e h4⟩
theorem fitsL_range (ps : List Wd) (z : Wd) (a : Int) : ((List.range ps.length).map fun (i : Nat) => fit (ps.getD i []) z (a + (i : Int))).all id = fitsL ps z a := by
  rw [Bool.eq_iff_iff, fitsL_iff, List.all_eq_true]
  constructor
  · intro h j p hp
    have hj : j < ps.length := (List.getElem?_eq_some_iff.mp hp).1
    have := h _ (List.mem_map.mpr ⟨j, List.mem_range.mpr hj, rfl⟩)
    rw [List.getD_eq_getElem?_getD, hp] at this
    exact this
  · intro h b hb
    obtain ⟨j, hj, rfl⟩ := List.mem_map.mp hb
    have hj' : j < ps.length := List.mem_range.mp hj
    rw [List.getD_eq_getElem?_getD, List.getElem?_eq_getElem hj']
    exact h j _ (List.getElem?_eq_getElem hj')
theorem strsV_get {ps : List Wd} {i : Nat} {x : V} (h : (strsV ps)[i]? = some x) : i < ps.length ∧ x = .str (S (ps.getD i [])) ∧ ps[i]? = some (ps.getD i []) := by
  rw [List.getElem?_map] at h
  cases e : ps[i]? with
  | none => rw [e] at h; cases h
  | some p =>
    rw [e] at h
    have hi := (List.getElem?_eq_some_iff.mp e).1
    rw [List.getD_eq_getElem?_getD, e]
    exact ⟨hi, (Option.some.inj h).symm, rfl⟩
section
variable {P : Program} {w : World} {K : PySem.W.Frag} {mg : Str → Option Value} {base : Heap}
/-! ### is_there -/
abbrev nIsThere : List Str := ["rule", "word", "at", "letter", "_", "left", "right", "index", "place"]
theorem scIsThere : FnScope nIsThere ["rule", "word", "at"] (defScope tIsThere) := ⟨rfl, rfl, rfl, by decide +kernel, rfl, by decide +kernel, by decide +kernel⟩
def spIsThere (K : PySem.W.Frag) : Sp := fun vs H Q _ => ∃ (v : V) (r : Rl) (z : Wd) (i : Nat), vs = [v, .str (S z), .int (i : Int)] ∧ RuleAt K H v r ∧ z.length ≤ 1000 ∧ i < z.length ∧ r.left.length ≤ 100 ∧ r.right.length ≤ 100 ∧ ∀ H', Ex H H' → Q (.bl (isThere r z (i : Int))) H'
theorem cal_is_there (D : DefK K mg "is_there" "is_there" tIsThere ["rule", "word", "at"]) (T : Glo mg) (C1 : C8.Cal P w K mg base 1 "fits" spFits []) : C8.Cal P w K mg base 2 "is_there" (spIsThere K) [] := by
  refine calK D scIsThere (fun vs H Q E h => ?_) (fun f cdv A outer s H vs Q E hr h => ?_)
  · obtain ⟨v, r, z, i, rfl, _⟩ := h
    rfl
  · obtain ⟨v, r, z, i, rfl, hR, hl, hi, hll, hlr, q⟩ := h
    obtain ⟨a, l, b, rfl, ha, hl4, hb⟩ := hR.ex
    refine ⟨_, pss_cons (ps_asg (pv 0) (pg_tup (by rfl) (pgs_cons (pg_name (i := 3) scIsThere.nd rfl (.inl rfl)) (pgs_cons (pg_name (i := 4) scIsThere.nd rfl (.inl rfl)) (pgs_cons (pg_name (i := 5) scIsThere.nd rfl (.inl rfl)) (pgs_cons (pg_name (i := 6) scIsThere.nd rfl (.inl rfl)) pgs_nil))))))
      (pss_cons (ps_if (pt_cmpR op_ne (pe_ix ix_str (pv 1) (pv 2) (fun _ _ => rfl)) (pv 3) (nomark _)) (pss_one (ps_ret pe_bl)) pss_nil)
      (pss_cons (ps_for PassesOwn.never rfl (pi_enumT (by rfl) T.enumerate (pa_cons (pv 5) pa_nil)) (pg_tup (by rfl) (pgs_cons (pg_name (i := 7) scIsThere.nd rfl (.inl rfl)) (pgs_cons (pg_name (i := 8) scIsThere.nd rfl (.inl rfl)) pgs_nil)))
        (pss_one (ps_if (pt_not (pt_val (C8.pe_c C1 hr (by decide) (by rfl) (pa_cons (pv 8) (pa_cons (pv 1) (pa_cons (pe_op op_add (pe_op op_sub (pv 2) (pe_callB call_len_seq (by rfl) T.len PySem.boot_len (pa_cons (pv 5) pa_nil))) (pv 7)) pa_nil)))))) (pss_one (ps_ret pe_bl)) pss_nil)))
      (pss_one (ps_ret (pe_callB (cr_all rfl) (by rfl) T.all (by decide +kernel) (pa_cons
        (pe_lc (own := [("index", 7), ("place", 8)]) (g := gTup K 2 (gCons (gName 7) (gCons (gName 8) gNil))) (tt := tYes) rfl scIsThere.nd (pi_enumT (by rfl) T.enumerate (pa_cons (pv 6) pa_nil)) (blkOk_by (N := nIsThere) (sc := defScope tIsThere) (by decide +kernel))
          (fun _ _ _ _ _ => pg_tup (by rfl) (pgs_cons (pg_name (i := 7) scIsThere.nd rfl (.inl rfl)) (pgs_cons (pg_name (i := 8) scIsThere.nd rfl (.inl rfl)) pgs_nil))) (fun _ _ _ _ _ => pts_nil)
          (fun _ _ _ _ _ => C8.pe_c C1 hr (by decide) (by rfl) (pa_cons (pv 8) (pa_cons (pv 1) (pa_cons (pe_op op_add (pe_op op_add (pv 2) pe_int) (pv 7)) pa_nil))))) pa_nil)))))), ?_⟩
    refine ⟨_, rfl, a, _, rfl, ha, rfl, _, _, rfl, _, _, rfl, _, _, rfl, _, _, rfl, rfl, ?_⟩
    have hz : z[i]? = some (z[i]'hi) := List.getElem?_eq_getElem hi
    have hlk : look z (i : Int) = some (z[i]'hi) := by rw [look_nat, hz]
    refine q_when (H := H) (et_test (ev_neS (a := [z[i]'hi]) (b := [r.c]) (ev_ixS (i := i) (ev_var rfl) (ev_var rfl) (by omega) hz) (ev_var rfl))) (fun hne H1 e1 => ?_) (fun hne H1 e1 => ?_)
    · refine s_ret (ev_is ev_c ?_) fun H2 e2 => q H2 (e1.trans e2)
      congr 1
      unfold isThere
      rw [hlk, decide_eq_false]
      · rfl
      · intro hc
        rw [Option.some.inj hc] at hne
        simp at hne
    have hcc : z[i]'hi = r.c := by
      have h0 : ¬ (decide ([z[i]'hi] = [r.c])) = false := by
        intro h0
        rw [h0] at hne
        cases hne
      have h1 := of_decide_eq_true (Bool.not_eq_false _ ▸ h0)
      exact (List.cons.inj h1).1
    refine ⟨.ref l, rfl, l, _, rfl, ex_t e1 hl4, for_it (walk_enumT (xs := strsV r.left)) (fun n σ H' => ∃ x7 x8, σ = [some (.ref a), some (.str (S z)), some (.int (i : Int)), some (.str (S [r.c])), some (.str (S r.new)), some (.ref l), some (.ref b), x7, x8] ∧ Ex H H' ∧
      ∀ (j : Nat) (p : Wd), j < n → r.left[j]? = some p → fit p z ((i : Int) - (r.left.length : Int) + (j : Int)) = true) ⟨none, none, rfl, e1, fun j p hj => absurd hj (Nat.not_lt_zero _)⟩ (fun n σ H' _ hp => ?_) (fun n x σ H2 H3 hn hp y => ?_) (fun σ H2 hp => ?_)⟩
    · obtain ⟨_, _, _, e, _⟩ := hp
      exact ex_t e hl4
    · obtain ⟨x7, x8, rfl, e2, hp⟩ := hp
      obtain ⟨T', u, x, rfl, hT, rfl, hu, hx⟩ := y
      have eu : u = .int (n : Nat) := (Option.some.inj hu).symm
      subst eu
      obtain ⟨hn', rfl, hx'⟩ := strsV_get hx
      refine ⟨T', _, rfl, st_of upd_same, rfl, _, _, rfl, _, _, rfl, rfl, ?_⟩
      have e3 : Ex H (upd H2 T' (.tup [.int (n : Nat), .str (S (r.left.getD n []))])) := e2.trans (Ex.new hT)
      refine s_when (et_not (et_B (ev_call (ea_cons (ev_var rfl) (ea_cons (ev_var rfl) (ea_cons (ev_I0 (ev_I0 (ev_var rfl) (ev_lenT (ev_var rfl) (ex_t e3 hl4))) (ev_var rfl)) ea_nil))) (v_fits hl)))) (fun hc H4 e4 => ?_) (fun hc H4 e4 => ?_)
      · refine s_ret (ev_is ev_c ?_) fun H5 e5 => q H5 ((e3.trans e4).trans e5)
        congr 1
        have hfl : fitsL r.left z ((i : Int) - (r.left.length : Int)) = false := by
          cases hh : fitsL r.left z ((i : Int) - (r.left.length : Int)) with
          | false => rfl
          | true =>
            have := (fitsL_iff _ _ _).mp hh n _ hx'
            rw [List.length_map] at hc
            rw [this] at hc
            cases hc
        unfold isThere
        rw [hfl, Bool.false_and, Bool.and_false]
      · refine ⟨some (.int (n : Nat)), some (.str (S (r.left.getD n []))), rfl, e3.trans e4, fun j p hj hjp => ?_⟩
        by_cases hjn : j < n
        · exact hp j p hjn hjp
        · have ej : j = n := by omega
          subst ej
          rw [hx'] at hjp
          rw [← Option.some.inj hjp]
          rw [List.length_map] at hc
          cases hh : fit (r.left.getD j []) z ((i : Int) - (r.left.length : Int) + (j : Int)) with
          | true => rfl
          | false =>
            rw [hh] at hc
            cases hc
    · obtain ⟨x7, x8, rfl, e2, hp⟩ := hp
      have hfl : fitsL r.left z ((i : Int) - (r.left.length : Int)) = true := (fitsL_iff _ _ _).mpr fun j p hj => hp j p (by
        rw [List.length_map]
        exact (List.getElem?_eq_some_iff.mp hj).1) hj
      have hlen : (strsV r.right).length = r.right.length := List.length_map _
      refine s_ret (ev_is (ev_all (bs := (List.range r.right.length).map fun (j : Nat) => fit (r.right.getD j []) z ((i : Int) + 1 + (j : Int))) (el_is (el_lcE (xs := strsV r.right) (fun (j : Nat) => V.bl (fit (r.right.getD j []) z ((i : Int) + 1 + (j : Int)))) (ea_cons (ev_var rfl) ea_nil) (ex_t e2 hb) (by rw [hlen]; omega) (fun _ _ => rfl) fun j x H3 e3 hx => ?_) (by rw [hlen, List.map_map]; rfl))) ?_) fun H3 e3 => q H3 (e2.trans e3)
      · obtain ⟨_, rfl, _⟩ := strsV_get hx
        exact ev_call (ea_cons (ev_var rfl) (ea_cons (ev_var rfl) (ea_cons (ev_I0 (ev_I0 (ev_var rfl) ev_c) (ev_var rfl)) ea_nil))) (v_fits hl)
      · congr 1
        rw [fitsL_range]
        unfold isThere
        rw [hfl, hlk, hcc, decide_eq_true rfl]
        rfl
theorem v_is_there {v : V} {r : Rl} {z : Wd} {i : Nat} {H : Hp} (hR : RuleAt K H v r) (hl : z.length ≤ 1000) (hi : i < z.length) (h1 : r.left.length ≤ 100) (h2 : r.right.length ≤ 100) : SpV (spIsThere K) [v, .str (S z), .int (i : Int)] H (.bl (isThere r z (i : Int))) :=
  fun H1 e Q q _ => ⟨v, r, z, i, rfl, hR.mono e, hl, hi, h1, h2, q⟩
end
end K23


namespace K23
open PySem PySem.Spec L2 PySem.Froz PyProof.Rows
theorem lt_one (a b : Nat) : ltCps [a] [b] = decide (a < b) := by
  rw [ltCps_eq]
  by_cases h : a < b
  · rw [decide_eq_true h, decide_eq_true]
    exact List.Lex.rel h
  · rw [decide_eq_false h, decide_eq_false]
    intro hc
    cases hc with
    | rel h' => exact h h'
    | cons h' => cases h'
theorem rising_le : ∀ (a : Nat) (qs : List Nat), risingS (sing a) (qs.map sing) = true → (a :: qs).Pairwise (· ≤ ·)
  | a, [], _ => by simp
  | a, b :: r, h => by
    rw [List.map_cons] at h
    unfold risingS at h
    rw [Bool.and_eq_true] at h
    have h1 : ltCps [b] [a] = false := by
      have := h.1
      cases hh : ltCps [b] [a] with
      | false => rfl
      | true =>
        have e : ltCps (sing b).cps.toList (sing a).cps.toList = ltCps [b] [a] := rfl
        rw [e, hh] at this
        cases this
    rw [lt_one] at h1
    have h1' : a ≤ b := Nat.le_of_not_lt (of_decide_eq_false h1)
    have ih := rising_le b r h.2
    refine List.pairwise_cons.mpr ⟨fun x hx => ?_, ih⟩
    rcases List.mem_cons.mp hx with rfl | hx
    · exact h1'
    · exact Nat.le_trans h1' ((List.pairwise_cons.mp ih).1 x hx)
theorem sorted_le : ∀ qs : List Nat, sortedS (qs.map sing) = true → qs.Pairwise (· ≤ ·)
  | [], _ => List.Pairwise.nil
  | a :: r, h => rising_le a r h
/-- a text whose signs rise is what sorted(set(..)) makes of it -/
theorem sorted_is {p : List Nat} (hp : p.Pairwise (· < ·)) {ys : List Str} (h1 : ys.Perm (p.map sing).reverse) (h2 : sortedS ys = true) : ys = p.map sing := by
  have hall : ∀ y ∈ ys, ∃ c, y = sing c := fun y hy => by
    have := h1.mem_iff.mp hy
    rw [List.mem_reverse, List.mem_map] at this
    obtain ⟨c, _, e⟩ := this
    exact ⟨c, e.symm⟩
  have hq : ys = (ys.map fun y => y.cps.toList.headD 0).map sing := by
    rw [List.map_map]
    conv => lhs; rw [← List.map_id ys]
    refine List.map_congr_left fun y hy => ?_
    obtain ⟨c, rfl⟩ := hall y hy
    rfl
  have hpm : (ys.map fun y => y.cps.toList.headD 0).Perm p := by
    have := (h1.trans (List.reverse_perm _)).map fun y => y.cps.toList.headD 0
    rw [List.map_map] at this
    have e : (p.map ((fun y : Str => y.cps.toList.headD 0) ∘ sing)) = p := by
      conv => rhs; rw [← List.map_id p]
      rfl
    rw [e] at this
    exact this
  rw [hq] at h2
  have hs := sorted_le _ h2
  have e := List.Perm.eq_of_pairwise (le := (· ≤ ·)) (fun a b _ _ h h' => Nat.le_antisymm h h') hs (hp.imp fun h => Nat.le_of_lt h) hpm
  rw [hq, e]
theorem shaped_strs (p : List Nat) (hp : ∀ c ∈ p, c < 128) : SeqAt.shaped (.list (p.map fun c => PyData.str (sing c))) = true := by
  have h1 : ∀ p : List Nat, (∀ c ∈ p, c < 128) → PyData.canLayAll0 (p.map fun c => PyData.str (sing c)) = true ∧ PyData.depthAll (p.map fun c => PyData.str (sing c)) = 0 := by
    intro p
    induction p with
    | nil => intro _; exact ⟨by simp [PyData.canLayAll0], by simp [PyData.depthAll]⟩
    | cons x r ih =>
      intro h
      obtain ⟨a, b⟩ := ih fun c hc => h c (List.mem_cons_of_mem _ hc)
      have hx := h x (List.mem_cons_self ..)
      refine ⟨?_, ?_⟩
      · rw [List.map_cons]
        simp only [PyData.canLayAll0, PyData.canLay0, a, Bool.and_true]
        show (sing x).cps.all (· < 0x110000) = true
        simp [sing]
        omega
      · rw [List.map_cons]
        simp only [PyData.depthAll, PyData.depth, b]
        rfl
  obtain ⟨a, b⟩ := h1 p hp
  unfold SeqAt.shaped
  simp only [PyData.canLay0, PyData.depth, a, b, Bool.true_and]
  decide
end K23


namespace K23
open PySem L2 Evl
/-! ### what a rule must be -/
structure VP (k : Int) (p : Wd) : Prop where
  ne : p ≠ []
  has : hasL k p = true
  asc : p.Pairwise (· < ·)
theorem has_mem {k : Int} {z : Wd} (h : hasL k z = true) : ∀ c ∈ z, c ∈ ltrs k := fun c hc => of_decide_eq_true (List.all_eq_true.mp h c hc)
theorem has_of {k : Int} {z : Wd} (h : ∀ c ∈ z, c ∈ ltrs k) : hasL k z = true := List.all_eq_true.mpr fun c hc => decide_eq_true (h c hc)
theorem ltrs_abc {k : Int} {c : Nat} (h : c ∈ ltrs k) : c ∈ abc := List.mem_of_mem_take h
theorem abc_lt : ∀ c ∈ abc, 97 ≤ c ∧ c ≤ 102 := by decide
theorem asc_len {p : Wd} (h : p.Pairwise (· < ·)) (hb : ∀ c ∈ p, 97 ≤ c ∧ c ≤ 102) : p.length ≤ 6 := by
  have hsub : ∀ c ∈ p, c ∈ abc := fun c hc => by
    have := hb c hc
    have : c = 97 ∨ c = 98 ∨ c = 99 ∨ c = 100 ∨ c = 101 ∨ c = 102 := by omega
    rcases this with rfl | rfl | rfl | rfl | rfl | rfl <;> decide
  have hn : p.Nodup := h.imp fun h => Nat.ne_of_lt h
  exact hn.length_le_of_subset (fun c hc => hsub c hc)
theorem VP.lt {k : Int} {p : Wd} (h : VP k p) : ∀ c ∈ p, c < 128 := fun c hc => by
  have := abc_lt c (ltrs_abc (has_mem h.has c hc))
  omega
theorem VP.not_edge {k : Int} {p : Wd} (h : VP k p) : p ≠ [35] := fun e => by
  have := abc_lt 35 (ltrs_abc (has_mem h.has 35 (by rw [e]; simp)))
  omega
def VPl (k : Int) (ps : List Wd) (edge : Int) : Prop := ∀ (i : Nat) (p : Wd), ps[i]? = some p → VP k p ∨ (p = [35] ∧ (i : Int) = edge)
structure VR (k : Int) (r : Rl) : Prop where
  c : r.c ∈ ltrs k
  new : hasL k r.new = true
  newLen : r.new.length ≤ 3
  ll : r.left.length ≤ 2
  lr : r.right.length ≤ 2
  left : VPl k r.left 0
  right : VPl k r.right ((r.right.length : Int) - 1)
section
variable {K : PySem.W.Frag} {σ : L2.St} {H : Hp} {ta tb tc te tk : TE}
theorem ev_str {x : Str} {z : Wd} (e : x = S z) : Ev (tC (.str x)) σ H (.str (S z)) := by
  rw [e]
  exact ev_c
theorem str_nil : ("" : Str) = S [] := by decide +kernel
abbrev singsV (p : Wd) : List V := p.map fun c => V.str (PySem.Froz.sing c)
theorem el_listX {p : Wd} (h : Ev te σ H (.str (S p))) (hz : p.length ≤ 1000) : EvL (tCB rListX (tCons te tNil)) σ H (singsV p) := fun H1 e Q q =>
  h H1 e _ fun H2 e2 => ⟨S p, rfl, by simpa using sz_of (Nat.le_trans hz (by decide)), fun l hl => q l _ (fresh_back e2 hl) (e2.trans (Ex.new hl)) (by rw [upd_same])⟩
theorem el_sortX {P : Program} {w : World} {p : Wd} (h : Ev te σ H (.str (S p))) (hp : p.Pairwise (· < ·)) (hb : ∀ c ∈ p, 97 ≤ c ∧ c ≤ 102) : EvL (tCB (rSortX P w) (tCons (tCB (rSetX P w) (tCons te tNil)) tNil)) σ H (singsV p) := fun H1 e Q q =>
  h H1 e _ fun H2 e2 => ⟨S p, rfl, by
    rw [Array.all_eq_true']
    intro c hc
    have := hb c (by simpa using hc)
    exact decide_eq_true (by omega), (show List.Nodup p from hp.imp fun h => Nat.ne_of_lt h), by
    have := asc_len hp hb
    simp
    omega, fun a ha => ⟨a, _, rfl, upd_same, by
      have := asc_len hp hb
      simp
      omega, fun ys l h1 h2 hl => by
      have e4 : (S p).cps.toList = p := by simp
      rw [e4] at h1
      have e3 := sorted_is hp h1 h2
      subst e3
      rw [List.map_map]
      exact q l _ (fresh_back (e2.trans (Ex.new ha)) hl) ((e2.trans (Ex.new ha)).trans (Ex.new hl)) upd_same⟩⟩
theorem dp_sings (K : PySem.W.Frag) (H : Hp) : ∀ p : Wd, DpAll K H (singsV p) (p.map fun c => PyData.str (PySem.Froz.sing c))
  | [] => .nil
  | c :: r => .cons (.str _) (dp_sings K H r)
theorem rv_eqD {a b : Addr} {p : Wd} (h1 : H a = some (.lst (singsV p))) (h2 : H b = some (.lst (singsV p))) (hp : ∀ c ∈ p, c < 128) : RV (rEqD K) (.ref a) (.ref b) H (.bl true) := fun H1 e Q q =>
  ⟨_, _, .lst (sq_of (e a _ h1)) (dp_sings K H1 p), .lst (sq_of (e b _ h2)) (dp_sings K H1 p), shaped_strs p hp, shaped_strs p hp, by
    rw [SeqAt.eqv_refl _ (SeqAt.canLay_of_shaped (shaped_strs p hp))]
    exact q H1 (Ex.refl _)⟩
end
section
variable {P : Program} {w : World} {K : PySem.W.Frag} {mg : Str → Option Value} {base : Heap}
/-! ### is_place -/
theorem scIsPlace : FnScope ["k", "place"] ["k", "place"] (defScope tIsPlace) := ⟨rfl, rfl, rfl, by decide +kernel, rfl, by decide +kernel, by decide +kernel⟩
def spIsPlace : Sp := fun vs H Q _ => ∃ (k : Int) (p : Wd), vs = [.int k, .str (S p)] ∧ 0 ≤ k ∧ (VP k p ∨ p = [35]) ∧ ∀ H', Ex H H' → Q (.bl (!decide (p = [35]))) H'
theorem cal_is_place (D : DefK K mg "is_place" "is_place" tIsPlace ["k", "place"]) (T : Glo mg) (C1 : C8.Cal P w K mg base 1 "has_letters" spHasLetters []) : C8.Cal P w K mg base 2 "is_place" spIsPlace [] := by
  refine calK D scIsPlace (fun vs H Q E h => ?_) (fun f cdv A outer s H vs Q E hr h => ?_)
  · obtain ⟨k, p, rfl, _⟩ := h
    rfl
  · obtain ⟨k, p, rfl, h0, hp, q⟩ := h
    refine ⟨_, pss_one (ps_ret (pe_and (pe_cmpR op_ne (pv 1) pe_str (nomark _)) (pe_and (C8.pe_c C1 hr (by decide) (by rfl) (pa_cons (pv 0) (pa_cons (pv 1) pa_nil)))
      (pe_one (pe_cmpR (op_eqD hr.units) (pe_callTy (cr_listX rfl) (by rfl) T.list (by decide +kernel) (pa_cons (pv 1) pa_nil))
        (pe_callB (cr_sortX rfl) (by rfl) T.sorted (by decide +kernel) (pa_cons (pe_callTy (cr_setX rfl) (by rfl) T.set (by decide +kernel) (pa_cons (pv 1) pa_nil)) pa_nil)) (nomark _)))))), ?_⟩
    rcases hp with hp | rfl
    · have hb : ∀ c ∈ p, 97 ≤ c ∧ c ≤ 102 := fun c hc => abc_lt c (ltrs_abc (has_mem hp.has c hc))
      have hlen := asc_len hp.asc hb
      refine s_ret (H := H) (ev_is (ev_andV (ev_neS (a := p) (b := []) (ev_var rfl) (ev_str str_nil)) fun _ => ev_andV (b := true) (ev_call (ea_cons (ev_var rfl) (ea_cons (ev_var rfl) ea_nil)) (v_has_letters h0 (by omega))) fun _ =>
        ev_opLL (el_listX (p := p) (ev_var rfl) (by omega)) (el_sortX (p := p) (ev_var rfl) hp.asc hb) fun a b H1 h1 h2 _ => rv_eqD h1 h2 hp.lt) ?_) fun H2 e2 => q H2 e2
      rw [hp.has, decide_eq_false hp.ne, decide_eq_false hp.not_edge]
      rfl
    · have hh : hasL k [35] = false := by
        cases e : hasL k [35] with
        | false => rfl
        | true =>
          have := abc_lt 35 (ltrs_abc (has_mem e 35 (by simp)))
          omega
      refine s_ret (H := H) (ev_is (ev_andV (b := false) (ev_neS (a := [35]) (b := []) (ev_var rfl) (ev_str str_nil)) fun _ => ev_is (ev_andV (b := false) (ev_call (ea_cons (ev_var rfl) (ea_cons (ev_var rfl) ea_nil)) (v_has_letters h0 (by decide))) fun hc => ?_) ?_) ?_) fun H2 e2 => q H2 e2
      · rw [hh] at hc
        cases hc
      · rw [hh]
        rfl
      · rfl
theorem v_is_place {k : Int} {p : Wd} {H : Hp} (h0 : 0 ≤ k) (hp : VP k p ∨ p = [35]) : SpV spIsPlace [.int k, .str (S p)] H (.bl (!decide (p = [35]))) := fun H1 _ Q q _ => ⟨k, p, rfl, h0, hp, q⟩
/-! ### are_places -/
abbrev nArePlaces : List Str := ["k", "places", "edge", "at", "place"]
theorem scArePlaces : FnScope nArePlaces ["k", "places", "edge"] (defScope tArePlaces) := ⟨rfl, rfl, rfl, by decide +kernel, rfl, by decide +kernel, by decide +kernel⟩
def spArePlaces (K : PySem.W.Frag) : Sp := fun vs H Q _ => ∃ (k : Int) (a : Addr) (ps : List Wd) (edge : Int), vs = [.int k, .ref a, .int edge] ∧ 0 ≤ k ∧ SqT K H a (strsV ps) ∧ ps.length ≤ 2 ∧ VPl k ps edge ∧ ∀ H', Ex H H' → Q (.bl true) H'
theorem cal_are_places (D : DefK K mg "are_places" "are_places" tArePlaces ["k", "places", "edge"]) (T : Glo mg) (C1 : C8.Cal P w K mg base 2 "is_place" spIsPlace []) : C8.Cal P w K mg base 3 "are_places" (spArePlaces K) [] := by
  refine calK D scArePlaces (fun vs H Q E h => ?_) (fun f cdv A outer s H vs Q E hr h => ?_)
  · obtain ⟨k, a, ps, edge, rfl, _⟩ := h
    rfl
  · obtain ⟨k, a, ps, edge, rfl, h0, ha, hl, hv, q⟩ := h
    refine ⟨_, pss_cons (ps_if (pt_cmpR op_gt (pe_callB call_len_seq (by rfl) T.len PySem.boot_len (pa_cons (pv 1) pa_nil)) (glI (by rfl) T.mostPlaces) (nomark _)) (pss_one (ps_ret pe_bl)) pss_nil)
      (pss_one (ps_ret (pe_callB (cr_all rfl) (by rfl) T.all (by decide +kernel) (pa_cons
        (pe_lc (own := [("at", 3), ("place", 4)]) (g := gTup K 2 (gCons (gName 3) (gCons (gName 4) gNil))) (tt := tYes) rfl scArePlaces.nd (pi_enumT (by rfl) T.enumerate (pa_cons (pv 1) pa_nil)) (blkOk_by (N := nArePlaces) (sc := defScope tArePlaces) (by decide +kernel))
          (fun _ _ _ _ _ => pg_tup (by rfl) (pgs_cons (pg_name (i := 3) scArePlaces.nd rfl (.inl rfl)) (pgs_cons (pg_name (i := 4) scArePlaces.nd rfl (.inl rfl)) pgs_nil))) (fun _ _ _ _ _ => pts_nil)
          (fun _ _ _ _ _ => pe_or (C8.pe_c C1 hr (by decide) (by rfl) (pa_cons (pv 0) (pa_cons (pv 4) pa_nil))) (pe_one (pe_and (pe_cmpR op_eq (pv 4) (glS (by rfl) T.edge) (nomark _)) (pe_one (pe_cmpR op_eq (pv 3) (pv 2) (nomark _))))))) pa_nil)))), ?_⟩
    have hlen : (strsV ps).length = ps.length := List.length_map _
    refine q_when (H := H) (et_test (ev_I0 (ev_lenT (ev_var rfl) ha) ev_c)) (fun hc => ?_) (fun _ H1 e1 => ?_)
    · exact absurd (of_decide_eq_true hc) (by omega)
    refine s_ret (ev_is (ev_all (bs := (List.range ps.length).map fun _ => true) (el_is (el_lcE (xs := strsV ps) (fun _ => V.bl true) (ea_cons (ev_var rfl) ea_nil) (ex_t e1 ha) (by omega) (fun _ _ => rfl) fun j x H3 e3 hx => ?_) (by rw [hlen, List.map_map]; rfl))) (by simp)) fun H3 e3 => q H3 (e1.trans e3)
    obtain ⟨hj, rfl, hjp⟩ := strsV_get hx
    have hvj := hv j _ hjp
    refine ev_is (ev_orV (b := true) (ev_call (ea_cons (ev_var rfl) (ea_cons (ev_var rfl) ea_nil)) (v_is_place h0 (hvj.imp id fun h => h.1))) fun hc => ?_) ?_
    · rcases hvj with hvj | ⟨he, hi⟩
      · rw [decide_eq_false hvj.not_edge] at hc
        cases hc
      · rw [he]
        refine ev_is (ev_andV (ev_eqS (a := [35]) (b := [35]) (ev_var rfl) ev_c) fun _ => ev_eqI (ev_var rfl) (ev_var rfl)) ?_
        rw [decide_eq_true hi]
        rfl
    · rw [Bool.or_true]
theorem v_are_places {k : Int} {a : Addr} {ps : List Wd} {edge : Int} {H : Hp} (h0 : 0 ≤ k) (ha : SqT K H a (strsV ps)) (hl : ps.length ≤ 2) (hv : VPl k ps edge) : SpV (spArePlaces K) [.int k, .ref a, .int edge] H (.bl true) :=
  fun H1 e Q q _ => ⟨k, a, ps, edge, rfl, h0, ex_t e ha, hl, hv, q⟩
end
end K23


namespace K23
open PySem L2 Evl
section
variable {P : Program} {w : World} {K : PySem.W.Frag} {mg : Str → Option Value} {base : Heap}
/-! ### is_rule -/
abbrev nIsRule : List Str := ["k", "rule", "letter", "new", "left", "right"]
theorem scIsRule : FnScope nIsRule ["k", "rule"] (defScope tIsRule) := ⟨rfl, rfl, rfl, by decide +kernel, rfl, by decide +kernel, by decide +kernel⟩
def spIsRule (K : PySem.W.Frag) : Sp := fun vs H Q _ => ∃ (k : Int) (v : V) (r : Rl), vs = [.int k, v] ∧ 2 ≤ k ∧ k ≤ 6 ∧ RuleAt K H v r ∧ VR k r ∧ ∀ H', Ex H H' → Q (.bl true) H'
theorem cal_is_rule (D : DefK K mg "is_rule" "is_rule" tIsRule ["k", "rule"]) (T : Glo mg) (C1 : C8.Cal P w K mg base 1 "check_size" spCheckSize []) (C2 : C8.Cal P w K mg base 1 "has_letters" spHasLetters []) (C3 : C8.Cal P w K mg base 3 "are_places" (spArePlaces K) []) :
    C8.Cal P w K mg base 4 "is_rule" (spIsRule K) [] := by
  refine calK D scIsRule (fun vs H Q E h => ?_) (fun f cdv A outer s H vs Q E hr h => ?_)
  · obtain ⟨k, v, r, rfl, _⟩ := h
    rfl
  · obtain ⟨k, v, r, rfl, h2, h6, hR, hV, q⟩ := h
    refine ⟨_, pss_cons (ps_expr (C8.pe_c C1 hr (by decide) (by rfl) (pa_cons (pv 0) pa_nil)))
      (pss_cons (ps_asg (pv 1) (pg_tup (by rfl) (pgs_cons (pg_name (i := 2) scIsRule.nd rfl (.inl rfl)) (pgs_cons (pg_name (i := 3) scIsRule.nd rfl (.inl rfl)) (pgs_cons (pg_name (i := 4) scIsRule.nd rfl (.inl rfl)) (pgs_cons (pg_name (i := 5) scIsRule.nd rfl (.inl rfl)) pgs_nil))))))
      (pss_cons (ps_if (PW.pt (pw_or (pt_cmpR op_ne (pe_callB call_len_str (by rfl) T.len PySem.boot_len (pa_cons (pv 2) pa_nil)) pe_int (nomark _))
        (pw_or (pt_cmpR op_notInS (pv 2) (pe_slice C8.sl_txt (glS (by rfl) T.letters) po_none (po_some (pv 0))) (by rfl))
        (pw_or (pt_cmpR op_gt (pe_callB call_len_str (by rfl) T.len PySem.boot_len (pa_cons (pv 3) pa_nil)) (glI (by rfl) T.mostNew) (nomark _))
        (pw_or1 (pt_not (pt_val (C8.pe_c C2 hr (by decide) (by rfl) (pa_cons (pv 0) (pa_cons (pv 3) pa_nil)))))))))) (pss_one (ps_ret pe_bl)) pss_nil)
      (pss_one (ps_ret (pe_and (C8.pe_c C3 hr (by decide) (by rfl) (pa_cons (pv 0) (pa_cons (pv 4) (pa_cons pe_int pa_nil))))
        (pe_one (C8.pe_c C3 hr (by decide) (by rfl) (pa_cons (pv 0) (pa_cons (pv 5) (pa_cons (pe_op op_sub (pe_callB call_len_seq (by rfl) T.len PySem.boot_len (pa_cons (pv 5) pa_nil)) pe_int) pa_nil)))))))))), ?_⟩
    refine q_drop (H := H) (ev_call (ea_cons (ev_var rfl) ea_nil) (v_check_size h2 h6)) fun H1 e1 => ?_
    obtain ⟨a, l, b, rfl, ha, hl, hb⟩ := (hR.mono e1).ex
    refine ⟨_, rfl, a, _, rfl, ha, rfl, _, _, rfl, _, _, rfl, _, _, rfl, _, _, rfl, rfl, ?_⟩
    have hnl := hV.newLen
    refine q_when (H := H1) (et_or (et_test (ev_neI (ev_lenS (z := [r.c]) (ev_var rfl) (by simp)) ev_c)) fun _ => et_or (et_test (ev_notInS (ev_var rfl) (ev_ltrs (ev_var rfl) (by omega)))) fun _ =>
      et_or (et_test (ev_I0 (ev_lenS (z := r.new) (ev_var rfl) (by omega)) ev_c)) fun _ => et_not (et_B (ev_call (ea_cons (ev_var rfl) (ea_cons (ev_var rfl) ea_nil)) (v_has_letters (by omega) (by omega))))) (fun hc => ?_) (fun _ H2 e2 => ?_)
    · rw [hV.new, decide_eq_true hV.c, decide_eq_false (show ¬ ((3 : Int) < (r.new.length : Int)) by omega)] at hc
      cases hc
    · have hlen : (strsV r.right).length = r.right.length := List.length_map _
      refine s_ret (ev_andV (ev_call (ea_cons (ev_var rfl) (ea_cons (ev_var rfl) (ea_cons ev_c ea_nil))) (v_are_places (by omega) (ex_t e2 hl) hV.ll hV.left)) fun _ =>
        ev_call (ea_cons (ev_var rfl) (ea_cons (ev_var rfl) (ea_cons (ev_I0 (ev_lenT (ev_var rfl) (ex_t e2 hb)) ev_c) ea_nil))) (v_are_places (by omega) (ex_t e2 hb) hV.lr (by rw [hlen]; exact hV.right))) fun H3 e3 => q H3 ((e1.trans e2).trans e3)
theorem v_is_rule {k : Int} {v : V} {r : Rl} {H : Hp} (h2 : 2 ≤ k) (h6 : k ≤ 6) (hR : RuleAt K H v r) (hV : VR k r) : SpV (spIsRule K) [.int k, v] H (.bl true) := fun H1 e Q q _ => ⟨k, v, r, rfl, h2, h6, hR.mono e, hV, q⟩
/-! ### is_rules -/
theorem scIsRules : FnScope ["k", "rules", "rule"] ["k", "rules"] (defScope tIsRules) := ⟨rfl, rfl, rfl, by decide +kernel, rfl, by decide +kernel, by decide +kernel⟩
def spIsRules (K : PySem.W.Frag) : Sp := fun vs H Q _ => ∃ (k : Int) (t : Addr) (v : V) (r : Rl), vs = [.int k, .ref t] ∧ 2 ≤ k ∧ k ≤ 6 ∧ SqT K H t [v] ∧ RuleAt K H v r ∧ VR k r ∧ ∀ H', Ex H H' → Q (.bl true) H'
theorem cal_is_rules (D : DefK K mg "is_rules" "is_rules" tIsRules ["k", "rules"]) (T : Glo mg) (C1 : C8.Cal P w K mg base 1 "check_size" spCheckSize []) (C2 : C8.Cal P w K mg base 4 "is_rule" (spIsRule K) []) : C8.Cal P w K mg base 5 "is_rules" (spIsRules K) [] := by
  refine calK D scIsRules (fun vs H Q E h => ?_) (fun f cdv A outer s H vs Q E hr h => ?_)
  · obtain ⟨k, t, v, r, rfl, _⟩ := h
    rfl
  · obtain ⟨k, t, v, r, rfl, h2, h6, ht, hR, hV, q⟩ := h
    refine ⟨_, pss_cons (ps_expr (C8.pe_c C1 hr (by decide) (by rfl) (pa_cons (pv 0) pa_nil)))
      (pss_one (ps_ret (pe_and (pe_cmpR op_le (pe_callB call_len_seq (by rfl) T.len PySem.boot_len (pa_cons (pv 1) pa_nil)) (glI (by rfl) T.mostRules) (nomark _))
        (pe_one (pe_callB (cr_all rfl) (by rfl) T.all (by decide +kernel) (pa_cons
          (pe_lc (own := [("rule", 2)]) (g := gName 2) (tt := tYes) rfl scIsRules.nd (pi_tup (pv 1)) (blkOk_by (N := ["k", "rules", "rule"]) (sc := defScope tIsRules) (by decide +kernel))
            (fun _ _ _ _ _ => pg_name (i := 2) scIsRules.nd rfl (.inl rfl)) (fun _ _ _ _ _ => pts_nil)
            (fun _ _ _ _ _ => C8.pe_c C2 hr (by decide) (by rfl) (pa_cons (pv 0) (pa_cons (pv 2) pa_nil)))) pa_nil)))))), ?_⟩
    refine q_drop (H := H) (ev_call (ea_cons (ev_var rfl) ea_nil) (v_check_size h2 h6)) fun H1 e1 => ?_
    refine s_ret (ev_is (ev_andV (ev_I0 (ev_lenT (ev_var rfl) (ex_t e1 ht)) ev_c) fun _ => ev_all (bs := [true]) (el_is (el_lcT (xs := [v]) (fun _ => V.bl true) (ev_var rfl) (ex_t e1 ht) (by simp) (fun _ => rfl) fun j x H3 e3 hx => ?_) rfl)) rfl) fun H3 e3 => q H3 (e1.trans e3)
    have hj : j = 0 := by
      have := (List.getElem?_eq_some_iff.mp hx).1
      simp at this
      exact this
    subst hj
    have ex : v = x := by simpa using hx
    subst ex
    exact ev_call (ea_cons (ev_var rfl) (ea_cons (ev_var rfl) ea_nil)) (v_is_rule h2 h6 (hR.mono (e1.trans e3)) hV)
theorem v_is_rules {k : Int} {t : Addr} {v : V} {r : Rl} {H : Hp} (h2 : 2 ≤ k) (h6 : k ≤ 6) (ht : SqT K H t [v]) (hR : RuleAt K H v r) (hV : VR k r) : SpV (spIsRules K) [.int k, .ref t] H (.bl true) := fun H1 e Q q _ => ⟨k, t, v, r, rfl, h2, h6, ex_t e ht, hR.mono e, hV, q⟩
/-! ### check_rule, check_rules -/
theorem scCheckRule : FnScope ["k", "rule"] ["k", "rule"] (defScope tCheckRule) := ⟨rfl, rfl, rfl, by decide +kernel, rfl, by decide +kernel, by decide +kernel⟩
def spCheckRule (K : PySem.W.Frag) : Sp := fun vs H Q _ => ∃ (k : Int) (v : V) (r : Rl), vs = [.int k, v] ∧ 2 ≤ k ∧ k ≤ 6 ∧ RuleAt K H v r ∧ VR k r ∧ ∀ H', Ex H H' → Q .non H'
theorem cal_check_rule (D : DefK K mg "check_rule" "check_rule" tCheckRule ["k", "rule"]) (C1 : C8.Cal P w K mg base 4 "is_rule" (spIsRule K) []) : C8.Cal P w K mg base 5 "check_rule" (spCheckRule K) [] := by
  refine calK D scCheckRule (fun vs H Q E h => ?_) (fun f cdv A outer s H vs Q E hr h => ?_)
  · obtain ⟨k, v, r, rfl, _⟩ := h
    rfl
  · obtain ⟨k, v, r, rfl, h2, h6, hR, hV, q⟩ := h
    refine ⟨_, pss_one (ps_if (pt_not (pt_val (C8.pe_c C1 hr (by decide) (by rfl) (pa_cons (pv 0) (pa_cons (pv 1) pa_nil))))) (pss_one ps_never) pss_nil), ?_⟩
    refine s_when (H := H) (et_not (et_B (ev_call (ea_cons (ev_var rfl) (ea_cons (ev_var rfl) ea_nil)) (v_is_rule h2 h6 hR hV)))) (fun hc => nomatch hc) fun _ H1 e => q H1 e
theorem v_check_rule {k : Int} {v : V} {r : Rl} {H : Hp} (h2 : 2 ≤ k) (h6 : k ≤ 6) (hR : RuleAt K H v r) (hV : VR k r) : SpV (spCheckRule K) [.int k, v] H .non := fun H1 e Q q _ => ⟨k, v, r, rfl, h2, h6, hR.mono e, hV, q⟩
theorem scCheckRules : FnScope ["k", "rules"] ["k", "rules"] (defScope tCheckRules) := ⟨rfl, rfl, rfl, by decide +kernel, rfl, by decide +kernel, by decide +kernel⟩
def spCheckRules (K : PySem.W.Frag) : Sp := fun vs H Q _ => ∃ (k : Int) (t : Addr) (v : V) (r : Rl), vs = [.int k, .ref t] ∧ 2 ≤ k ∧ k ≤ 6 ∧ SqT K H t [v] ∧ RuleAt K H v r ∧ VR k r ∧ ∀ H', Ex H H' → Q .non H'
theorem cal_check_rules (D : DefK K mg "check_rules" "check_rules" tCheckRules ["k", "rules"]) (C1 : C8.Cal P w K mg base 5 "is_rules" (spIsRules K) []) : C8.Cal P w K mg base 6 "check_rules" (spCheckRules K) [] := by
  refine calK D scCheckRules (fun vs H Q E h => ?_) (fun f cdv A outer s H vs Q E hr h => ?_)
  · obtain ⟨k, t, v, r, rfl, _⟩ := h
    rfl
  · obtain ⟨k, t, v, r, rfl, h2, h6, ht, hR, hV, q⟩ := h
    refine ⟨_, pss_one (ps_if (pt_not (pt_val (C8.pe_c C1 hr (by decide) (by rfl) (pa_cons (pv 0) (pa_cons (pv 1) pa_nil))))) (pss_one ps_never) pss_nil), ?_⟩
    refine s_when (H := H) (et_not (et_B (ev_call (ea_cons (ev_var rfl) (ea_cons (ev_var rfl) ea_nil)) (v_is_rules h2 h6 ht hR hV)))) (fun hc => nomatch hc) fun _ H1 e => q H1 e
/-! ### pieces_of -/
theorem scPiecesOf : FnScope ["rule", "word", "at"] ["rule", "word"] (defScope tPiecesOf) := ⟨rfl, rfl, rfl, by decide +kernel, rfl, by decide +kernel, by decide +kernel⟩
abbrev piecesV (r : Rl) (z : Wd) : List V := (List.range z.length).map fun (i : Nat) => V.str (S (K23.becomes r z (i : Int)))
def spPiecesOf (K : PySem.W.Frag) : Sp := fun vs H Q _ => ∃ (v : V) (r : Rl) (z : Wd), vs = [v, .str (S z)] ∧ RuleAt K H v r ∧ z.length ≤ 1000 ∧ r.left.length ≤ 100 ∧ r.right.length ≤ 100 ∧ RetL (piecesV r z) H Q
theorem becomes_at {r : Rl} {z : Wd} {i : Nat} (hi : i < z.length) : K23.becomes r z (i : Int) = if isThere r z (i : Int) = true then r.new else [z[i]] := by
  unfold K23.becomes
  rw [look_nat, List.getElem?_eq_getElem hi]
  rfl
theorem cal_pieces_of (D : DefK K mg "pieces_of" "pieces_of" tPiecesOf ["rule", "word"]) (T : Glo mg) (C1 : C8.Cal P w K mg base 2 "is_there" (spIsThere K) []) : C8.Cal P w K mg base 3 "pieces_of" (spPiecesOf K) [] := by
  refine calK D scPiecesOf (fun vs H Q E h => ?_) (fun f cdv A outer s H vs Q E hr h => ?_)
  · obtain ⟨v, r, z, rfl, _⟩ := h
    rfl
  · obtain ⟨v, r, z, rfl, hR, hl, h1, h2, q⟩ := h
    refine ⟨_, pss_one (ps_ret (pe_lc (own := [("at", 2)]) (g := gName 2) (tt := tYes) rfl scPiecesOf.nd (pi_range1 (by rfl) T.range (pa_cons (pe_callB call_len_str (by rfl) T.len PySem.boot_len (pa_cons (pv 1) pa_nil)) pa_nil)) (blkOk_by (N := ["rule", "word", "at"]) (sc := defScope tPiecesOf) (by decide +kernel))
            (fun _ _ _ _ _ => pg_name (i := 2) scPiecesOf.nd rfl (.inl rfl)) (fun _ _ _ _ _ => pts_nil)
            (fun _ _ _ _ _ => pe_ifExp (pt_val (C8.pe_c C1 hr (by decide) (by rfl) (pa_cons (pv 0) (pa_cons (pv 1) (pa_cons (pv 2) pa_nil))))) (pe_ix (r := rIxT K) ix_tup (pv 0) pe_int (fun _ _ => rfl)) (pe_ix ix_str (pv 1) (pv 2) (fun _ _ => rfl))))), ?_⟩
    refine s_retL (H := H) (el_lcR (n := z.length) (fun (i : Nat) => V.str (S (K23.becomes r z (i : Int)))) (ea_cons (ev_lenS (z := z) (ev_var rfl) (by omega)) ea_nil) (by omega) (fun _ => rfl) fun i H1 e1 hi => ?_) fun p H1 hp e1 h1 => q p H1 hp e1 h1
    obtain ⟨a, l, b, rfl, ha, _, _⟩ := (hR.mono e1).ex
    rw [becomes_at hi]
    refine ev_if (et_B (ev_call (ea_cons (ev_var rfl) (ea_cons (ev_var rfl) (ea_cons (ev_var rfl) ea_nil))) (v_is_there (hR.mono e1) hl hi h1 h2))) (fun hb => ?_) (fun hb => ?_)
    · rw [if_pos hb]
      exact ev_ixT (i := 1) (ev_var rfl) ev_c ha rfl
    · rw [if_neg (by rw [hb]; exact Bool.false_ne_true)]
      exact ev_ixS (i := i) (ev_var rfl) (ev_var rfl) (by omega) (List.getElem?_eq_getElem hi)
theorem l_pieces_of {v : V} {r : Rl} {z : Wd} {H : Hp} (hR : RuleAt K H v r) (hl : z.length ≤ 1000) (h1 : r.left.length ≤ 100) (h2 : r.right.length ≤ 100) : SpL (spPiecesOf K) [v, .str (S z)] H (piecesV r z) :=
  fun H1 e Q q _ => ⟨v, r, z, rfl, hR.mono e, hl, h1, h2, fun p H2 hp e2 h2 => q p H2 hp e2 h2⟩
/-! ### changed, of rules -/
theorem scChangedR : FnScope ["k", "rule", "word"] ["k", "rule", "word"] (defScope tChangedR) := ⟨rfl, rfl, rfl, by decide +kernel, rfl, by decide +kernel, by decide +kernel⟩
def spChangedR (K : PySem.W.Frag) : Sp := fun vs H Q _ => ∃ (k : Int) (v : V) (r : Rl) (z : Wd), vs = [.int k, v, .str (S z)] ∧ 2 ≤ k ∧ k ≤ 6 ∧ RuleAt K H v r ∧ VR k r ∧ z.length ≤ 60 ∧ hasL k z = true ∧ ∀ H', Ex H H' → Q (.str (S (made r z))) H'
theorem made_flat (r : Rl) (z : Wd) : made r z = ((List.range z.length).map fun (i : Nat) => K23.becomes r z (i : Int)).flatten := by
  unfold made seg
  congr 1
  refine List.map_congr_left fun i _ => ?_
  congr 1
  omega
theorem becomes_len {r : Rl} {z : Wd} {i : Int} (h : r.new.length ≤ 3) : (K23.becomes r z i).length ≤ 3 := by
  unfold K23.becomes
  split
  · exact h
  · cases look z i with
    | none => simp
    | some c => simp
theorem sum_le {f : Nat → Wd} {m : Nat} (hf : ∀ i, (f i).length ≤ m) : ∀ l : List Nat, ((l.map f).map List.length).sum ≤ m * l.length
  | [] => by simp
  | x :: r => by
    have := sum_le hf r
    have h0 := hf x
    simp only [List.map_cons, List.sum_cons, List.length_cons]
    rw [Nat.mul_succ]
    omega
theorem cal_changedR (D : DefK K mg "changed_rules" "changed" tChangedR ["k", "rule", "word"]) (C1 : C8.Cal P w K mg base 5 "check_rule" (spCheckRule K) []) (C2 : C8.Cal P w K mg base 3 "check_word" spCheckWord []) (C3 : C8.Cal P w K mg base 3 "pieces_of" (spPiecesOf K) []) :
    C8.Cal P w K mg base 6 "changed_rules" (spChangedR K) [] := by
  refine calK D scChangedR (fun vs H Q E h => ?_) (fun f cdv A outer s H vs Q E hr h => ?_)
  · obtain ⟨k, v, r, z, rfl, _⟩ := h
    rfl
  · obtain ⟨k, v, r, z, rfl, h2, h6, hR, hV, hl, hh, q⟩ := h
    refine ⟨_, pss_cons (ps_expr (C8.pe_c C1 hr (by decide) (by rfl) (pa_cons (pv 0) (pa_cons (pv 1) pa_nil)))) (pss_cons (ps_expr (C8.pe_c C2 hr (by decide) (by rfl) (pa_cons (pv 0) (pa_cons (pv 2) pa_nil))))
      (pss_one (ps_ret (pe_join pe_str (C8.pe_c C3 hr (by decide) (by rfl) (pa_cons (pv 1) (pa_cons (pv 2) pa_nil))))))), ?_⟩
    have hll := hV.ll
    have hlr := hV.lr
    refine q_drop (H := H) (ev_call (ea_cons (ev_var rfl) (ea_cons (ev_var rfl) ea_nil)) (v_check_rule h2 h6 hR hV)) fun H1 e1 => ?_
    refine q_drop (ev_call (ea_cons (ev_var rfl) (ea_cons (ev_var rfl) ea_nil)) (v_check_word h2 h6 hl hh)) fun H2 e2 => ?_
    refine s_ret (ev_is (ev_join (K := K) (ws := (List.range z.length).map fun (i : Nat) => K23.becomes r z (i : Int)) (ev_str str_nil) (el_is (el_call (ea_cons (ev_var rfl) (ea_cons (ev_var rfl) ea_nil)) (l_pieces_of (hR.mono (e1.trans e2)) (by omega) (by omega) (by omega))) (by rw [List.map_map]; rfl)) ?_) (by rw [made_flat])) fun H3 e3 => q H3 ((e1.trans e2).trans e3)
    refine Nat.le_trans (sum_le (fun i => becomes_len hV.newLen) _) ?_
    rw [List.length_range]
    omega
theorem v_changedR {k : Int} {v : V} {r : Rl} {z : Wd} {H : Hp} (h2 : 2 ≤ k) (h6 : k ≤ 6) (hR : RuleAt K H v r) (hV : VR k r) (hl : z.length ≤ 60) (hh : hasL k z = true) : SpV (spChangedR K) [.int k, v, .str (S z)] H (.str (S (made r z))) :=
  fun H1 e Q q _ => ⟨k, v, r, z, rfl, h2, h6, hR.mono e, hV, hl, hh, q⟩
end
end K23


namespace K23
open PySem L2 Evl
/-! ### machines as data -/
def EntsAt (K : PySem.W.Frag) (H : Hp) (xs : List V) (es : List (Wd × Nat)) : Prop :=
  xs.length = es.length ∧ ∀ (i : Nat) (x : V) (e : Wd × Nat), xs[i]? = some x → es[i]? = some e → ∃ T, x = .ref T ∧ SqT K H T [.str (S e.1), .int (e.2 : Int)]
structure RowAt (K : PySem.W.Frag) (H : Hp) (v : V) (row : Wd × List (Wd × Nat)) : Prop where
  ex : ∃ a b xs, v = .ref a ∧ SqT K H a [.str (S row.1), .ref b] ∧ SqT K H b xs ∧ EntsAt K H xs row.2
structure MachAt (K : PySem.W.Frag) (H : Hp) (v : V) (k : Int) (first : Wd) (rows : Rows) : Prop where
  ex : ∃ a b xs, v = .ref a ∧ SqT K H a [.int k, .str (S first), .ref b] ∧ SqT K H b xs ∧ xs.length = rows.length ∧ ∀ (i : Nat) (x : V) (row : Wd × List (Wd × Nat)), xs[i]? = some x → rows[i]? = some row → RowAt K H x row
theorem EntsAt.mono {K : PySem.W.Frag} {H H' : Hp} {xs : List V} {es : List (Wd × Nat)} (h : EntsAt K H xs es) (e : Ex H H') : EntsAt K H' xs es :=
  ⟨h.1, fun i x en h1 h2 => let ⟨T, h3, h4⟩ := h.2 i x en h1 h2; ⟨T, h3, ex_t e h4⟩⟩
theorem RowAt.mono {K : PySem.W.Frag} {H H' : Hp} {v : V} {row : Wd × List (Wd × Nat)} (h : RowAt K H v row) (e : Ex H H') : RowAt K H' v row := by
  obtain ⟨a, b, xs, h1, h2, h3, h4⟩ := h.ex
  exact ⟨a, b, xs, h1, ex_t e h2, ex_t e h3, h4.mono e⟩
theorem MachAt.mono {K : PySem.W.Frag} {H H' : Hp} {v : V} {k : Int} {first : Wd} {rows : Rows} (h : MachAt K H v k first rows) (e : Ex H H') : MachAt K H' v k first rows := by
  obtain ⟨a, b, xs, h1, h2, h3, h4, h5⟩ := h.ex
  exact ⟨a, b, xs, h1, ex_t e h2, ex_t e h3, h4, fun i x row q1 q2 => (h5 i x row q1 q2).mono e⟩
structure VRow (k : Int) (n : Nat) (row : Wd × List (Wd × Nat)) : Prop where
  lastLen : row.1.length ≤ 60
  lastHas : hasL k row.1 = true
  entLen : (row.2.length : Int) = k
  ents : ∀ e ∈ row.2, e.1.length ≤ 60 ∧ hasL k e.1 = true ∧ e.2 < n
structure VM (k : Int) (rows : Rows) : Prop where
  k2 : 2 ≤ k
  k6 : k ≤ 6
  pos : 1 ≤ rows.length
  most : rows.length ≤ 2000
  rows : ∀ row ∈ rows, VRow k rows.length row
section
variable {K : PySem.W.Frag} {σ : L2.St} {H : Hp} {ta tb tc te tk : TE}
theorem bls_true (n : Nat) : ((List.range n).map fun _ => true).all id = true := by simp
/-- an item of a new tuple -/
theorem ev_ixU {xs : List V} {i : Nat} {v : V} (h1 : EvU ta σ H xs) (h2 : ∀ H1, Ex H H1 → Ev tb σ H1 (.int (i : Int))) (hv : xs[i]? = some v) : Ev (tOp (rIxT K) ta tb) σ H v := fun H1 e Q q =>
  h1 H1 e _ fun p H2 _ e2 hp => h2 H2 (e.trans e2) H2 (Ex.refl _) _ fun H3 e3 => ⟨p, xs, (i : Int), v, rfl, rfl, st_of (e3 p _ hp), atI_nat hv, q H3 (e2.trans e3)⟩
def SpU (sp : Sp) (vs : List V) (H : Hp) (xs : List V) : Prop := ∀ H1, Ex H H1 → ∀ Q : VK, (∀ p H2, H1 p = none → Ex H1 H2 → H2 p = some (.tup xs) → Q (.ref p) H2) → ∀ E : XK, sp vs H1 Q E
theorem eu_call {sp : Sp} {dvs vs xs : List V} {E : XK} {ta : TA} (h : EvA ta σ H vs) (hs : SpU sp (vs ++ dvs) H xs) : EvU (tCall sp dvs E ta) σ H xs := fun H1 e Q q =>
  h H1 e _ fun H2 e2 => hs H2 (e.trans e2) Q (fun p H3 hp e3 h3 => q p H3 (fresh_back e2 hp) (e2.trans e3) h3) E
/-- a, b = a new pair -/
theorem q_asgP {tz : TS} {D : Ends} {i j : Nat} {x y : V} (h : EvU te σ H [x, y]) (k : ∀ H1, Ex H H1 → tz D ((σ.set i (some x)).set j (some y)) H1) : tSeq (tAsg te (gTup K 2 (gCons (gName i) (gCons (gName j) gNil)))) tz D σ H :=
  h H (Ex.refl H) _ fun p H1 _ e h1 => ⟨p, [x, y], rfl, st_of h1, rfl, x, [y], rfl, y, [], rfl, rfl, k H1 e⟩
/-- a, b = a pair that stands -/
theorem q_asgPS {tz : TS} {D : Ends} {i j : Nat} {x y : V} {p : Addr} (h : Ev te σ H (.ref p)) (hp : SqT K H p [x, y]) (k : ∀ H1, Ex H H1 → tz D ((σ.set i (some x)).set j (some y)) H1) : tSeq (tAsg te (gTup K 2 (gCons (gName i) (gCons (gName j) gNil)))) tz D σ H :=
  h H (Ex.refl H) _ fun H1 e => ⟨p, [x, y], rfl, ex_t e hp, rfl, x, [y], rfl, y, [], rfl, rfl, k H1 e⟩
end
section
variable {P : Program} {w : World} {K : PySem.W.Frag} {mg : Str → Option Value} {base : Heap}
/-! ### is_row -/
abbrev nIsRow : List Str := ["k", "count", "row", "last", "entries", "out", "following"]
theorem scIsRow : FnScope nIsRow ["k", "count", "row"] (defScope tIsRow) := ⟨rfl, rfl, rfl, by decide +kernel, rfl, by decide +kernel, by decide +kernel⟩
def spIsRow (K : PySem.W.Frag) : Sp := fun vs H Q _ => ∃ (k : Int) (n : Nat) (v : V) (row : Wd × List (Wd × Nat)), vs = [.int k, .int (n : Int), v] ∧ 2 ≤ k ∧ k ≤ 6 ∧ RowAt K H v row ∧ VRow k n row ∧ ∀ H', Ex H H' → Q (.bl true) H'
theorem cal_is_row (D : DefK K mg "is_row" "is_row" tIsRow ["k", "count", "row"]) (T : Glo mg) (C1 : C8.Cal P w K mg base 2 "is_string" spIsString []) : C8.Cal P w K mg base 3 "is_row" (spIsRow K) [] := by
  refine calK D scIsRow (fun vs H Q E h => ?_) (fun f cdv A outer s H vs Q E hr h => ?_)
  · obtain ⟨k, n, v, row, rfl, _⟩ := h
    rfl
  · obtain ⟨k, n, v, row, rfl, h2, h6, hR, hV, q⟩ := h
    obtain ⟨a, b, xs, rfl, ha, hb, hE⟩ := hR.ex
    refine ⟨_, pss_cons (ps_asg (pv 2) (pg_tup (by rfl) (pgs_cons (pg_name (i := 3) scIsRow.nd rfl (.inl rfl)) (pgs_cons (pg_name (i := 4) scIsRow.nd rfl (.inl rfl)) pgs_nil))))
      (pss_cons (ps_if (PW.pt (pw_or (pt_not (pt_val (C8.pe_c C1 hr (by decide) (by rfl) (pa_cons (pv 0) (pa_cons (pv 3) pa_nil)))))
        (pw_or1 (pt_cmpR op_ne (pe_callB call_len_seq (by rfl) T.len PySem.boot_len (pa_cons (pv 4) pa_nil)) (pv 0) (nomark _))))) (pss_one (ps_ret pe_bl)) pss_nil)
      (pss_one (ps_ret (pe_callB (cr_all rfl) (by rfl) T.all (by decide +kernel) (pa_cons
        (pe_lc (own := [("out", 5), ("following", 6)]) (g := gTup K 2 (gCons (gName 5) (gCons (gName 6) gNil))) (tt := tYes) rfl scIsRow.nd (pi_tup (pv 4)) (blkOk_by (N := nIsRow) (sc := defScope tIsRow) (by decide +kernel))
          (fun _ _ _ _ _ => pg_tup (by rfl) (pgs_cons (pg_name (i := 5) scIsRow.nd rfl (.inl rfl)) (pgs_cons (pg_name (i := 6) scIsRow.nd rfl (.inl rfl)) pgs_nil))) (fun _ _ _ _ _ => pts_nil)
          (fun _ _ _ _ _ => pe_and (C8.pe_c C1 hr (by decide) (by rfl) (pa_cons (pv 0) (pa_cons (pv 5) pa_nil))) (pe_one (pe_chain op_le op_lt pe_int (pv 6) (pv 1))))) pa_nil))))), ?_⟩
    refine q_asgPS (H := H) (ev_var rfl) ha fun H1 e1 => ?_
    refine q_when (et_or (et_not (et_B (ev_call (ea_cons (ev_var rfl) (ea_cons (ev_var rfl) ea_nil)) (v_is_string (by omega) hV.lastLen hV.lastHas)))) fun _ => et_test (ev_neI (ev_lenT (ev_var rfl) (ex_t e1 hb)) (ev_var rfl))) (fun hc => ?_) (fun _ H2 e2 => ?_)
    · rw [hE.1, hV.entLen, decide_eq_true rfl] at hc
      cases hc
    have hlk : (xs.length : Int) = k := by rw [hE.1]; exact hV.entLen
    refine s_ret (ev_is (ev_all (bs := (List.range xs.length).map fun _ => true) (el_is (el_lcP (xs := xs) (fun _ => V.bl true) (ev_var rfl) (ex_t (e1.trans e2) hb) (by omega) (fun _ _ => rfl) fun i x H3 e3 hx => ?_) (by rw [List.map_map]; rfl))) (by rw [bls_true])) fun H3 e3 => q H3 ((e1.trans e2).trans e3)
    have hi : i < row.2.length := by rw [← hE.1]; exact (List.getElem?_eq_some_iff.mp hx).1
    obtain ⟨T', rfl, hT⟩ := hE.2 i x _ hx (List.getElem?_eq_getElem hi)
    obtain ⟨v1, v2, v3⟩ := hV.ents _ (List.getElem_mem hi)
    refine ⟨T', _, _, rfl, ex_t ((e1.trans e2).trans e3) hT, ev_is (ev_andV (ev_call (ea_cons (ev_var rfl) (ea_cons (ev_var rfl) ea_nil)) (v_is_string (by omega) v1 v2)) fun _ => ev_chain (g := fun i j => decide (i ≤ j)) (g' := fun i j => decide (i < j)) ev_c (ev_var rfl) (ev_var rfl)) ?_⟩
    rw [decide_eq_true (show (0 : Int) ≤ ((row.2[i]).2 : Int) by omega), decide_eq_true (show ((row.2[i]).2 : Int) < (n : Int) by omega)]
    rfl
theorem v_is_row {k : Int} {n : Nat} {v : V} {row : Wd × List (Wd × Nat)} {H : Hp} (h2 : 2 ≤ k) (h6 : k ≤ 6) (hR : RowAt K H v row) (hV : VRow k n row) : SpV (spIsRow K) [.int k, .int (n : Int), v] H (.bl true) := fun H1 e Q q _ => ⟨k, n, v, row, rfl, h2, h6, hR.mono e, hV, q⟩
/-! ### is_formed, is_wide, check_wide -/
abbrev nIsFormed : List Str := ["machine", "most", "k", "first", "rows", "row"]
theorem scIsFormed : FnScope nIsFormed ["machine", "most"] (defScope tIsFormed) := ⟨rfl, rfl, rfl, by decide +kernel, rfl, by decide +kernel, by decide +kernel⟩
def spIsFormed (K : PySem.W.Frag) : Sp := fun vs H Q _ => ∃ (v : V) (k : Int) (first : Wd) (rows : Rows), vs = [v, .int 2000] ∧ MachAt K H v k first rows ∧ VM k rows ∧ first.length ≤ 60 ∧ hasL k first = true ∧ ∀ H', Ex H H' → Q (.bl true) H'
theorem cal_is_formed (D : DefK K mg "is_formed" "is_formed" tIsFormed ["machine", "most"]) (T : Glo mg) (C1 : C8.Cal P w K mg base 2 "is_string" spIsString []) (C2 : C8.Cal P w K mg base 3 "is_row" (spIsRow K) []) : C8.Cal P w K mg base 4 "is_formed" (spIsFormed K) [] := by
  refine calK D scIsFormed (fun vs H Q E h => ?_) (fun f cdv A outer s H vs Q E hr h => ?_)
  · obtain ⟨v, k, first, rows, rfl, _⟩ := h
    rfl
  · obtain ⟨v, k, first, rows, rfl, hM, hV, hfl, hfh, q⟩ := h
    obtain ⟨a, b, xs, rfl, ha, hb, hln, hrows⟩ := hM.ex
    have hk2 := hV.k2
    have hk6 := hV.k6
    refine ⟨_, pss_cons (ps_asg (pv 0) (pg_tup (by rfl) (pgs_cons (pg_name (i := 2) scIsFormed.nd rfl (.inr rfl)) (pgs_cons (pg_name (i := 3) scIsFormed.nd rfl (.inl rfl)) (pgs_cons (pg_name (i := 4) scIsFormed.nd rfl (.inr rfl)) pgs_nil)))))
      (pss_cons (ps_if (PW.pt (pw_or (pt_not (pt_chain op_le op_le pe_int (pv 2) pe_int)) (pw_or (pt_not (pt_chain op_le op_le pe_int (pe_callB call_len_seq (by rfl) T.len PySem.boot_len (pa_cons (pv 4) pa_nil)) (pv 1)))
        (pw_or1 (pt_not (pt_val (C8.pe_c C1 hr (by decide) (by rfl) (pa_cons (pv 2) (pa_cons (pv 3) pa_nil))))))))) (pss_one (ps_ret pe_bl)) pss_nil)
      (pss_one (ps_ret (pe_callB (cr_all rfl) (by rfl) T.all (by decide +kernel) (pa_cons
        (pe_lc (own := [("row", 5)]) (g := gName 5) (tt := tYes) rfl scIsFormed.nd (pi_tup (pv 4)) (blkOk_by (N := nIsFormed) (sc := defScope tIsFormed) (by decide +kernel))
          (fun _ _ _ _ _ => pg_name (i := 5) scIsFormed.nd rfl (.inl rfl)) (fun _ _ _ _ _ => pts_nil)
          (fun _ _ _ _ _ => C8.pe_c C2 hr (by decide) (by rfl) (pa_cons (pv 2) (pa_cons (pe_callB (r := rLenS K) call_len_seq (by rfl) T.len PySem.boot_len (pa_cons (pv 4) pa_nil)) (pa_cons (pv 5) pa_nil))))) pa_nil))))), ?_⟩
    refine ⟨_, rfl, a, _, rfl, ha, rfl, _, _, rfl, _, _, rfl, _, _, rfl, rfl, ?_⟩
    refine q_when (H := H) (et_or (et_not (et_test (ev_chain (g := fun i j => decide (i ≤ j)) (g' := fun i j => decide (i ≤ j)) ev_c (ev_var rfl) ev_c))) fun _ => et_or (et_not (et_test (ev_chain (g := fun i j => decide (i ≤ j)) (g' := fun i j => decide (i ≤ j)) ev_c (ev_lenT (ev_var rfl) hb) (ev_var rfl)))) fun _ =>
      et_not (et_B (ev_call (ea_cons (ev_var rfl) (ea_cons (ev_var rfl) ea_nil)) (v_is_string (by omega) hfl hfh)))) (fun hc => ?_) (fun _ H2 e2 => ?_)
    · have hp := hV.pos
      have hm := hV.most
      rw [decide_eq_true hk2, decide_eq_true hk6, decide_eq_true (show (1 : Int) ≤ (xs.length : Int) by omega), decide_eq_true (show (xs.length : Int) ≤ 2000 by omega)] at hc
      cases hc
    have hm := hV.most
    refine s_ret (ev_is (ev_all (bs := (List.range xs.length).map fun _ => true) (el_is (el_lcT (xs := xs) (fun _ => V.bl true) (ev_var rfl) (ex_t e2 hb) (by omega) (fun _ => rfl) fun i x H3 e3 hx => ?_) (by rw [List.map_map]; rfl))) (by rw [bls_true])) fun H3 e3 => q H3 (e2.trans e3)
    have hi : i < rows.length := by rw [← hln]; exact (List.getElem?_eq_some_iff.mp hx).1
    have hrow := (hrows i x _ hx (List.getElem?_eq_getElem hi)).mono (e2.trans e3)
    exact ev_call (ea_cons (ev_var rfl) (ea_cons (ev_lenT (ev_var rfl) (ex_t (e2.trans e3) hb)) (ea_cons (ev_var rfl) ea_nil))) (by
      rw [hln]
      exact v_is_row hk2 hk6 hrow (hV.rows _ (List.getElem_mem hi)))
theorem v_is_formed {v : V} {k : Int} {first : Wd} {rows : Rows} {H : Hp} (hM : MachAt K H v k first rows) (hV : VM k rows) (h1 : first.length ≤ 60) (h2 : hasL k first = true) : SpV (spIsFormed K) [v, .int 2000] H (.bl true) := fun H1 e Q q _ => ⟨v, k, first, rows, rfl, hM.mono e, hV, h1, h2, q⟩
theorem scIsWide : FnScope ["machine"] ["machine"] (defScope tIsWide) := ⟨rfl, rfl, rfl, by decide +kernel, rfl, by decide +kernel, by decide +kernel⟩
def spIsWide (K : PySem.W.Frag) : Sp := fun vs H Q _ => ∃ (v : V) (k : Int) (first : Wd) (rows : Rows), vs = [v] ∧ MachAt K H v k first rows ∧ VM k rows ∧ first.length ≤ 60 ∧ hasL k first = true ∧ ∀ H', Ex H H' → Q (.bl true) H'
theorem cal_is_wide (D : DefK K mg "is_wide" "is_wide" tIsWide ["machine"]) (T : Glo mg) (C1 : C8.Cal P w K mg base 4 "is_formed" (spIsFormed K) []) : C8.Cal P w K mg base 5 "is_wide" (spIsWide K) [] := by
  refine calK D scIsWide (fun vs H Q E h => ?_) (fun f cdv A outer s H vs Q E hr h => ?_)
  · obtain ⟨v, k, first, rows, rfl, _⟩ := h
    rfl
  · obtain ⟨v, k, first, rows, rfl, hM, hV, hfl, hfh, q⟩ := h
    refine ⟨_, pss_one (ps_ret (C8.pe_c C1 hr (by decide) (by rfl) (pa_cons (pv 0) (pa_cons (glI (by rfl) T.mostWide) pa_nil)))), ?_⟩
    exact s_ret (H := H) (ev_call (ea_cons (ev_var rfl) (ea_cons ev_c ea_nil)) (v_is_formed hM hV hfl hfh)) fun H1 e => q H1 e
theorem v_is_wide {v : V} {k : Int} {first : Wd} {rows : Rows} {H : Hp} (hM : MachAt K H v k first rows) (hV : VM k rows) (h1 : first.length ≤ 60) (h2 : hasL k first = true) : SpV (spIsWide K) [v] H (.bl true) := fun H1 e Q q _ => ⟨v, k, first, rows, rfl, hM.mono e, hV, h1, h2, q⟩
theorem scCheckWide : FnScope ["machine"] ["machine"] (defScope tCheckWide) := ⟨rfl, rfl, rfl, by decide +kernel, rfl, by decide +kernel, by decide +kernel⟩
def spCheckWide (K : PySem.W.Frag) : Sp := fun vs H Q _ => ∃ (v : V) (k : Int) (first : Wd) (rows : Rows), vs = [v] ∧ MachAt K H v k first rows ∧ VM k rows ∧ first.length ≤ 60 ∧ hasL k first = true ∧ ∀ H', Ex H H' → Q .non H'
theorem cal_check_wide (D : DefK K mg "check_wide" "check_wide" tCheckWide ["machine"]) (C1 : C8.Cal P w K mg base 5 "is_wide" (spIsWide K) []) : C8.Cal P w K mg base 6 "check_wide" (spCheckWide K) [] := by
  refine calK D scCheckWide (fun vs H Q E h => ?_) (fun f cdv A outer s H vs Q E hr h => ?_)
  · obtain ⟨v, k, first, rows, rfl, _⟩ := h
    rfl
  · obtain ⟨v, k, first, rows, rfl, hM, hV, hfl, hfh, q⟩ := h
    refine ⟨_, pss_one (ps_if (pt_not (pt_val (C8.pe_c C1 hr (by decide) (by rfl) (pa_cons (pv 0) pa_nil)))) (pss_one ps_never) pss_nil), ?_⟩
    exact s_when (H := H) (et_not (et_B (ev_call (ea_cons (ev_var rfl) ea_nil) (v_is_wide hM hV hfl hfh)))) (fun hc => nomatch hc) fun _ H1 e => q H1 e
theorem v_check_wide {v : V} {k : Int} {first : Wd} {rows : Rows} {H : Hp} (hM : MachAt K H v k first rows) (hV : VM k rows) (h1 : first.length ≤ 60) (h2 : hasL k first = true) : SpV (spCheckWide K) [v] H .non := fun H1 e Q q _ => ⟨v, k, first, rows, rfl, hM.mono e, hV, h1, h2, q⟩
end
end K23


namespace K23
open PySem L2 Evl
/-! ### the walk's mathematics -/
def outsM (rows : Rows) : Nat → Wd → List Wd
  | _, [] => []
  | s, c :: z => (stepM rows s c).1 :: outsM rows (stepM rows s c).2 z
theorem outsM_flat (rows : Rows) : ∀ (z : Wd) (s : Nat), (outsM rows s z).flatten = (walkM rows s z).1
  | [], _ => rfl
  | c :: z, s => by
    show (stepM rows s c).1 ++ (outsM rows (stepM rows s c).2 z).flatten = (stepM rows s c).1 ++ (walkM rows (stepM rows s c).2 z).1
    rw [outsM_flat rows z]
theorem walkM_snoc (rows : Rows) : ∀ (z : Wd) (s c : Nat), outsM rows s (z ++ [c]) = outsM rows s z ++ [(stepM rows (walkM rows s z).2 c).1] ∧ (walkM rows s (z ++ [c])).2 = (stepM rows (walkM rows s z).2 c).2
  | [], s, c => ⟨rfl, rfl⟩
  | d :: z, s, c => by
    obtain ⟨h1, h2⟩ := walkM_snoc rows z (stepM rows s d).2 c
    refine ⟨?_, ?_⟩
    · show (stepM rows s d).1 :: outsM rows (stepM rows s d).2 (z ++ [c]) = (stepM rows s d).1 :: (outsM rows (stepM rows s d).2 z ++ _)
      rw [h1]
      rfl
    · exact h2
theorem step_at {rows : Rows} {k : Int} (hV : VM k rows) {s c : Nat} (hs : s < rows.length) (hc : c ∈ ltrs k) : ∃ (row : Wd × List (Wd × Nat)) (j : Nat), rows[s]? = some row ∧ j = abc.idxOf c ∧ row.2[j]? = some (stepM rows s c) ∧ VRow k rows.length row := by
  have hrow : rows[s]? = some rows[s] := List.getElem?_eq_getElem hs
  have hv := hV.rows _ (List.getElem_mem hs)
  have hj : abc.idxOf c < k.toNat := by
    have h2 := hV.k2
    have h6 := hV.k6
    have hk : k = 2 ∨ k = 3 ∨ k = 4 ∨ k = 5 ∨ k = 6 := by omega
    have : ∀ n : Nat, n ≤ 6 → ∀ c ∈ abc.take n, abc.idxOf c < n := by decide
    exact this k.toNat (by omega) c hc
  refine ⟨rows[s], abc.idxOf c, hrow, rfl, ?_, hv⟩
  have hl : abc.idxOf c < (rows[s]).2.length := by
    have := hv.entLen
    omega
  have eg : rows.getD s ([], []) = rows[s] := by
    rw [List.getD_eq_getElem?_getD, hrow]
    rfl
  unfold stepM
  rw [eg, List.getD_eq_getElem?_getD, List.getElem?_eq_getElem hl]
  rfl
theorem step_ok {rows : Rows} {k : Int} (hV : VM k rows) {s c : Nat} (hs : s < rows.length) (hc : c ∈ ltrs k) : (stepM rows s c).1.length ≤ 60 ∧ (stepM rows s c).2 < rows.length := by
  obtain ⟨row, j, _, _, h3, hv⟩ := step_at hV hs hc
  obtain ⟨a, _, b⟩ := hv.ents _ (List.mem_of_getElem? h3)
  exact ⟨a, b⟩
theorem walk_ok {rows : Rows} {k : Int} (hV : VM k rows) : ∀ (z : Wd) (s : Nat), s < rows.length → (∀ c ∈ z, c ∈ ltrs k) → (walkM rows s z).2 < rows.length ∧ ∀ o ∈ outsM rows s z, o.length ≤ 60
  | [], s, hs, _ => ⟨hs, fun _ h => nomatch h⟩
  | c :: z, s, hs, hz => by
    obtain ⟨a, b⟩ := step_ok hV hs (hz c (List.mem_cons_self ..))
    obtain ⟨h1, h2⟩ := walk_ok hV z _ b fun d hd => hz d (List.mem_cons_of_mem _ hd)
    refine ⟨h1, fun o ho => ?_⟩
    rcases List.mem_cons.mp ho with rfl | ho
    · exact a
    · exact h2 o ho
theorem outsM_len (rows : Rows) : ∀ (z : Wd) (s : Nat), (outsM rows s z).length = z.length
  | [], _ => rfl
  | c :: z, s => by
    show (outsM rows _ z).length + 1 = _
    rw [outsM_len rows z]
    rfl
theorem sum_le' {m : Nat} : ∀ l : List Wd, (∀ o ∈ l, o.length ≤ m) → (l.map List.length).sum ≤ m * l.length
  | [], _ => by simp
  | x :: r, h => by
    have := sum_le' r fun o ho => h o (List.mem_cons_of_mem _ ho)
    have h0 := h x (List.mem_cons_self ..)
    simp only [List.map_cons, List.sum_cons, List.length_cons]
    rw [Nat.mul_succ]
    omega
theorem occ_abc : ∀ c ∈ abc, Builtin.Str.occurrences (S abc) (S [c]) 0 (S abc).length 1 = [abc.idxOf c] := by decide +kernel
section
variable {K : PySem.W.Frag} {σ : L2.St} {H : Hp} {ta tb tc te tk : TE}
abbrev rSIndex : V → List V → Hp → VK → Prop := fun x xs H Q => ∃ a b i rest, x = .str a ∧ xs = [.str b] ∧ Builtin.Str.occurrences a b 0 a.length 1 = i :: rest ∧ Q (.int (i : Nat)) H
theorem ev_index {c : Nat} (h1 : Ev ta σ H (.str (S abc))) (h2 : Ev tb σ H (.str (S [c]))) (hc : c ∈ abc) : Ev (tM1 rSIndex ta tb) σ H (.int ((abc.idxOf c : Nat) : Int)) := fun H1 e Q q =>
  h1 H1 e _ fun H2 e2 => ⟨⟨_, rfl⟩, h2 H2 (e.trans e2) _ fun H3 e3 => ⟨S abc, S [c], abc.idxOf c, [], rfl, rfl, occ_abc c hc, q H3 (e2.trans e3)⟩⟩
end
section
variable {P : Program} {w : World} {K : PySem.W.Frag} {mg : Str → Option Value} {base : Heap}
theorem ev_joinS {σ : L2.St} {H : Hp} {to tl : TE} {p : Addr} {ws : List Wd} (ho : Ev to σ H (.str (S []))) (h : Ev tl σ H (.ref p)) (hp : H p = some (.lst (ws.map fun x => V.str (S x)))) (hz : (ws.map List.length).sum ≤ 1000000) :
    Ev (tM1 (rJoin K) to tl) σ H (.str (S ws.flatten)) := fun H1 e Q q =>
  ho H1 e _ fun H2 e2 => ⟨⟨_, rfl⟩, h H2 (e.trans e2) _ fun H3 e3 => ⟨S [], p, ws.map S, rfl, rfl, .inl (sq_of (by rw [((e.trans e2).trans e3) p _ hp, List.map_map]; rfl)), (by
    rw [SX.lens, List.length_map, SX.S_len, List.length_nil, Nat.mul_zero]
    exact Nat.le_trans (Nat.le_of_eq (Nat.add_zero _)) (Nat.le_trans hz (by decide))), (by
    rw [SX.join_S, join_nil]
    exact q H3 (e2.trans e3))⟩⟩
/-! ### walked -/
abbrev nWalked : List Str := ["machine", "state", "word", "parts", "letter", "out"]
theorem scWalked : FnScope nWalked ["machine", "state", "word"] (defScope tWalked) := ⟨rfl, rfl, rfl, by decide +kernel, rfl, by decide +kernel, by decide +kernel⟩
def spWalked (K : PySem.W.Frag) : Sp := fun vs H Q _ => ∃ (v : V) (k : Int) (first : Wd) (rows : Rows) (st : Nat) (z : Wd), vs = [v, .int (st : Int), .str (S z)] ∧ MachAt K H v k first rows ∧ VM k rows ∧ st < rows.length ∧ z.length ≤ 1000 ∧ (∀ c ∈ z, c ∈ ltrs k) ∧
  ∀ p H', H p = none → Ex H H' → H' p = some (.tup [.str (S (walkM rows st z).1), .int ((walkM rows st z).2 : Int)]) → Q (.ref p) H'
theorem cal_walked (D : DefK K mg "walked" "walked" tWalked ["machine", "state", "word"]) (T : Glo mg) : C8.Cal P w K mg base 1 "walked" (spWalked K) [] := by
  refine calK D scWalked (fun vs H Q E h => ?_) (fun f cdv A outer s H vs Q E hr h => ?_)
  · obtain ⟨v, k, first, rows, st, z, rfl, _⟩ := h
    rfl
  · obtain ⟨v, k, first, rows, st, z, rfl, hM, hV, hst, hl, hz, q⟩ := h
    obtain ⟨a, b, xs, rfl, ha, hb, hln, hrows⟩ := hM.ex
    refine ⟨_, pss_cons (ps_set (i := 3) scWalked.nd rfl (.inl rfl) (pe_lst pa_nil))
      (pss_cons (ps_for PassesOwn.never rfl (pi_str (pv 2)) (pg_name (i := 4) scWalked.nd rfl (.inl rfl))
        (pss_cons (ps_asg (pe_ix ix_tup (pe_ix ix_tup (pe_ix ix_tup (pe_ix ix_tup (pv 0) pe_int (fun _ _ => rfl)) (pv 1) (fun _ _ => rfl)) pe_int (fun _ _ => rfl)) (pe_m1 PySem.F.slot_str_index PySem.F.type_str_index mt_sindex (glS (by rfl) T.letters) (pv 4)) (fun _ _ => rfl))
          (pg_tup (by rfl) (pgs_cons (pg_name (i := 5) scWalked.nd rfl (.inl rfl)) (pgs_cons (pg_name (i := 1) scWalked.nd rfl (.inl rfl)) pgs_nil))))
        (pss_one (ps_expr (pe_bm PySem.F.plainAttrs_list PySem.F.slot_list_append PySem.F.type_list_append mt_append (pv 3) (pa_cons (pv 5) pa_nil))))))
      (pss_one (ps_ret (pe_tup (pa_cons (pe_join pe_str (pv 3)) (pa_cons (pv 1) pa_nil)))))), ?_⟩
    refine q_asgL (H := H) (el_lst ea_nil (by simp)) fun p H1 hp e1 h1 => ?_
    refine ⟨_, rfl, S z, rfl, for_it walk_str (fun i σ H' => ∃ x4 x5, σ = [some (.ref a), some (.int ((walkM rows st (z.take i)).2 : Int)), some (.str (S z)), some (.ref p), x4, x5] ∧ Ex H H' ∧ H' p = some (.lst ((outsM rows st (z.take i)).map fun o => V.str (S o))))
      ⟨none, none, rfl, e1, h1⟩ (fun _ _ _ _ _ => trivial) (fun i x σ H2 H3 hi hp2 y => ?_) (fun σ H2 hp2 => ?_)⟩
    · obtain ⟨x4, x5, rfl, e2, h2⟩ := hp2
      obtain ⟨rfl, c, hc, rfl⟩ := y
      have hc' : z[i]? = some c := by simpa using hc
      have hcz : c ∈ z := List.mem_of_getElem? hc'
      have hck := hz c hcz
      obtain ⟨hst', hout⟩ := walk_ok hV (z.take i) st hst fun d hd => hz d (List.mem_of_mem_take hd)
      obtain ⟨row, j, hr1, rfl, hr3, hv⟩ := step_at hV hst' hck
      have htk : z.take (i + 1) = z.take i ++ [c] := by rw [List.take_add_one, hc']; rfl
      obtain ⟨w1, w2⟩ := walkM_snoc rows (z.take i) st c
      have hil : i < z.length := (List.getElem?_eq_some_iff.mp hc').1
      have hxs : xs[(walkM rows st (z.take i)).2]? = some (xs[(walkM rows st (z.take i)).2]'(by omega)) := List.getElem?_eq_getElem (by omega)
      obtain ⟨ra, rb, rxs, hrx, hra, hrb, hre⟩ := (hrows _ _ row hxs hr1).ex
      have hrj : abc.idxOf c < rxs.length := by
        rw [hre.1]
        exact (List.getElem?_eq_some_iff.mp hr3).1
      obtain ⟨T', hxT, hT⟩ := hre.2 _ _ _ (List.getElem?_eq_getElem hrj) hr3
      show tSeq _ _ _ _ _
      refine q_asgPS (p := T') (ev_ixT (ev_ixT (i := 1) (ev_ixT (i := (walkM rows st (z.take i)).2) (ev_ixT (i := 2) (ev_var rfl) ev_c (ex_t e2 ha) rfl) (ev_var rfl) (ex_t e2 hb) (by rw [hxs, hrx])) ev_c (ex_t e2 hra) rfl) (ev_index ev_c (ev_var rfl) (ltrs_abc hck)) (ex_t e2 hrb) (by rw [List.getElem?_eq_getElem hrj, hxT])) (ex_t e2 hT) fun H4 e4 => ?_
      refine s_app (l := p) (e4 p _ h2) (ev_var rfl) (ev_var rfl) (by rw [List.length_map, outsM_len, List.length_take]; omega) fun H5 e5 => ?_
      refine ⟨some (.str (S [c])), some (.str (S (stepM rows (walkM rows st (z.take i)).2 c).1)), ?_, Ex.mut ((e2.trans e4).trans e5) hp, ?_⟩
      · rw [htk, w2]
        rfl
      · rw [upd_same, htk, w1, List.map_append]
        rfl
    · obtain ⟨x4, x5, rfl, e2, h2⟩ := hp2
      have hsz : (S z).cps.size = z.length := by simp
      rw [hsz, List.take_length] at h2 ⊢
      obtain ⟨hst', hout⟩ := walk_ok hV z st hst hz
      have h5 := sum_le' _ hout
      rw [outsM_len] at h5
      exact s_retU (eu_tup (ea_cons (ev_is (ev_joinS (K := K) (ev_str str_nil) (ev_var rfl) h2 (by omega)) (by rw [outsM_flat])) (ea_cons (ev_var rfl) ea_nil)) (by simp)) fun t H3 ht e3 h3 => q t H3 (fresh_back e2 ht) (e2.trans e3) h3
theorem u_walked {v : V} {k : Int} {first : Wd} {rows : Rows} {st : Nat} {z : Wd} {H : Hp} (hM : MachAt K H v k first rows) (hV : VM k rows) (hs : st < rows.length) (hl : z.length ≤ 1000) (hz : ∀ c ∈ z, c ∈ ltrs k) :
    SpU (spWalked K) [v, .int (st : Int), .str (S z)] H [.str (S (walkM rows st z).1), .int ((walkM rows st z).2 : Int)] := fun H1 e Q q _ => ⟨v, k, first, rows, st, z, rfl, hM.mono e, hV, hs, hl, hz, q⟩
end
end K23


namespace K23
open PySem L2 Evl
theorem walk_len {rows : Rows} {k : Int} (hV : VM k rows) {z : Wd} {s : Nat} (hs : s < rows.length) (hz : ∀ c ∈ z, c ∈ ltrs k) : (walkM rows s z).1.length ≤ 60 * z.length := by
  have h := sum_le' _ (walk_ok hV z s hs hz).2
  rw [outsM_len] at h
  rw [← outsM_flat, List.length_flatten]
  exact h
theorem row_at {K : PySem.W.Frag} {H : Hp} {xs : List V} {rows : Rows} (hln : xs.length = rows.length) (h : ∀ (i : Nat) (x : V) (row : Wd × List (Wd × Nat)), xs[i]? = some x → rows[i]? = some row → RowAt K H x row) {s : Nat} (hs : s < rows.length) :
    ∃ a b, xs[s]? = some (.ref a) ∧ SqT K H a [.str (S (lastM rows s)), .ref b] := by
  have h1 : xs[s]? = some (xs[s]'(by omega)) := List.getElem?_eq_getElem (by omega)
  have h2 : rows[s]? = some rows[s] := List.getElem?_eq_getElem hs
  obtain ⟨a, b, _, e, ha, _⟩ := (h s _ _ h1 h2).ex
  have eg : lastM rows s = (rows[s]).1 := by
    unfold lastM
    rw [List.getD_eq_getElem?_getD, h2]
    rfl
  rw [eg]
  exact ⟨a, b, by rw [h1, e], ha⟩
section
variable {P : Program} {w : World} {K : PySem.W.Frag} {mg : Str → Option Value} {base : Heap}
theorem scChangedM : FnScope ["machine", "word", "text", "state"] ["machine", "word"] (defScope tChangedM) := ⟨rfl, rfl, rfl, by decide +kernel, rfl, by decide +kernel, by decide +kernel⟩
abbrev formM (first : Wd) (rows : Rows) (z : Wd) : Wd := first ++ (walkM rows 0 z).1 ++ lastM rows (walkM rows 0 z).2
def spChangedM (K : PySem.W.Frag) : Sp := fun vs H Q _ => ∃ (v : V) (k : Int) (first : Wd) (rows : Rows) (z : Wd), vs = [v, .str (S z)] ∧ MachAt K H v k first rows ∧ VM k rows ∧ first.length ≤ 60 ∧ z.length ≤ 1000 ∧ (∀ c ∈ z, c ∈ ltrs k) ∧ ∀ H', Ex H H' → Q (.str (S (formM first rows z))) H'
theorem cal_changedM (D : DefK K mg "changed_machines" "changed" tChangedM ["machine", "word"]) (C1 : C8.Cal P w K mg base 1 "walked" (spWalked K) []) : C8.Cal P w K mg base 2 "changed_machines" (spChangedM K) [] := by
  refine calK D scChangedM (fun vs H Q E h => ?_) (fun f cdv A outer s H vs Q E hr h => ?_)
  · obtain ⟨v, k, first, rows, z, rfl, _⟩ := h
    rfl
  · obtain ⟨v, k, first, rows, z, rfl, hM, hV, hfl, hl, hz, q⟩ := h
    obtain ⟨a, b, xs, rfl, ha, hb, hln, hrows⟩ := hM.ex
    refine ⟨_, pss_cons (ps_asg (C8.pe_c C1 hr (by decide) (by rfl) (pa_cons (pv 0) (pa_cons pe_int (pa_cons (pv 1) pa_nil)))) (pg_tup (by rfl) (pgs_cons (pg_name (i := 2) scChangedM.nd rfl (.inl rfl)) (pgs_cons (pg_name (i := 3) scChangedM.nd rfl (.inl rfl)) pgs_nil))))
      (pss_one (ps_ret (pe_op op_add_str (pe_op op_add_str (pe_ix (r := rIxT K) ix_tup (pv 0) pe_int (fun _ _ => rfl)) (pv 2)) (pe_ix (r := rIxT K) ix_tup (pe_ix (r := rIxT K) ix_tup (pe_ix (r := rIxT K) ix_tup (pv 0) pe_int (fun _ _ => rfl)) (pv 3) (fun _ _ => rfl)) pe_int (fun _ _ => rfl))))), ?_⟩
    have hp := hV.pos
    obtain ⟨hst, _⟩ := walk_ok hV z 0 (by omega) hz
    have hwl := walk_len hV (s := 0) (by omega) hz
    obtain ⟨ra, rb, hx, hra⟩ := row_at hln hrows hst
    have hll : (lastM rows (walkM rows 0 z).2).length ≤ 60 := by
      have h2 : rows[(walkM rows 0 z).2]? = some rows[(walkM rows 0 z).2] := List.getElem?_eq_getElem hst
      have := (hV.rows _ (List.getElem_mem hst)).lastLen
      unfold lastM
      rw [List.getD_eq_getElem?_getD, h2]
      exact this
    refine q_asgP (H := H) (eu_call (ea_cons (ev_var rfl) (ea_cons ev_c (ea_cons (ev_var rfl) ea_nil))) (u_walked (st := 0) hM hV (by omega) hl hz)) fun H1 e1 => ?_
    refine s_ret (ev_addS (ev_addS (ev_ixT (i := 1) (ev_var rfl) ev_c (ex_t e1 ha) rfl) (ev_var rfl) (by omega)) (ev_ixT (i := 0) (ev_ixT (i := (walkM rows 0 z).2) (ev_ixT (i := 2) (ev_var rfl) ev_c (ex_t e1 ha) rfl) (ev_var rfl) (ex_t e1 hb) hx) ev_c (ex_t e1 hra) rfl) ?_) fun H2 e2 => q H2 (e1.trans e2)
    rw [List.length_append]
    omega
theorem v_changedM {v : V} {k : Int} {first : Wd} {rows : Rows} {z : Wd} {H : Hp} (hM : MachAt K H v k first rows) (hV : VM k rows) (h1 : first.length ≤ 60) (hl : z.length ≤ 1000) (hz : ∀ c ∈ z, c ∈ ltrs k) : SpV (spChangedM K) [v, .str (S z)] H (.str (S (formM first rows z))) :=
  fun H1 e Q q _ => ⟨v, k, first, rows, z, rfl, hM.mono e, hV, h1, hl, hz, q⟩
/-! ### check_call, form, written -/
structure Asked (K : PySem.W.Frag) (H : Hp) (v : V) (k : Int) (first : Wd) (rows : Rows) (z : Wd) : Prop where
  m : MachAt K H v k first rows
  vm : VM k rows
  fl : first.length ≤ 60
  fh : hasL k first = true
  zl : z.length ≤ 60
  zh : hasL k z = true
theorem Asked.mono {H H' : Hp} {v : V} {k : Int} {first : Wd} {rows : Rows} {z : Wd} (h : Asked K H v k first rows z) (e : Ex H H') : Asked K H' v k first rows z := ⟨h.m.mono e, h.vm, h.fl, h.fh, h.zl, h.zh⟩
theorem scCheckCall : FnScope ["machine", "word"] ["machine", "word"] (defScope tCheckCall) := ⟨rfl, rfl, rfl, by decide +kernel, rfl, by decide +kernel, by decide +kernel⟩
def spCheckCall (K : PySem.W.Frag) : Sp := fun vs H Q _ => ∃ (v : V) (k : Int) (first : Wd) (rows : Rows) (z : Wd), vs = [v, .str (S z)] ∧ Asked K H v k first rows z ∧ ∀ H', Ex H H' → Q .non H'
theorem cal_check_call (D : DefK K mg "check_call" "check_call" tCheckCall ["machine", "word"]) (C1 : C8.Cal P w K mg base 6 "check_wide" (spCheckWide K) []) (C2 : C8.Cal P w K mg base 3 "check_word" spCheckWord []) : C8.Cal P w K mg base 7 "check_call" (spCheckCall K) [] := by
  refine calK D scCheckCall (fun vs H Q E h => ?_) (fun f cdv A outer s H vs Q E hr h => ?_)
  · obtain ⟨v, k, first, rows, z, rfl, _⟩ := h
    rfl
  · obtain ⟨v, k, first, rows, z, rfl, hA, q⟩ := h
    obtain ⟨a, b, xs, rfl, ha, hb, hln, hrows⟩ := hA.m.ex
    refine ⟨_, pss_cons (ps_expr (C8.pe_c C1 hr (by decide) (by rfl) (pa_cons (pv 0) pa_nil))) (pss_one (ps_expr (C8.pe_c C2 hr (by decide) (by rfl) (pa_cons (pe_ix (r := rIxT K) ix_tup (pv 0) pe_int (fun _ _ => rfl)) (pa_cons (pv 1) pa_nil))))), ?_⟩
    refine q_drop (H := H) (ev_call (ea_cons (ev_var rfl) ea_nil) (v_check_wide hA.m hA.vm hA.fl hA.fh)) fun H1 e1 => ?_
    exact s_drop (ev_call (ea_cons (ev_ixT (i := 0) (ev_var rfl) ev_c (ex_t e1 ha) rfl) (ea_cons (ev_var rfl) ea_nil)) (v_check_word hA.vm.k2 hA.vm.k6 hA.zl hA.zh)) fun H2 e2 => q H2 (e1.trans e2)
theorem v_check_call {v : V} {k : Int} {first : Wd} {rows : Rows} {z : Wd} {H : Hp} (hA : Asked K H v k first rows z) : SpV (spCheckCall K) [v, .str (S z)] H .non := fun H1 e Q q _ => ⟨v, k, first, rows, z, rfl, hA.mono e, q⟩
theorem scForm : FnScope ["machine", "word"] ["machine", "word"] (defScope tForm) := ⟨rfl, rfl, rfl, by decide +kernel, rfl, by decide +kernel, by decide +kernel⟩
def spForm (K : PySem.W.Frag) : Sp := fun vs H Q _ => ∃ (v : V) (k : Int) (first : Wd) (rows : Rows) (z : Wd), vs = [v, .str (S z)] ∧ Asked K H v k first rows z ∧ ∀ H', Ex H H' → Q (.str (S (formM first rows z))) H'
theorem cal_form (D : DefK K mg "form" "form" tForm ["machine", "word"]) (C1 : C8.Cal P w K mg base 7 "check_call" (spCheckCall K) []) (C2 : C8.Cal P w K mg base 2 "changed_machines" (spChangedM K) []) : C8.Cal P w K mg base 8 "form" (spForm K) [] := by
  refine calK D scForm (fun vs H Q E h => ?_) (fun f cdv A outer s H vs Q E hr h => ?_)
  · obtain ⟨v, k, first, rows, z, rfl, _⟩ := h
    rfl
  · obtain ⟨v, k, first, rows, z, rfl, hA, q⟩ := h
    refine ⟨_, pss_cons (ps_expr (C8.pe_c C1 hr (by decide) (by rfl) (pa_cons (pv 0) (pa_cons (pv 1) pa_nil)))) (pss_one (ps_ret (C8.pe_c C2 hr (by decide) (by rfl) (pa_cons (pv 0) (pa_cons (pv 1) pa_nil))))), ?_⟩
    have hzl := hA.zl
    refine q_drop (H := H) (ev_call (ea_cons (ev_var rfl) (ea_cons (ev_var rfl) ea_nil)) (v_check_call hA)) fun H1 e1 => ?_
    exact s_ret (ev_call (ea_cons (ev_var rfl) (ea_cons (ev_var rfl) ea_nil)) (v_changedM (hA.m.mono e1) hA.vm hA.fl (by omega) (has_mem hA.zh))) fun H2 e2 => q H2 (e1.trans e2)
theorem v_form {v : V} {k : Int} {first : Wd} {rows : Rows} {z : Wd} {H : Hp} (hA : Asked K H v k first rows z) : SpV (spForm K) [v, .str (S z)] H (.str (S (formM first rows z))) := fun H1 e Q q _ => ⟨v, k, first, rows, z, rfl, hA.mono e, q⟩
theorem scWritten : FnScope ["machine", "word"] ["machine", "word"] (defScope tWritten) := ⟨rfl, rfl, rfl, by decide +kernel, rfl, by decide +kernel, by decide +kernel⟩
def spWritten (K : PySem.W.Frag) : Sp := fun vs H Q _ => ∃ (v : V) (k : Int) (first : Wd) (rows : Rows) (z : Wd), vs = [v, .str (S z)] ∧ Asked K H v k first rows z ∧ ∀ H', Ex H H' → Q (.str (S (first ++ (walkM rows 0 z).1))) H'
theorem cal_written (D : DefK K mg "written" "written" tWritten ["machine", "word"]) (C1 : C8.Cal P w K mg base 7 "check_call" (spCheckCall K) []) (C2 : C8.Cal P w K mg base 1 "walked" (spWalked K) []) : C8.Cal P w K mg base 8 "written" (spWritten K) [] := by
  refine calK D scWritten (fun vs H Q E h => ?_) (fun f cdv A outer s H vs Q E hr h => ?_)
  · obtain ⟨v, k, first, rows, z, rfl, _⟩ := h
    rfl
  · obtain ⟨v, k, first, rows, z, rfl, hA, q⟩ := h
    obtain ⟨a, b, xs, rfl, ha, hb, hln, hrows⟩ := hA.m.ex
    refine ⟨_, pss_cons (ps_expr (C8.pe_c C1 hr (by decide) (by rfl) (pa_cons (pv 0) (pa_cons (pv 1) pa_nil)))) (pss_one (ps_ret (pe_op op_add_str (pe_ix (r := rIxT K) ix_tup (pv 0) pe_int (fun _ _ => rfl))
      (pe_ix (r := rIxT K) ix_tup (C8.pe_c C2 hr (by decide) (by rfl) (pa_cons (pv 0) (pa_cons pe_int (pa_cons (pv 1) pa_nil)))) pe_int (fun _ _ => rfl))))), ?_⟩
    have hzl := hA.zl
    have hfl := hA.fl
    have hp := hA.vm.pos
    have hwl := walk_len hA.vm (s := 0) (by omega) (has_mem hA.zh)
    refine q_drop (H := H) (ev_call (ea_cons (ev_var rfl) (ea_cons (ev_var rfl) ea_nil)) (v_check_call hA)) fun H1 e1 => ?_
    exact s_ret (ev_addS (ev_ixT (i := 1) (ev_var rfl) ev_c (ex_t e1 ha) rfl) (ev_ixU (i := 0) (eu_call (ea_cons (ev_var rfl) (ea_cons ev_c (ea_cons (ev_var rfl) ea_nil))) (u_walked (st := 0) (hA.m.mono e1) hA.vm (by omega) (by omega) (has_mem hA.zh))) (fun _ _ => ev_c) rfl) (by omega)) fun H2 e2 => q H2 (e1.trans e2)
theorem v_written {v : V} {k : Int} {first : Wd} {rows : Rows} {z : Wd} {H : Hp} (hA : Asked K H v k first rows z) : SpV (spWritten K) [v, .str (S z)] H (.str (S (first ++ (walkM rows 0 z).1))) := fun H1 e Q q _ => ⟨v, k, first, rows, z, rfl, hA.mono e, q⟩
end
end K23


namespace K23
open PySem L2 Evl
/-! ### the words of the windows -/
def longer (z : Wd) (ws : List Wd) : List Wd := ws.flatMap fun w => z.map fun c => w ++ [c]
def ringM (z : Wd) : Nat → List Wd
  | 0 => [[]]
  | n + 1 => longer z (ringM z n)
def wordsM (z : Wd) : Nat → List Wd
  | 0 => [[]]
  | n + 1 => wordsM z n ++ ringM z (n + 1)
theorem longer_len (z : Wd) : ∀ ws : List Wd, (longer z ws).length = ws.length * z.length
  | [] => by simp [longer]
  | w :: r => by
    have := longer_len z r
    unfold longer at this ⊢
    rw [List.flatMap_cons, List.length_append, this, List.length_map, List.length_cons, Nat.succ_mul]
    omega
theorem ring_len (z : Wd) : ∀ n, (ringM z n).length = z.length ^ n
  | 0 => rfl
  | n + 1 => by
    show (longer z (ringM z n)).length = _
    rw [longer_len, ring_len z n, Nat.pow_succ]
theorem words_len (z : Wd) {n : Nat} (h : (z.length ≤ 3 ∧ n ≤ 4) ∨ (z.length ≤ 6 ∧ n ≤ 2)) : (wordsM z n).length ≤ 121 ∧ (ringM z n).length * z.length ≤ 1000 ∧ ∀ m, m ≤ n → (ringM z m).length * z.length ≤ 1000 ∧ (wordsM z m).length ≤ 121 := by
  have hr : ∀ m, m ≤ n → (ringM z m).length * z.length ≤ 1000 := fun m hm => by
    rw [ring_len, ← Nat.pow_succ]
    rcases h with ⟨h1, h2⟩ | ⟨h1, h2⟩
    · exact Nat.le_trans (Nat.pow_le_pow_left h1 _) (Nat.le_trans (Nat.pow_le_pow_right (by omega) (show m + 1 ≤ 5 by omega)) (by decide))
    · exact Nat.le_trans (Nat.pow_le_pow_left h1 _) (Nat.le_trans (Nat.pow_le_pow_right (by omega) (show m + 1 ≤ 3 by omega)) (by decide))
  have hw : ∀ m, m ≤ n → (wordsM z m).length ≤ 121 := fun m hm => by
    have e : ∀ b : Nat, z.length ≤ b → ∀ m, (wordsM z m).length ≤ ((List.range (m + 1)).map fun i => b ^ i).sum := fun b hb m => by
      induction m with
      | zero => simp [wordsM]
      | succ m ih =>
        show (wordsM z m ++ ringM z (m + 1)).length ≤ _
        rw [List.length_append, ring_len, List.range_succ, List.map_append, List.sum_append]
        have := Nat.pow_le_pow_left hb (m + 1)
        simp only [List.map_cons, List.map_nil, List.sum_cons, List.sum_nil]
        omega
    rcases h with ⟨h1, h2⟩ | ⟨h1, h2⟩
    · have h3 := e 3 h1 m
      have : m = 0 ∨ m = 1 ∨ m = 2 ∨ m = 3 ∨ m = 4 := by omega
      rcases this with rfl | rfl | rfl | rfl | rfl <;> exact Nat.le_trans h3 (by decide)
    · have h3 := e 6 h1 m
      have : m = 0 ∨ m = 1 ∨ m = 2 := by omega
      rcases this with rfl | rfl | rfl <;> exact Nat.le_trans h3 (by decide)
  exact ⟨hw n (Nat.le_refl _), hr n (Nat.le_refl _), fun m hm => ⟨hr m hm, hw m hm⟩⟩
theorem ring_mem {z : Wd} : ∀ {n : Nat} {w : Wd}, w ∈ ringM z n ↔ w.length = n ∧ ∀ c ∈ w, c ∈ z
  | 0, w => by
    show w ∈ [[]] ↔ _
    rw [List.mem_singleton]
    constructor
    · rintro rfl
      exact ⟨rfl, fun c h => nomatch h⟩
    · intro h
      exact List.length_eq_zero_iff.mp h.1
  | n + 1, w => by
    show w ∈ longer z (ringM z n) ↔ _
    unfold longer
    rw [List.mem_flatMap]
    constructor
    · rintro ⟨v, hv, hw⟩
      obtain ⟨c, hc, rfl⟩ := List.mem_map.mp hw
      obtain ⟨h1, h2⟩ := ring_mem.mp hv
      refine ⟨by rw [List.length_append, h1]; rfl, fun d hd => ?_⟩
      rcases List.mem_append.mp hd with hd | hd
      · exact h2 d hd
      · rw [List.mem_singleton.mp hd]
        exact hc
    · rintro ⟨h1, h2⟩
      have hne : w ≠ [] := fun e => by rw [e] at h1; cases h1
      refine ⟨w.dropLast, ring_mem.mpr ⟨by rw [List.length_dropLast, h1]; rfl, fun c hc => h2 c (List.dropLast_subset _ hc)⟩, List.mem_map.mpr ⟨w.getLast hne, h2 _ (List.getLast_mem hne), ?_⟩⟩
      exact List.dropLast_concat_getLast hne
theorem words_mem {z : Wd} : ∀ {n : Nat} {w : Wd}, w ∈ wordsM z n ↔ w.length ≤ n ∧ ∀ c ∈ w, c ∈ z
  | 0, w => by
    show w ∈ ringM z 0 ↔ _
    rw [ring_mem]
    constructor
    · rintro ⟨h1, h2⟩
      exact ⟨by omega, h2⟩
    · rintro ⟨h1, h2⟩
      exact ⟨by omega, h2⟩
  | n + 1, w => by
    show w ∈ wordsM z n ++ ringM z (n + 1) ↔ _
    rw [List.mem_append, words_mem, ring_mem]
    constructor
    · rintro (⟨h1, h2⟩ | ⟨h1, h2⟩)
      · exact ⟨by omega, h2⟩
      · exact ⟨by omega, h2⟩
    · rintro ⟨h1, h2⟩
      by_cases h : w.length = n + 1
      · exact .inr ⟨h, h2⟩
      · exact .inl ⟨by omega, h2⟩
theorem words_start (z : Wd) : ∀ n, (wordsM z n)[0]? = some []
  | 0 => rfl
  | n + 1 => by
    show (wordsM z n ++ _)[0]? = _
    rw [List.getElem?_append_left]
    · exact words_start z n
    · exact (List.getElem?_eq_some_iff.mp (words_start z n)).1
/-! ### the numbers of the words -/
def Nums (ws : List Wd) (n : Nat) (kvs : List (Key × V)) : Prop := ∀ x ∈ ws.take n, ∃ j : Nat, ws[j]? = some x ∧ valV kvs (Sum.inr (S x)) = some (.int (j : Int))
theorem nums_put {ws : List Wd} {n : Nat} {kvs : List (Key × V)} {w : Wd} (h : Nums ws n kvs) (hw : ws[n]? = some w) : Nums ws (n + 1) (putK kvs (Sum.inr (S w)) (.int (n : Int))) := fun x hx => by
  rw [valV_put]
  by_cases e : x = w
  · subst e
    exact ⟨n, hw, if_pos rfl⟩
  · rw [List.take_add_one, hw] at hx
    rcases List.mem_append.mp hx with hx | hx
    · obtain ⟨j, h1, h2⟩ := h x hx
      refine ⟨j, h1, ?_⟩
      rw [if_neg fun z => e (SX.S_inj (Sum.inr.inj z)), h2]
    · exact absurd (List.mem_singleton.mp hx) e
def nuOf (kvs : List (Key × V)) (x : Wd) : Nat := match valV kvs (Sum.inr (S x)) with
  | some (.int j) => j.toNat
  | _ => 0
theorem nu_of {ws : List Wd} {kvs : List (Key × V)} (h : Nums ws ws.length kvs) : ∀ x ∈ ws, ws[nuOf kvs x]? = some x ∧ valV kvs (Sum.inr (S x)) = some (.int ((nuOf kvs x : Nat) : Int)) := fun x hx => by
  obtain ⟨j, h1, h2⟩ := h x (by rw [List.take_length]; exact hx)
  have e : nuOf kvs x = j := by
    unfold nuOf
    rw [h2]
    exact Int.toNat_natCast j
  rw [e]
  exact ⟨h1, h2⟩
/-! ### readings -/
section
variable {K : PySem.W.Frag} {σ : L2.St} {H : Hp} {ta tb tc te tk tv tl tzz : TE} {tz : TS} {D : Ends}
theorem ev_fld {p C dx : Addr} {fs : List (Str × V)} {f : Str} {v : V} (ho : Ev ta σ H (.ref p)) (hp : H p = some (.ins C dx fs)) (c : Cls K C) (n : NoAttr K C f) (l : fs.lookup f = some v) : Ev (tFld K ta f) σ H v := fun H1 e Q q =>
  ho H1 e _ fun H2 e2 => ⟨p, C, dx, fs, v, rfl, (e.trans e2) p _ hp, c, n, l, q H2 e2⟩
theorem q_fld {p C dx : Addr} {fs : List (Str × V)} {f : Str} {v : V} (h : Ev te σ H v) (ho : Ev ta σ H (.ref p)) (hp : H p = some (.ins C dx fs)) (c : Cls K C) (n : NoAttr K C f) (hz : fs.length < 1000)
    (k : ∀ H1, Ex H H1 → tz D σ (upd H1 p (.ins C dx (putF f v fs)))) : tSeq (sFld K ta te f) tz D σ H :=
  h H (Ex.refl H) _ fun H1 e1 => ho H1 e1 _ fun H2 e2 => ⟨p, C, dx, fs, rfl, (e1.trans e2) p _ hp, c, n, hz, k H2 (e1.trans e2)⟩
theorem q_fldL {p C dx : Addr} {fs : List (Str × V)} {f : Str} {xs : List V} (h : EvL te σ H xs) (ho : Ev ta σ H (.ref p)) (hp : H p = some (.ins C dx fs)) (c : Cls K C) (n : NoAttr K C f) (hz : fs.length < 1000)
    (k : ∀ l H1, H l = none → Ex H H1 → H1 l = some (.lst xs) → tz D σ (upd H1 p (.ins C dx (putF f (.ref l) fs)))) : tSeq (sFld K ta te f) tz D σ H :=
  h H (Ex.refl H) _ fun l H1 hl e1 h1 => ho H1 e1 _ fun H2 e2 => ⟨p, C, dx, fs, rfl, (e1.trans e2) p _ hp, c, n, hz, k l H2 hl (e1.trans e2) (e2 l _ h1)⟩
theorem lk_eq {f : Str} {v : V} {fs : List (Str × V)} : (putF f v fs).lookup f = some v := by
  rw [lookup_putF, if_pos rfl]
theorem lk_ne {f g : Str} {v : V} {fs : List (Str × V)} {o : Option V} (h : ¬ g = f) (e : fs.lookup g = o) : (putF f v fs).lookup g = o := by
  rw [lookup_putF, if_neg h, e]
/-- [w + c for w in ring for c in text] -/
theorem el_lc2 {j i : Nat} {vs vs1 : List Nat} {a : Addr} {ws : List Wd} {z : Wd} (h : Ev tl σ H (.ref a)) (hx : SqL K H a (strsV ws)) (hz : ws.length * z.length ≤ 40000)
    (hw : ∀ x, wipe ((wipe σ vs).set j (some x)) vs = wipe σ vs)
    (hw1 : ∀ x y, wipe ((wipe ((wipe σ vs).set j (some x)) vs1).set i (some y)) vs1 = wipe ((wipe σ vs).set j (some x)) vs1)
    (hi : ∀ w H1, Ex H H1 → w ∈ ws → Ev tzz ((wipe σ vs).set j (some (.str (S w)))) H1 (.str (S z)))
    (he : ∀ w c H1, Ex H H1 → w ∈ ws → c ∈ z → Ev te ((wipe ((wipe σ vs).set j (some (.str (S w)))) vs1).set i (some (.str (S [c])))) H1 (.str (S (w ++ [c])))) :
    EvL (tLc2 (iList K tl) (gName j) tYes (iStr tzz) (gName i) tYes te vs vs1) σ H (strsV (longer z ws)) := fun H0 e Q q => h H0 e _ fun H1 e1 => ⟨a, rfl, ⟨strsV ws, ex_l (e.trans e1) hx⟩, fun D hD => by
  refine ⟨fun n m H' => m = ws.length - n ∧ n ≤ ws.length ∧ Ex H1 H' ∧ H' D = some (.lst (strsV (longer z (ws.take n)))), ⟨ws.length, by simp, Nat.zero_le _, Ex.new hD, upd_same⟩, ?_⟩
  rintro n m H2 ⟨rfl, hn, e2, h2⟩
  have hxs : SqL K H2 a (strsV ws) := ex_l ((e.trans e1).trans e2) hx
  have hlen : (strsV ws).length = ws.length := List.length_map _
  by_cases hlt : n < ws.length
  · have hwn : ws[n]? = some ws[n] := List.getElem?_eq_getElem hlt
    have htk : longer z (ws.take (n + 1)) = longer z (ws.take n) ++ z.map fun c => ws[n] ++ [c] := by
      unfold longer
      rw [List.take_add_one, hwn, List.flatMap_append]
      simp
    refine .inr ⟨walk_list.goes n H2 (by rw [hlen]; exact hlt) hxs, fun H' => Ex H1 H' ∧ H' D = some (.lst (strsV (longer z (ws.take (n + 1))))), fun H' p => ⟨ws.length - (n + 1), by omega, rfl, hlt, p.1, p.2⟩, fun x H' y => ?_⟩
    obtain ⟨rfl, hxx⟩ := walk_list.yields n H2 x H' (by rw [hlen]; exact hlt) hxs y
    have ex : x = .str (S ws[n]) := by
      rw [List.getElem?_map, hwn] at hxx
      exact (Option.some.inj hxx).symm
    subst ex
    refine ⟨hw _, ?_⟩
    refine hi _ _ ((e.trans e1).trans e2) (List.getElem_mem hlt) _ (Ex.refl _) _ fun H3 e3 => ⟨S z, rfl, ?_⟩
    refine ⟨fun t m H' => m = z.length - t ∧ t ≤ z.length ∧ Ex H1 H' ∧ H' D = some (.lst (strsV (longer z (ws.take n) ++ (z.take t).map fun c => ws[n] ++ [c]))), ⟨z.length, by simp, Nat.zero_le _, e2.trans e3, by
      rw [e3 D _ h2]
      simp⟩, ?_⟩
    rintro t m H4 ⟨rfl, ht, e4, h4⟩
    have hzs : (S z).cps.size = z.length := by simp
    by_cases htl : t < z.length
    · refine .inr ⟨(by rw [← hzs] at htl; exact htl), fun H' => Ex H1 H' ∧ H' D = some (.lst (strsV (longer z (ws.take n) ++ (z.take (t + 1)).map fun c => ws[n] ++ [c]))), fun H' p => ⟨z.length - (t + 1), by omega, rfl, htl, p.1, p.2⟩, fun x H' y => ?_⟩
      obtain ⟨rfl, c, hc, rfl⟩ := y
      have hc' : z[t]? = some c := by simpa using hc
      refine ⟨hw1 _ _, ?_⟩
      refine he _ c _ ((e.trans e1).trans e4) (List.getElem_mem hlt) (List.mem_of_getElem? hc') _ (Ex.refl _) _ fun H5 e5 => ⟨_, e5 D _ h4, ?_, Ex.mut (e4.trans e5) hD, ?_⟩
      · rw [List.length_map, List.length_append, longer_len, List.length_map, List.length_take, List.length_take]
        refine sz_lt ?_
        have h1 : (n + 1) * z.length ≤ ws.length * z.length := Nat.mul_le_mul_right _ hlt
        rw [Nat.succ_mul] at h1
        rw [Nat.min_eq_left (by omega), Nat.min_eq_left (by omega)]
        omega
      · rw [upd_same, List.take_add_one, hc']
        simp
    · have et : t = z.length := by omega
      subst et
      refine .inl ⟨(by show (S z).cps.size ≤ z.length; omega), e4, ?_⟩
      rw [h4, htk, List.take_length]
  · have en : n = ws.length := by omega
    subst en
    refine .inl ⟨by rw [← hlen]; exact walk_list.stops H2 hxs, q D H2 (fresh_back e1 hD) (e1.trans e2) ?_⟩
    rw [h2, List.take_length]⟩
/-- {word: number for number, word in enumerate(words)} -/
theorem ed_nums {tas : TA} {jn jw : Nat} {vs : List Nat} {a : Addr} {ws : List Wd} (h : EvA tas σ H [.ref a]) (hx : SqL K H a (strsV ws)) (hz : ws.length ≤ 40000)
    (hw : ∀ x y, wipe (((wipe σ vs).set jn (some x)).set jw (some y)) vs = wipe σ vs)
    (hk : ∀ x y H1, Ev tk (((wipe σ vs).set jn (some x)).set jw (some y)) H1 y) (hv : ∀ x y H1, Ev tv (((wipe σ vs).set jn (some x)).set jw (some y)) H1 x) {Q : VK}
    (q : ∀ D H2 kvs, H D = none → Ex H H2 → H2 D = some (.dK kvs) → Nums ws ws.length kvs → Q (.ref D) H2) :
    tDc (iEnum K tas) (gTup K 2 (gCons (gName jn) (gCons (gName jw) gNil))) tYes tk tv vs σ H Q := h H (Ex.refl H) _ fun H1 e1 => ⟨a, strsV ws, rfl, ex_l e1 hx, fun D hD => by
  refine ⟨fun n m H' => m = ws.length - n ∧ n ≤ ws.length ∧ Ex H1 H' ∧ ∃ kvs, H' D = some (.dK kvs) ∧ kvs.length ≤ n ∧ Nums ws n kvs, ⟨ws.length, by simp, Nat.zero_le _, Ex.new hD, [], upd_same, Nat.zero_le _, fun x hx => by simp at hx⟩, ?_⟩
  rintro n m H2 ⟨rfl, hn, e2, kvs, h2, hl2, hN⟩
  have hxs : SqL K H2 a (strsV ws) := ex_l (e1.trans e2) hx
  have hlen : (strsV ws).length = ws.length := List.length_map _
  by_cases hlt : n < ws.length
  · have hwn : ws[n]? = some ws[n] := List.getElem?_eq_getElem hlt
    refine .inr ⟨walk_enum.goes n H2 (by rw [hlen]; exact hlt) hxs, fun H' => Ex H1 H' ∧ ∃ kvs, H' D = some (.dK kvs) ∧ kvs.length ≤ n + 1 ∧ Nums ws (n + 1) kvs, fun H' p => ⟨ws.length - (n + 1), by omega, rfl, hlt, p.1, p.2⟩, fun x H' y => ?_⟩
    obtain ⟨T, u, v, rfl, hT, rfl, hu, hv'⟩ := walk_enum.yields n H2 x H' (by rw [hlen]; exact hlt) hxs y
    have eu : u = .int (n : Nat) := (Option.some.inj hu).symm
    subst eu
    have ev : v = .str (S ws[n]) := by
      simp only [List.getElem?_map, hwn] at hv'
      exact (Option.some.inj hv').symm
    subst ev
    refine ⟨T, [.int (n : Nat), .str (S ws[n])], rfl, st_of upd_same, rfl, _, [.str (S ws[n])], rfl, _, [], rfl, rfl, hw _ _, ?_⟩
    have hTD : ∀ o, Ex H2 (upd H2 T o) := fun o => Ex.new hT
    refine hk _ _ _ _ (Ex.refl _) _ fun H3 e3 => hv _ _ _ _ (Ex.refl _) _ fun H4 e4 => ⟨kvs, Sum.inr (S ws[n]), rfl, ?_, ?_, ?_, ?_⟩
    · exact e4 D _ (e3 D _ (hTD _ D _ h2))
    · exact sz_lt (by omega)
    · exact Ex.mut (((e2.trans (hTD _)).trans e3).trans e4) hD
    · exact ⟨_, upd_same, by have := length_putK kvs (Sum.inr (S ws[n])) (V.int (n : Nat)); omega, nums_put hN hwn⟩
  · have en : n = ws.length := by omega
    subst en
    exact .inl ⟨by rw [← hlen]; exact walk_enum.stops H2 hxs, q D H2 kvs (fresh_back e1 hD) (e1.trans e2) h2 hN⟩⟩
end
end K23


namespace K23
open PySem L2 Evl
/-- what the walk asks of the class -/
structure WinC (K : PySem.W.Frag) (C : Addr) : Prop where
  cl : Cls K C
  nRule : NoAttr K C "rule"
  nK : NoAttr K C "k"
  nAhead : NoAttr K C "ahead"
  nSize : NoAttr K C "size"
  nWords : NoAttr K C "words"
  nNumbers : NoAttr K C "numbers"
abbrev wsOf (k : Int) (r : Rl) : List Wd := wordsM (ltrs k) (sizeOf r)
/-- the attribute f -/
abbrev lkF (fs : List (Str × V)) (f : Str) : Option V := fs.lookup f
structure WinAt (K : PySem.W.Frag) (C : Addr) (H : Hp) (p : Addr) (k : Int) (r : Rl) (nu : Wd → Nat) : Prop where
  ex : ∃ (dx : Addr) (fs : List (Str × V)) (v : V) (l d : Addr) (kvs : List (Key × V)), H p = some (.ins C dx fs) ∧ lkF fs "rule" = some v ∧ RuleAt K H v r ∧ lkF fs "k" = some (.int k) ∧ lkF fs "ahead" = some (.int (r.right.length : Int)) ∧
    lkF fs "size" = some (.int ((sizeOf r : Nat) : Int)) ∧ lkF fs "words" = some (.ref l) ∧ H l = some (.lst (strsV (wsOf k r))) ∧ lkF fs "numbers" = some (.ref d) ∧ H d = some (.dK kvs) ∧
    (∀ x ∈ wsOf k r, (wsOf k r)[nu x]? = some x ∧ valV kvs (Sum.inr (S x)) = some (.int ((nu x : Nat) : Int))) ∧
    lkF fs "becomes" = none ∧ lkF fs "entry" = none ∧ lkF fs "last" = none ∧ lkF fs "machine" = none
theorem WinAt.mono {K : PySem.W.Frag} {C : Addr} {H H' : Hp} {p : Addr} {k : Int} {r : Rl} {nu : Wd → Nat} (h : WinAt K C H p k r nu) (e : Ex H H') : WinAt K C H' p k r nu := by
  obtain ⟨dx, fs, v, l, d, kvs, h1, h2, h3, h4, h5, h6, h7, h8, h9, h10, h11⟩ := h.ex
  exact ⟨dx, fs, v, l, d, kvs, e p _ h1, h2, h3.mono e, h4, h5, h6, h7, e l _ h8, h9, e d _ h10, h11⟩
structure RB (k : Int) (r : Rl) : Prop where
  k2 : 2 ≤ k
  k6 : k ≤ 6
  ll : r.left.length ≤ 2
  lr : r.right.length ≤ 2
  sm : k ≤ 3 ∨ sizeOf r ≤ 2
theorem ltrs_len {k : Int} : (ltrs k).length = min k.toNat 6 := by
  unfold ltrs
  rw [List.length_take]
  rfl
theorem RB.words {k : Int} {r : Rl} (h : RB k r) : ((ltrs k).length ≤ 3 ∧ sizeOf r ≤ 4) ∨ ((ltrs k).length ≤ 6 ∧ sizeOf r ≤ 2) := by
  have h1 := h.k6
  have h2 := h.ll
  have h3 := h.lr
  have e : sizeOf r = r.left.length + r.right.length := rfl
  rw [ltrs_len]
  rcases h.sm with h | h
  · exact .inl ⟨by omega, by omega⟩
  · exact .inr ⟨by omega, h⟩
theorem pfz {f : Str} {v : V} {fs : List (Str × V)} {n : Nat} (h : fs.length ≤ n) : (putF f v fs).length ≤ n + 1 := Nat.le_trans (length_putF f v fs) (Nat.succ_le_succ h)
theorem s_ext {K : PySem.W.Frag} {σ : L2.St} {H : Hp} {ta te : TE} {D : Ends} {l b : Addr} {xs ys : List V} (hl : H l = some (.lst xs)) (hb : H b = some (.lst ys)) (ha : Ev ta σ H (.ref l)) (h : Ev te σ H (.ref b)) (hz : xs.length + ys.length ≤ 100000)
    (k : ∀ H1, Ex H H1 → D.nx σ (upd H1 l (.lst (xs ++ ys)))) : tDrop (tBM K "list" rExtend ta (tCons te tNil)) D σ H := ha H (Ex.refl H) _ fun H1 e1 =>
  ⟨Or.inl ⟨rfl, xs, sq_of (e1 l _ hl)⟩, h H1 e1 _ fun H2 e2 => ⟨l, b, xs, ys, rfl, rfl, (e1.trans e2) l _ hl, (e1.trans e2) b _ hb, sz_of hz, k H2 (e1.trans e2)⟩⟩
/-- the class made -/
structure MakK (K : PySem.W.Frag) (mg : Str → Option Value) (x : Str) (C : Addr) (qual : Str) (st : Stmt) (ps : List Str) : Prop where
  ex : ∃ (f : Addr) (fd : FuncData), Mk K C f ∧ Fun K "__init__" qual st f fd ∧ mg x = some (.ref C) ∧ Binds K fd ps []
section
variable {P : Program} {w : World} {K : PySem.W.Frag} {mg : Str → Option Value} {base : Heap}
abbrev nInit : List Str := ["self", "k", "rule", "_", "ring", "word", "letter", "number"]
theorem scInit : FnScope nInit ["self", "k", "rule"] (defScope tInit) := ⟨rfl, rfl, rfl, by decide +kernel, rfl, by decide +kernel, by decide +kernel⟩
def spInit (K : PySem.W.Frag) (C : Addr) : Sp := fun vs H Q _ => ∃ (H0 : Hp) (p dx : Addr) (k : Int) (v : V) (r : Rl), vs = [.ref p, .int k, v] ∧ Ex H0 H ∧ H0 p = none ∧ H p = some (.ins C dx []) ∧ RuleAt K H0 v r ∧ RB k r ∧ ∀ nu H', Ex H0 H' → WinAt K C H' p k r nu → Q .non H'
theorem mak_window {C : Addr} (D : MakK K mg "Window" C "Window.__init__" tInit ["self", "k", "rule"]) (T : Glo mg) (W : WinC K C) : C8.Mak P w K mg base 1 "Window" C (spInit K C) [] := by
  obtain ⟨f, fd, M, F, hm, b⟩ := D.ex
  refine ⟨f, fd, _, [], M, F.ok scInit (fun vs H Q E h => ?_) (fun cdv A outer s H vs Q E hr h => ?_), hm, b, .nil⟩
  · obtain ⟨H0, p, dx, k, v, r, rfl, _⟩ := h
    rfl
  · obtain ⟨H0, p, dx, k, v, r, rfl, e0, hp0, hp, hR, hB, q⟩ := h
    obtain ⟨a, lf, rt, rfl, ha, hlf, hrt⟩ := id hR.ex
    refine ⟨_, pss_cons (ps_fld (pv 0) (pv 2) rfl) (pss_cons (ps_fld (pv 0) (pv 1) rfl)
      (pss_cons (ps_fld (pv 0) (pe_callB call_len_seq (by rfl) T.len PySem.boot_len (pa_cons (pe_ix (r := rIxT K) ix_tup (pv 2) pe_int (fun _ _ => rfl)) pa_nil)) rfl)
      (pss_cons (ps_fld (pv 0) (pe_op op_add (pe_callB call_len_seq (by rfl) T.len PySem.boot_len (pa_cons (pe_ix (r := rIxT K) ix_tup (pv 2) pe_int (fun _ _ => rfl)) pa_nil)) (pe_fld (pv 0) rfl)) rfl)
      (pss_cons (ps_fld (pv 0) (pe_lst (pa_cons pe_str pa_nil)) rfl)
      (pss_cons (ps_set (i := 4) scInit.nd rfl (.inl rfl) (pe_lst (pa_cons pe_str pa_nil)))
      (pss_cons (ps_for PassesOwn.never rfl (pi_range1 (by rfl) T.range (pa_cons (pe_fld (pv 0) rfl) pa_nil)) (pg_name (i := 3) scInit.nd rfl (.inl rfl))
        (pss_cons (ps_setLc2 (i := 4) (own := [("word", 5), ("letter", 6)]) (vs1 := [6]) (g := gName 5) (g1 := gName 6) (tt := tYes) (tt1 := tYes) rfl scInit.nd rfl rfl rfl (pi_list (pv 4)) (blkOk_by (N := nInit) (sc := defScope tInit) (by decide +kernel)) (by decide)
            (fun _ _ _ _ _ => pg_name (i := 5) scInit.nd rfl (.inl rfl)) (fun _ _ _ _ _ => pts_nil)
            (fun _ _ _ _ _ => pi_str (pe_slice C8.sl_txt (glS (by rfl) T.letters) po_none (po_some (pv 1)))) (fun _ _ _ _ _ => pg_name (i := 6) scInit.nd rfl (.inl rfl)) (fun _ _ _ _ _ => pts_nil)
            (fun _ _ _ _ _ => pe_op op_add_str (pv 5) (pv 6)))
        (pss_one (ps_expr (pe_bm PySem.F.plainAttrs_list PySem.F.slot_list_extend PySem.F.type_list_extend mt_extend (pe_fld (pv 0) rfl) (pa_cons (pv 4) pa_nil))))))
      (pss_one (ps_fld (pv 0) (pe_dc (own := [("number", 7), ("word", 5)]) (g := gTup K 2 (gCons (gName 7) (gCons (gName 5) gNil))) (tt := tYes) rfl scInit.nd (pi_enum (by rfl) T.enumerate (pa_cons (pe_fld (pv 0) rfl) pa_nil)) (blkOk_by (N := nInit) (sc := defScope tInit) (by decide +kernel))
          (fun _ _ _ _ _ => pg_tup (by rfl) (pgs_cons (pg_name (i := 7) scInit.nd rfl (.inl rfl)) (pgs_cons (pg_name (i := 5) scInit.nd rfl (.inl rfl)) pgs_nil))) (fun _ _ _ _ _ => pts_nil)
          (fun _ _ _ _ _ => pv 5) (fun _ _ _ _ _ => pv 7)) rfl)))))))), ?_⟩
    have hLT : ∀ {X : Hp} (e : Ex H0 X), SqT K X a [.str (S [r.c]), .str (S r.new), .ref lf, .ref rt] := fun e => ex_t e ha
    have hz := hB.words
    obtain ⟨hw1, hw2, hw3⟩ := words_len (ltrs k) hz
    refine q_fld (H := H) (ev_var rfl) (ev_var rfl) hp W.cl W.nRule (by decide) fun H1 e1 => ?_
    have f1 : Ex H0 (upd H1 p (.ins C dx (putF "rule" (.ref a) []))) := Ex.mut (e0.trans e1) hp0
    refine q_fld (ev_var rfl) (ev_var rfl) upd_same W.cl W.nK (Nat.lt_of_le_of_lt (pfz (Nat.le_refl 0)) (by decide)) fun H2 e2 => ?_
    have f2 : Ex H0 (upd H2 p (.ins C dx (putF "k" (.int k) (putF "rule" (.ref a) [])))) := Ex.mut (f1.trans e2) hp0
    refine q_fld (v := .int (r.right.length : Int)) (ev_is (ev_lenT (ev_ixT (i := 3) (ev_var rfl) ev_c (hLT f2) rfl) (ex_t f2 hrt)) (by rw [List.length_map])) (ev_var rfl) upd_same W.cl W.nAhead (Nat.lt_of_le_of_lt (pfz (pfz (Nat.le_refl 0))) (by decide)) fun H3 e3 => ?_
    have f3 : Ex H0 (upd H3 p (.ins C dx (putF "ahead" (.int (r.right.length : Int)) (putF "k" (.int k) (putF "rule" (.ref a) []))))) := Ex.mut (f2.trans e3) hp0
    refine q_fld (v := .int ((sizeOf r : Nat) : Int)) (ev_is (ev_I0 (g := fun i j => .int (i + j)) (ev_lenT (ev_ixT (i := 2) (ev_var rfl) ev_c (hLT f3) rfl) (ex_t f3 hlf)) (ev_fld (ev_var rfl) upd_same W.cl W.nAhead lk_eq)) (by rw [List.length_map, ← Int.natCast_add])) (ev_var rfl) upd_same W.cl W.nSize (Nat.lt_of_le_of_lt (pfz (pfz (pfz (Nat.le_refl 0)))) (by decide)) fun H4 e4 => ?_
    generalize hfs : putF "size" (V.int ((sizeOf r : Nat) : Int)) (putF "ahead" (.int (r.right.length : Int)) (putF "k" (.int k) (putF "rule" (.ref a) []))) = fs4
    have hfl : fs4.length ≤ 4 := by
      rw [← hfs]
      exact pfz (pfz (pfz (pfz (Nat.le_refl 0))))
    have l1 : lkF fs4 "rule" = some (.ref a) := by
      rw [← hfs]
      exact lk_ne (by decide +kernel) (lk_ne (by decide +kernel) (lk_ne (by decide +kernel) lk_eq))
    have l2 : lkF fs4 "k" = some (.int k) := by
      rw [← hfs]
      exact lk_ne (by decide +kernel) (lk_ne (by decide +kernel) lk_eq)
    have l3 : lkF fs4 "ahead" = some (.int (r.right.length : Int)) := by
      rw [← hfs]
      exact lk_ne (by decide +kernel) lk_eq
    have l4 : lkF fs4 "size" = some (.int ((sizeOf r : Nat) : Int)) := by
      rw [← hfs]
      exact lk_eq
    have ln : ∀ f : Str, ¬ f = "size" → ¬ f = "ahead" → ¬ f = "k" → ¬ f = "rule" → lkF fs4 f = none := fun f n1 n2 n3 n4 => by
      rw [← hfs]
      exact lk_ne n1 (lk_ne n2 (lk_ne n3 (lk_ne n4 rfl)))
    have f4 : Ex H0 (upd H4 p (.ins C dx fs4)) := Ex.mut (f3.trans e4) hp0
    refine q_fldL (xs := strsV [[]]) (el_lst (ea_cons (ev_str str_nil) ea_nil) (by simp)) (ev_var rfl) upd_same W.cl W.nWords (Nat.lt_of_le_of_lt hfl (by decide)) fun l H5 hl5 e5 h5 => ?_
    have hlp : l ≠ p := fun z => by
      rw [z, upd_same] at hl5
      cases hl5
    generalize hfs5 : putF "words" (V.ref l) fs4 = fs5
    have hfl5 : fs5.length ≤ 5 := by
      rw [← hfs5]
      exact pfz hfl
    have m1 : ∀ {f : Str} {o : Option V}, ¬ f = "words" → lkF fs4 f = o → lkF fs5 f = o := fun n e => by
      rw [← hfs5]
      exact lk_ne n e
    have m5 : lkF fs5 "words" = some (.ref l) := by
      rw [← hfs5]
      exact lk_eq
    have f5 : Ex H0 (upd H5 p (.ins C dx fs5)) := Ex.mut (f4.trans e5) hp0
    have hl0 : H0 l = none := fresh_back f4 hl5
    have g5 : (upd H5 p (.ins C dx fs5)) l = some (.lst (strsV [[]])) := by rw [upd_ne hlp, h5]
    refine q_asgL (xs := strsV [[]]) (el_lst (ea_cons (ev_str str_nil) ea_nil) (by simp)) fun rg H6 hr6 e6 h6 => ?_
    refine q_forR1 (n := ((sizeOf r : Nat) : Int)) (ea_cons (ev_fld (ev_var rfl) (e6 p _ upd_same) W.cl W.nSize (m1 (by decide +kernel) l4)) ea_nil) (by have := hB.ll; have := hB.lr; have : sizeOf r = r.left.length + r.right.length := rfl; omega)
      (fun i σ H' => ∃ x3 rg, σ = [some (.ref p), some (.int k), some (.ref a), x3, some (.ref rg), none, none, none] ∧ Ex H0 H' ∧ H' p = some (.ins C dx fs5) ∧ H' l = some (.lst (strsV (wordsM (ltrs k) i))) ∧ H' rg = some (.lst (strsV (ringM (ltrs k) i))))
      (fun H7 e7 => ⟨none, rg, rfl, (f5.trans e6).trans e7, (e6.trans e7) p _ upd_same, (e6.trans e7) l _ g5, e7 rg _ h6⟩) (fun i σ H' hi hp => ?_) (fun σ H' hp => ?_)
    · obtain ⟨x3, rg, rfl, f7, h7p, h7l, h7r⟩ := hp
      have hi' : i < sizeOf r := by omega
      obtain ⟨b1, b2⟩ := hw3 i (by omega)
      obtain ⟨b3, b4⟩ := hw3 (i + 1) (by omega)
      refine q_asgL (xs := strsV (ringM (ltrs k) (i + 1))) (el_lc2 (ws := ringM (ltrs k) i) (z := ltrs k) (ev_var rfl) (sq_of h7r) (by omega) (fun _ => rfl) (fun _ _ => rfl) (fun w H8 _ _ => ev_ltrs (ev_var rfl) (by have := hB.k2; omega))
        (fun w c H8 _ hwm hc => ev_addS (ev_var rfl) (ev_var rfl) (by have := (ring_mem.mp hwm).1; have := hB.ll; have := hB.lr; have : sizeOf r = r.left.length + r.right.length := rfl; simp; omega))) fun rg' H8 hr8 e8 h8 => ?_
      have hrl : rg' ≠ l := fun z => by
        rw [z, h7l] at hr8
        cases hr8
      refine s_ext (e8 l _ h7l) h8 (ev_fld (ev_var rfl) (e8 p _ h7p) W.cl W.nWords m5) (ev_var rfl) ?_ fun H9 e9 => ?_
      · rw [List.length_map, List.length_map]
        have h10 : (ringM (ltrs k) (i + 1)).length ≤ (wordsM (ltrs k) (i + 1)).length := by
          show _ ≤ (wordsM (ltrs k) i ++ ringM (ltrs k) (i + 1)).length
          rw [List.length_append]
          omega
        omega
      · refine ⟨some (.int (i : Int)), rg', rfl, Ex.mut ((f7.trans e8).trans e9) hl0, ?_, ?_, ?_⟩
        · rw [upd_ne hlp.symm]
          exact (e8.trans e9) p _ h7p
        · rw [upd_same]
          show _ = some (HO.lst (strsV (wordsM (ltrs k) i ++ ringM (ltrs k) (i + 1))))
          rw [show strsV (wordsM (ltrs k) i ++ ringM (ltrs k) (i + 1)) = strsV (wordsM (ltrs k) i) ++ strsV (ringM (ltrs k) (i + 1)) from List.map_append]
        · rw [upd_ne hrl]
          exact e9 rg' _ h8
    · obtain ⟨x3, rg, rfl, f7, h7p, h7l, h7r⟩ := hp
      rw [Int.toNat_natCast] at h7l
      show tDc _ _ _ _ _ _ _ _ _
      refine ed_nums (H := H') (ws := wsOf k r) (ea_cons (ev_fld (ev_var rfl) h7p W.cl W.nWords m5) ea_nil) (sq_of h7l) (by show (wordsM _ _).length ≤ _; omega) (fun _ _ => rfl) (fun _ _ _ => ev_var rfl) (fun _ _ _ => ev_var rfl) fun D H8 kvs hD e8 h8 hN => ?_
      have hDp : D ≠ p := fun z => by
        rw [z, h7p] at hD
        cases hD
      refine ⟨.ref p, rfl, p, C, dx, fs5, rfl, e8 p _ h7p, W.cl, W.nNumbers, Nat.lt_of_le_of_lt hfl5 (by decide), ?_⟩
      have m6 : ∀ {f : Str} {o : Option V}, ¬ f = "numbers" → lkF fs5 f = o → lkF (putF "numbers" (V.ref D) fs5) f = o := fun n e => lk_ne n e
      have f8 : Ex H0 (upd H8 p (.ins C dx (putF "numbers" (V.ref D) fs5))) := Ex.mut (f7.trans e8) hp0
      refine q (nuOf kvs) _ f8 ⟨dx, _, .ref a, l, D, kvs, upd_same, m6 (by decide +kernel) (m1 (by decide +kernel) l1), hR.mono f8, m6 (by decide +kernel) (m1 (by decide +kernel) l2), m6 (by decide +kernel) (m1 (by decide +kernel) l3),
        m6 (by decide +kernel) (m1 (by decide +kernel) l4), m6 (by decide +kernel) m5, ?_, lk_eq, ?_, nu_of hN, ?_, ?_, ?_, ?_⟩
      · rw [upd_ne hlp]
        exact e8 l _ h7l
      · rw [upd_ne hDp, h8]
      · exact m6 (by decide +kernel) (m1 (by decide +kernel) (ln _ (by decide +kernel) (by decide +kernel) (by decide +kernel) (by decide +kernel)))
      · exact m6 (by decide +kernel) (m1 (by decide +kernel) (ln _ (by decide +kernel) (by decide +kernel) (by decide +kernel) (by decide +kernel)))
      · exact m6 (by decide +kernel) (m1 (by decide +kernel) (ln _ (by decide +kernel) (by decide +kernel) (by decide +kernel) (by decide +kernel)))
      · exact m6 (by decide +kernel) (m1 (by decide +kernel) (ln _ (by decide +kernel) (by decide +kernel) (by decide +kernel) (by decide +kernel)))
end
end K23


namespace K23
open PySem L2 Evl
/-! ### tuples stay where lists are written -/
def ExT (H H' : Hp) : Prop := ∀ a o, H a = some o → (∀ xs, o ≠ .lst xs) → H' a = some o
theorem ExT.of {H H' : Hp} (e : Ex H H') : ExT H H' := fun a o h _ => e a o h
theorem ExT.trans {H H1 H2 : Hp} (a : ExT H H1) (b : ExT H1 H2) : ExT H H2 := fun x o h n => b x o (a x o h n) n
theorem ExT.lst {H : Hp} {p : Addr} {xs ys : List V} (h : H p = some (.lst xs)) : ExT H (upd H p (.lst ys)) := fun a o e n => by
  rw [upd_ne fun z => by
    rw [z, h] at e
    exact n xs (Option.some.inj e).symm]
  exact e
theorem SqT.monoT {K : PySem.W.Frag} {H H' : Hp} {a : Addr} {xs : List V} (e : ExT H H') (h : SqT K H a xs) : SqT K H' a xs := by
  rcases h with (h | ⟨o, h⟩) | h
  · exact .inl (.inl (e a _ h fun _ z => by cases z))
  · exact .inl (.inr ⟨o, e a _ h fun _ z => by cases z⟩)
  · exact .inr h
theorem EntsAt.monoT {K : PySem.W.Frag} {H H' : Hp} {xs : List V} {es : List (Wd × Nat)} (h : EntsAt K H xs es) (e : ExT H H') : EntsAt K H' xs es :=
  ⟨h.1, fun i x en h1 h2 => let ⟨T, h3, h4⟩ := h.2 i x en h1 h2; ⟨T, h3, SqT.monoT e h4⟩⟩
theorem RowAt.monoT {K : PySem.W.Frag} {H H' : Hp} {v : V} {row : Wd × List (Wd × Nat)} (h : RowAt K H v row) (e : ExT H H') : RowAt K H' v row := by
  obtain ⟨a, b, xs, h1, h2, h3, h4⟩ := h.ex
  exact ⟨a, b, xs, h1, SqT.monoT e h2, SqT.monoT e h3, h4.monoT e⟩
theorem get_snoc {α : Type} {l : List α} {y x : α} {i : Nat} (h : (l ++ [y])[i]? = some x) : (i < l.length ∧ l[i]? = some x) ∨ (i = l.length ∧ x = y) := by
  by_cases hi : i < l.length
  · rw [List.getElem?_append_left hi] at h
    exact .inl ⟨hi, h⟩
  · rw [List.getElem?_append_right (by omega)] at h
    have h0 : i - l.length = 0 := by
      have := (List.getElem?_eq_some_iff.mp h).1
      simp at this
      omega
    rw [h0] at h
    exact .inr ⟨by omega, (Option.some.inj h).symm⟩
theorem EntsAt.snoc {K : PySem.W.Frag} {H : Hp} {xs : List V} {es : List (Wd × Nat)} {T : Addr} {e : Wd × Nat} (h : EntsAt K H xs es) (hT : SqT K H T [.str (S e.1), .int (e.2 : Int)]) : EntsAt K H (xs ++ [.ref T]) (es ++ [e]) := by
  refine ⟨by rw [List.length_append, List.length_append, h.1]; rfl, fun i x en h1 h2 => ?_⟩
  rcases get_snoc h1 with ⟨hi, h1⟩ | ⟨hi, rfl⟩
  · rw [List.getElem?_append_left (by rw [← h.1]; exact hi)] at h2
    exact h.2 i x en h1 h2
  · rcases get_snoc h2 with ⟨hj, _⟩ | ⟨_, rfl⟩
    · have := h.1
      omega
    · exact ⟨T, rfl, hT⟩
/-! ### the rows of a rule -/
def entM (k : Int) (r : Rl) (nu : Wd → Nat) (s : Wd) (c : Nat) : Wd × Nat := (outOf r s c, nu (lastn (sizeOf r) (s ++ [c])))
def rowM (k : Int) (r : Rl) (nu : Wd → Nat) (s : Wd) : Wd × List (Wd × Nat) := (lastOf r s, (ltrs k).map (entM k r nu s))
def rowsM (k : Int) (r : Rl) (nu : Wd → Nat) : Rows := (wsOf k r).map (rowM k r nu)
section
variable {K : PySem.W.Frag} {σ : L2.St} {H : Hp} {ta tb tc te tk : TE}
theorem ev_meth {C p dx : Addr} {fs : List (Str × V)} {m : Str} {sp : Sp} {E : XK} {t : TA} {vs : List V} {z : V} (ho : Ev ta σ H (.ref p)) (hp : H p = some (.ins C dx fs)) (l : lkF fs m = none) (h : EvA t σ H vs) (hs : SpV sp (.ref p :: (vs ++ [])) H z) : Ev (tMeth C m sp [] E ta t) σ H z := fun H1 e Q q =>
  ho H1 e _ fun H2 e2 => ⟨p, dx, fs, rfl, (e.trans e2) p _ hp, l, h H2 (e.trans e2) _ fun H3 e3 => hs H3 ((e.trans e2).trans e3) Q (fun H4 e4 => q H4 ((e2.trans e3).trans e4)) E⟩
theorem eu_meth {C p dx : Addr} {fs : List (Str × V)} {m : Str} {sp : Sp} {E : XK} {t : TA} {vs xs : List V} (ho : Ev ta σ H (.ref p)) (hp : H p = some (.ins C dx fs)) (l : lkF fs m = none) (h : EvA t σ H vs) (hs : SpU sp (.ref p :: (vs ++ [])) H xs) : EvU (tMeth C m sp [] E ta t) σ H xs := fun H1 e Q q =>
  ho H1 e _ fun H2 e2 => ⟨p, dx, fs, rfl, (e.trans e2) p _ hp, l, h H2 (e.trans e2) _ fun H3 e3 => hs H3 ((e.trans e2).trans e3) Q (fun a H4 ha e4 h4 => q a H4 (fresh_back (e2.trans e3) ha) ((e2.trans e3).trans e4) h4) E⟩
theorem ev_dget {d : Addr} {kvs : List (Key × V)} {x : Wd} {v : V} (h1 : Ev ta σ H (.ref d)) (h2 : Ev tb σ H (.str (S x))) (hd : H d = some (.dK kvs)) (hv : valV kvs (Sum.inr (S x)) = some v) : Ev (tDGet ta tb) σ H v := fun H1 e Q q =>
  h1 H1 e _ fun H2 e2 => h2 H2 (e.trans e2) _ fun H3 e3 => ⟨d, v, rfl, by
    rw [← hv]
    exact DGet.k (k := Sum.inr (S x)) (((e.trans e2).trans e3) d _ hd), q H3 (e2.trans e3)⟩
/-- [a new pair for c in a text] -/
theorem el_ents {tl te : TE} {j : Nat} {vs : List Nat} {z : Wd} (f : Nat → Wd × Nat) (h : Ev tl σ H (.str (S z))) (hz : z.length ≤ 40000) (hw : ∀ x, wipe ((wipe σ vs).set j (some x)) vs = wipe σ vs)
    (he : ∀ c H1, Ex H H1 → c ∈ z → EvU te ((wipe σ vs).set j (some (.str (S [c])))) H1 [.str (S (f c).1), .int ((f c).2 : Int)]) {Q : VK} (q : ∀ p H2 xs, H p = none → Ex H H2 → H2 p = some (.lst xs) → EntsAt K H2 xs (z.map f) → Q (.ref p) H2) :
    tLc (iStr tl) (gName j) tYes te vs σ H Q := h H (Ex.refl H) _ fun H1 e1 => ⟨S z, rfl, fun D hD =>
  lc_it walk_str (fun i H' => Ex H1 H' ∧ ∃ xs, H' D = some (.lst xs) ∧ EntsAt K H' xs ((z.take i).map f)) ⟨Ex.new hD, [], upd_same, rfl, fun i x en h1 _ => by simp at h1⟩ (fun _ _ _ _ => trivial)
    (fun i x H2 H3 hi p y => by
      obtain ⟨e2, xs, h2, hE⟩ := p
      obtain ⟨rfl, c, hc, rfl⟩ := y
      have hc' : z[i]? = some c := by simpa using hc
      refine ⟨hw _, ?_⟩
      show te _ _ _
      refine he c _ (e1.trans e2) (List.mem_of_getElem? hc') _ (Ex.refl _) _ fun T H4 hT e4 h4 => ⟨xs, e4 D _ h2, ?_, Ex.mut (e2.trans e4) hD, xs ++ [.ref T], upd_same, ?_⟩
      · rw [hE.1, List.length_map, List.length_take]
        exact sz_lt (by omega)
      · have et : (z.take (i + 1)).map f = (z.take i).map f ++ [f c] := by
          rw [List.take_add_one, hc', List.map_append]
          rfl
        rw [et]
        have h5 := e4 D _ h2
        exact ((hE.mono e4).monoT (ExT.lst h5)).snoc (SqT.monoT (ExT.lst h5) (st_of h4)))
    (fun H2 p => by
      obtain ⟨e2, xs, h2, hE⟩ := p
      have hs : (S z).cps.size = z.length := by simp
      rw [hs, List.take_length] at hE
      exact q D H2 xs (fresh_back e1 hD) (e1.trans e2) h2 hE)⟩
end
section
variable {P : Program} {w : World} {K : PySem.W.Frag} {mg : Str → Option Value} {base : Heap} {C : Addr}
/-! ### becomes -/
theorem scBecomes : FnScope ["self", "text", "index"] ["self", "text", "index"] (defScope tBecomes) := ⟨rfl, rfl, rfl, by decide +kernel, rfl, by decide +kernel, by decide +kernel⟩
def spBecomes (K : PySem.W.Frag) (C : Addr) : Sp := fun vs H Q _ => ∃ (p : Addr) (k : Int) (r : Rl) (nu : Wd → Nat) (z : Wd) (i : Nat), vs = [.ref p, .str (S z), .int (i : Int)] ∧ WinAt K C H p k r nu ∧ RB k r ∧ z.length ≤ 1000 ∧ i < z.length ∧ ∀ H', Ex H H' → Q (.str (S (K23.becomes r z (i : Int)))) H'
theorem met_becomes (W : WinC K C) (D : MetK K C "becomes" "Window.becomes" tBecomes ["self", "text", "index"]) (C1 : C8.Cal P w K mg base 2 "is_there" (spIsThere K) []) : C8.Met P w K mg base 3 C "becomes" (spBecomes K C) [] := by
  refine metK W.cl D scBecomes (fun vs H Q E h => ?_) (fun f cdv A outer s H vs Q E hr h => ?_)
  · obtain ⟨p, k, r, nu, z, i, rfl, _⟩ := h
    rfl
  · obtain ⟨p, k, r, nu, z, i, rfl, hW, hB, hl, hi, q⟩ := h
    obtain ⟨dx, fs, v, l, d, kvs, hp, l1, hR, l2, l3, l4, l5, hl5, l6, hd, hN, n1, n2, n3, n4⟩ := hW.ex
    obtain ⟨a, lf, rt, rfl, ha, hlf, hrt⟩ := id hR.ex
    refine ⟨_, pss_one (ps_ret (pe_ifExp (pt_val (C8.pe_c C1 hr (by decide) (by rfl) (pa_cons (pe_fld (pv 0) rfl) (pa_cons (pv 1) (pa_cons (pv 2) pa_nil))))) (pe_ix (r := rIxT K) ix_tup (pe_fld (pv 0) rfl) pe_int (fun _ _ => rfl)) (pe_ix ix_str (pv 1) (pv 2) (fun _ _ => rfl)))), ?_⟩
    have h1 := hB.ll
    have h2 := hB.lr
    refine s_ret (H := H) (v := .str (S (K23.becomes r z (i : Int)))) ?_ fun H1 e1 => q H1 e1
    rw [becomes_at hi]
    refine ev_if (et_B (ev_call (ea_cons (ev_fld (ev_var rfl) hp W.cl W.nRule l1) (ea_cons (ev_var rfl) (ea_cons (ev_var rfl) ea_nil))) (v_is_there hR hl hi (by omega) (by omega)))) (fun hb => ?_) (fun hb => ?_)
    · rw [if_pos hb]
      exact ev_ixT (i := 1) (ev_fld (ev_var rfl) hp W.cl W.nRule l1) ev_c ha rfl
    · rw [if_neg (by rw [hb]; exact Bool.false_ne_true)]
      exact ev_ixS (i := i) (ev_var rfl) (ev_var rfl) (by omega) (List.getElem?_eq_getElem hi)
theorem v_becomes {p : Addr} {k : Int} {r : Rl} {nu : Wd → Nat} {z : Wd} {i : Nat} {H : Hp} (hW : WinAt K C H p k r nu) (hB : RB k r) (hl : z.length ≤ 1000) (hi : i < z.length) : SpV (spBecomes K C) [.ref p, .str (S z), .int (i : Int)] H (.str (S (K23.becomes r z (i : Int)))) :=
  fun H1 e Q q _ => ⟨p, k, r, nu, z, i, rfl, hW.mono e, hB, hl, hi, q⟩
/-! ### entry -/
abbrev nEntry : List Str := ["self", "word", "letter", "text", "index", "out"]
theorem scEntry : FnScope nEntry ["self", "word", "letter"] (defScope tEntry) := ⟨rfl, rfl, rfl, by decide +kernel, rfl, by decide +kernel, by decide +kernel⟩
def spEntry (K : PySem.W.Frag) (C : Addr) : Sp := fun vs H Q _ => ∃ (p : Addr) (k : Int) (r : Rl) (nu : Wd → Nat) (z : Wd) (c : Nat), vs = [.ref p, .str (S z), .str (S [c])] ∧ WinAt K C H p k r nu ∧ RB k r ∧ z ∈ wsOf k r ∧ c ∈ ltrs k ∧
  ∀ T H', H T = none → Ex H H' → H' T = some (.tup [.str (S (entM k r nu z c).1), .int (((entM k r nu z c).2 : Nat) : Int)]) → Q (.ref T) H'
theorem lastn_mem {k : Int} {r : Rl} {z : Wd} {c : Nat} (hz : z ∈ wsOf k r) (hc : c ∈ ltrs k) : lastn (sizeOf r) (z ++ [c]) ∈ wsOf k r := by
  obtain ⟨h1, h2⟩ := words_mem.mp hz
  refine words_mem.mpr ⟨by rw [lastn_len]; omega, fun d hd => ?_⟩
  have : d ∈ z ++ [c] := List.mem_of_mem_drop hd
  rcases List.mem_append.mp this with h | h
  · exact h2 d h
  · rw [List.mem_singleton.mp h]
    exact hc
theorem max0 {a b : Nat} : (if ((a : Int) - (b : Int)) > 0 then ((a : Int) - (b : Int)) else 0) = ((a - b : Nat) : Int) := by
  split <;> omega
theorem met_entry (W : WinC K C) (D : MetK K C "entry" "Window.entry" tEntry ["self", "word", "letter"]) (T : Glo mg) (C1 : C8.Met P w K mg base 3 C "becomes" (spBecomes K C) []) : C8.Met P w K mg base 4 C "entry" (spEntry K C) [] := by
  refine metK W.cl D scEntry (fun vs H Q E h => ?_) (fun f cdv A outer s H vs Q E hr h => ?_)
  · obtain ⟨p, k, r, nu, z, c, rfl, _⟩ := h
    rfl
  · obtain ⟨p, k, r, nu, z, c, rfl, hW, hB, hz, hc, q⟩ := h
    obtain ⟨dx, fs, v, l, d, kvs, hp, l1, hR, l2, l3, l4, l5, hl5, l6, hd, hN, n1, n2, n3, n4⟩ := hW.ex
    refine ⟨_, pss_cons (ps_set (i := 3) scEntry.nd rfl (.inl rfl) (pe_op op_add_str (pv 1) (pv 2)))
      (pss_cons (ps_set (i := 4) scEntry.nd rfl (.inl rfl) (pe_op op_sub (pe_callB call_len_str (by rfl) T.len PySem.boot_len (pa_cons (pv 1) pa_nil)) (pe_fld (pv 0) rfl)))
      (pss_cons (ps_set (i := 5) scEntry.nd rfl (.inl rfl) pe_str)
      (pss_cons (ps_if (pt_cmpR op_ge (pv 4) pe_int (nomark _)) (pss_one (ps_set (i := 5) scEntry.nd rfl (.inl rfl) (C8.pe_mt C1 hr (by decide) (pv 0) (pa_cons (pv 3) (pa_cons (pv 4) pa_nil))))) pss_nil)
      (pss_one (ps_ret (pe_tup (pa_cons (pv 5) (pa_cons (pe_dget (hu_of hr) (pe_fld (pv 0) rfl)
        (pe_slice C8.sl_txt (pv 3) (po_some (pe_callB (call_max2 rfl) (by rfl) T.max (by decide +kernel) (pa_cons pe_int (pa_cons (pe_op op_sub (pe_callB call_len_str (by rfl) T.len PySem.boot_len (pa_cons (pv 3) pa_nil)) (pe_fld (pv 0) rfl)) pa_nil)))) po_none) (fun _ _ => rfl)) pa_nil)))))))), ?_⟩
    obtain ⟨hzl, hzo⟩ := words_mem.mp hz
    have h1 := hB.ll
    have h2 := hB.lr
    have hsz : sizeOf r = r.left.length + r.right.length := rfl
    refine q_asg (H := H) (ev_addS (a := z) (b := [c]) (ev_var rfl) (ev_var rfl) (by simp; omega)) fun H1 e1 => ?_
    refine q_asg (v := .int ((z.length : Int) - (r.right.length : Int))) (ev_I0 (g := fun i j => .int (i - j)) (ev_lenS (z := z) (ev_var rfl) (by omega)) (ev_fld (ev_var rfl) (e1 p _ hp) W.cl W.nAhead l3)) fun H2 e2 => ?_
    refine q_asg (v := .str (S [])) (ev_str str_nil) fun H3 e3 => ?_
    have e4 := (e1.trans e2).trans e3
    refine q_ifAsg (b := decide ((0 : Int) ≤ (z.length : Int) - (r.right.length : Int))) (v := .str (S (outOf r z c))) (et_test (ev_I0 (g := fun i j => .bl (decide (j ≤ i))) (ev_var rfl) ev_c)) (fun hb => ?_) (fun hb => ?_) fun H5 e5 => ?_
    · have hle : r.right.length ≤ z.length := by have := of_decide_eq_true hb; omega
      have ei : (z.length : Int) - (r.right.length : Int) = ((z.length - r.right.length : Nat) : Int) := by omega
      have eo : outOf r z c = K23.becomes r (z ++ [c]) ((z.length - r.right.length : Nat) : Int) := by
        unfold outOf
        rw [if_pos hle, ei]
      rw [eo]
      refine ev_meth (C := C) (ev_var rfl) (e4 p _ hp) n1 (ea_cons (ev_var rfl) (ea_cons (ev_var rfl) ea_nil)) ?_
      rw [ei]
      exact v_becomes (hW.mono e4) hB (by simp; omega) (by simp; omega)
    · have hle : ¬ r.right.length ≤ z.length := by have := of_decide_eq_false hb; omega
      have eo : outOf r z c = [] := by
        unfold outOf
        rw [if_neg hle]
      rw [eo]
      rfl
    · have hp5 := (e4.trans e5) p _ hp
      obtain ⟨hn1, hn2⟩ := hN _ (lastn_mem hz hc)
      refine s_retU (eu_tup (ea_cons (ev_var rfl) (ea_cons (ev_dget (x := lastn (sizeOf r) (z ++ [c])) (ev_fld (ev_var rfl) hp5 W.cl W.nNumbers l6) (ev_is (ev_sliceFrom (a := z ++ [c]) (i := (((z ++ [c]).length - sizeOf r : Nat) : Int)) (ev_var rfl)
        (ev_is (ev_max2 ev_c (ev_I0 (g := fun i j => .int (i - j)) (ev_lenS (z := z ++ [c]) (ev_var rfl) (by simp; omega)) (ev_fld (ev_var rfl) hp5 W.cl W.nSize l4))) (by rw [max0])) (by omega) (by simp; omega)) (by rw [Int.toNat_natCast]; rfl)) ((e4.trans e5) d _ hd) hn2) ea_nil)) (by simp)) fun t H6 ht e6 h6 => q t H6 (fresh_back (e4.trans e5) ht) ((e4.trans e5).trans e6) h6
theorem u_entry {p : Addr} {k : Int} {r : Rl} {nu : Wd → Nat} {z : Wd} {c : Nat} {H : Hp} (hW : WinAt K C H p k r nu) (hB : RB k r) (hz : z ∈ wsOf k r) (hc : c ∈ ltrs k) : SpU (spEntry K C) [.ref p, .str (S z), .str (S [c])] H [.str (S (entM k r nu z c).1), .int (((entM k r nu z c).2 : Nat) : Int)] :=
  fun H1 e Q q _ => ⟨p, k, r, nu, z, c, rfl, hW.mono e, hB, hz, hc, q⟩
/-! ### last -/
abbrev nLast : List Str := ["self", "word", "start", "index"]
theorem scLast : FnScope nLast ["self", "word"] (defScope tLast) := ⟨rfl, rfl, rfl, by decide +kernel, rfl, by decide +kernel, by decide +kernel⟩
def spLast (K : PySem.W.Frag) (C : Addr) : Sp := fun vs H Q _ => ∃ (p : Addr) (k : Int) (r : Rl) (nu : Wd → Nat) (z : Wd), vs = [.ref p, .str (S z)] ∧ WinAt K C H p k r nu ∧ RB k r ∧ z.length ≤ 1000 ∧ r.new.length ≤ 3 ∧ ∀ H', Ex H H' → Q (.str (S (lastOf r z))) H'
theorem met_last (W : WinC K C) (D : MetK K C "last" "Window.last" tLast ["self", "word"]) (T : Glo mg) (C1 : C8.Met P w K mg base 3 C "becomes" (spBecomes K C) []) : C8.Met P w K mg base 4 C "last" (spLast K C) [] := by
  refine metK W.cl D scLast (fun vs H Q E h => ?_) (fun f cdv A outer s H vs Q E hr h => ?_)
  · obtain ⟨p, k, r, nu, z, rfl, _⟩ := h
    rfl
  · obtain ⟨p, k, r, nu, z, rfl, hW, hB, hl, hn3, q⟩ := h
    obtain ⟨dx, fs, v, l, d, kvs, hp, l1, hR, l2, l3, l4, l5, hl5, l6, hd, hN, n1, n2, n3, n4⟩ := hW.ex
    refine ⟨_, pss_cons (ps_set (i := 2) scLast.nd rfl (.inl rfl) (pe_callB (call_max2 rfl) (by rfl) T.max (by decide +kernel) (pa_cons pe_int (pa_cons (pe_op op_sub (pe_callB call_len_str (by rfl) T.len PySem.boot_len (pa_cons (pv 1) pa_nil)) (pe_fld (pv 0) rfl)) pa_nil))))
      (pss_one (ps_ret (pe_join pe_str (pe_lc (own := [("index", 3)]) (g := gName 3) (tt := tYes) rfl scLast.nd (pi_range2 (by rfl) T.range (pa_cons (pv 2) (pa_cons (pe_callB call_len_str (by rfl) T.len PySem.boot_len (pa_cons (pv 1) pa_nil)) pa_nil))) (blkOk_by (N := nLast) (sc := defScope tLast) (by decide +kernel))
            (fun _ _ _ _ _ => pg_name (i := 3) scLast.nd rfl (.inl rfl)) (fun _ _ _ _ _ => pts_nil)
            (fun _ _ _ _ _ => C8.pe_mt C1 hr (by decide) (pv 0) (pa_cons (pv 1) (pa_cons (pv 3) pa_nil))))))), ?_⟩
    refine q_asg (H := H) (v := .int ((z.length - r.right.length : Nat) : Int)) (ev_is (ev_max2 ev_c (ev_I0 (g := fun i j => .int (i - j)) (ev_lenS (z := z) (ev_var rfl) (by omega)) (ev_fld (ev_var rfl) hp W.cl W.nAhead l3))) (by rw [max0])) fun H1 e1 => ?_
    refine s_ret (ev_join (K := K) (ws := (List.range (z.length - (z.length - r.right.length))).map fun (j : Nat) => K23.becomes r z (((z.length - r.right.length : Nat) : Int) + (j : Int))) (ev_str str_nil)
      (el_is (el_lcR2 (lo := ((z.length - r.right.length : Nat) : Int)) (n := (z.length : Int)) (fun (j : Nat) => V.str (S (K23.becomes r z (((z.length - r.right.length : Nat) : Int) + (j : Int))))) (ea_cons (ev_var rfl) (ea_cons (ev_lenS (z := z) (ev_var rfl) (by omega)) ea_nil)) (by omega) (fun _ => rfl) fun j H2 e2 hj => ?_) ?_) ?_) fun H2 e2 => q H2 (e1.trans e2)
    · have ej : ((z.length - r.right.length : Nat) : Int) + (j : Int) = ((z.length - r.right.length + j : Nat) : Int) := by omega
      refine ev_meth (C := C) (ev_var rfl) ((e1.trans e2) p _ hp) n1 (ea_cons (ev_var rfl) (ea_cons (ev_var rfl) ea_nil)) ?_
      rw [ej]
      exact v_becomes (hW.mono (e1.trans e2)) hB hl (by omega)
    · have en : ((z.length : Int) - ((z.length - r.right.length : Nat) : Int)).toNat = z.length - (z.length - r.right.length) := by omega
      rw [en, List.map_map]
      rfl
    · refine Nat.le_trans (sum_le (fun i => becomes_len hn3) _) ?_
      rw [List.length_range]
      omega
theorem v_last {p : Addr} {k : Int} {r : Rl} {nu : Wd → Nat} {z : Wd} {H : Hp} (hW : WinAt K C H p k r nu) (hB : RB k r) (hl : z.length ≤ 1000) (hn : r.new.length ≤ 3) : SpV (spLast K C) [.ref p, .str (S z)] H (.str (S (lastOf r z))) :=
  fun H1 e Q q _ => ⟨p, k, r, nu, z, rfl, hW.mono e, hB, hl, hn, q⟩
end
end K23


namespace K23
open PySem L2 Evl
/-! ### the rows are good -/
theorem idx_take : ∀ n : Nat, n ≤ 6 → ∀ c ∈ abc.take n, (abc.take n)[abc.idxOf c]? = some c := by decide
theorem becomes_has {k : Int} {r : Rl} {z : Wd} {i : Int} (h1 : ∀ c ∈ r.new, c ∈ ltrs k) (h2 : ∀ c ∈ z, c ∈ ltrs k) : ∀ c ∈ K23.becomes r z i, c ∈ ltrs k := fun c hc => by
  unfold K23.becomes at hc
  split at hc
  · exact h1 c hc
  · unfold look at hc
    split at hc
    · cases hc
    · cases e : z[i.toNat]? with
      | none => rw [e] at hc; cases hc
      | some d =>
        rw [e] at hc
        rw [List.mem_singleton.mp hc]
        exact h2 d (List.mem_of_getElem? e)
theorem seg_has {k : Int} {r : Rl} {z : Wd} {i n : Nat} (h1 : ∀ c ∈ r.new, c ∈ ltrs k) (h2 : ∀ c ∈ z, c ∈ ltrs k) : ∀ c ∈ seg r z i n, c ∈ ltrs k := fun c hc => by
  unfold seg at hc
  obtain ⟨l, hl, hcl⟩ := List.mem_flatten.mp hc
  obtain ⟨j, _, rfl⟩ := List.mem_map.mp hl
  exact becomes_has h1 h2 c hcl
theorem seg_len {r : Rl} {z : Wd} {i n : Nat} (h : r.new.length ≤ 3) : (seg r z i n).length ≤ 3 * n := by
  unfold seg
  rw [List.length_flatten]
  refine Nat.le_trans (sum_le (fun j => becomes_len h) _) ?_
  rw [List.length_range]
  exact Nat.le_refl _
def NuOk (k : Int) (r : Rl) (nu : Wd → Nat) : Prop := ∀ x ∈ wsOf k r, (wsOf k r)[nu x]? = some x
theorem rows_get {k : Int} {r : Rl} {nu : Wd → Nat} {i : Nat} {s : Wd} (h : (wsOf k r)[i]? = some s) : (rowsM k r nu)[i]? = some (rowM k r nu s) := by
  unfold rowsM
  rw [List.getElem?_map, h]
  rfl
theorem rows_getD {k : Int} {r : Rl} {nu : Wd → Nat} {i : Nat} {s : Wd} (h : (wsOf k r)[i]? = some s) : (rowsM k r nu).getD i ([], []) = rowM k r nu s := by
  rw [List.getD_eq_getElem?_getD, rows_get h]
  rfl
theorem good_rows {k : Int} {r : Rl} {nu : Wd → Nat} (hk : k ≤ 6) (h : NuOk k r nu) : Good r k.toNat (wsOf k r) (rowsM k r nu) where
  len := by
    unfold rowsM
    rw [List.length_map]
  start := words_start _ _
  last := fun i s hs => by
    unfold lastM
    rw [rows_getD hs]
    rfl
  ent := fun i s c hs hc => by
    have e : stepM (rowsM k r nu) i c = entM k r nu s c := by
      unfold stepM
      rw [rows_getD hs]
      have h1 := idx_take k.toNat (by omega) c hc
      show ((ltrs k).map (entM k r nu s)).getD (abc.idxOf c) ([], 0) = _
      rw [List.getD_eq_getElem?_getD, List.getElem?_map]
      show (Option.map (entM k r nu s) ((abc.take k.toNat)[abc.idxOf c]?)).getD ([], 0) = _
      rw [h1]
      rfl
    rw [e]
    exact ⟨rfl, h _ (lastn_mem (List.mem_of_getElem? hs) hc)⟩
theorem vm_rows {k : Int} {r : Rl} {nu : Wd → Nat} (hB : RB k r) (hV : VR k r) (h : NuOk k r nu) : VM k (rowsM k r nu) := by
  have hl : (rowsM k r nu).length = (wsOf k r).length := by
    unfold rowsM
    rw [List.length_map]
  obtain ⟨w1, _, _⟩ := words_len (ltrs k) hB.words
  have h0 := (List.getElem?_eq_some_iff.mp (words_start (ltrs k) (sizeOf r))).1
  have hr := hB.lr
  refine ⟨hB.k2, hB.k6, by rw [hl]; show 1 ≤ (wordsM _ _).length; omega, by rw [hl]; show (wordsM _ _).length ≤ 2000; omega, fun row hrow => ?_⟩
  obtain ⟨s, hs, rfl⟩ := List.mem_map.mp hrow
  obtain ⟨s1, s2⟩ := words_mem.mp hs
  have hnew := has_mem hV.new
  refine ⟨?_, has_of (seg_has hnew s2), ?_, fun e he => ?_⟩
  · refine Nat.le_trans (seg_len hV.newLen) ?_
    omega
  · show (((ltrs k).map _).length : Int) = k
    rw [List.length_map, ltrs_len]
    have := hB.k2
    have := hB.k6
    omega
  · obtain ⟨c, hc, rfl⟩ := List.mem_map.mp he
    have hz : ∀ d ∈ s ++ [c], d ∈ ltrs k := fun d hd => by
      rcases List.mem_append.mp hd with hd | hd
      · exact s2 d hd
      · rw [List.mem_singleton.mp hd]
        exact hc
    have ho : (outOf r s c).length ≤ 60 ∧ ∀ d ∈ outOf r s c, d ∈ ltrs k := by
      unfold outOf
      split
      · exact ⟨Nat.le_trans (becomes_len hV.newLen) (by decide), becomes_has hnew hz⟩
      · exact ⟨by simp, fun d hd => nomatch hd⟩
    refine ⟨ho.1, has_of ho.2, ?_⟩
    rw [hl]
    exact (List.getElem?_eq_some_iff.mp (h _ (lastn_mem hs hc))).1
/-! ### one step of a reading -/
theorem st_cons {ta : TE} {tr : TA} {σ : L2.St} {H : Hp} {Q : List V → Hp → Prop} (h : ta σ H fun x H1 => tr σ H1 fun xs H2 => Q (x :: xs) H2) : tCons ta tr σ H Q := h
theorem st_cb {r : List V → Hp → VK → Prop} {t : TA} {σ : L2.St} {H : Hp} {Q : VK} (h : t σ H fun xs H1 => r xs H1 Q) : tCB r t σ H Q := h
theorem st_tup {t : TA} {σ : L2.St} {H : Hp} {Q : VK} (h : t σ H fun xs H1 => xs.length ≤ sizeLine ∧ ∀ p, H1 p = none → Q (.ref p) (upd H1 p (.tup xs))) : tTup t σ H Q := h
theorem st_ret {t : TE} {D : Ends} {σ : L2.St} {H : Hp} (h : t σ H D.rt) : tRet t D σ H := h
section
variable {P : Program} {w : World} {K : PySem.W.Frag} {mg : Str → Option Value} {base : Heap} {C : Addr}
/-! ### machine -/
abbrev nMachine : List Str := ["self", "rows", "word", "letter"]
theorem scMachine : FnScope nMachine ["self"] (defScope tMachine) := ⟨rfl, rfl, rfl, by decide +kernel, rfl, by decide +kernel, by decide +kernel⟩
def spMachine (K : PySem.W.Frag) (C : Addr) : Sp := fun vs H Q _ => ∃ (p : Addr) (k : Int) (r : Rl) (nu : Wd → Nat), vs = [.ref p] ∧ WinAt K C H p k r nu ∧ RB k r ∧ r.new.length ≤ 3 ∧ ∀ v H', Ex H H' → MachAt K H' v k [] (rowsM k r nu) → Q v H'
theorem met_machine (W : WinC K C) (D : MetK K C "machine" "Window.machine" tMachine ["self"]) (T : Glo mg) (C1 : C8.Met P w K mg base 4 C "entry" (spEntry K C) []) (C2 : C8.Met P w K mg base 4 C "last" (spLast K C) []) : C8.Met P w K mg base 5 C "machine" (spMachine K C) [] := by
  refine metK W.cl D scMachine (fun vs H Q E h => ?_) (fun f cdv A outer s H vs Q E hr h => ?_)
  · obtain ⟨p, k, r, nu, rfl, _⟩ := h
    rfl
  · obtain ⟨p, k, r, nu, rfl, hW, hB, hn3, q⟩ := h
    obtain ⟨dx, fs, v, l, d, kvs, hp, l1, hR, l2, l3, l4, l5, hl5, l6, hd, hN, n1, n2, n3, n4⟩ := hW.ex
    refine ⟨_, pss_cons (ps_set (i := 1) scMachine.nd rfl (.inl rfl) (pe_lst pa_nil))
      (pss_cons (ps_for PassesOwn.never rfl (pi_list (pe_fld (pv 0) rfl)) (pg_name (i := 2) scMachine.nd rfl (.inr rfl))
        (pss_one (ps_expr (pe_bm PySem.F.plainAttrs_list PySem.F.slot_list_append PySem.F.type_list_append mt_append (pv 1) (pa_cons (pe_tup (pa_cons (C8.pe_mt C2 hr (by decide) (pv 0) (pa_cons (pv 2) pa_nil)) (pa_cons
          (pe_callTy call_tuple_of (by rfl) T.tuple (by decide +kernel) (pa_cons (pe_lc (own := [("letter", 3)]) (g := gName 3) (tt := tYes) rfl scMachine.nd (pi_str (pe_slice C8.sl_txt (glS (by rfl) T.letters) po_none (po_some (pe_fld (pv 0) rfl)))) (blkOk_by (N := nMachine) (sc := defScope tMachine) (by decide +kernel))
            (fun _ _ _ _ _ => pg_name (i := 3) scMachine.nd rfl (.inl rfl)) (fun _ _ _ _ _ => pts_nil)
            (fun _ _ _ _ _ => C8.pe_mt C1 hr (by decide) (pv 0) (pa_cons (pv 2) (pa_cons (pv 3) pa_nil)))) pa_nil)) pa_nil))) pa_nil)))))
      (pss_one (ps_ret (pe_tup (pa_cons (pe_fld (pv 0) rfl) (pa_cons pe_str (pa_cons (pe_callTy call_tuple_of (by rfl) T.tuple (by decide +kernel) (pa_cons (pv 1) pa_nil)) pa_nil))))))), ?_⟩
    have k2 := hB.k2
    have hb1 := hB.ll
    have hb2 := hB.lr
    have hsz : sizeOf r = r.left.length + r.right.length := rfl
    obtain ⟨w1, _, _⟩ := words_len (ltrs k) hB.words
    refine q_asgL (H := H) (el_lst ea_nil (by simp)) fun rl H1 hrl e1 h1 => ?_
    refine q_forLn (xs := strsV (wsOf k r)) (ev_fld (ev_var rfl) (e1 p _ hp) W.cl W.nWords l5) (sq_of (e1 l _ hl5)) (fun i σ H' => ∃ x2, σ = [some (.ref p), some (.ref rl), x2, none] ∧ Ex H H' ∧ ∃ xs, H' rl = some (.lst xs) ∧ xs.length = i ∧
      ∀ j x s, xs[j]? = some x → (wsOf k r)[j]? = some s → RowAt K H' x (rowM k r nu s)) (fun H2 e2 => ⟨none, rfl, e1.trans e2, [], e2 rl _ h1, rfl, fun j x s hx => absurd (List.getElem?_eq_some_iff.mp hx).1 (Nat.not_lt_zero _)⟩)
      (fun i σ H' _ hp2 => by
        obtain ⟨_, _, e2, _⟩ := hp2
        exact sq_of (e2 l _ hl5)) (fun i x σ H2 hx hp2 => ?_) (fun σ H2 hp2 => ?_)
    · obtain ⟨x2, rfl, e2, xs, h2, hxl, hrows⟩ := hp2
      obtain ⟨hi, rfl, hs⟩ := strsV_get hx
      generalize (wsOf k r).getD i [] = s0 at hs
      have hsm := List.mem_of_getElem? hs
      obtain ⟨s1, s2⟩ := words_mem.mp hsm
      have hW2 := hW.mono e2
      refine ⟨.ref rl, rfl, Or.inl ⟨rfl, xs, sq_of h2⟩, ?_⟩
      refine ev_meth (C := C) (H := H2) (z := .str (S (lastOf r s0))) (ev_var rfl) (e2 p _ hp) n3 (ea_cons (ev_var rfl) ea_nil) (v_last hW2 hB (by omega) hn3) H2 (Ex.refl _) _ fun H3 e3 => ?_
      refine st_cons (st_cb (st_cons ?_))
      refine el_ents (K := K) (σ := [some (.ref p), some (.ref rl), some (.str (S s0)), none]) (j := 3) (vs := [3]) (H := H3) (z := ltrs k) (entM k r nu s0) (ev_ltrs (ev_fld (ev_var (i := 0) rfl) ((e2.trans e3) p _ hp) W.cl W.nK l2) (by omega)) (by rw [ltrs_len]; omega) (fun _ => rfl) (fun c H4 e4 hc => eu_meth (C := C) (ev_var (i := 0) rfl) (((e2.trans e3).trans e4) p _ hp) n2 (ea_cons (ev_var (i := 2) rfl) (ea_cons (ev_var (i := 3) rfl) ea_nil)) (u_entry (hW.mono ((e2.trans e3).trans e4)) hB hsm hc)) fun b H4 es hb e4 h4 hE => ?_
      refine ⟨b, es, rfl, .inl ⟨sq_of h4, fun t ht => ?_⟩⟩
      refine ⟨sz_of (show _ ≤ 100000 by simp), fun t2 ht2 => ?_⟩
      have e5 : Ex H2 (upd (upd H4 t (.tup es)) t2 (.tup [.str (S (lastOf r s0)), .ref t])) := ((e3.trans e4).trans (Ex.new ht)).trans (Ex.new ht2)
      have h5 := e5 rl _ h2
      have htt : t2 ≠ t := fun z => by
        rw [z, upd_same] at ht2
        cases ht2
      refine ⟨rl, xs, .ref t2, rfl, rfl, h5, sz_lt (by have : (strsV (wsOf k r)).length = (wsOf k r).length := List.length_map _; have : (wsOf k r).length ≤ 121 := w1; have := (List.getElem?_eq_some_iff.mp hs).1; omega), ?_⟩
      refine ⟨some (.str (S s0)), rfl, Ex.mut (e2.trans e5) hrl, xs ++ [.ref t2], upd_same, by rw [List.length_append, hxl]; rfl, fun j x s hx2 hs2 => ?_⟩
      have eT : ExT H2 (upd (upd (upd H4 t (.tup es)) t2 (.tup [.str (S (lastOf r s0)), .ref t])) rl (.lst (xs ++ [.ref t2]))) := (ExT.of e5).trans (ExT.lst h5)
      rcases get_snoc hx2 with ⟨_, hx3⟩ | ⟨hj, rfl⟩
      · exact (hrows j x s hx3 hs2).monoT eT
      · have ej : j = i := by omega
        rw [ej, hs] at hs2
        have es0 : s0 = s := Option.some.inj hs2
        subst es0
        refine ⟨t2, t, es, rfl, SqT.monoT (ExT.lst h5) (st_of upd_same), SqT.monoT (ExT.lst h5) (st_of (by rw [upd_ne htt.symm, upd_same])), (hE.mono ((Ex.new ht).trans (Ex.new ht2))).monoT (ExT.lst h5)⟩
    · obtain ⟨x2, rfl, e2, xs, h2, hxl, hrows⟩ := hp2
      have hlen : (strsV (wsOf k r)).length = (wsOf k r).length := List.length_map _
      refine st_ret (st_tup (st_cons ?_))
      refine ev_fld (σ := [some (.ref p), some (.ref rl), x2, none]) (H := H2) (v := .int k) (ev_var (i := 0) rfl) (e2 p _ hp) W.cl W.nK l2 H2 (Ex.refl _) _ fun H3 e3 => ?_
      refine ⟨.ref rl, rfl, rl, xs, rfl, .inl ⟨sq_of (e3 rl _ h2), fun t ht => ⟨sz_of (show _ ≤ 100000 by simp), fun t2 ht2 => ?_⟩⟩⟩
      have e5 : Ex H2 (upd (upd H3 t (.tup xs)) t2 (.tup [.int k, .str "", .ref t])) := (e3.trans (Ex.new ht)).trans (Ex.new ht2)
      have htt : t2 ≠ t := fun z => by
        rw [z, upd_same] at ht2
        cases ht2
      refine q _ _ (e2.trans e5) ⟨t2, t, xs, rfl, st_of ?_, st_of (by rw [upd_ne htt.symm, upd_same]), ?_, fun i x row hx hrow => ?_⟩
      · rw [upd_same, ← str_nil]
      · unfold rowsM
        rw [List.length_map, hxl, hlen]
      · have hi : i < (wsOf k r).length := by
          rw [← hlen, ← hxl]
          exact (List.getElem?_eq_some_iff.mp hx).1
        have hs : (wsOf k r)[i]? = some (wsOf k r)[i] := List.getElem?_eq_getElem hi
        rw [rows_get hs] at hrow
        rw [← Option.some.inj hrow]
        exact (hrows i x _ hx hs).mono e5
/-! ### rule_machine -/
theorem scRuleMachine : FnScope ["k", "rule"] ["k", "rule"] (defScope tRuleMachine) := ⟨rfl, rfl, rfl, by decide +kernel, rfl, by decide +kernel, by decide +kernel⟩
def spRuleMachine (K : PySem.W.Frag) : Sp := fun vs H Q _ => ∃ (k : Int) (v : V) (r : Rl), vs = [.int k, v] ∧ RuleAt K H v r ∧ VR k r ∧ RB k r ∧ ∀ nu v' H', Ex H H' → MachAt K H' v' k [] (rowsM k r nu) → NuOk k r nu → Q v' H'
theorem cal_rule_machine (D : DefK K mg "rule_machine" "rule_machine" tRuleMachine ["k", "rule"]) (C1 : C8.Cal P w K mg base 6 "check_rules" (spCheckRules K) []) (C2 : C8.Mak P w K mg base 1 "Window" C (spInit K C) []) (C3 : C8.Met P w K mg base 5 C "machine" (spMachine K C) []) :
    C8.Cal P w K mg base 7 "rule_machine" (spRuleMachine K) [] := by
  refine calK D scRuleMachine (fun vs H Q E h => ?_) (fun f cdv A outer s H vs Q E hr h => ?_)
  · obtain ⟨k, v, r, rfl, _⟩ := h
    rfl
  · obtain ⟨k, v, r, rfl, hR, hV, hB, q⟩ := h
    refine ⟨_, pss_cons (ps_expr (C8.pe_c C1 hr (by decide) (by rfl) (pa_cons (pv 0) (pa_cons (pe_tup (pa_cons (pv 1) pa_nil)) pa_nil))))
      (pss_one (ps_ret (C8.pe_mt0 C3 hr (by decide) (C8.pe_mk C2 hr (by decide) (by rfl) (pa_cons (pv 0) (pa_cons (pv 1) pa_nil)))))), ?_⟩
    refine ⟨_, rfl, _, rfl, sz_of (show 1 ≤ 100000 by decide), fun t ht => ⟨k, t, v, r, rfl, hB.k2, hB.k6, st_of upd_same, hR.mono (Ex.new ht), hV, fun H1 e1 => ?_⟩⟩
    have e2 : Ex H H1 := (Ex.new ht).trans e1
    refine ⟨_, rfl, _, rfl, fun x dx hx hdx hne => ⟨H1, x, dx, k, v, r, rfl, (Ex.new hdx).trans (Ex.new (by rw [upd_ne hne.symm]; exact hx)), hx, upd_same, hR.mono e2, hB, fun nu H' e' hW => ⟨rfl, ?_⟩⟩⟩
    obtain ⟨dx', fs, v', l, d, kvs, hp, l1, _, l2, l3, l4, l5, hl5, l6, hd, hN, n1, n2, n3, n4⟩ := hW.ex
    exact ⟨x, dx', fs, rfl, hp, n4, x, k, r, nu, rfl, hW, hB, hV.newLen, fun v2 H2 e3 hM => q nu v2 H2 ((e2.trans e').trans e3) hM fun y hy => (hN y hy).1⟩
end
end K23


namespace K23
open PySem L2 Evl
/-! ### the draws -/
def DrawsN (H : Hp) (d : Addr) (n : Nat) : Prop := ∃ ds : List Int, H d = some (.lst (ds.map V.int)) ∧ (∀ x ∈ ds, 0 ≤ x ∧ x < 1000) ∧ ds.length ≤ n
abbrev DrawsAt (H : Hp) (d : Addr) : Prop := DrawsN H d 4000
theorem DrawsN.mono {H : Hp} {d : Addr} {n m : Nat} (h : DrawsN H d n) (e : n ≤ m) : DrawsN H d m := let ⟨ds, h1, h2, h3⟩ := h; ⟨ds, h1, h2, Nat.le_trans h3 e⟩
theorem DrawsN.ex {H H' : Hp} {d : Addr} {n : Nat} (h : DrawsN H d n) (e : Ex H H') : DrawsN H' d n := let ⟨ds, h1, h2, h3⟩ := h; ⟨ds, e d _ h1, h2, h3⟩
/-- all but d stays -/
def Dx (d : Addr) (H H' : Hp) : Prop := ∀ a o, a ≠ d → H a = some o → H' a = some o
theorem Dx.refl (d : Addr) (H : Hp) : Dx d H H := fun _ _ _ h => h
theorem Dx.of {d : Addr} {H H' : Hp} (e : Ex H H') : Dx d H H' := fun a o _ h => e a o h
theorem Dx.trans {d : Addr} {H H1 H2 : Hp} (a : Dx d H H1) (b : Dx d H1 H2) : Dx d H H2 := fun x o n h => b x o n (a x o n h)
theorem Dx.put {d : Addr} {H : Hp} {o : HO} : Dx d H (upd H d o) := fun a u n h => by
  rw [upd_ne n]
  exact h
/-- what was unknown ahead may change -/
theorem Dx.mut {d p : Addr} {H H' : Hp} {o : HO} (e : Dx d H H') (h : H p = none) : Dx d H (upd H' p o) := fun a u n ha => by
  rw [upd_ne (ne_of_none ha h)]
  exact e a u n ha
theorem Dx.ext {d : Addr} {H H' : Hp} (e : Dx d H H') (h : DrawsAt H d) : ExT H H' := fun a o ha n => e a o (fun z => by
  obtain ⟨ds, h1, _⟩ := h
  rw [z, h1] at ha
  exact n _ (Option.some.inj ha).symm) ha
theorem Dx.fresh {d p : Addr} {H H' : Hp} (e : Dx d H H') (hd : DrawsAt H d) (h : H' p = none) (h' : DrawsAt H' d) : H p = none := by
  cases h1 : H p with
  | none => rfl
  | some o =>
    by_cases hp : p = d
    · obtain ⟨ds, h2, _⟩ := h'
      rw [hp, h2] at h
      cases h
    · rw [e p o hp h1] at h
      cases h
theorem draws_ne {d p : Addr} {H : Hp} (h : DrawsAt H d) (hp : H p = none) : p ≠ d := fun z => by
  obtain ⟨ds, h1, _⟩ := h
  rw [z, h1] at hp
  cases hp
section
variable {K : PySem.W.Frag} {σ : L2.St} {H : Hp} {ta tb tc te tk : TE}
abbrev rInt1 : List V → Hp → VK → Prop := fun xs H Q => (∃ i, xs = [.int i] ∧ Q (.int i) H) ∨ ∃ k, xs = [.bl k] ∧ Q (.int (if k then 1 else 0)) H
theorem ev_int1 {i : Int} (h : Ev ta σ H (.int i)) : Ev (tCB rInt1 (tCons ta tNil)) σ H (.int i) := fun H1 e Q q => h H1 e _ fun H2 e2 => .inl ⟨i, rfl, q H2 e2⟩
theorem ev_intB {b : Bool} (h : Ev ta σ H (.bl b)) : Ev (tCB rInt1 (tCons ta tNil)) σ H (.int (if b then 1 else 0)) := fun H1 e Q q => h H1 e _ fun H2 e2 => .inr ⟨b, rfl, q H2 e2⟩
theorem ev_Ic {c : Int → Int → Prop} {g : Int → Int → V} {i j : Int} (h1 : Ev ta σ H (.int i)) (h2 : Ev tb σ H (.int j)) (hc : c i j) : Ev (tOp (rI c g) ta tb) σ H (g i j) := ev_op h1 h2 (rv_I hc)
theorem s_extL {D : Ends} {l : Addr} {xs ys : List V} (hl : H l = some (.lst xs)) (ha : Ev ta σ H (.ref l)) (h : EvL te σ H ys) (hz : xs.length + ys.length ≤ 100000)
    (k : ∀ H1, Ex H H1 → D.nx σ (upd H1 l (.lst (xs ++ ys)))) : tDrop (tBM K "list" rExtend ta (tCons te tNil)) D σ H := ha H (Ex.refl H) _ fun H1 e1 =>
  ⟨Or.inl ⟨rfl, xs, sq_of (e1 l _ hl)⟩, h H1 e1 _ fun b H2 _ e2 h2 => ⟨l, b, xs, ys, rfl, rfl, (e1.trans e2) l _ hl, h2, sz_of hz, k H2 (e1.trans e2)⟩⟩
/-- int(e) % m -/
theorem ev_imod {i j : Int} (h1 : Ev ta σ H (.int i)) (h2 : Ev tb σ H (.int j)) (hc : 0 < j) : Ev (tOp (rI (fun _ j => 0 < j) fun i j => .int (i % j)) (tCB rInt1 (tCons ta tNil)) tb) σ H (.int (i % j)) := ev_Ic (ev_int1 h1) h2 hc
end
section
variable {P : Program} {w : World} {K : PySem.W.Frag} {mg : Str → Option Value} {base : Heap}
/-! ### _law_number -/
theorem scNumber : FnScope ["_law_cell"] ["_law_cell"] (defScope tNumber) := ⟨rfl, rfl, rfl, by decide +kernel, rfl, by decide +kernel, by decide +kernel⟩
def spNumber : Sp := fun vs H Q _ => ∃ n : Int, vs = [.int n] ∧ ∀ H', Ex H H' → Q (.int (n.natAbs : Int)) H'
theorem cal_number (D : DefK K mg "_law_number" "_law_number" tNumber ["_law_cell"]) : C8.Cal P w K mg base 1 "_law_number" spNumber [] := by
  refine calK D scNumber (fun vs H Q E h => ?_) (fun f cdv A outer s H vs Q E hr h => ?_)
  · obtain ⟨n, rfl, _⟩ := h
    rfl
  · obtain ⟨n, rfl, q⟩ := h
    refine ⟨_, pss_cons (ps_if (pt_cmpR op_lt (pv 0) pe_int (nomark _)) (pss_one (ps_ret (pe_op op_sub pe_int (pv 0)))) pss_nil) (pss_one (ps_ret (pv 0))), ?_⟩
    refine q_when (H := H) (et_test (ev_I0 (g := fun i j => .bl (decide (i < j))) (ev_var rfl) ev_c)) (fun hb H1 e1 => ?_) (fun hb H1 e1 => ?_)
    · have hn : n < 0 := of_decide_eq_true hb
      refine s_ret (ev_is (ev_I0 (g := fun i j => .int (i - j)) ev_c (ev_var rfl)) ?_) fun H2 e2 => q H2 (e1.trans e2)
      show V.int (0 - n) = V.int (n.natAbs : Int)
      congr 1
      omega
    · have hn : ¬ n < 0 := of_decide_eq_false hb
      refine s_ret (ev_is (ev_var (v := .int n) rfl) ?_) fun H2 e2 => q H2 (e1.trans e2)
      congr 1
      omega
theorem v_number {n : Int} {H : Hp} : SpV spNumber [.int n] H (.int (n.natAbs : Int)) := fun H1 _ Q q _ => ⟨n, rfl, q⟩
/-! ### _law_draws -/
abbrev nDraws : List Str := ["_law_script", "_law_draws_here", "_law_cell", "_law_rest", "_law_k", "_law_once", "_law_twice"]
theorem scDraws : FnScope nDraws ["_law_script"] (defScope tDraws) := ⟨rfl, rfl, rfl, by decide +kernel, rfl, by decide +kernel, by decide +kernel⟩
def spDraws (K : PySem.W.Frag) : Sp := fun vs H Q _ => ∃ (a : Addr) (ns : List Int), vs = [.ref a] ∧ SqL K H a (ns.map V.int) ∧ ns.length ≤ 63 ∧ ∀ d H', H d = none → Ex H H' → DrawsAt H' d → Q (.ref d) H'
theorem emod_lt {i : Int} : 0 ≤ i % 1000 ∧ i % 1000 < 1000 := ⟨Int.emod_nonneg _ (by decide), Int.emod_lt_of_pos _ (by decide)⟩
theorem draws3 {H : Hp} {d : Addr} {ds : List Int} {n : Nat} {a b c : Int} (h : H d = some (.lst (ds.map V.int ++ [.int (a % 1000), .int (b % 1000), .int (c % 1000)]))) (hb : ∀ x ∈ ds, 0 ≤ x ∧ x < 1000) (hl : ds.length ≤ n) : DrawsN H d (n + 3) := by
  refine ⟨ds ++ [a % 1000, b % 1000, c % 1000], by rw [h, List.map_append]; rfl, fun x hx => ?_, ?_⟩
  · rcases List.mem_append.mp hx with hx | hx
    · exact hb x hx
    · simp only [List.mem_cons, List.not_mem_nil, or_false] at hx
      rcases hx with rfl | rfl | rfl <;> exact emod_lt
  · rw [List.length_append]
    simp
    omega
theorem cal_draws (D : DefK K mg "_law_draws" "_law_draws" tDraws ["_law_script"]) (T : Glo mg) (C1 : C8.Cal P w K mg base 1 "_law_number" spNumber []) : C8.Cal P w K mg base 2 "_law_draws" (spDraws K) [] := by
  refine calK D scDraws (fun vs H Q E h => ?_) (fun f cdv A outer s H vs Q E hr h => ?_)
  · obtain ⟨a, ns, rfl, _⟩ := h
    rfl
  · obtain ⟨a, ns, rfl, ha, hl, q⟩ := h
    refine ⟨_, pss_cons (ps_set (i := 1) scDraws.nd rfl (.inl rfl) (pe_lst pa_nil))
      (pss_cons (ps_for PassesOwn.never rfl (pi_list (pv 0)) (pg_name (i := 2) scDraws.nd rfl (.inl rfl))
        (pss_cons (ps_set (i := 3) scDraws.nd rfl (.inl rfl) (C8.pe_c C1 hr (by decide) (by rfl) (pa_cons (pv 2) pa_nil)))
        (pss_one (ps_if (pt_cmpR op_ge (pv 3) pe_int (nomark _))
          (pss_one (ps_for PassesOwn.never rfl (pi_range1 (by rfl) T.range (pa_cons pe_int pa_nil)) (pg_name (i := 4) scDraws.nd rfl (.inl rfl))
            (pss_cons (ps_if (pt_cmpR op_eq (pv 3) pe_int (nomark _)) (pss_one ps_break) pss_nil)
            (pss_cons (ps_expr (pe_bm PySem.F.plainAttrs_list PySem.F.slot_list_append PySem.F.type_list_append mt_append (pv 1) (pa_cons (pe_op op_mod (pe_callTy call_int1 (by rfl) T.int (by decide +kernel) (pa_cons (pv 3) pa_nil)) pe_int) pa_nil)))
            (pss_one (ps_set (i := 3) scDraws.nd rfl (.inl rfl) (pe_op op_fdiv (pv 3) pe_int)))))))
          (pss_cons (ps_set (i := 5) scDraws.nd rfl (.inl rfl) (pe_op op_mod (pe_callTy call_int1 (by rfl) T.int (by decide +kernel) (pa_cons (pe_op op_add (pe_op op_mul (pv 3) pe_int) pe_int) pa_nil)) pe_int))
          (pss_cons (ps_set (i := 6) scDraws.nd rfl (.inl rfl) (pe_op op_mod (pe_callTy call_int1 (by rfl) T.int (by decide +kernel) (pa_cons (pe_op op_add (pe_op op_mul (pv 5) pe_int) (pv 3)) pa_nil)) pe_int))
          (pss_one (ps_expr (pe_bm PySem.F.plainAttrs_list PySem.F.slot_list_extend PySem.F.type_list_extend mt_extend (pv 1) (pa_cons (pe_lst (pa_cons (pe_op op_mod (pe_callTy call_int1 (by rfl) T.int (by decide +kernel) (pa_cons (pv 3) pa_nil)) pe_int)
            (pa_cons (pe_op op_mod (pe_callTy call_int1 (by rfl) T.int (by decide +kernel) (pa_cons (pv 5) pa_nil)) pe_int) (pa_cons (pe_op op_mod (pe_callTy call_int1 (by rfl) T.int (by decide +kernel) (pa_cons (pv 6) pa_nil)) pe_int) pa_nil)))) pa_nil)))))))))) 
      (pss_one (ps_ret (pv 1)))), ?_⟩
    have hm : CMul 0 48271 := .inr ⟨by decide, by decide⟩
    refine q_asgL (H := H) (el_lst ea_nil (by simp)) fun d H1 hd e1 h1 => ?_
    refine q_forLn (xs := ns.map V.int) (ev_var rfl) (ex_l e1 ha) (fun i σ H' => ∃ x2 x3 x4 x5 x6, σ = [some (.ref a), some (.ref d), x2, x3, x4, x5, x6] ∧ Ex H H' ∧ DrawsN H' d (60 * i)) (fun H2 e2 => ⟨none, none, none, none, none, rfl, e1.trans e2, [], e2 d _ h1, (fun x hx => nomatch hx), Nat.zero_le _⟩)
      (fun i σ H' _ hp => by
        obtain ⟨_, _, _, _, _, _, e2, _⟩ := hp
        exact ex_l e2 ha) (fun i x σ H2 hx hp => ?_) (fun σ H2 hp => ?_)
    · obtain ⟨x2, x3, x4, x5, x6, rfl, e2, hD⟩ := hp
      have hi : i < ns.length := by
        have := (List.getElem?_eq_some_iff.mp hx).1
        rw [List.length_map] at this
        exact this
      rw [List.getElem?_map, List.getElem?_eq_getElem hi] at hx
      have ex : V.int ns[i] = x := Option.some.inj hx
      subst ex
      refine q_asg (ev_call (ea_cons (ev_var rfl) ea_nil) v_number) fun H3 e3 => ?_
      have hD3 := hD.ex e3
      refine s_if (et_test (ev_I0 (g := fun i j => .bl (decide (j ≤ i))) (ev_var rfl) ev_c)) (fun _ H4 e4 => ?_) (fun _ H4 e4 => ?_)
      · have hD4 := hD3.ex e4
        refine s_forR1 (n := 60) (ea_cons ev_c ea_nil) (by omega) (fun j σ H' => ∃ (m : Int) (x4 x5 x6 : Option V), σ = [some (.ref a), some (.ref d), some (.int ns[i]), some (.int m), x4, x5, x6] ∧ Ex H H' ∧ DrawsN H' d (60 * i + j))
          (fun H5 e5 => ⟨_, x4, x5, x6, rfl, ((e2.trans e3).trans e4).trans e5, hD4.ex e5⟩) (fun j σ H5 hj hp => ?_) (fun σ H5 hp => ?_)
        · obtain ⟨m, x4, x5, x6, rfl, e5, hD5⟩ := hp
          refine q_when (et_test (ev_eqI (ev_var rfl) ev_c)) (fun _ H6 e6 => ?_) (fun _ H6 e6 => ?_)
          · exact ⟨_, _, _, _, _, rfl, e5.trans e6, (hD5.ex e6).mono (by omega)⟩
          · obtain ⟨ds, h6, hb, hlen⟩ := hD5.ex e6
            refine q_app h6 (ev_var rfl) (ev_imod (ev_var rfl) ev_c (by decide)) (by rw [List.length_map]; omega) fun H7 e7 => ?_
            refine s_asg (ev_Ic (g := fun i j => .int (i / j)) (ev_var rfl) ev_c ⟨by decide, by decide⟩) fun H8 e8 => ?_
            refine ⟨_, _, _, _, rfl, (Ex.mut ((e5.trans e6).trans e7) hd).trans e8, ds ++ [m % 1000], ?_, fun x hx => ?_, ?_⟩
            · rw [e8 d _ upd_same, List.map_append]
              rfl
            · rcases List.mem_append.mp hx with hx | hx
              · exact hb x hx
              · rw [List.mem_singleton.mp hx]
                exact emod_lt
            · rw [List.length_append]
              simp
              omega
        · obtain ⟨m, x4, x5, x6, rfl, e5, hD5⟩ := hp
          exact ⟨_, _, _, _, _, rfl, e5, hD5.mono (by simp; omega)⟩
      · have hD4 := hD3.ex e4
        have hmul : ∀ i : Int, CMul i 48271 := fun i => .inr ⟨by decide, by decide⟩
        have hmul2 : ∀ i : Int, CMul i 69621 := fun i => .inr ⟨by decide, by decide⟩
        refine q_asg (ev_imod (ev_I0 (g := fun i j => .int (i + j)) (ev_Ic (g := fun i j => .int (i * j)) (ev_var rfl) ev_c (hmul _)) ev_c) ev_c (by decide)) fun H5 e5 => ?_
        refine q_asg (ev_imod (ev_I0 (g := fun i j => .int (i + j)) (ev_Ic (g := fun i j => .int (i * j)) (ev_var rfl) ev_c (hmul2 _)) (ev_var rfl)) ev_c (by decide)) fun H6 e6 => ?_
        obtain ⟨ds, h6, hb, hlen⟩ := (hD4.ex e5).ex e6
        have hll := ns.length
        refine s_extL h6 (ev_var rfl) (el_lst (ea_cons (ev_imod (ev_var rfl) ev_c (by decide)) (ea_cons (ev_imod (ev_var rfl) ev_c (by decide)) (ea_cons (ev_imod (ev_var rfl) ev_c (by decide)) ea_nil))) (by simp)) (by rw [List.length_map]; simp; omega) fun H7 e7 => ?_
        exact ⟨_, _, _, _, _, rfl, Ex.mut (((((e2.trans e3).trans e4).trans e5).trans e6).trans e7) hd, (draws3 upd_same hb hlen).mono (by omega)⟩
    · obtain ⟨x2, x3, x4, x5, x6, rfl, e2, hD⟩ := hp
      exact s_ret (ev_var rfl) fun H3 e3 => q d H3 hd (e2.trans e3) ((hD.ex e3).mono (by rw [List.length_map]; omega))
end
end K23


namespace K23
open PySem L2 Evl
/-- the index that the j-th place looks at -/
def idxJ (a : Int) (l j : Nat) : Int := if l ≤ j then a - (l : Int) + (j : Int) + 1 else a - (l : Int) + (j : Int)
theorem there_iff {r : Rl} {z : Wd} {a : Int} : (fitsL r.left z (a - (r.left.length : Int)) && fitsL r.right z (a + 1)) = true ↔ ∀ (j : Nat) (p : Wd), (r.left ++ r.right)[j]? = some p → fit p z (idxJ a r.left.length j) = true := by
  rw [Bool.and_eq_true, fitsL_iff, fitsL_iff]
  constructor
  · rintro ⟨h1, h2⟩ j p hp
    unfold idxJ
    by_cases hj : j < r.left.length
    · rw [List.getElem?_append_left hj] at hp
      rw [if_neg (by omega)]
      exact h1 j p hp
    · rw [List.getElem?_append_right (by omega)] at hp
      rw [if_pos (by omega)]
      have := h2 _ p hp
      have e : a + 1 + ((j - r.left.length : Nat) : Int) = a - (r.left.length : Int) + (j : Int) + 1 := by omega
      rw [e] at this
      exact this
  · intro h
    refine ⟨fun j p hp => ?_, fun j p hp => ?_⟩
    · have hj : j < r.left.length := (List.getElem?_eq_some_iff.mp hp).1
      have := h j p (by rw [List.getElem?_append_left hj, hp])
      unfold idxJ at this
      rw [if_neg (by omega)] at this
      exact this
    · have := h (r.left.length + j) p (by rw [List.getElem?_append_right (by omega)]; simpa using hp)
      unfold idxJ at this
      rw [if_pos (by omega)] at this
      have e : a + 1 + (j : Int) = a - (r.left.length : Int) + ((r.left.length + j : Nat) : Int) + 1 := by omega
      rw [e]
      exact this
/-! ### readings -/
section
variable {K : PySem.W.Frag} {σ : L2.St} {H : Hp} {ta tb tc te tk : TE}
/-- (s + t)[j], tuples -/
theorem ev_catIx {a b : Addr} {xs ys : List V} {j : Nat} {v : V} (h1 : Ev ta σ H (.ref a)) (h2 : Ev tb σ H (.ref b)) (h3 : ∀ H1, Ex H H1 → Ev tc σ H1 (.int (j : Int))) (hx : SqT K H a xs) (hy : SqT K H b ys) (hz : xs.length + ys.length ≤ 100000) (hv : (xs ++ ys)[j]? = some v) :
    Ev (tOp (rIxT K) (tOp (rCatA K) ta tb) tc) σ H v := fun H1 e Q q =>
  h1 H1 e _ fun H2 e2 => h2 H2 (e.trans e2) _ fun H3 e3 => by
    have e4 := (e.trans e2).trans e3
    refine ⟨a, b, xs, ys, rfl, rfl, ex_t e4 hx, ex_t e4 hy, sz_of hz, fun h0 => ?_, fun _ h0 => ?_, fun _ _ p hp => ?_⟩
    · subst h0
      exact h3 H3 e4 H3 (Ex.refl _) _ fun H5 e5 => ⟨b, ys, _, v, rfl, rfl, ex_t (e4.trans e5) hy, atI_nat hv, q H5 ((e2.trans e3).trans e5)⟩
    · subst h0
      rw [List.append_nil] at hv
      exact h3 H3 e4 H3 (Ex.refl _) _ fun H5 e5 => ⟨a, xs, _, v, rfl, rfl, ex_t (e4.trans e5) hx, atI_nat hv, q H5 ((e2.trans e3).trans e5)⟩
    · exact h3 _ (e4.trans (Ex.new hp)) _ (Ex.refl _) _ fun H5 e5 => ⟨p, xs ++ ys, _, v, rfl, rfl, st_of (e5 p _ upd_same), atI_nat hv, q H5 (((e2.trans e3).trans (Ex.new hp)).trans e5)⟩
/-- a list, new or not -/
def EvM (te : TE) (σ : L2.St) (H : Hp) (xs : List V) : Prop := ∀ H1, Ex H H1 → ∀ Q : VK, (∀ p H2, Ex H1 H2 → H2 p = some (.lst xs) → Q (.ref p) H2) → te σ H1 Q
theorem EvM.ofL {xs : List V} (h : EvL te σ H xs) : EvM te σ H xs := fun H1 e Q q => h H1 e Q fun p H2 _ e2 h2 => q p H2 e2 h2
theorem EvM.ofR {p : Addr} {xs : List V} (h : Ev te σ H (.ref p)) (hp : H p = some (.lst xs)) : EvM te σ H xs := fun H1 e Q q => h H1 e Q fun H2 e2 => q p H2 e2 ((e.trans e2) p _ hp)
theorem el_cat {xs ys : List V} (h1 : EvM ta σ H xs) (h2 : EvM tb σ H ys) (hz : xs.length + ys.length ≤ 100000) : EvL (tOp rCat ta tb) σ H (xs ++ ys) := fun H1 e Q q =>
  h1 H1 e _ fun p H2 e2 hp => h2 H2 (e.trans e2) _ fun b H3 e3 hb => ⟨p, b, xs, ys, rfl, rfl, e3 p _ hp, hb, sz_of hz, fun l hl => q l _ (fresh_back (e2.trans e3) hl) ((e2.trans e3).trans (Ex.new hl)) upd_same⟩
end
section
variable {P : Program} {w : World} {K : PySem.W.Frag} {mg : Str → Option Value} {base : Heap}
/-! ### _law_stands -/
abbrev nStands : List Str := ["_law_rule_here", "_law_word", "_law_at", "_law_letter", "_law_new", "_law_left", "_law_right", "_law_j", "_law_place_here", "_law_index", "_law_inside"]
theorem scStands : FnScope nStands ["_law_rule_here", "_law_word", "_law_at"] (defScope tStands) := ⟨rfl, rfl, rfl, by decide +kernel, rfl, by decide +kernel, by decide +kernel⟩
theorem str_edge : ("#" : Str) = S [35] := by decide +kernel
theorem cal_stands (D : DefK K mg "_law_stands" "_law_stands" tStands ["_law_rule_here", "_law_word", "_law_at"]) (T : Glo mg) : C8.Cal P w K mg base 1 "_law_stands" (spIsThere K) [] := by
  refine calK D scStands (fun vs H Q E h => ?_) (fun f cdv A outer s H vs Q E hr h => ?_)
  · obtain ⟨v, r, z, i, rfl, _⟩ := h
    rfl
  · obtain ⟨v, r, z, i, rfl, hR, hl, hi, hll, hlr, q⟩ := h
    obtain ⟨a, l, b, rfl, ha, hl4, hb⟩ := hR.ex
    refine ⟨_, pss_cons (ps_asg (pv 0) (pg_tup (by rfl) (pgs_cons (pg_name (i := 3) scStands.nd rfl (.inl rfl)) (pgs_cons (pg_name (i := 4) scStands.nd rfl (.inl rfl)) (pgs_cons (pg_name (i := 5) scStands.nd rfl (.inl rfl)) (pgs_cons (pg_name (i := 6) scStands.nd rfl (.inl rfl)) pgs_nil))))))
      (pss_cons (ps_if (pt_cmpR op_ne (pe_ix ix_str (pv 1) (pv 2) (fun _ _ => rfl)) (pv 3) (nomark _)) (pss_one (ps_ret pe_bl)) pss_nil)
      (pss_cons (ps_for PassesOwn.never rfl (pi_range1 (by rfl) T.range (pa_cons (pe_op op_add (pe_callB call_len_seq (by rfl) T.len PySem.boot_len (pa_cons (pv 5) pa_nil)) (pe_callB call_len_seq (by rfl) T.len PySem.boot_len (pa_cons (pv 6) pa_nil))) pa_nil)) (pg_name (i := 7) scStands.nd rfl (.inl rfl))
        (pss_cons (ps_set (i := 8) scStands.nd rfl (.inl rfl) (pe_ix (r := rIxT K) ix_tup (pe_op op_catA (pv 5) (pv 6)) (pv 7) (fun _ _ => rfl)))
        (pss_cons (ps_set (i := 9) scStands.nd rfl (.inl rfl) (pe_op op_add (pe_op op_sub (pv 2) (pe_callB call_len_seq (by rfl) T.len PySem.boot_len (pa_cons (pv 5) pa_nil))) (pv 7)))
        (pss_cons (ps_if (pt_cmpR op_ge (pv 7) (pe_callB call_len_seq (by rfl) T.len PySem.boot_len (pa_cons (pv 5) pa_nil)) (nomark _)) (pss_one (ps_set (i := 9) scStands.nd rfl (.inl rfl) (pe_op op_add (pv 9) pe_int))) pss_nil)
        (pss_cons (ps_set (i := 10) scStands.nd rfl (.inl rfl) (pe_chain op_le op_lt pe_int (pv 9) (pe_callB call_len_str (by rfl) T.len PySem.boot_len (pa_cons (pv 1) pa_nil))))
        (pss_one (ps_if (PW.pt (pw_or (PW.pt (pw_and (pt_cmpR op_eq (pv 8) pe_str (nomark _)) (pw_and1 (pt_val (pv 10)))))
            (pw_or1 (PW.pt (pw_and (pt_cmpR op_ne (pv 8) pe_str (nomark _)) (pw_and1 (pt_not (PW.pt (pw_and (pt_val (pv 10)) (pw_and1 (pt_cmpR op_inS (pe_ix ix_str (pv 1) (pv 9) (fun _ _ => rfl)) (pv 8) (by rfl)))))))))))) (pss_one (ps_ret pe_bl)) pss_nil)))))))
      (pss_one (ps_ret pe_bl)))), ?_⟩
    refine ⟨_, rfl, a, _, rfl, ha, rfl, _, _, rfl, _, _, rfl, _, _, rfl, _, _, rfl, rfl, ?_⟩
    have hz : z[i]? = some (z[i]'hi) := List.getElem?_eq_getElem hi
    have hlk : look z (i : Int) = some (z[i]'hi) := by rw [look_nat, hz]
    have hcat : strsV r.left ++ strsV r.right = strsV (r.left ++ r.right) := List.map_append.symm
    have hlen1 : (strsV r.left).length = r.left.length := List.length_map _
    have hlen2 : (strsV r.right).length = r.right.length := List.length_map _
    refine q_when (H := H) (et_test (ev_neS (a := [z[i]'hi]) (b := [r.c]) (ev_ixS (i := i) (ev_var rfl) (ev_var rfl) (by omega) hz) (ev_var rfl))) (fun hne H1 e1 => ?_) (fun hne H1 e1 => ?_)
    · refine s_ret (ev_is ev_c ?_) fun H2 e2 => q H2 (e1.trans e2)
      congr 1
      unfold isThere
      rw [hlk, decide_eq_false]
      · rfl
      · intro hc
        rw [Option.some.inj hc] at hne
        simp at hne
    have hcc : z[i]'hi = r.c := by
      have h0 : ¬ (decide ([z[i]'hi] = [r.c])) = false := by
        intro h0
        rw [h0] at hne
        cases hne
      have h1 := of_decide_eq_true (Bool.not_eq_false _ ▸ h0)
      exact (List.cons.inj h1).1
    have hval : isThere r z (i : Int) = (fitsL r.left z ((i : Int) - (r.left.length : Int)) && fitsL r.right z ((i : Int) + 1)) := by
      unfold isThere
      rw [hlk, hcc, decide_eq_true rfl, Bool.true_and]
    refine q_forR1 (n := (r.left.length : Int) + (r.right.length : Int)) (ea_cons (ev_is (ev_I0 (g := fun i j => .int (i + j)) (ev_lenT (ev_var rfl) (ex_t e1 hl4)) (ev_lenT (ev_var rfl) (ex_t e1 hb))) (by rw [hlen1, hlen2])) ea_nil) (by omega)
      (fun n σ H' => ∃ x7 x8 x9 x10, σ = [some (.ref a), some (.str (S z)), some (.int (i : Int)), some (.str (S [r.c])), some (.str (S r.new)), some (.ref l), some (.ref b), x7, x8, x9, x10] ∧ Ex H H' ∧
        ∀ (j : Nat) (p : Wd), j < n → (r.left ++ r.right)[j]? = some p → fit p z (idxJ (i : Int) r.left.length j) = true)
      (fun H2 e2 => ⟨none, none, none, none, rfl, e1.trans e2, fun j p hj => absurd hj (Nat.not_lt_zero _)⟩) (fun n σ H2 hn hp => ?_) (fun σ H2 hp => ?_)
    · obtain ⟨x7, x8, x9, x10, rfl, e2, hp⟩ := hp
      have hnl : n < (r.left ++ r.right).length := by
        rw [List.length_append]
        omega
      have hpn : (r.left ++ r.right)[n]? = some (r.left ++ r.right)[n] := List.getElem?_eq_getElem hnl
      generalize (r.left ++ r.right)[n] = p at hpn
      refine q_asg (v := .str (S p)) (ev_catIx (j := n) (ev_var rfl) (ev_var rfl) (fun _ _ => ev_var rfl) (ex_t e2 hl4) (ex_t e2 hb) (by rw [hlen1, hlen2]; omega) (by rw [hcat, List.getElem?_map, hpn]; rfl)) fun H3 e3 => ?_
      have e4 := e2.trans e3
      refine q_asg (v := .int ((i : Int) - (r.left.length : Int) + (n : Int))) (ev_I0 (g := fun i j => .int (i + j)) (ev_is (ev_I0 (g := fun i j => .int (i - j)) (ev_var rfl) (ev_lenT (ev_var rfl) (ex_t e4 hl4))) (by rw [hlen1])) (ev_var rfl)) fun H5 e5 => ?_
      refine q_ifAsg (b := decide ((r.left.length : Int) ≤ (n : Int))) (v := .int (idxJ (i : Int) r.left.length n)) (et_test (ev_is (ev_I0 (g := fun i j => .bl (decide (j ≤ i))) (ev_var rfl) (ev_lenT (ev_var rfl) (ex_t (e4.trans e5) hl4))) (by rw [hlen1]))) (fun hb2 => ?_) (fun hb2 => ?_) fun H6 e6 => ?_
      · have h0 := of_decide_eq_true hb2
        refine ev_is (ev_I0 (g := fun i j => .int (i + j)) (ev_var rfl) ev_c) ?_
        unfold idxJ
        rw [if_pos (by omega)]
      · have h0 := of_decide_eq_false hb2
        unfold idxJ
        rw [if_neg (by omega)]
        rfl
      have e7 := (e4.trans e5).trans e6
      generalize hix : idxJ (i : Int) r.left.length n = ix
      refine q_asg (v := .bl (decide (0 ≤ ix) && decide (ix < (z.length : Int)))) (ev_chain (g := fun i j => decide (i ≤ j)) (g' := fun i j => decide (i < j)) ev_c (ev_var rfl) (ev_lenS (z := z) (ev_var rfl) (by omega))) fun H8 e8 => ?_
      have hins : (decide (0 ≤ ix) && decide (ix < (z.length : Int))) = (look z ix).isSome := by
        by_cases h0 : 0 ≤ ix
        · by_cases h1 : ix < (z.length : Int)
          · rw [look_in h0 h1, decide_eq_true h0, decide_eq_true h1]
            rfl
          · rw [look_out (by omega), decide_eq_false h1, Bool.and_false]
            rfl
        · rw [look_neg (by omega), decide_eq_false h0]
          rfl
      refine s_when (b := !fit p z ix) (et_is (et_or (et_and (et_test (ev_eqS (a := p) (b := [35]) (ev_var rfl) (ev_str str_edge))) fun _ => et_B (ev_var rfl)) fun _ => et_and (et_test (ev_neS (a := p) (b := [35]) (ev_var rfl) (ev_str str_edge))) fun _ =>
        et_not (et_and (b := (match look z ix with | some c => decide (c ∈ p) | none => false)) (et_B (ev_var rfl)) fun hin => ?_)) ?_) (fun hc H9 e9 => ?_) (fun hc H9 e9 => ?_)
      · rw [hins] at hin
        cases hlo : look z ix with
        | none => rw [hlo] at hin; cases hin
        | some c =>
          have h0 : 0 ≤ ix := by
            by_cases h0 : 0 ≤ ix
            · exact h0
            · rw [look_neg (by omega)] at hlo
              cases hlo
          have hzc : z[ix.toNat]? = some c := by
            unfold look at hlo
            rw [if_neg (by omega)] at hlo
            exact hlo
          exact et_test (ev_inS (ev_ixS (i := ix.toNat) (ev_var rfl) (ev_is (ev_var (v := .int ix) rfl) (by rw [Int.toNat_of_nonneg h0])) (by omega) hzc) (ev_var rfl))
      · rw [hins]
        unfold fit fitO
        cases look z ix with
        | none => cases decide (p = [35]) <;> rfl
        | some c => cases decide (p = [35]) <;> cases decide (c ∈ p) <;> rfl
      · have hf : fit p z ix = false := by
          cases hq : fit p z ix with
          | false => rfl
          | true => rw [hq] at hc; cases hc
        have hth : isThere r z (i : Int) = false := by
          rw [hval]
          cases hh : (fitsL r.left z ((i : Int) - (r.left.length : Int)) && fitsL r.right z ((i : Int) + 1)) with
          | false => rfl
          | true =>
            have := there_iff.mp hh n p hpn
            rw [hix, hf] at this
            cases this
        refine s_ret (ev_is ev_c ?_) fun H10 e10 => q H10 (((e7.trans e8).trans e9).trans e10)
        rw [hth]
      · have hf : fit p z ix = true := by
          cases hq : fit p z ix with
          | true => rfl
          | false => rw [hq] at hc; cases hc
        refine ⟨_, _, _, _, rfl, (e7.trans e8).trans e9, fun j p' hj hp' => ?_⟩
        by_cases hjn : j < n
        · exact hp j p' hjn hp'
        · have ej : j = n := by omega
          rw [ej, hpn] at hp'
          rw [ej, hix, ← Option.some.inj hp']
          exact hf
    · obtain ⟨x7, x8, x9, x10, rfl, e2, hp⟩ := hp
      refine s_ret (ev_is ev_c ?_) fun H3 e3 => q H3 (e2.trans e3)
      congr 1
      rw [hval]
      refine (there_iff.mpr fun j p hj => hp j p ?_ hj).symm
      have := (List.getElem?_eq_some_iff.mp hj).1
      rw [List.length_append] at this
      omega
end
end K23


namespace K23
open PySem L2 Evl
theorem str_abc : ("abcdef" : Str) = S abc := by decide +kernel
section
variable {P : Program} {w : World} {K : PySem.W.Frag} {mg : Str → Option Value} {base : Heap}
/-! ### _law_made -/
abbrev nMade : List Str := ["_law_rule_here", "_law_word", "_law_text_here", "_law_at"]
theorem scMade : FnScope nMade ["_law_rule_here", "_law_word"] (defScope tMade) := ⟨rfl, rfl, rfl, by decide +kernel, rfl, by decide +kernel, by decide +kernel⟩
def spMade (K : PySem.W.Frag) : Sp := fun vs H Q _ => ∃ (v : V) (r : Rl) (z : Wd), vs = [v, .str (S z)] ∧ RuleAt K H v r ∧ z.length ≤ 1000 ∧ r.left.length ≤ 2 ∧ r.right.length ≤ 2 ∧ r.new.length ≤ 3 ∧ ∀ H', Ex H H' → Q (.str (S (made r z))) H'
theorem cal_made (D : DefK K mg "_law_made" "_law_made" tMade ["_law_rule_here", "_law_word"]) (T : Glo mg) (C1 : C8.Cal P w K mg base 1 "_law_stands" (spIsThere K) []) : C8.Cal P w K mg base 2 "_law_made" (spMade K) [] := by
  refine calK D scMade (fun vs H Q E h => ?_) (fun f cdv A outer s H vs Q E hr h => ?_)
  · obtain ⟨v, r, z, rfl, _⟩ := h
    rfl
  · obtain ⟨v, r, z, rfl, hR, hl, h1, h2, h3, q⟩ := h
    obtain ⟨a, lf, rt, rfl, ha, _, _⟩ := id hR.ex
    refine ⟨_, pss_cons (ps_set (i := 2) scMade.nd rfl (.inl rfl) pe_str)
      (pss_cons (ps_for PassesOwn.never rfl (pi_range1 (by rfl) T.range (pa_cons (pe_callB call_len_str (by rfl) T.len PySem.boot_len (pa_cons (pv 1) pa_nil)) pa_nil)) (pg_name (i := 3) scMade.nd rfl (.inl rfl))
        (pss_one (ps_if (pt_val (C8.pe_c C1 hr (by decide) (by rfl) (pa_cons (pv 0) (pa_cons (pv 1) (pa_cons (pv 3) pa_nil)))))
          (pss_one (ps_set (i := 2) scMade.nd rfl (.inl rfl) (pe_op op_add_str (pv 2) (pe_ix (r := rIxT K) ix_tup (pv 0) pe_int (fun _ _ => rfl)))))
          (pss_one (ps_set (i := 2) scMade.nd rfl (.inl rfl) (pe_op op_add_str (pv 2) (pe_ix ix_str (pv 1) (pv 3) (fun _ _ => rfl))))))))
      (pss_one (ps_ret (pv 2)))), ?_⟩
    refine q_asg (H := H) (v := .str (S [])) (ev_str str_nil) fun H1 e1 => ?_
    refine q_forR1 (n := (z.length : Int)) (ea_cons (ev_lenS (z := z) (ev_var rfl) (by omega)) ea_nil) (by omega)
      (fun i σ H' => ∃ x3, σ = [some (.ref a), some (.str (S z)), some (.str (S (seg r z 0 i))), x3] ∧ Ex H H') (fun H2 e2 => ⟨none, rfl, e1.trans e2⟩) (fun i σ H2 hi hp => ?_) (fun σ H2 hp => ?_)
    · obtain ⟨x3, rfl, e2⟩ := hp
      have hi' : i < z.length := by omega
      have hsl := seg_len (r := r) (z := z) (i := 0) (n := i) h3
      have hb := becomes_at (r := r) hi'
      have hss : seg r z 0 (i + 1) = seg r z 0 i ++ K23.becomes r z (i : Int) := by
        rw [seg_succ]
        congr 2
        omega
      refine s_if (et_B (ev_call (ea_cons (ev_var rfl) (ea_cons (ev_var rfl) (ea_cons (ev_var rfl) ea_nil))) (v_is_there (hR.mono e2) hl hi' (by omega) (by omega)))) (fun hc H3 e3 => ?_) (fun hc H3 e3 => ?_)
      · rw [if_pos hc] at hb
        refine s_asg (ev_addS (a := seg r z 0 i) (b := r.new) (ev_var rfl) (ev_ixT (i := 1) (ev_var rfl) ev_c (ex_t (e2.trans e3) ha) rfl) (by omega)) fun H4 e4 => ⟨some (.int (i : Int)), ?_, (e2.trans e3).trans e4⟩
        rw [hss, hb]
        rfl
      · rw [if_neg (by rw [hc]; exact Bool.false_ne_true)] at hb
        refine s_asg (ev_addS (a := seg r z 0 i) (b := [z[i]]) (ev_var rfl) (ev_ixS (i := i) (ev_var rfl) (ev_var rfl) (by omega) (List.getElem?_eq_getElem hi')) (by simp; omega)) fun H4 e4 => ⟨some (.int (i : Int)), ?_, (e2.trans e3).trans e4⟩
        rw [hss, hb]
        rfl
    · obtain ⟨x3, rfl, e2⟩ := hp
      rw [Int.toNat_natCast]
      exact s_ret (ev_var rfl) fun H3 e3 => q H3 (e2.trans e3)
theorem v_made {v : V} {r : Rl} {z : Wd} {H : Hp} (hR : RuleAt K H v r) (hl : z.length ≤ 1000) (h1 : r.left.length ≤ 2) (h2 : r.right.length ≤ 2) (h3 : r.new.length ≤ 3) : SpV (spMade K) [v, .str (S z)] H (.str (S (made r z))) :=
  fun H1 e Q q _ => ⟨v, r, z, rfl, hR.mono e, hl, h1, h2, h3, q⟩
/-! ### _law_words -/
abbrev nWords : List Str := ["_law_k", "_law_length", "_law_words_here", "_law_ring", "_law_j", "_law_longer", "_law_word", "_law_letter"]
theorem scWords : FnScope nWords ["_law_k", "_law_length"] (defScope tWords) := ⟨rfl, rfl, rfl, by decide +kernel, rfl, by decide +kernel, by decide +kernel⟩
def spWords (K : PySem.W.Frag) : Sp := fun vs H Q _ => ∃ (k : Int) (n : Nat), vs = [.int k, .int (n : Int)] ∧ 0 ≤ k ∧ k ≤ 6 ∧ (((ltrs k).length ≤ 3 ∧ n ≤ 4) ∨ ((ltrs k).length ≤ 6 ∧ n ≤ 2)) ∧ RetL (strsV (wordsM (ltrs k) n)) H Q
theorem ltrs_get {k : Int} {i : Nat} (h6 : k ≤ 6) (h : i < (ltrs k).length) : abc[i]? = some ((ltrs k).getD i 0) := by
  have h1 : (ltrs k)[i]? = some (ltrs k)[i] := List.getElem?_eq_getElem h
  rw [List.getD_eq_getElem?_getD, h1]
  unfold ltrs at h1
  rw [List.getElem?_take] at h1
  split at h1
  · exact h1
  · cases h1
theorem cal_words (D : DefK K mg "_law_words" "_law_words" tWords ["_law_k", "_law_length"]) (T : Glo mg) : C8.Cal P w K mg base 1 "_law_words" (spWords K) [] := by
  refine calK D scWords (fun vs H Q E h => ?_) (fun f cdv A outer s H vs Q E hr h => ?_)
  · obtain ⟨k, n, rfl, _⟩ := h
    rfl
  · obtain ⟨k, n, rfl, h0, h6, hb, q⟩ := h
    refine ⟨_, pss_cons (ps_set (i := 2) scWords.nd rfl (.inl rfl) (pe_lst (pa_cons pe_str pa_nil)))
      (pss_cons (ps_set (i := 3) scWords.nd rfl (.inl rfl) (pe_lst (pa_cons pe_str pa_nil)))
      (pss_cons (ps_for PassesOwn.never rfl (pi_range1 (by rfl) T.range (pa_cons (pv 1) pa_nil)) (pg_name (i := 4) scWords.nd rfl (.inl rfl))
        (pss_cons (ps_set (i := 5) scWords.nd rfl (.inl rfl) (pe_lst pa_nil))
        (pss_cons (ps_for PassesOwn.never rfl (pi_list (pv 3)) (pg_name (i := 6) scWords.nd rfl (.inr rfl))
          (pss_one (ps_set (i := 5) scWords.nd rfl (.inl rfl) (pe_op op_cat (pv 5) (pe_lc (own := [("_law_letter", 7)]) (g := gName 7) (tt := tYes) rfl scWords.nd (pi_range1 (by rfl) T.range (pa_cons (pv 0) pa_nil)) (blkOk_by (N := nWords) (sc := defScope tWords) (by decide +kernel))
            (fun _ _ _ _ _ => pg_name (i := 7) scWords.nd rfl (.inl rfl)) (fun _ _ _ _ _ => pts_nil)
            (fun _ _ _ _ _ => pe_op op_add_str (pv 6) (pe_ix ix_str pe_str (pv 7) (fun _ _ => rfl))))))))
        (pss_cons (ps_set (i := 2) scWords.nd rfl (.inl rfl) (pe_op op_cat (pv 2) (pv 5)))
        (pss_one (ps_set (i := 3) scWords.nd rfl (.inl rfl) (pv 5)))))))
      (pss_one (ps_ret (pv 2))))), ?_⟩
    obtain ⟨hw1, hw2, hw3⟩ := words_len (ltrs k) hb
    have hnn : n ≤ 4 := by omega
    have hkl : ((ltrs k).length : Int) = k := by
      rw [ltrs_len]
      omega
    refine q_asgL (H := H) (xs := strsV [[]]) (el_lst (ea_cons (ev_str str_nil) ea_nil) (by simp)) fun wl H1 hwl e1 h1 => ?_
    refine q_asgL (xs := strsV [[]]) (el_lst (ea_cons (ev_str str_nil) ea_nil) (by simp)) fun rl H2 hrl e2 h2 => ?_
    refine q_forR1 (n := (n : Int)) (ea_cons (ev_var rfl) ea_nil) (by omega)
      (fun i σ H' => ∃ wl rl x4 x5 x6, σ = [some (.int k), some (.int (n : Int)), some (.ref wl), some (.ref rl), x4, x5, x6, none] ∧ H wl = none ∧ Ex H H' ∧ H' wl = some (.lst (strsV (wordsM (ltrs k) i))) ∧ H' rl = some (.lst (strsV (ringM (ltrs k) i))))
      (fun H3 e3 => ⟨wl, rl, none, none, none, rfl, hwl, (e1.trans e2).trans e3, (e2.trans e3) wl _ h1, e3 rl _ h2⟩) (fun i σ H3 hi hp => ?_) (fun σ H3 hp => ?_)
    · obtain ⟨wl, rl, x4, x5, x6, rfl, hwl, e3, h3w, h3r⟩ := hp
      have hi' : i < n := by omega
      obtain ⟨b1, b2⟩ := hw3 i (by omega)
      obtain ⟨b3, b4⟩ := hw3 (i + 1) (by omega)
      refine q_asgL (xs := strsV (longer (ltrs k) ((ringM (ltrs k) i).take 0))) (el_lst ea_nil (Nat.zero_le _)) fun lg H4 hlg e4 h4 => ?_
      refine q_forLn (xs := strsV (ringM (ltrs k) i)) (ev_var rfl) (sq_of (e4 rl _ h3r)) (fun t σ H' => ∃ lg x6, σ = [some (.int k), some (.int (n : Int)), some (.ref wl), some (.ref rl), some (.int (i : Int)), some (.ref lg), x6, none] ∧ Ex H3 H' ∧ H' lg = some (.lst (strsV (longer (ltrs k) ((ringM (ltrs k) i).take t)))))
        (fun H5 e5 => ⟨lg, x6, rfl, e4.trans e5, e5 lg _ h4⟩) (fun t σ H' _ hp => by
          obtain ⟨_, _, _, e5, _⟩ := hp
          exact sq_of (e5 rl _ h3r)) (fun t x σ H5 hx hp => ?_) (fun σ H5 hp => ?_)
      · obtain ⟨lg, x6, rfl, e5, h5⟩ := hp
        obtain ⟨ht, rfl, hxw⟩ := strsV_get hx
        generalize (ringM (ltrs k) i).getD t [] = u at hxw
        have hum := (ring_mem.mp (List.mem_of_getElem? hxw)).1
        have htk : longer (ltrs k) ((ringM (ltrs k) i).take (t + 1)) = longer (ltrs k) ((ringM (ltrs k) i).take t) ++ (ltrs k).map fun c => u ++ [c] := by
          unfold longer
          rw [List.take_add_one, hxw, List.flatMap_append]
          simp
        have hlt : (longer (ltrs k) ((ringM (ltrs k) i).take t)).length ≤ 1000 := by
          rw [longer_len, List.length_take]
          exact Nat.le_trans (Nat.mul_le_mul_right _ (Nat.min_le_right _ _)) b1
        refine s_asgL (xs := strsV (longer (ltrs k) ((ringM (ltrs k) i).take (t + 1)))) (el_is (el_cat (EvM.ofR (ev_var rfl) h5) (EvM.ofL (el_lcR (n := (ltrs k).length) (fun j => V.str (S (u ++ [(ltrs k).getD j 0]))) (ea_cons (ev_is (ev_var (v := .int k) rfl) (by rw [hkl])) ea_nil) (by omega) (fun _ => rfl) fun j H6 e6 hj =>
          ev_addS (a := u) (b := [(ltrs k).getD j 0]) (ev_var rfl) (ev_ixS (a := abc) (i := j) (ev_str str_abc) (ev_var rfl) (by decide) (ltrs_get h6 hj)) (by simp; omega))) ?_) ?_) fun p H6 hp e6 h6 => ⟨p, _, rfl, e5.trans e6, h6⟩
        · rw [List.length_map, List.length_map, List.length_range]
          omega
        · rw [htk, rangeD (f := fun c => V.str (S (u ++ [c])))]
          unfold strsV
          rw [List.map_append, List.map_map]
          rfl
      · obtain ⟨lg, x6, rfl, e5, h5⟩ := hp
        rw [List.length_map, List.take_length] at h5
        have hr1 : (ringM (ltrs k) (i + 1)).length ≤ (wordsM (ltrs k) (i + 1)).length := by
          show _ ≤ (wordsM (ltrs k) i ++ ringM (ltrs k) (i + 1)).length
          rw [List.length_append]
          omega
        refine q_asgL (xs := strsV (wordsM (ltrs k) (i + 1))) (el_is (el_cat (xs := strsV (wordsM (ltrs k) i)) (ys := strsV (ringM (ltrs k) (i + 1))) (EvM.ofR (ev_var rfl) (e5 wl _ h3w)) (EvM.ofR (ev_var rfl) h5) (by rw [List.length_map, List.length_map]; omega)) List.map_append.symm) fun p H6 hp e6 h6 => ?_
        refine s_asg (ev_var rfl) fun H7 e7 => ⟨p, lg, _, _, _, rfl, fresh_back (e3.trans e5) hp, ((e3.trans e5).trans e6).trans e7, e7 p _ h6, (e6.trans e7) lg _ h5⟩
    · obtain ⟨wl, rl, x4, x5, x6, rfl, hwl, e3, h3w, h3r⟩ := hp
      rw [Int.toNat_natCast] at h3w
      exact s_ret (ev_var rfl) fun H4 e4 => q wl H4 hwl (e3.trans e4) (e4 wl _ h3w)
theorem l_words {k : Int} {n : Nat} {H : Hp} (h0 : 0 ≤ k) (h6 : k ≤ 6) (hb : ((ltrs k).length ≤ 3 ∧ n ≤ 4) ∨ ((ltrs k).length ≤ 6 ∧ n ≤ 2)) : SpL (spWords K) [.int k, .int (n : Int)] H (strsV (wordsM (ltrs k) n)) := fun H1 _ Q q _ => ⟨k, n, rfl, h0, h6, hb, fun p H2 hp e h => q p H2 hp e h⟩
end
end K23


namespace K23
open PySem L2 Evl
theorem DrawsN.put {H : Hp} {d p : Addr} {o : HO} (h : DrawsAt H d) (hp : p ≠ d) : DrawsAt (upd H p o) d := by
  obtain ⟨ds, h1, h2⟩ := h
  exact ⟨ds, by rw [upd_ne hp.symm]; exact h1, h2⟩
/-! ### what may evaluate to what, the draws used up on the way -/
def EvN (te : TE) (σ : L2.St) (H : Hp) (d : Addr) (P : V → Hp → Prop) : Prop := ∀ Q : VK, (∀ v H2, Dx d H H2 → DrawsAt H2 d → P v H2 → Q v H2) → te σ H Q
def EvNA (ta : TA) (σ : L2.St) (H : Hp) (d : Addr) (P : List V → Hp → Prop) : Prop := ∀ Q : List V → Hp → Prop, (∀ vs H2, Dx d H H2 → DrawsAt H2 d → P vs H2 → Q vs H2) → ta σ H Q
section
variable {K : PySem.W.Frag} {σ : L2.St} {H : Hp} {ta tb tc te tk tm : TE} {d : Addr} {P1 P2 : V → Hp → Prop}
theorem en_of {v : V} (hD : DrawsAt H d) (h : Ev te σ H v) : EvN te σ H d (fun u _ => u = v) := fun Q q => h H (Ex.refl H) _ fun H1 e1 => q v H1 (Dx.of e1) (hD.ex e1) rfl
theorem EvN.imp (h : EvN te σ H d P1) (i : ∀ v H2, Dx d H H2 → DrawsAt H2 d → P1 v H2 → P2 v H2) : EvN te σ H d P2 := fun Q q => h Q fun v H2 x D p => q v H2 x D (i v H2 x D p)
theorem ena_one (h : EvN te σ H d P1) : EvNA (tCons te tNil) σ H d (fun vs H2 => ∃ v, vs = [v] ∧ P1 v H2) := fun Q q => h _ fun v H2 x D p => q [v] H2 x D ⟨v, rfl, p⟩
theorem ena_int {ta : TE} {x m : Nat} (hD : DrawsAt H d) (h : Ev ta σ H (.int (x : Int))) (hm : x ≤ m) : EvNA (tCons ta tNil) σ H d (fun us _ => ∃ n : Nat, us = [.int (n : Int)] ∧ n ≤ m) := fun Q q => h H (Ex.refl H) _ fun H1 e1 => q _ H1 (Dx.of e1) (hD.ex e1) ⟨x, rfl, hm⟩
theorem en_join {to tl : TE} {G : List Wd → Prop} (hD : DrawsAt H d) (ho : Ev to σ H (.str (S []))) (h : ∀ H1, Ex H H1 → EvN tl σ H1 d (fun v H2 => ∃ p ws, v = .ref p ∧ H2 p = some (.lst (strsV ws)) ∧ G ws)) (hz : ∀ ws, G ws → (ws.map List.length).sum ≤ 1000000) :
    EvN (tM1 (rJoin K) to tl) σ H d (fun v _ => ∃ ws, v = .str (S ws.flatten) ∧ G ws) := fun Q q => ho H (Ex.refl H) _ fun H1 e1 => ⟨⟨_, rfl⟩, h H1 e1 _ fun v H2 x2 D2 ⟨p, ws, hv, hp, hG⟩ => by
  subst hv
  refine ⟨S [], p, ws.map S, rfl, rfl, .inl (sq_of (by rw [hp, List.map_map]; rfl)), (by
    rw [SX.lens, List.length_map, SX.S_len, List.length_nil, Nat.mul_zero]
    exact Nat.le_trans (Nat.le_of_eq (Nat.add_zero _)) (Nat.le_trans (hz ws hG) (by decide))), ?_⟩
  rw [SX.join_S, join_nil]
  exact q _ H2 ((Dx.of e1).trans x2) D2 ⟨ws, rfl, hG⟩⟩
theorem q_asgN {tz : TS} {D : Ends} {i : Nat} (h : EvN te σ H d P1) (k : ∀ v H1, Dx d H H1 → DrawsAt H1 d → P1 v H1 → tz D (σ.set i (some v)) H1) : tSeq (tAsg te (gName i)) tz D σ H := h _ k
theorem s_asgN {D : Ends} {i : Nat} (h : EvN te σ H d P1) (k : ∀ v H1, Dx d H H1 → DrawsAt H1 d → P1 v H1 → D.nx (σ.set i (some v)) H1) : tAsg te (gName i) D σ H := h _ k
theorem s_retN {D : Ends} (h : EvN te σ H d P1) (k : ∀ v H1, Dx d H H1 → DrawsAt H1 d → P1 v H1 → D.rt v H1) : tRet te D σ H := h _ k
/-! ### _law_next -/
def spNext (K : PySem.W.Frag) : Sp := fun vs H Q _ => ∃ d, vs = [.ref d] ∧ DrawsAt H d ∧ ∀ (x : Int) H', 0 ≤ x → x < 1000 → Dx d H H' → DrawsAt H' d → Q (.int x) H'
theorem en_mod {m : Int} {E : XK} (hD : DrawsAt H d) (hd : Ev ta σ H (.ref d)) (hm : ∀ H1, Dx d H H1 → Ev tm σ H1 (.int m)) (h0 : 0 < m) :
    EvN (tOp (rI (fun _ j => 0 < j) fun i j => .int (i % j)) (tCB rInt1 (tCons (tCall (spNext K) [] E (tCons ta tNil)) tNil)) tm) σ H d (fun v _ => ∃ x : Int, v = .int x ∧ 0 ≤ x ∧ x < m) := fun Q q =>
  hd H (Ex.refl H) _ fun H1 e1 => ⟨d, rfl, hD.ex e1, fun x H2 _ _ x2 D2 => .inl ⟨x, rfl, hm H2 ((Dx.of e1).trans x2) H2 (Ex.refl _) _ fun H3 e3 => ⟨x, m, rfl, rfl, h0, q _ _ (((Dx.of e1).trans x2).trans (Dx.of e3)) (D2.ex e3) ⟨_, rfl, Int.emod_nonneg _ (by omega), Int.emod_lt_of_pos _ h0⟩⟩⟩⟩
/-- 'abcdef'[int(next) % k] -/
theorem en_letter {k : Int} (h6 : k ≤ 6) (hz : Ev ta σ H (.str (S abc))) (hi : ∀ H1, Ex H H1 → EvN tb σ H1 d (fun v _ => ∃ x : Int, v = .int x ∧ 0 ≤ x ∧ x < k)) (hD : DrawsAt H d) : EvN (tOp rIxS ta tb) σ H d (fun v _ => ∃ c ∈ ltrs k, v = .str (S [c])) := fun Q q =>
  hz H (Ex.refl H) _ fun H1 e1 => hi H1 e1 _ fun v H2 x2 D2 ⟨x, hx, h0, h1⟩ => by
    subst hx
    have hl : x.toNat < (ltrs k).length := by
      rw [ltrs_len]
      omega
    have ha := ltrs_get h6 hl
    refine ⟨S abc, x, _, rfl, rfl, sz_of (by decide), ?_, q _ H2 ((Dx.of e1).trans x2) D2 ⟨(ltrs k).getD x.toNat 0, ?_, rfl⟩⟩
    · have := atI_nat (xs := (S abc).cps.toList) (j := x.toNat) ha
      rw [Int.toNat_of_nonneg h0] at this
      exact this
    · rw [List.getD_eq_getElem?_getD, List.getElem?_eq_getElem hl]
      exact List.getElem_mem hl
/-- [a, b, ..][int(next) % n] -/
theorem en_pick {ts : TA} {xs : List V} {m : Int} (hm : m ≤ (xs.length : Int)) (hx : EvA ts σ H xs) (hl : xs.length ≤ 100) (hi : ∀ H1, Ex H H1 → DrawsAt H1 d → EvN tb σ H1 d (fun v _ => ∃ x : Int, v = .int x ∧ 0 ≤ x ∧ x < m)) (hD : DrawsAt H d) : EvN (tOp (rIxL K) (tLst ts) tb) σ H d (fun v _ => v ∈ xs) := fun Q q =>
  el_lst hx (by omega) H (Ex.refl H) _ fun p H1 hp e1 h1 => hi H1 e1 (hD.ex e1) _ fun v H2 x2 D2 ⟨x, hx, h0, h3⟩ => by
    subst hx
    have hlt : x.toNat < xs.length := by omega
    have hv : xs[x.toNat]? = some xs[x.toNat] := List.getElem?_eq_getElem hlt
    refine ⟨p, xs, x, _, rfl, rfl, sq_of (x2 p _ (draws_ne hD hp) h1), ?_, q _ H2 ((Dx.of e1).trans x2) D2 (List.getElem_mem hlt)⟩
    have := atI_nat hv
    rw [Int.toNat_of_nonneg h0] at this
    exact this
/-- [.. for j in range(..)] of texts -/
theorem en_lc {ts : TA} {j m : Nat} {vs : List Nat} {G : Wd → Prop} (hm : m ≤ 1000) (hD : DrawsAt H d) (h : EvNA ts σ H d (fun us _ => ∃ n : Nat, us = [.int (n : Int)] ∧ n ≤ m)) (hw : ∀ x, wipe ((wipe σ vs).set j (some x)) vs = wipe σ vs)
    (he : ∀ (i : Nat) H1, Dx d H H1 → DrawsAt H1 d → EvN te ((wipe σ vs).set j (some (.int (i : Int)))) H1 d (fun v _ => ∃ z, v = .str (S z) ∧ G z)) :
    EvN (tLc (iRng1 ts) (gName j) tYes te vs) σ H d (fun v H2 => ∃ p ws, v = .ref p ∧ H p = none ∧ H2 p = some (.lst (strsV ws)) ∧ ws.length ≤ m ∧ ∀ z ∈ ws, G z) := fun Q q =>
  h _ fun us H1 x1 D1 ⟨n, hu, hn⟩ => ⟨(n : Int), hu, by omega, by omega, fun D hD' => by
    have hDd : D ≠ d := draws_ne D1 hD'
    exact lc_it (walk_range (lo := 0) (n := ((n : Int)).toNat)) (fun i H' => Dx d H1 H' ∧ DrawsAt H' d ∧ ∃ ws, H' D = some (.lst (strsV ws)) ∧ ws.length = i ∧ ∀ z ∈ ws, G z)
      ⟨Dx.of (Ex.new hD'), D1.put hDd, [], upd_same, rfl, fun z hz => nomatch hz⟩ (fun _ _ _ _ => trivial)
      (fun i x H2 H3 hi p y => by
        obtain ⟨x2, D2, ws, h2, hl, hG⟩ := p
        obtain ⟨rfl, rfl⟩ := y
        refine ⟨hw _, ?_⟩
        have e0 : (0 : Int) + (i : Int) = (i : Int) := Int.zero_add _
        show te ((wipe σ vs).set j (some (.int ((0 : Int) + (i : Int))))) H3 _
        rw [e0]
        refine he i H3 (x1.trans x2) D2 _ fun v H4 x4 D4 ⟨z, hz, hg⟩ => ?_
        subst hz
        refine ⟨strsV ws, x4 D _ hDd h2, ?_, Dx.mut (x2.trans x4) hD', D4.put hDd, ws ++ [z], ?_, by rw [List.length_append, hl]; rfl, fun u hu => ?_⟩
        · rw [List.length_map, hl]
          exact sz_lt (by omega)
        · rw [upd_same]
          unfold strsV
          rw [List.map_append]
          rfl
        · rcases List.mem_append.mp hu with hu | hu
          · exact hG u hu
          · rw [List.mem_singleton.mp hu]
            exact hg)
      (fun H2 p => by
        obtain ⟨x2, D2, ws, h2, hl, hG⟩ := p
        exact q _ H2 (x1.trans x2) D2 ⟨D, ws, rfl, x1.fresh hD hD' D1, h2, by omega, hG⟩)⟩
end
section
variable {P : Program} {w : World} {K : PySem.W.Frag} {mg : Str → Option Value} {base : Heap}
theorem scNext : FnScope ["_law_draws_here"] ["_law_draws_here"] (defScope tNext) := ⟨rfl, rfl, rfl, by decide +kernel, rfl, by decide +kernel, by decide +kernel⟩
theorem cal_next (D : DefK K mg "_law_next" "_law_next" tNext ["_law_draws_here"]) : C8.Cal P w K mg base 1 "_law_next" (spNext K) [] := by
  refine calK D scNext (fun vs H Q E h => ?_) (fun f cdv A outer s H vs Q E hr h => ?_)
  · obtain ⟨d, rfl, _⟩ := h
    rfl
  · obtain ⟨d, rfl, hD, q⟩ := h
    refine ⟨_, pss_cons (ps_if (pt_truth (pv 0) (fun _ => rfl)) (pss_one (ps_ret (pe_bm0 PySem.F.plainAttrs_list PySem.F.slot_list_pop PySem.F.type_list_pop mt_pop (pv 0)))) pss_nil) (pss_one (ps_ret pe_int)), ?_⟩
    obtain ⟨ds, h1, h2, h3⟩ := id hD
    refine ⟨.ref d, rfl, !(ds.map V.int).isEmpty, .inl ⟨_, sq_of h1, rfl⟩, ?_⟩
    cases hds : ds.reverse with
    | nil =>
      have e : ds = [] := by
        rw [← List.reverse_reverse ds, hds]
        rfl
      subst e
      show Q (.int 0) H
      exact q 0 H (by decide) (by decide) (Dx.refl d H) hD
    | cons x r =>
      have e : ds = r.reverse ++ [x] := by
        rw [← List.reverse_reverse ds, hds, List.reverse_cons]
      subst e
      rw [if_pos (by simp)]
      refine ⟨.ref d, rfl, Or.inl ⟨rfl, _, sq_of h1⟩, d, _, .int x, rfl, rfl, h1, by simp, ?_⟩
      obtain ⟨b1, b2⟩ := h2 x (by simp)
      refine q x _ b1 b2 Dx.put ⟨r.reverse, ?_, fun y hy => h2 y (List.mem_append_left _ hy), ?_⟩
      · rw [upd_same, List.map_append]
        simp
      · rw [List.length_append] at h3
        omega
/-! ### _law_text -/
abbrev nText : List Str := ["_law_draws_here", "_law_k", "_law_most", "_law_size", "_law_j"]
theorem scText : FnScope nText ["_law_draws_here", "_law_k", "_law_most"] (defScope tText) := ⟨rfl, rfl, rfl, by decide +kernel, rfl, by decide +kernel, by decide +kernel⟩
def spText (K : PySem.W.Frag) : Sp := fun vs H Q _ => ∃ (d : Addr) (k most : Int), vs = [.ref d, .int k, .int most] ∧ DrawsAt H d ∧ 1 ≤ k ∧ k ≤ 6 ∧ 0 ≤ most ∧ most ≤ 100 ∧ ∀ (z : Wd) H', (z.length : Int) ≤ most → (∀ c ∈ z, c ∈ ltrs k) → Dx d H H' → DrawsAt H' d → Q (.str (S z)) H'
theorem flat_ones {k : Int} : ∀ ws : List Wd, (∀ z ∈ ws, ∃ c ∈ ltrs k, z = [c]) → ws.flatten.length = ws.length ∧ (ws.map List.length).sum = ws.length ∧ ∀ c ∈ ws.flatten, c ∈ ltrs k
  | [], _ => ⟨rfl, rfl, fun _ h => nomatch h⟩
  | z :: r, h => by
    obtain ⟨c, hc, rfl⟩ := h z (List.mem_cons_self ..)
    obtain ⟨h1, h2, h3⟩ := flat_ones r fun y hy => h y (List.mem_cons_of_mem _ hy)
    refine ⟨by rw [List.flatten_cons, List.length_append, h1]; simp; omega, by rw [List.map_cons, List.sum_cons, h2]; simp; omega, fun y hy => ?_⟩
    rw [List.flatten_cons] at hy
    rcases List.mem_append.mp hy with hy | hy
    · rw [List.mem_singleton.mp hy]
      exact hc
    · exact h3 y hy
theorem cal_text (D : DefK K mg "_law_text" "_law_text" tText ["_law_draws_here", "_law_k", "_law_most"]) (T : Glo mg) (C1 : C8.Cal P w K mg base 1 "_law_next" (spNext K) []) : C8.Cal P w K mg base 2 "_law_text" (spText K) [] := by
  refine calK D scText (fun vs H Q E h => ?_) (fun f cdv A outer s H vs Q E hr h => ?_)
  · obtain ⟨d, k, m, rfl, _⟩ := h
    rfl
  · obtain ⟨d, k, m, rfl, hD, k1, k6, m0, m1, q⟩ := h
    refine ⟨_, pss_cons (ps_set (i := 3) scText.nd rfl (.inl rfl) (pe_op op_mod (pe_callTy call_int1 (by rfl) T.int (by decide +kernel) (pa_cons (C8.pe_c C1 hr (by decide) (by rfl) (pa_cons (pv 0) pa_nil)) pa_nil)) (pe_op op_add (pv 2) pe_int)))
      (pss_one (ps_ret (pe_join pe_str (pe_lc (own := [("_law_j", 4)]) (g := gName 4) (tt := tYes) rfl scText.nd (pi_range1 (by rfl) T.range (pa_cons (pv 3) pa_nil)) (blkOk_by (N := nText) (sc := defScope tText) (by decide +kernel))
            (fun _ _ _ _ _ => pg_name (i := 4) scText.nd rfl (.inl rfl)) (fun _ _ _ _ _ => pts_nil)
            (fun _ _ _ _ _ => pe_ix ix_str pe_str (pe_op op_mod (pe_callTy call_int1 (by rfl) T.int (by decide +kernel) (pa_cons (C8.pe_c C1 hr (by decide) (by rfl) (pa_cons (pv 0) pa_nil)) pa_nil)) (pv 1)) (fun _ _ => rfl)))))), ?_⟩
    refine q_asgN (en_mod (m := m + 1) hD (ev_var rfl) (fun H1 _ => ev_I0 (g := fun i j => .int (i + j)) (ev_var rfl) ev_c) (by omega)) fun v H1 x1 D1 ⟨x, hx, h0, h1⟩ => ?_
    subst hx
    refine s_retN (en_join (G := fun ws => ws.length ≤ x.toNat ∧ ∀ z ∈ ws, ∃ c ∈ ltrs k, z = [c]) D1 (ev_str str_nil) (fun H2 e2 => (en_lc (m := x.toNat) (G := fun z => ∃ c ∈ ltrs k, z = [c]) (by omega) (D1.ex e2) (ena_int (x := x.toNat) (D1.ex e2) (ev_is (ev_var rfl) (by rw [Int.toNat_of_nonneg h0])) (Nat.le_refl _)) (fun _ => rfl)
      (fun i H3 x3 D3 => (en_letter k6 (ev_str str_abc) (fun H4 e4 => en_mod (D3.ex e4) (ev_var rfl) (fun _ _ => ev_var rfl) (by omega)) D3).imp fun v H4 _ _ ⟨c, hc, hv⟩ => ⟨[c], hv, c, hc, rfl⟩)).imp fun v H3 _ _ ⟨p, ws, hv, _, h3, hl, hG⟩ => ⟨p, ws, hv, h3, hl, hG⟩) fun ws ⟨hl, hG⟩ => by
        rw [(flat_ones ws hG).2.1]
        omega) fun v H3 x3 D3 ⟨ws, hv, hl, hG⟩ => ?_
    subst hv
    obtain ⟨g1, g2, g3⟩ := flat_ones ws hG
    exact q _ _ (by rw [g1]; omega) g3 (x1.trans x3) D3
end
end K23


namespace K23
open PySem L2 Evl
/-! ### places from draws -/
def placeOf (k m : Nat) : Wd := ((List.range k).filter fun i => decide (m / 2 ^ i % 2 = 1)).map fun i => abc.getD i 0
def ascB : Wd → Bool
  | a :: b :: r => decide (a < b) && ascB (b :: r)
  | _ => true
theorem asc_of : ∀ l : Wd, ascB l = true → l.Pairwise (· < ·)
  | [], _ => .nil
  | [a], _ => List.pairwise_singleton _ _
  | a :: b :: r, h => by
    unfold ascB at h
    rw [Bool.and_eq_true] at h
    have h1 := of_decide_eq_true h.1
    have h2 := asc_of (b :: r) h.2
    refine List.pairwise_cons.mpr ⟨fun c hc => ?_, h2⟩
    rcases List.mem_cons.mp hc with rfl | hc
    · exact h1
    · exact Nat.lt_trans h1 ((List.pairwise_cons.mp h2).1 c hc)
def placeB (k m : Nat) : Bool := decide (m = 0) || !decide (m < 2 ^ k) || (!(placeOf k m).isEmpty && ((placeOf k m).all fun c => (abc.take k).contains c) && ascB (placeOf k m) && decide ((placeOf k m).length ≤ 6))
theorem place_all : ((List.range 7).all fun k => (List.range 64).all fun m => placeB k m) = true := by decide +kernel
theorem place_fin {k m : Nat} (hk : k ≤ 6) (h64 : m < 64) (h1 : 1 ≤ m) (hm : m < 2 ^ k) : placeOf k m ≠ [] ∧ (∀ c ∈ placeOf k m, c ∈ abc.take k) ∧ ascB (placeOf k m) = true ∧ (placeOf k m).length ≤ 6 := by
  have h := List.all_eq_true.mp (List.all_eq_true.mp place_all k (List.mem_range.mpr (by omega))) m (List.mem_range.mpr h64)
  unfold placeB at h
  rw [decide_eq_false (show ¬ m = 0 by omega), decide_eq_true hm] at h
  simp only [Bool.not_true, Bool.false_or, Bool.and_eq_true, Bool.not_eq_true', decide_eq_true_eq] at h
  obtain ⟨⟨⟨h1, h2⟩, h3⟩, h4⟩ := h
  refine ⟨fun e => ?_, fun c hc => ?_, h3, h4⟩
  · rw [e] at h1
    cases h1
  · have := List.all_eq_true.mp h2 c hc
    simpa using this
theorem place_ok {k : Int} {m : Nat} (h0 : 0 ≤ k) (h6 : k ≤ 6) (h1 : 1 ≤ m) (hm : m < 2 ^ k.toNat) : VP k (placeOf k.toNat m) ∧ (placeOf k.toNat m).length ≤ 6 := by
  have h64 : m < 64 := Nat.lt_of_lt_of_le hm (Nat.le_trans (Nat.pow_le_pow_right (by decide) (show k.toNat ≤ 6 by omega)) (by decide))
  obtain ⟨p1, p2, p3, p4⟩ := place_fin (k := k.toNat) (by omega) h64 h1 hm
  exact ⟨⟨p1, has_of p2, asc_of _ p3⟩, p4⟩
theorem en_I0 {σ : L2.St} {H : Hp} {d : Addr} {ta tb : TE} {g : Int → Int → V} {i : Int} {A : Int → Prop} (hD : DrawsAt H d) (h1 : Ev ta σ H (.int i)) (h2 : ∀ H1, Ex H H1 → DrawsAt H1 d → EvN tb σ H1 d (fun v _ => ∃ x : Int, v = .int x ∧ A x)) :
    EvN (tOp (rI0 g) ta tb) σ H d (fun v _ => ∃ x : Int, v = g i x ∧ A x) := fun Q q => h1 H (Ex.refl H) _ fun H1 e1 => h2 H1 e1 (hD.ex e1) _ fun v H2 x2 D2 ⟨x, hx, hA⟩ => ⟨i, x, rfl, hx, q _ H2 ((Dx.of e1).trans x2) D2 ⟨x, rfl, hA⟩⟩
section
variable {P : Program} {w : World} {K : PySem.W.Frag} {mg : Str → Option Value} {base : Heap}
/-! ### _law_place -/
abbrev nPlace : List Str := ["_law_draws_here", "_law_k", "_law_draw", "_law_j"]
theorem scPlace : FnScope nPlace ["_law_draws_here", "_law_k"] (defScope tPlace) := ⟨rfl, rfl, rfl, by decide +kernel, rfl, by decide +kernel, by decide +kernel⟩
def spPlace (K : PySem.W.Frag) : Sp := fun vs H Q _ => ∃ (d : Addr) (k : Int), vs = [.ref d, .int k] ∧ DrawsAt H d ∧ 1 ≤ k ∧ k ≤ 6 ∧ ∀ (z : Wd) H', VP k z → Dx d H H' → DrawsAt H' d → Q (.str (S z)) H'
theorem pow_le {k : Int} (h0 : 0 ≤ k) (h6 : k ≤ 6) : ((2 : Int) ^ k.toNat) ≤ 64 ∧ (2 : Int) ^ k.toNat = ((2 ^ k.toNat : Nat) : Int) := by
  have h : k = 0 ∨ k = 1 ∨ k = 2 ∨ k = 3 ∨ k = 4 ∨ k = 5 ∨ k = 6 := by omega
  rcases h with rfl | rfl | rfl | rfl | rfl | rfl | rfl <;> decide
theorem cal_place (D : DefK K mg "_law_place" "_law_place" tPlace ["_law_draws_here", "_law_k"]) (T : Glo mg) (C1 : C8.Cal P w K mg base 1 "_law_next" (spNext K) []) : C8.Cal P w K mg base 2 "_law_place" (spPlace K) [] := by
  refine calK D scPlace (fun vs H Q E h => ?_) (fun f cdv A outer s H vs Q E hr h => ?_)
  · obtain ⟨d, k, rfl, _⟩ := h
    rfl
  · obtain ⟨d, k, rfl, hD, k1, k6, q⟩ := h
    refine ⟨_, pss_cons (ps_set (i := 2) scPlace.nd rfl (.inr rfl) (pe_op op_add pe_int (pe_op op_mod (pe_callTy call_int1 (by rfl) T.int (by decide +kernel) (pa_cons (C8.pe_c C1 hr (by decide) (by rfl) (pa_cons (pv 0) pa_nil)) pa_nil)) (pe_op op_sub (pe_op op_shl pe_int (pv 1)) pe_int))))
      (pss_one (ps_ret (pe_join pe_str (pe_lc (own := [("_law_j", 3)]) (g := gName 3) rfl scPlace.nd (pi_range1 (by rfl) T.range (pa_cons (pv 1) pa_nil)) (blkOk_by (N := nPlace) (sc := defScope tPlace) (by decide +kernel))
            (fun _ _ _ _ _ => pg_name (i := 3) scPlace.nd rfl (.inl rfl))
            (fun _ _ _ _ _ => pts_one (pt_cmpR op_eq (pe_op op_mod (pe_callTy call_int1 (by rfl) T.int (by decide +kernel) (pa_cons (pe_op op_fdiv (pv 2) (pe_op op_shl pe_int (pv 3))) pa_nil)) pe_int) pe_int (nomark _)))
            (fun _ _ _ _ _ => pe_ix ix_str pe_str (pv 3) (fun _ _ => rfl)))))), ?_⟩
    obtain ⟨p1, p2⟩ := pow_le (k := k) (by omega) k6
    have p3 : (2 : Int) ≤ 2 ^ k.toNat := by
      have h : k = 1 ∨ k = 2 ∨ k = 3 ∨ k = 4 ∨ k = 5 ∨ k = 6 := by omega
      rcases h with rfl | rfl | rfl | rfl | rfl | rfl <;> decide
    refine q_asgN (en_I0 (g := fun i j => .int (i + j)) (A := fun x => 0 ≤ x ∧ x < 1 * 2 ^ k.toNat - 1) hD ev_c fun H1 e1 D1 => en_mod (m := 1 * 2 ^ k.toNat - 1) D1 (ev_var rfl) (fun H2 _ => ev_I0 (g := fun i j => .int (i - j)) (ev_Ic (g := fun i j => .int (i * 2 ^ j.toNat)) ev_c (ev_var rfl) ⟨by omega, by omega, by decide⟩) ev_c) (by omega)) fun v H1 x1 D1 hv => ?_
    obtain ⟨x, hx, h0, h1⟩ : ∃ x : Int, v = .int x ∧ 1 ≤ x ∧ x < 2 ^ k.toNat := by
      obtain ⟨x, hx, h0, h1⟩ := hv
      exact ⟨1 + x, hx, by omega, by omega⟩
    subst hx
    have hxm : ((x.toNat : Nat) : Int) = x := Int.toNat_of_nonneg (by omega)
    have hm : x.toNat < 2 ^ k.toNat := by omega
    obtain ⟨v1, v2⟩ := place_ok (k := k) (m := x.toNat) (by omega) k6 (by omega) hm
    refine s_ret (ev_is (ev_join (K := K) (ws := ((List.range k.toNat).filter fun i => decide (x.toNat / 2 ^ i % 2 = 1)).map fun i => [abc.getD i 0]) (ev_str str_nil) (el_is (el_lcR1 (n := k) (fun i => decide (x.toNat / 2 ^ i % 2 = 1)) (fun i => V.str (S [abc.getD i 0])) (ea_cons (ev_var rfl) ea_nil) (by omega) (fun _ => rfl)
      (fun i H2 e2 hi => ?_) (fun i H2 e2 hi _ => ?_)) ?_) ?_) ?_) fun H2 e2 => q _ H2 v1 (x1.trans (Dx.of e2)) (D1.ex e2)
    · have hi6 : i < 6 := by omega
      have hp : (1 : Int) * 2 ^ ((i : Nat) : Int).toNat = ((2 ^ i : Nat) : Int) := by
        rw [Int.toNat_natCast, Int.one_mul]
        have h : i = 0 ∨ i = 1 ∨ i = 2 ∨ i = 3 ∨ i = 4 ∨ i = 5 := by omega
        rcases h with rfl | rfl | rfl | rfl | rfl | rfl <;> decide
      have hpp : 0 < 2 ^ i ∧ 2 ^ i ≤ 64 := by
        have h : i = 0 ∨ i = 1 ∨ i = 2 ∨ i = 3 ∨ i = 4 ∨ i = 5 := by omega
        rcases h with rfl | rfl | rfl | rfl | rfl | rfl <;> decide
      refine et_test (ev_is (ev_eqI (ev_imod (i := ((x.toNat / 2 ^ i : Nat) : Int)) (ev_is (ev_Ic (g := fun i j => .int (i / j)) (ev_var rfl) (ev_Ic (g := fun i j => .int (i * 2 ^ j.toNat)) ev_c (ev_var rfl) ⟨by omega, by omega, by decide⟩) ⟨by rw [hp]; omega, by rw [hp]; omega⟩) ?_) ev_c (by decide)) ev_c) ?_)
      · rw [hp]
        congr 1
        rw [← hxm, Int.toNat_natCast]
        rfl
      · congr 1
        have e : (((x.toNat / 2 ^ i : Nat) : Int) % 2 = 1) ↔ (x.toNat / 2 ^ i % 2 = 1) := by omega
        exact decide_eq_decide.mpr e
    · have hi6 : i < 6 := by omega
      refine ev_ixS (a := abc) (i := i) (ev_str str_abc) (ev_var rfl) (by decide) ?_
      have h : i = 0 ∨ i = 1 ∨ i = 2 ∨ i = 3 ∨ i = 4 ∨ i = 5 := by omega
      rcases h with rfl | rfl | rfl | rfl | rfl | rfl <;> rfl
    · unfold given
      rw [List.map_map]
      rfl
    · rw [List.map_map]
      have e : ((((List.range k.toNat).filter fun i => decide (x.toNat / 2 ^ i % 2 = 1)).map (List.length ∘ fun i => [abc.getD i 0])).sum) = (placeOf k.toNat x.toNat).length := by
        unfold placeOf
        rw [List.length_map]
        generalize (List.range k.toNat).filter _ = l
        induction l with
        | nil => rfl
        | cons a r ih =>
          rw [List.map_cons, List.sum_cons, ih]
          simp
          omega
      rw [e]
      omega
    · congr 2
      unfold placeOf
      generalize (List.range k.toNat).filter _ = l
      induction l with
      | nil => rfl
      | cons a r ih =>
        rw [List.map_cons, List.flatten_cons, ih]
        rfl
end
end K23


namespace K23
open PySem L2 Evl
theorem cut_from1 : ∀ l : List Wd, l.length ≤ 2 → cutV (strsV l) (some 1) none = strsV (l.drop 1)
  | [], _ => rfl
  | [_], _ => rfl
  | [_, _], _ => rfl
  | _ :: _ :: _ :: _, h => by simp at h
theorem cut_to1 : ∀ l : List Wd, l.length ≤ 2 → cutV (strsV l) none (some 1) = strsV (l.take 1)
  | [], _ => rfl
  | [_], _ => rfl
  | [_, _], _ => rfl
  | _ :: _ :: _ :: _, h => by simp at h
theorem cut_last : ∀ l : List Wd, l.length ≤ 2 → cutV (strsV l) (some (-1)) none = strsV (l.drop (l.length - 1))
  | [], _ => rfl
  | [_], _ => rfl
  | [_, _], _ => rfl
  | _ :: _ :: _ :: _, h => by simp at h
theorem vpl_all {k : Int} {l : List Wd} {e : Int} (h : ∀ z ∈ l, VP k z) : VPl k l e := fun i p hp => .inl (h p (List.mem_of_getElem? hp))
section
variable {K : PySem.W.Frag} {σ : L2.St} {H : Hp} {ta tb tc te tk tm : TE} {d : Addr}
theorem en_text {E : XK} {k : Int} {B : Nat} (hB : B ≤ 100) (k1 : 1 ≤ k) (k6 : k ≤ 6) (hD : DrawsAt H d) (h1 : Ev ta σ H (.ref d)) (h2 : ∀ H1, Ex H H1 → Ev tb σ H1 (.int k)) (h3 : ∀ H1, Ex H H1 → DrawsAt H1 d → EvN tc σ H1 d (fun v _ => ∃ x : Int, v = .int x ∧ 0 ≤ x ∧ x ≤ (B : Int))) :
    EvN (tCall (spText K) [] E (tCons ta (tCons tb (tCons tc tNil)))) σ H d (fun v _ => ∃ z : Wd, v = .str (S z) ∧ z.length ≤ B ∧ ∀ c ∈ z, c ∈ ltrs k) := fun Q q =>
  h1 H (Ex.refl H) _ fun H1 e1 => h2 H1 e1 H1 (Ex.refl _) _ fun H2 e2 => h3 H2 (e1.trans e2) (hD.ex (e1.trans e2)) _ fun v H3 x3 D3 ⟨x, hx, x0, x1⟩ => by
    subst hx
    exact ⟨d, k, x, rfl, D3, k1, k6, x0, by omega, fun z H4 hz hc x4 D4 => q _ H4 (((Dx.of (e1.trans e2)).trans x3).trans x4) D4 ⟨z, rfl, by omega, hc⟩⟩
theorem en_place {E : XK} {k : Int} (k1 : 1 ≤ k) (k6 : k ≤ 6) (hD : DrawsAt H d) (h1 : Ev ta σ H (.ref d)) (h2 : ∀ H1, Ex H H1 → Ev tb σ H1 (.int k)) :
    EvN (tCall (spPlace K) [] E (tCons ta (tCons tb tNil))) σ H d (fun v _ => ∃ z : Wd, v = .str (S z) ∧ VP k z) := fun Q q =>
  h1 H (Ex.refl H) _ fun H1 e1 => h2 H1 e1 H1 (Ex.refl _) _ fun H2 e2 => ⟨d, k, rfl, hD.ex (e1.trans e2), k1, k6, fun z H4 hz x4 D4 => q _ H4 ((Dx.of (e1.trans e2)).trans x4) D4 ⟨z, rfl, hz⟩⟩
/-- a tuple's slice -/
theorem et_slA {tl th : TO} {a : Addr} {xs : List V} {lo hi : Option Int} (h : Ev te σ H (.ref a)) (h1 : EvO tl σ H lo) (h2 : EvO th σ H hi) (hs : SqT K H a xs) {H1 : Hp} (e : Ex H H1) {Q : VK} (q : ∀ p H2, Ex H1 H2 → SqT K H2 p (cutV xs lo hi) → Q (.ref p) H2) : tSl (rSlA K) te tl th σ H1 Q :=
  h H1 e _ fun H2 e2 => h1 H2 (e.trans e2) _ fun H3 e3 => h2 H3 ((e.trans e2).trans e3) _ fun H4 e4 => by
    have e5 := (e2.trans e3).trans e4
    have hx := ex_t (e.trans e5) hs
    refine ⟨a, xs, rfl, hx, fun hw => q a H4 e5 ?_, fun _ p hp => q p _ (e5.trans (Ex.new hp)) (st_of upd_same)⟩
    have : cutV xs lo hi = xs := by
      unfold cutV
      rw [hw.1, hw.2]
      simp
    rw [this]
    exact hx
end
section
variable {P : Program} {w : World} {K : PySem.W.Frag} {mg : Str → Option Value} {base : Heap}
/-! ### _law_rule -/
abbrev nRule : List Str := ["_law_draws_here", "_law_k", "_law_letter", "_law_new", "_law_left", "_law_right", "_law_edge", "_law_j"]
theorem scRule : FnScope nRule ["_law_draws_here", "_law_k"] (defScope tRule) := ⟨rfl, rfl, rfl, by decide +kernel, rfl, by decide +kernel, by decide +kernel⟩
def spRule (K : PySem.W.Frag) : Sp := fun vs H Q _ => ∃ (d : Addr) (k : Int), vs = [.ref d, .int k] ∧ DrawsAt H d ∧ 2 ≤ k ∧ k ≤ 6 ∧ ∀ (v : V) (r : Rl) H', RuleAt K H' v r → VR k r → Dx d H H' → DrawsAt H' d → Q v H'
theorem cal_rule (D : DefK K mg "_law_rule" "_law_rule" tRule ["_law_draws_here", "_law_k"]) (T : Glo mg) (C1 : C8.Cal P w K mg base 1 "_law_next" (spNext K) []) (C2 : C8.Cal P w K mg base 2 "_law_text" (spText K) []) (C3 : C8.Cal P w K mg base 2 "_law_place" (spPlace K) []) :
    C8.Cal P w K mg base 3 "_law_rule" (spRule K) [] := by
  refine calK D scRule (fun vs H Q E h => ?_) (fun f cdv A outer s H vs Q E hr h => ?_)
  · obtain ⟨d, k, rfl, _⟩ := h
    rfl
  · obtain ⟨d, k, rfl, hD, k2, k6, q⟩ := h
    refine ⟨_, pss_cons (ps_set (i := 2) scRule.nd rfl (.inl rfl) (pe_ix ix_str pe_str (pe_op op_mod (pe_callTy call_int1 (by rfl) T.int (by decide +kernel) (pa_cons (C8.pe_c C1 hr (by decide) (by rfl) (pa_cons (pv 0) pa_nil)) pa_nil)) (pv 1)) (fun _ _ => rfl)))
      (pss_cons (ps_set (i := 3) scRule.nd rfl (.inl rfl) (C8.pe_c C2 hr (by decide) (by rfl) (pa_cons (pv 0) (pa_cons (pv 1) (pa_cons (pe_op op_add pe_int (pe_op op_mod (pe_callTy call_int1 (by rfl) T.int (by decide +kernel) (pa_cons (C8.pe_c C1 hr (by decide) (by rfl) (pa_cons (pv 0) pa_nil)) pa_nil)) pe_int)) pa_nil)))))
      (pss_cons (ps_setLc (i := 4) (own := [("_law_j", 7)]) (g := gName 7) (tt := tYes) rfl scRule.nd rfl rfl rfl (pi_range1 (by rfl) T.range (pa_cons (pe_ix (r := rIxL K) ix_list (pe_lst (pa_cons pe_int (pa_cons pe_int (pa_cons pe_int (pa_cons pe_int pa_nil))))) (pe_op op_mod (pe_callTy call_int1 (by rfl) T.int (by decide +kernel) (pa_cons (C8.pe_c C1 hr (by decide) (by rfl) (pa_cons (pv 0) pa_nil)) pa_nil)) pe_int) (fun _ _ => rfl)) pa_nil)) (blkOk_by (N := nRule) (sc := defScope tRule) (by decide +kernel))
            (fun _ _ _ _ _ => pg_name (i := 7) scRule.nd rfl (.inl rfl)) (fun _ _ _ _ _ => pts_nil)
            (fun _ _ _ _ _ => C8.pe_c C3 hr (by decide) (by rfl) (pa_cons (pv 0) (pa_cons (pv 1) pa_nil))))
      (pss_cons (ps_setLc (i := 5) (own := [("_law_j", 7)]) (g := gName 7) (tt := tYes) rfl scRule.nd rfl rfl rfl (pi_range1 (by rfl) T.range (pa_cons (pe_ix (r := rIxL K) ix_list (pe_lst (pa_cons pe_int (pa_cons pe_int (pa_cons pe_int (pa_cons pe_int pa_nil))))) (pe_op op_mod (pe_callTy call_int1 (by rfl) T.int (by decide +kernel) (pa_cons (C8.pe_c C1 hr (by decide) (by rfl) (pa_cons (pv 0) pa_nil)) pa_nil)) pe_int) (fun _ _ => rfl)) pa_nil)) (blkOk_by (N := nRule) (sc := defScope tRule) (by decide +kernel))
            (fun _ _ _ _ _ => pg_name (i := 7) scRule.nd rfl (.inl rfl)) (fun _ _ _ _ _ => pts_nil)
            (fun _ _ _ _ _ => C8.pe_c C3 hr (by decide) (by rfl) (pa_cons (pv 0) (pa_cons (pv 1) pa_nil))))
      (pss_cons (ps_set (i := 6) scRule.nd rfl (.inl rfl) (pe_op op_mod (pe_callTy call_int1 (by rfl) T.int (by decide +kernel) (pa_cons (C8.pe_c C1 hr (by decide) (by rfl) (pa_cons (pv 0) pa_nil)) pa_nil)) pe_int))
      (pss_cut (ps_if (pt_cmpR op_eq (pv 6) pe_int (nomark _)) (pss_one (ps_set (i := 4) scRule.nd rfl (.inl rfl) (pe_op op_cat (pe_lst (pa_cons pe_str pa_nil)) (pe_slice sl_list (pv 4) (po_some pe_int) po_none)))) pss_nil)
      (pss_cut (ps_if (pt_cmpR op_eq (pv 6) pe_int (nomark _)) (pss_one (ps_set (i := 5) scRule.nd rfl (.inl rfl) (pe_op op_cat (pe_slice sl_list (pv 5) po_none (po_some pe_int)) (pe_lst (pa_cons pe_str pa_nil))))) pss_nil)
      (pss_one (ps_ret (pe_tup (pa_cons (pv 2) (pa_cons (pv 3) (pa_cons (pe_callTy call_tuple_of (by rfl) T.tuple (by decide +kernel) (pa_cons (pv 4) pa_nil)) (pa_cons (pe_callTy call_tuple_of (by rfl) T.tuple (by decide +kernel) (pa_cons (pv 5) pa_nil)) pa_nil))))))))))))), ?_⟩
    refine q_asgN (en_letter k6 (ev_str str_abc) (fun H1 e1 => en_mod (hD.ex e1) (ev_var rfl) (fun _ _ => ev_var rfl) (by omega)) hD) fun v H1 x1 D1 ⟨c, hc, hv⟩ => ?_
    subst hv
    refine q_asgN (en_text (B := 2) (by decide) (by omega) k6 D1 (ev_var rfl) (fun _ _ => ev_var rfl) fun H2 e2 D2 => (en_I0 (g := fun i j => .int (i + j)) (A := fun x => 0 ≤ x ∧ x < 2) D2 ev_c fun H3 e3 D3 => en_mod D3 (ev_var rfl) (fun _ _ => ev_c) (by decide)).imp fun v H3 _ _ ⟨x, hv, h0, h1⟩ => ⟨1 + x, hv, by omega, by omega⟩) fun v H2 x2 D2 ⟨nw, hv, hnl, hnc⟩ => ?_
    subst hv
    refine q_asgN (en_lc (m := 2) (G := VP k) (by decide) D2 (fun Q' q' => ena_one (en_pick (m := 4) (xs := [.int 0, .int 1, .int 1, .int 2]) (by decide) (ea_cons ev_c (ea_cons ev_c (ea_cons ev_c (ea_cons ev_c ea_nil)))) (by decide) (fun H3 e3 D3 => en_mod D3 (ev_var rfl) (fun _ _ => ev_c) (by decide)) D2) _ fun vs H3 x3 D3 ⟨v, hvs, hv⟩ => q' vs H3 x3 D3 (by
        subst hvs
        simp only [List.mem_cons, List.not_mem_nil, or_false] at hv
        rcases hv with rfl | rfl | rfl | rfl
        · exact ⟨0, rfl, by decide⟩
        · exact ⟨1, rfl, by decide⟩
        · exact ⟨1, rfl, by decide⟩
        · exact ⟨2, rfl, by decide⟩)) (fun _ => rfl) (fun i H3 x3 D3 => en_place (by omega) k6 D3 (ev_var rfl) fun _ _ => ev_var rfl)) fun v H3 x3 D3 ⟨ll, lf, hv, hll, h3, hl3, hG3⟩ => ?_
    subst hv
    have hld : ll ≠ d := draws_ne D2 hll
    refine q_asgN (en_lc (m := 2) (G := VP k) (by decide) D3 (fun Q' q' => ena_one (en_pick (m := 4) (xs := [.int 0, .int 1, .int 0, .int 2]) (by decide) (ea_cons ev_c (ea_cons ev_c (ea_cons ev_c (ea_cons ev_c ea_nil)))) (by decide) (fun H3 e3 D3 => en_mod D3 (ev_var rfl) (fun _ _ => ev_c) (by decide)) D3) _ fun vs H3 x3 D3 ⟨v, hvs, hv⟩ => q' vs H3 x3 D3 (by
        subst hvs
        simp only [List.mem_cons, List.not_mem_nil, or_false] at hv
        rcases hv with rfl | rfl | rfl | rfl
        · exact ⟨0, rfl, by decide⟩
        · exact ⟨1, rfl, by decide⟩
        · exact ⟨0, rfl, by decide⟩
        · exact ⟨2, rfl, by decide⟩)) (fun _ => rfl) (fun i H3 x3 D3 => en_place (by omega) k6 D3 (ev_var rfl) fun _ _ => ev_var rfl)) fun v H4 x4 D4 ⟨rr, rt, hv, hrr, h4, hl4, hG4⟩ => ?_
    subst hv
    have hrd : rr ≠ d := draws_ne D3 hrr
    refine q_asgN (en_mod D4 (ev_var rfl) (fun _ _ => ev_c) (by decide)) fun v H5 x5 D5 ⟨eg, hv, _, _⟩ => ?_
    subst hv
    have x6 := (((x1.trans x2).trans x3).trans x4).trans x5
    have h5l := x5 ll _ hld (x4 ll _ hld h3)
    have h5r := x5 rr _ hrd h4
    refine q_cut (M := fun σ' H' => ∃ ll lf, σ' = [some (.ref d), some (.int k), some (.str (S [c])), some (.str (S nw)), some (.ref ll), some (.ref rr), some (.int eg), none] ∧ Dx d H H' ∧ DrawsAt H' d ∧ H' ll = some (.lst (strsV lf)) ∧ H' rr = some (.lst (strsV rt)) ∧ lf.length ≤ 2 ∧ VPl k lf 0) ?_ fun σ' H6 hM => ?_
    · refine s_when (H := H5) (et_test (ev_eqI (ev_var rfl) ev_c)) (fun _ H6 e6 => ?_) (fun _ H6 e6 => ⟨ll, lf, rfl, x6.trans (Dx.of e6), D5.ex e6, e6 ll _ h5l, e6 rr _ h5r, hl3, vpl_all hG3⟩)
      refine s_asgL (xs := strsV ([35] :: lf.drop 1)) (el_is (el_cat (xs := strsV [[35]]) (ys := strsV (lf.drop 1)) (EvM.ofL (el_lst (ea_cons (ev_str str_edge) ea_nil) (by simp))) (EvM.ofL (el_is (el_sl (ev_var rfl) (eo_some ev_c) eo_none (sq_of (e6 ll _ h5l))) (cut_from1 lf hl3))) ?_) rfl) fun p H7 hp e7 h7 => ?_
      · rw [List.length_map, List.length_map, List.length_drop]
        simp
        omega
      · refine ⟨p, _, rfl, x6.trans (Dx.of (e6.trans e7)), D5.ex (e6.trans e7), h7, (e6.trans e7) rr _ h5r, ?_, fun i z hz => ?_⟩
        · rw [List.length_cons, List.length_drop]
          omega
        · cases i with
          | zero =>
            simp at hz
            exact .inr ⟨hz.symm, rfl⟩
          | succ i =>
            rw [List.getElem?_cons_succ] at hz
            exact .inl (hG3 z (List.mem_of_mem_drop (List.mem_of_getElem? hz)))
    obtain ⟨ll2, lf2, rfl, x7, D6, h6l, h6r, hl6, hV6⟩ := hM
    refine q_cut (M := fun σ' H' => ∃ rr rt, σ' = [some (.ref d), some (.int k), some (.str (S [c])), some (.str (S nw)), some (.ref ll2), some (.ref rr), some (.int eg), none] ∧ Dx d H H' ∧ DrawsAt H' d ∧ H' ll2 = some (.lst (strsV lf2)) ∧ H' rr = some (.lst (strsV rt)) ∧ rt.length ≤ 2 ∧ VPl k rt ((rt.length : Int) - 1)) ?_ fun σ' H7 hM => ?_
    · refine s_when (H := H6) (et_test (ev_eqI (ev_var rfl) ev_c)) (fun _ H7 e7 => ?_) (fun _ H7 e7 => ⟨rr, rt, rfl, x7.trans (Dx.of e7), D6.ex e7, e7 ll2 _ h6l, e7 rr _ h6r, hl4, vpl_all hG4⟩)
      refine s_asgL (xs := strsV (rt.take 1 ++ [[35]])) (el_is (el_cat (xs := strsV (rt.take 1)) (ys := strsV [[35]]) (EvM.ofL (el_is (el_sl (ev_var rfl) eo_none (eo_some ev_c) (sq_of (e7 rr _ h6r))) (cut_to1 rt hl4))) (EvM.ofL (el_lst (ea_cons (ev_str str_edge) ea_nil) (by simp))) ?_) List.map_append.symm) fun p H8 hp e8 h8 => ?_
      · rw [List.length_map, List.length_map, List.length_take]
        simp
        omega
      · refine ⟨p, _, rfl, x7.trans (Dx.of (e7.trans e8)), D6.ex (e7.trans e8), (e7.trans e8) ll2 _ h6l, h8, ?_, fun i z hz => ?_⟩
        · rw [List.length_append, List.length_take]
          simp
          omega
        · rcases get_snoc hz with ⟨_, hz⟩ | ⟨hi, rfl⟩
          · exact .inl (hG4 z (List.mem_of_mem_take (List.mem_of_getElem? hz)))
          · refine .inr ⟨rfl, ?_⟩
            rw [List.length_append, ← hi]
            simp
    obtain ⟨rr2, rt2, rfl, x8, D7, h7l, h7r, hl7, hV7⟩ := hM
    refine ⟨_, rfl, _, rfl, _, rfl, ll2, _, rfl, .inl ⟨sq_of h7l, fun t1 ht1 => ⟨_, rfl, rr2, strsV rt2, rfl, .inl ⟨sq_of ((Ex.new ht1) rr2 _ h7r), fun t2 ht2 => ⟨sz_of (show _ ≤ 100000 by simp), fun t ht => ?_⟩⟩⟩⟩⟩
    have n21 : t2 ≠ t1 := fun z => by
      rw [z, upd_same] at ht2
      cases ht2
    have n31 : t ≠ t1 := fun z => by
      rw [z, upd_ne n21.symm, upd_same] at ht
      cases ht
    have n32 : t ≠ t2 := fun z => by
      rw [z, upd_same] at ht
      cases ht
    have e9 := ((Ex.new ht1 (o := .tup (strsV lf2))).trans (Ex.new ht2 (o := .tup (strsV rt2)))).trans (Ex.new ht (o := .tup [.str (S [c]), .str (S nw), .ref t1, .ref t2]))
    refine q _ ⟨c, nw, lf2, rt2⟩ _ ⟨t, t1, t2, rfl, st_of upd_same, st_of (by rw [upd_ne n31.symm, upd_ne n21.symm, upd_same]), st_of (by rw [upd_ne n32.symm, upd_same])⟩ ⟨hc, has_of hnc, Nat.le_trans hnl (by decide), hl6, hl7, hV6, hV7⟩ (x8.trans (Dx.of e9)) (D7.ex e9)
/-! ### _law_cut -/
theorem scCut : FnScope ["_law_k", "_law_rule_here"] ["_law_k", "_law_rule_here"] (defScope tCut) := ⟨rfl, rfl, rfl, by decide +kernel, rfl, by decide +kernel, by decide +kernel⟩
def spCut (K : PySem.W.Frag) : Sp := fun vs H Q _ => ∃ (k : Int) (v : V) (r : Rl), vs = [.int k, v] ∧ RuleAt K H v r ∧ VR k r ∧ ∀ (v' : V) (r' : Rl) H', Ex H H' → RuleAt K H' v' r' → VR k r' → (k ≤ 3 ∨ sizeOf r' ≤ 2) → Q v' H'
theorem cal_cut (D : DefK K mg "_law_cut" "_law_cut" tCut ["_law_k", "_law_rule_here"]) : C8.Cal P w K mg base 1 "_law_cut" (spCut K) [] := by
  refine calK D scCut (fun vs H Q E h => ?_) (fun f cdv A outer s H vs Q E hr h => ?_)
  · obtain ⟨k, v, r, rfl, _⟩ := h
    rfl
  · obtain ⟨k, v, r, rfl, hR, hV, q⟩ := h
    obtain ⟨a, lf, rt, rfl, ha, hlf, hrt⟩ := id hR.ex
    refine ⟨_, pss_cons (ps_if (pt_cmpR op_gt (pv 0) pe_int (nomark _)) (pss_one (ps_ret (pe_tup (pa_cons (pe_ix (r := rIxT K) ix_tup (pv 1) pe_int (fun _ _ => rfl)) (pa_cons (pe_ix (r := rIxT K) ix_tup (pv 1) pe_int (fun _ _ => rfl))
      (pa_cons (pe_slice sl_tupA (pe_ix (r := rIxT K) ix_tup (pv 1) pe_int (fun _ _ => rfl)) (po_some (pe_un un_neg pe_int)) po_none) (pa_cons (pe_slice sl_tupA (pe_ix (r := rIxT K) ix_tup (pv 1) pe_int (fun _ _ => rfl)) po_none (po_some pe_int)) pa_nil))))))) pss_nil)
      (pss_one (ps_ret (pv 1))), ?_⟩
    refine q_when (H := H) (et_test (ev_I0 (g := fun i j => .bl (decide (j < i))) (ev_var rfl) ev_c)) (fun _ H1 e1 => ?_) (fun hb H1 e1 => ?_)
    · have h0 := ex_t e1 ha
      refine st_ret (st_tup (st_cons ?_))
      refine ev_ixT (i := 0) (ev_var (i := 1) rfl) ev_c h0 rfl H1 (Ex.refl _) _ fun H2 e2 => st_cons ?_
      refine ev_ixT (H := H1) (i := 1) (ev_var (i := 1) rfl) ev_c h0 rfl H2 e2 _ fun H3 e3 => st_cons ?_
      refine et_slA (lo := some (-1)) (hi := none) (H := H1) (ev_ixT (i := 2) (ev_var (i := 1) rfl) ev_c h0 rfl) (eo_some (ev_un ev_c ru_neg)) eo_none (ex_t e1 hlf) (e2.trans e3) fun t1 H4 e4 h4 => st_cons ?_
      refine et_slA (lo := none) (hi := some 1) (H := H1) (ev_ixT (i := 3) (ev_var (i := 1) rfl) ev_c h0 rfl) eo_none (eo_some ev_c) (ex_t e1 hrt) ((e2.trans e3).trans e4) fun t2 H5 e5 h5 => ⟨sz_of (show _ ≤ 100000 by simp), fun t ht => ?_⟩
      rw [cut_last _ hV.ll] at h4
      rw [cut_to1 _ hV.lr] at h5
      have hl1 : (r.left.drop (r.left.length - 1)).length ≤ 1 := by
        rw [List.length_drop]
        omega
      have hl2 : (r.right.take 1).length ≤ 1 := by
        rw [List.length_take]
        omega
      refine q _ ⟨r.c, r.new, r.left.drop (r.left.length - 1), r.right.take 1⟩ _ ((((e1.trans e2).trans e3).trans e4).trans (e5.trans (Ex.new ht))) ⟨t, t1, t2, rfl, st_of upd_same, ex_t (e5.trans (Ex.new ht)) h4, ex_t (Ex.new ht) h5⟩
        ⟨hV.c, hV.new, hV.newLen, Nat.le_trans hl1 (by decide), Nat.le_trans hl2 (by decide), fun i p hp => ?_, fun i p hp => ?_⟩ (.inr ?_)
      · have hi := (List.getElem?_eq_some_iff.mp hp).1
        have hi' : i < (r.left.drop (r.left.length - 1)).length := hi
        have hi0 : i = 0 := by omega
        subst hi0
        have hp' : r.left[r.left.length - 1 + 0]? = some p := by
          rw [← List.getElem?_drop]
          exact hp
        rcases hV.left _ p hp' with h | ⟨h, hj⟩
        · exact .inl h
        · exact .inr ⟨h, rfl⟩
      · have hi' : i < (r.right.take 1).length := (List.getElem?_eq_some_iff.mp hp).1
        have hi0 : i = 0 := by omega
        subst hi0
        have hp' : r.right[0]? = some p := by
          have : (r.right.take 1)[0]? = some p := hp
          rw [List.getElem?_take] at this
          exact this
        rcases hV.right _ p hp' with h | ⟨h, _⟩
        · exact .inl h
        · refine .inr ⟨h, ?_⟩
          show ((0 : Nat) : Int) = (((r.right.take 1).length : Nat) : Int) - 1
          omega
      · show (r.left.drop (r.left.length - 1)).length + (r.right.take 1).length ≤ 2
        omega
    · have hk : k ≤ 3 := by
        have := of_decide_eq_false hb
        omega
      exact s_ret (ev_var rfl) fun H2 e2 => q _ r H2 (e1.trans e2) (hR.mono (e1.trans e2)) hV (.inl hk)
end
end K23


namespace K23
open PySem L2 Evl
theorem RuleAt.monoT {K : PySem.W.Frag} {H H' : Hp} {v : V} {r : Rl} (h : RuleAt K H v r) (e : ExT H H') : RuleAt K H' v r := by
  obtain ⟨a, l, b, h1, h2, h3, h4⟩ := h.ex
  exact ⟨a, l, b, h1, SqT.monoT e h2, SqT.monoT e h3, SqT.monoT e h4⟩
theorem MachAt.monoT {K : PySem.W.Frag} {H H' : Hp} {v : V} {k : Int} {first : Wd} {rows : Rows} (h : MachAt K H v k first rows) (e : ExT H H') : MachAt K H' v k first rows := by
  obtain ⟨a, b, xs, h1, h2, h3, h4, h5⟩ := h.ex
  exact ⟨a, b, xs, h1, SqT.monoT e h2, SqT.monoT e h3, h4, fun i x row q1 q2 => (h5 i x row q1 q2).monoT e⟩
theorem cut_toN {xs : List V} {m : Nat} : cutV xs none (some (m : Int)) = xs.take m := by
  unfold cutV
  rw [HT.sIx_none, HT.sIx_nat, List.drop_zero, Nat.sub_zero]
  by_cases h : m ≤ xs.length
  · rw [Nat.min_eq_left h]
  · rw [Nat.min_eq_right (by omega), List.take_length, List.take_of_length_le (by omega)]
theorem seg_take {r : Rl} {z : Wd} {m : Nat} (h : m ≤ z.length) : (((List.range z.length).map fun (i : Nat) => K23.becomes r z (i : Int)).take m).flatten = seg r z 0 m := by
  unfold seg
  rw [← List.map_take, List.take_range, Nat.min_eq_left h]
  congr 1
  refine List.map_congr_left fun i _ => ?_
  congr 1
  omega
section
variable {K : PySem.W.Frag} {σ : L2.St} {H : Hp} {ta tb tc te tk tm : TE} {d : Addr}
theorem en_catL {xs : List V} {G : List V → Prop} (hD : DrawsAt H d) (h1 : EvL ta σ H xs) (h2 : ∀ H1, Ex H H1 → DrawsAt H1 d → EvN tb σ H1 d (fun v H2 => ∃ p ys, v = .ref p ∧ H2 p = some (.lst ys) ∧ G ys)) (hz : ∀ ys, G ys → xs.length + ys.length ≤ 100000) :
    EvN (tOp rCat ta tb) σ H d (fun v H2 => ∃ p ys, v = .ref p ∧ p ≠ d ∧ H2 p = some (.lst (xs ++ ys)) ∧ G ys) := fun Q q => h1 H (Ex.refl H) _ fun a H1 ha e1 h => h2 H1 e1 (hD.ex e1) _ fun v H2 x2 D2 ⟨b, ys, hv, hb, hG⟩ => by
  subst hv
  refine ⟨a, b, xs, ys, rfl, rfl, x2 a _ (draws_ne hD ha) h, hb, sz_of (hz ys hG), fun p hp => q _ _ (((Dx.of e1).trans x2).trans (Dx.of (Ex.new hp))) (D2.ex (Ex.new hp)) ⟨p, ys, rfl, draws_ne D2 hp, upd_same, hG⟩⟩
theorem en_addS {a : Wd} {A : Wd → Prop} (hD : DrawsAt H d) (h1 : Ev ta σ H (.str (S a))) (h2 : ∀ H1, Ex H H1 → DrawsAt H1 d → EvN tb σ H1 d (fun v _ => ∃ z : Wd, v = .str (S z) ∧ A z)) (hz : ∀ z, A z → a.length + z.length ≤ 100000) :
    EvN (tOp rAddStr ta tb) σ H d (fun v _ => ∃ z : Wd, v = .str (S (a ++ z)) ∧ A z) := fun Q q => h1 H (Ex.refl H) _ fun H1 e1 => h2 H1 e1 (hD.ex e1) _ fun v H2 x2 D2 ⟨z, hv, hA⟩ => by
  subst hv
  refine ⟨S a, S z, rfl, rfl, by
    rw [SX.S_len, SX.S_len]
    exact sz_of (hz z hA), ?_⟩
  rw [SX.S_cat]
  exact q _ H2 ((Dx.of e1).trans x2) D2 ⟨z, rfl, hA⟩
end
def spLaw (K : PySem.W.Frag) : Sp := fun vs H Q _ => ∃ (a : Addr) (ns : List Int), vs = [.ref a] ∧ SqL K H a (ns.map V.int) ∧ ns.length ≤ 63 ∧ ∀ H', Q (.bl true) H'
section
variable {P : Program} {w : World} {K : PySem.W.Frag} {mg : Str → Option Value} {base : Heap}
abbrev nLaw : List Str := ["_law_script", "_law_draws_here", "_law_k", "_law_rule_here", "_law_machine", "_law_ahead", "_law_words_here", "_law_j", "_law_word", "_law_due", "_law_longer", "_law_pieces", "_law_at", "_law_begun"]
theorem scLaw : FnScope nLaw ["_law_script"] (defScope tLaw) := ⟨rfl, rfl, rfl, by decide +kernel, rfl, by decide +kernel, by decide +kernel⟩
theorem ok_law {f : Addr} {fd : FuncData} (F : Fun K "law" "law" tLaw f fd) (T : Glo mg) (Cd : C8.Cal P w K mg base 2 "_law_draws" (spDraws K) []) (Cn : C8.Cal P w K mg base 1 "_law_next" (spNext K) []) (Ct : C8.Cal P w K mg base 2 "_law_text" (spText K) [])
    (Cr : C8.Cal P w K mg base 3 "_law_rule" (spRule K) []) (Cc : C8.Cal P w K mg base 1 "_law_cut" (spCut K) []) (Cm : C8.Cal P w K mg base 7 "rule_machine" (spRuleMachine K) []) (Cw : C8.Cal P w K mg base 1 "_law_words" (spWords K) []) (Ca : C8.Cal P w K mg base 2 "_law_made" (spMade K) [])
    (Cf : C8.Cal P w K mg base 8 "form" (spForm K) []) (Cg : C8.Cal P w K mg base 6 "changed_rules" (spChangedR K) []) (Cs : C8.Cal P w K mg base 1 "_law_stands" (spIsThere K) []) (Cx : C8.Cal P w K mg base 8 "written" (spWritten K) []) : FnOk P w K mg base CX0 9 f fd ["_law_script"] (spLaw K) := by
  refine F.ok scLaw (fun vs H Q E h => ?_) (fun cdv A outer s H vs Q E hr h => ?_)
  · obtain ⟨a, ns, rfl, _⟩ := h
    rfl
  · obtain ⟨a, ns, rfl, ha, hl, q⟩ := h
    refine ⟨_, pss_cons (ps_set (i := 1) scLaw.nd rfl (.inr rfl) (C8.pe_c Cd hr (by decide) (by rfl) (pa_cons (pv 0) pa_nil)))
      (pss_cons (ps_expr (pe_bm0 PySem.F.plainAttrs_list PySem.F.slot_list_reverse PySem.F.type_list_reverse mt_reverse (pv 1)))
      (pss_cons (ps_set (i := 2) scLaw.nd rfl (.inr rfl) (pe_ix (r := rIxL K) ix_list (pe_lst (pa_cons pe_int (pa_cons pe_int (pa_cons pe_int (pa_cons pe_int (pa_cons pe_int (pa_cons pe_int (pa_cons pe_int (pa_cons pe_int pa_nil))))))))) (pe_op op_mod (pe_callTy call_int1 (by rfl) T.int (by decide +kernel) (pa_cons (C8.pe_c Cn hr (by decide) (by rfl) (pa_cons (pv 1) pa_nil)) pa_nil)) pe_int) (fun _ _ => rfl)))
      (pss_cons (ps_set (i := 3) scLaw.nd rfl (.inr rfl) (C8.pe_c Cc hr (by decide) (by rfl) (pa_cons (pv 2) (pa_cons (C8.pe_c Cr hr (by decide) (by rfl) (pa_cons (pv 1) (pa_cons (pv 2) pa_nil))) pa_nil))))
      (pss_cons (ps_set (i := 4) scLaw.nd rfl (.inl rfl) (C8.pe_c Cm hr (by decide) (by rfl) (pa_cons (pv 2) (pa_cons (pv 3) pa_nil))))
      (pss_cons (ps_set (i := 5) scLaw.nd rfl (.inl rfl) (pe_callB call_len_seq (by rfl) T.len PySem.boot_len (pa_cons (pe_ix (r := rIxT K) ix_tup (pv 3) pe_int (fun _ _ => rfl)) pa_nil)))
      (pss_cons (ps_set (i := 6) scLaw.nd rfl (.inl rfl) (pe_op op_cat (C8.pe_c Cw hr (by decide) (by rfl) (pa_cons (pv 2) (pa_cons (pe_callB (call_max2 rfl) (by rfl) T.max (by decide +kernel) (pa_cons pe_int (pa_cons (pe_op op_sub pe_int (pv 2)) pa_nil))) pa_nil)))
          (pe_lc (own := [("_law_j", 7)]) (g := gName 7) (tt := tYes) rfl scLaw.nd (pi_range1 (by rfl) T.range (pa_cons pe_int pa_nil)) (blkOk_by (N := nLaw) (sc := defScope tLaw) (by decide +kernel))
            (fun _ _ _ _ _ => pg_name (i := 7) scLaw.nd rfl (.inl rfl)) (fun _ _ _ _ _ => pts_nil)
            (fun _ _ _ _ _ => C8.pe_c Ct hr (by decide) (by rfl) (pa_cons (pv 1) (pa_cons (pv 2) (pa_cons pe_int pa_nil)))))))
      (pss_cons (ps_for PassesOwn.never rfl (pi_list (pv 6)) (pg_name (i := 8) scLaw.nd rfl (.inl rfl))
        (pss_cons (ps_set (i := 9) scLaw.nd rfl (.inl rfl) (C8.pe_c Ca hr (by decide) (by rfl) (pa_cons (pv 3) (pa_cons (pv 8) pa_nil))))
        (pss_one (ps_if (PW.pt (pw_or (pt_cmpR op_ne (C8.pe_c Cf hr (by decide) (by rfl) (pa_cons (pv 4) (pa_cons (pv 8) pa_nil))) (pv 9) (nomark _)) (pw_or1 (pt_cmpR op_ne (C8.pe_c Cg hr (by decide) (by rfl) (pa_cons (pv 2) (pa_cons (pv 3) (pa_cons (pv 8) pa_nil)))) (pv 9) (nomark _))))) (pss_one (ps_ret pe_bl)) pss_nil))))
      (pss_cons (ps_set (i := 8) scLaw.nd rfl (.inl rfl) (pe_ix (r := rIxL K) ix_list (pv 6) (pe_un un_neg pe_int) (fun _ _ => rfl)))
      (pss_cons (ps_set (i := 10) scLaw.nd rfl (.inr rfl) (pe_op op_add_str (pv 8) (C8.pe_c Ct hr (by decide) (by rfl) (pa_cons (pv 1) (pa_cons (pv 2) (pa_cons pe_int pa_nil))))))
      (pss_cons (ps_setLc (i := 11) (own := [("_law_at", 12)]) (g := gName 12) (tt := tYes) rfl scLaw.nd rfl rfl rfl (pi_range1 (by rfl) T.range (pa_cons (pe_callB call_len_str (by rfl) T.len PySem.boot_len (pa_cons (pv 10) pa_nil)) pa_nil)) (blkOk_by (N := nLaw) (sc := defScope tLaw) (by decide +kernel))
            (fun _ _ _ _ _ => pg_name (i := 12) scLaw.nd rfl (.inl rfl)) (fun _ _ _ _ _ => pts_nil)
            (fun _ _ _ _ _ => pe_ix (r := rIxL K) ix_list (pe_lst (pa_cons (pe_ix ix_str (pv 10) (pv 12) (fun _ _ => rfl)) (pa_cons (pe_ix (r := rIxT K) ix_tup (pv 3) pe_int (fun _ _ => rfl)) pa_nil))) (pe_callTy call_int1 (by rfl) T.int (by decide +kernel) (pa_cons (C8.pe_c Cs hr (by decide) (by rfl) (pa_cons (pv 3) (pa_cons (pv 10) (pa_cons (pv 12) pa_nil)))) pa_nil)) (fun _ _ => rfl)))
      (pss_cons (ps_set (i := 13) scLaw.nd rfl (.inl rfl) (pe_join pe_str (pe_slice sl_list (pv 11) po_none (po_some (pe_callB (call_max2 rfl) (by rfl) T.max (by decide +kernel) (pa_cons pe_int (pa_cons (pe_op op_sub (pe_callB call_len_str (by rfl) T.len PySem.boot_len (pa_cons (pv 8) pa_nil)) (pv 5)) pa_nil)))))))
      (pss_one (ps_ret (pe_cmpR op_eq (C8.pe_c Cx hr (by decide) (by rfl) (pa_cons (pv 4) (pa_cons (pv 8) pa_nil))) (pv 13) (nomark _))))))))))))))), ?_⟩
    refine ⟨.ref a, rfl, a, ns, rfl, ha, hl, fun d H1 hd e1 D1 => ?_⟩
    obtain ⟨ds, h1, hb1, hl1⟩ := D1
    refine ⟨.ref d, rfl, Or.inl ⟨rfl, _, sq_of h1⟩, d, _, rfl, rfl, h1, ?_⟩
    have D2 : DrawsAt (upd H1 d (.lst (ds.map V.int).reverse)) d := ⟨ds.reverse, by rw [upd_same, List.map_reverse], fun x hx => hb1 x (List.mem_reverse.mp hx), by rw [List.length_reverse]; exact hl1⟩
    generalize upd H1 d (.lst (ds.map V.int).reverse) = H2 at D2
    clear h1 hb1 hl1 ha hd e1
    refine q_asgN (en_pick (m := 8) (xs := [.int 2, .int 2, .int 2, .int 3, .int 3, .int 4, .int 5, .int 6]) (by decide) (ea_cons ev_c (ea_cons ev_c (ea_cons ev_c (ea_cons ev_c (ea_cons ev_c (ea_cons ev_c (ea_cons ev_c (ea_cons ev_c ea_nil)))))))) (by decide) (fun H3 e3 D3 => en_mod D3 (ev_var rfl) (fun _ _ => ev_c) (by decide)) D2) fun v H3 _ D3 hv => ?_
    obtain ⟨k, rfl, k2, k6⟩ : ∃ k : Int, v = .int k ∧ 2 ≤ k ∧ k ≤ 6 := by
      simp only [List.mem_cons, List.not_mem_nil, or_false] at hv
      rcases hv with rfl | rfl | rfl | rfl | rfl | rfl | rfl | rfl <;> exact ⟨_, rfl, by decide, by decide⟩
    refine ⟨.int k, rfl, .ref d, rfl, .int k, rfl, d, k, rfl, D3, k2, k6, fun v r0 H4 hR0 hV0 _ D4 => ⟨k, v, r0, rfl, hR0, hV0, fun v' r H5 e5 hR hV hsm => ?_⟩⟩
    have hB : RB k r := ⟨k2, k6, hV.ll, hV.lr, hsm⟩
    have D5 := D4.ex e5
    refine ⟨.int k, rfl, v', rfl, k, v', r, rfl, hR, hV, hB, fun nu vm H6 e6 hM hNu => ?_⟩
    have D6 := D5.ex e6
    replace hR := hR.mono e6
    have hG := good_rows k6 hNu
    have hVM := vm_rows hB hV hNu
    have hll := hV.ll
    have hlr := hV.lr
    have hn3 := hV.newLen
    obtain ⟨ra, lf, rt, rfl, hra, hlf, hrt⟩ := id hR.ex
    refine q_asg (H := H6) (v := .int (r.right.length : Int)) (ev_is (ev_lenT (ev_ixT (i := 3) (ev_var rfl) ev_c hra rfl) hrt) (by rw [List.length_map])) fun H7 e7 => ?_
    have D7 := D6.ex e7
    replace hR := hR.mono e7
    replace hM := hM.mono e7
    have hkl : (ltrs k).length = k.toNat := by
      rw [ltrs_len]
      omega
    have hnn : (if 6 - k > 1 then 6 - k else 1) = (((if 6 - k > 1 then 6 - k else 1).toNat : Nat) : Int) := by
      split <;> omega
    have hwb : ((ltrs k).length ≤ 3 ∧ (if 6 - k > 1 then 6 - k else 1).toNat ≤ 4) ∨ ((ltrs k).length ≤ 6 ∧ (if 6 - k > 1 then 6 - k else 1).toNat ≤ 2) := by
      rw [hkl]
      have h : k = 2 ∨ k = 3 ∨ k = 4 ∨ k = 5 ∨ k = 6 := by omega
      rcases h with rfl | rfl | rfl | rfl | rfl <;> decide
    generalize (if 6 - k > 1 then 6 - k else 1).toNat = n at hnn hwb
    obtain ⟨hwl, _, _⟩ := words_len (ltrs k) hwb
    refine q_asgN (en_catL (xs := strsV (wordsM (ltrs k) n)) (G := fun ys => ∃ ws, ys = strsV ws ∧ ws.length ≤ 6 ∧ ∀ z ∈ ws, z.length ≤ 9 ∧ ∀ c ∈ z, c ∈ ltrs k) D7 (el_call (ea_cons (ev_var rfl) (ea_cons (ev_is (ev_max2 ev_c (ev_I0 (g := fun i j => .int (i - j)) ev_c (ev_var rfl))) (by rw [hnn])) ea_nil)) (l_words (by omega) k6 hwb))
      (fun H8 e8 D8 => (en_lc (m := 6) (G := fun z => z.length ≤ 9 ∧ ∀ c ∈ z, c ∈ ltrs k) (by decide) D8 (ena_int (x := 6) D8 ev_c (by decide)) (fun _ => rfl) (fun i H9 x9 D9 => en_text (B := 9) (by decide) (by omega) k6 D9 (ev_var rfl) (fun _ _ => ev_var rfl) fun H10 e10 D10 => (en_of D10 (ev_c (v := .int 9))).imp fun v _ _ _ hv => ⟨9, hv, by decide, by decide⟩)).imp
        fun v H9 _ _ ⟨p, ws, hv, _, h9, hl9, hG9⟩ => ⟨p, strsV ws, hv, h9, ws, rfl, hl9, hG9⟩) (fun ys ⟨ws, hy, hl9, _⟩ => by
          rw [hy, List.length_map, List.length_map]
          omega)) fun v H8 x8 D8 ⟨wl, ys, hv, hwd, h8, ws6, hys, hl6, hG6⟩ => ?_
    subst hv hys
    have hT := x8.ext D7
    replace hR := hR.monoT hT
    replace hM := hM.monoT hT
    have hall : ∀ z ∈ wordsM (ltrs k) n ++ ws6, z.length ≤ 9 ∧ ∀ c ∈ z, c ∈ ltrs k := fun z hz => by
      rcases List.mem_append.mp hz with hz | hz
      · obtain ⟨g1, g2⟩ := words_mem.mp hz
        exact ⟨by omega, g2⟩
      · exact hG6 z hz
    rw [show strsV (wordsM (ltrs k) n) ++ strsV ws6 = strsV (wordsM (ltrs k) n ++ ws6) from List.map_append.symm] at h8
    have hne : wordsM (ltrs k) n ++ ws6 ≠ [] := fun e => by
      have := (List.getElem?_eq_some_iff.mp (words_start (ltrs k) n)).1
      have e2 := congrArg List.length e
      rw [List.length_append, List.length_nil] at e2
      omega
    generalize wordsM (ltrs k) n ++ ws6 = ws at hall h8 hne
    refine q_forLn (xs := strsV ws) (ev_var rfl) (sq_of h8) (fun i σ H' => ∃ x8 x9, σ = [some (.ref a), some (.ref d), some (.int k), some (.ref ra), some vm, some (.int (r.right.length : Int)), some (.ref wl), none, x8, x9, none, none, none, none] ∧ Ex H8 H')
      (fun H9 e9 => ⟨none, none, rfl, e9⟩) (fun i σ H' _ hp => by
        obtain ⟨_, _, _, e9⟩ := hp
        exact sq_of (e9 wl _ h8)) (fun i x σ H9 hx hp => ?_) (fun σ H9 hp => ?_)
    · obtain ⟨x8, x9, rfl, e9⟩ := hp
      obtain ⟨hi, rfl, hz⟩ := strsV_get hx
      generalize ws.getD i [] = z at hz
      obtain ⟨z1, z2⟩ := hall z (List.mem_of_getElem? hz)
      refine q_asg (v := .str (S (made r z))) (ev_call (ea_cons (ev_var rfl) (ea_cons (ev_var rfl) ea_nil)) (v_made (hR.mono e9) (by omega) hll hlr hn3)) fun H10 e10 => ?_
      have e11 := e9.trans e10
      have hfm : formM [] (rowsM k r nu) z = made r z := by
        show [] ++ (walkM (rowsM k r nu) 0 z).1 ++ lastM (rowsM k r nu) (walkM (rowsM k r nu) 0 z).2 = _
        rw [List.nil_append]
        exact form_made hG z2
      refine s_when (b := false) (et_is (et_or (et_test (ev_neS (a := formM [] (rowsM k r nu) z) (b := made r z) (ev_call (ea_cons (ev_var rfl) (ea_cons (ev_var rfl) ea_nil)) (v_form ⟨hM.mono e11, hVM, by simp, rfl, by omega, has_of z2⟩)) (ev_var rfl))) fun _ =>
        et_test (ev_neS (a := made r z) (b := made r z) (ev_call (ea_cons (ev_var rfl) (ea_cons (ev_var rfl) (ea_cons (ev_var rfl) ea_nil))) (v_changedR k2 k6 (hR.mono e11) hV (by omega) (has_of z2))) (ev_var rfl))) ?_) (fun hc => nomatch hc) (fun _ H12 e12 => ⟨_, _, rfl, e11.trans e12⟩)
      rw [hfm, decide_eq_true rfl]
      rfl
    · obtain ⟨x8', x9, rfl, e9⟩ := hp
      obtain ⟨ini, wz, rfl⟩ : ∃ ini wz, ws = ini ++ [wz] := ⟨ws.dropLast, ws.getLast hne, (List.dropLast_concat_getLast hne).symm⟩
      obtain ⟨z1, z2⟩ := hall wz (by simp)
      have h9 := e9 wl _ h8
      refine q_asg (v := .str (S wz)) (ev_op (ev_var rfl) (ev_un ev_c ru_neg) (rv_ixL (sq_of h9) (by
        rw [show strsV (ini ++ [wz]) = strsV ini ++ [V.str (S wz)] from List.map_append]
        exact atI_last _ _))) fun H10 e10 => ?_
      have D10 := D8.ex (e9.trans e10)
      refine q_asgN (en_addS (a := wz) (A := fun u => u.length ≤ 4 ∧ ∀ c ∈ u, c ∈ ltrs k) D10 (ev_var rfl) (fun H11 e11 D11 => en_text (B := 4) (by decide) (by omega) k6 D11 (ev_var rfl) (fun _ _ => ev_var rfl) fun H12 e12 D12 => (en_of D12 (ev_c (v := .int 4))).imp fun v _ _ _ hv => ⟨4, hv, by decide, by decide⟩) (fun u hu => by
        have := hu.1
        omega)) fun v H11 x11 D11 ⟨u, hv, u1, u2⟩ => ?_
      subst hv
      have hT2 := x11.ext D10
      replace hR := (hR.mono (e9.trans e10)).monoT hT2
      replace hM := (hM.mono (e9.trans e10)).monoT hT2
      have hlen : (wz ++ u).length ≤ 13 := by
        rw [List.length_append]
        omega
      have hwu : wz.length ≤ (wz ++ u).length := by
        rw [List.length_append]
        omega
      refine q_asgL (xs := piecesV r (wz ++ u)) (el_lcR (n := (wz ++ u).length) (fun (i : Nat) => V.str (S (K23.becomes r (wz ++ u) (i : Int)))) (ea_cons (ev_lenS (z := wz ++ u) (ev_var rfl) (by omega)) ea_nil) (by omega) (fun _ => rfl) fun i H12 e12 hi => ?_) fun pl H12 _ e12 h12 => ?_
      · obtain ⟨ra', lf', rt', he, hra', _, _⟩ := (hR.mono e12).ex
        cases he
        have hzi : (wz ++ u)[i]? = some (wz ++ u)[i] := List.getElem?_eq_getElem hi
        rw [becomes_at hi]
        refine ev_opL1 (xs := [.str (S [(wz ++ u)[i]]), .str (S r.new)]) (el_lst (ea_cons (ev_ixS (i := i) (ev_var rfl) (ev_var rfl) (by omega) hzi) (ea_cons (ev_ixT (i := 1) (ev_var rfl) ev_c hra' rfl) ea_nil)) (by simp))
          (fun H13 e13 => ev_intB (ev_call (ea_cons (ev_var rfl) (ea_cons (ev_var rfl) (ea_cons (ev_var rfl) ea_nil))) (v_is_there ((hR.mono e12).mono e13) (by omega) hi (by omega) (by omega)))) fun p H13 h13 e13 => rv_ixL (sq_of h13) ?_
        cases isThere r (wz ++ u) (i : Int) with
        | true => exact atI_nat (j := 1) rfl
        | false => exact atI_nat (j := 0) rfl
      · have hseg := seg_take (r := r) (z := wz ++ u) (m := wz.length - r.right.length) (by omega)
        refine q_asg (v := .str (S (seg r (wz ++ u) 0 (wz.length - r.right.length)))) (ev_is (ev_join (K := K) (ws := ((List.range (wz ++ u).length).map fun (i : Nat) => K23.becomes r (wz ++ u) (i : Int)).take (wz.length - r.right.length)) (ev_str str_nil)
          (el_is (el_sl (ev_var rfl) eo_none (eo_some (i := ((wz.length - r.right.length : Nat) : Int)) (ev_is (ev_max2 ev_c (ev_I0 (g := fun i j => .int (i - j)) (ev_lenS (z := wz) (ev_var rfl) (by omega)) (ev_var rfl))) (by rw [max0]))) (sq_of h12)) ?_) ?_) (by rw [hseg])) fun H13 e13 => ?_
        · rw [cut_toN, List.map_take, List.map_map]
          rfl
        · refine Nat.le_trans (sum_le' (m := 3) _ fun o ho => ?_) ?_
          · obtain ⟨i, _, rfl⟩ := List.mem_map.mp (List.mem_of_mem_take ho)
            exact becomes_len hn3
          · rw [List.length_take, List.length_map, List.length_range]
            omega
        · have hwr := written_made hG u z2
          refine s_ret (ev_is (ev_eqS (a := [] ++ (walkM (rowsM k r nu) 0 wz).1) (b := seg r (wz ++ u) 0 (wz.length - r.right.length)) (ev_call (ea_cons (ev_var rfl) (ea_cons (ev_var rfl) ea_nil)) (v_written ⟨hM.mono (e12.trans e13), hVM, by simp, rfl, by omega, has_of z2⟩)) (ev_var rfl)) ?_) fun H14 _ => q H14
          rw [List.nil_append, hwr, decide_eq_true rfl]
end
end K23


namespace K23
open PySem L2 Evl
/-! ### what the top has written -/
section
variable {K : PySem.W.Frag} {h : Heap} {mg : Str → Option Value}
theorem defK_mk {x y : Str} {st : Stmt} {ps : List Str} {f : Addr} {oc : Value} {od an : Option Addr} {osl : Array (Option Value)} {kV doc pm cdv ct : Value} (X : K.In h) (G : h.Ns mainGlobals mg) (a : PySem.W.nsIn K mainGlobals x = some (some (.ref f)))
    (l : K.lookup f = some ⟨oc, od, .func (PySem.W.fnOf y y (defArgs st) (defBody st) (defScope st) .none kV doc pm an cdv ct), osl⟩) (c : PySem.W.codeIn K cdv y = true) (k : PySem.W.keepIn K (.ref f) = true)
    (b : ∀ (kV doc pm : Value) (an : Option Addr) (cdv ct : Value) (us : List Value), us.length = ps.length → bindArgs (PySem.W.fnOf y y (defArgs st) (defBody st) (defScope st) .none kV doc pm an cdv ct) ⟨us, []⟩ = pure (ps.zip us)) : DefK K mg x y st ps :=
  ⟨f, _, fun_mk l c k, PySem.W.mg_of X G a, (fun_mk l c k).binds b⟩
theorem metK_mk {m qual : Str} {st : Stmt} {ps : List Str} {C f : Addr} {oc : Value} {od an : Option Addr} {osl : Array (Option Value)} {kV doc pm cdv ct : Value} (a : PySem.W.findIn K (.ref C) m = some (some (.ref f))) (i : PySem.W.isFn K (.ref f) = true)
    (l : K.lookup f = some ⟨oc, od, .func (PySem.W.fnOf m qual (defArgs st) (defBody st) (defScope st) .none kV doc pm an cdv ct), osl⟩) (c : PySem.W.codeIn K cdv qual = true) (k : PySem.W.keepIn K (.ref f) = true)
    (b : ∀ (kV doc pm : Value) (an : Option Addr) (cdv ct : Value) (us : List Value), us.length = ps.length → bindArgs (PySem.W.fnOf m qual (defArgs st) (defBody st) (defScope st) .none kV doc pm an cdv ct) ⟨us, []⟩ = pure (ps.zip us)) : MetK K C m qual st ps :=
  ⟨f, _, fun_mk l c k, ⟨a, i, k⟩, (fun_mk l c k).binds b⟩
theorem makK_mk {x qual : Str} {st : Stmt} {ps : List Str} {C f : Addr} {oc : Value} {od an : Option Addr} {osl : Array (Option Value)} {kV doc pm cdv ct : Value} (X : K.In h) (G : h.Ns mainGlobals mg) (aC : PySem.W.nsIn K mainGlobals x = some (some (.ref C)))
    (a : PySem.W.findIn K (.ref C) "__init__" = some (some (.ref f))) (i : PySem.W.isFn K (.ref f) = true)
    (l : K.lookup f = some ⟨oc, od, .func (PySem.W.fnOf "__init__" qual (defArgs st) (defBody st) (defScope st) .none kV doc pm an cdv ct), osl⟩) (c : PySem.W.codeIn K cdv qual = true) (k : PySem.W.keepIn K (.ref f) = true) (mk : PySem.W.makesIn K C = true) (kc : PySem.W.keepIn K (.ref C) = true)
    (b : ∀ (kV doc pm : Value) (an : Option Addr) (cdv ct : Value) (us : List Value), us.length = ps.length → bindArgs (PySem.W.fnOf "__init__" qual (defArgs st) (defBody st) (defScope st) .none kV doc pm an cdv ct) ⟨us, []⟩ = pure (ps.zip us)) : MakK K mg x C qual st ps :=
  ⟨f, _, ⟨mk, a, i, kc⟩, fun_mk l c k, PySem.W.mg_of X G aC, (fun_mk l c k).binds b⟩
theorem glo_mk (X : K.In h) (G : h.Ns mainGlobals mg) {t1 t2 t3 t4 t5 t6 t7 t8 : Tok} (g1 : PySem.W.nsIn K mainGlobals "LETTERS" = some (some (.str "abcdef" t1))) (g2 : PySem.W.nsIn K mainGlobals "MOST_LETTERS" = some (some (.int 60 t2)))
    (g3 : PySem.W.nsIn K mainGlobals "MOST_WIDE" = some (some (.int 2000 t3))) (g4 : PySem.W.nsIn K mainGlobals "LONGEST" = some (some (.int 60 t4))) (g5 : PySem.W.nsIn K mainGlobals "EDGE" = some (some (.str "#" t5)))
    (g6 : PySem.W.nsIn K mainGlobals "MOST_NEW" = some (some (.int 3 t6))) (g7 : PySem.W.nsIn K mainGlobals "MOST_PLACES" = some (some (.int 2 t7))) (g8 : PySem.W.nsIn K mainGlobals "MOST_RULES" = some (some (.int 8 t8)))
    (z1 : PySem.W.nsIn K mainGlobals "len" = some none) (z2 : PySem.W.nsIn K mainGlobals "all" = some none) (z3 : PySem.W.nsIn K mainGlobals "list" = some none) (z4 : PySem.W.nsIn K mainGlobals "sorted" = some none) (z5 : PySem.W.nsIn K mainGlobals "set" = some none)
    (z6 : PySem.W.nsIn K mainGlobals "enumerate" = some none) (z7 : PySem.W.nsIn K mainGlobals "range" = some none) (z8 : PySem.W.nsIn K mainGlobals "max" = some none) (z9 : PySem.W.nsIn K mainGlobals "tuple" = some none) (z10 : PySem.W.nsIn K mainGlobals "int" = some none) : Glo mg where
  letters := ⟨t1, by rw [← str_abc]; exact PySem.W.mg_of X G g1⟩
  mostLetters := ⟨t2, PySem.W.mg_of X G g2⟩
  mostWide := ⟨t3, PySem.W.mg_of X G g3⟩
  longest := ⟨t4, PySem.W.mg_of X G g4⟩
  edge := ⟨t5, by rw [← str_edge]; exact PySem.W.mg_of X G g5⟩
  mostNew := ⟨t6, PySem.W.mg_of X G g6⟩
  mostPlaces := ⟨t7, PySem.W.mg_of X G g7⟩
  mostRules := ⟨t8, PySem.W.mg_of X G g8⟩
  len := PySem.W.mg_none_of X G z1
  all := PySem.W.mg_none_of X G z2
  list := PySem.W.mg_none_of X G z3
  sorted := PySem.W.mg_none_of X G z4
  set := PySem.W.mg_none_of X G z5
  enumerate := PySem.W.mg_none_of X G z6
  range := PySem.W.mg_none_of X G z7
  max := PySem.W.mg_none_of X G z8
  tuple := PySem.W.mg_none_of X G z9
  int := PySem.W.mg_none_of X G z10
theorem winC_mk {C : Addr} (pg : PySem.W.plainGet K C Str.empty = true) (hd : PySem.W.hasDictIn K C = true) (po : PySem.W.plainOver K C = true) (sa : PySem.W.findIn K (.ref C) "__setattr__" = some (some (.builtin "object.__setattr__")))
    (n1 : PySem.W.findIn K (.ref C) "rule" = some none) (n2 : PySem.W.findIn K (.ref C) "k" = some none) (n3 : PySem.W.findIn K (.ref C) "ahead" = some none) (n4 : PySem.W.findIn K (.ref C) "size" = some none) (n5 : PySem.W.findIn K (.ref C) "words" = some none) (n6 : PySem.W.findIn K (.ref C) "numbers" = some none) : WinC K C :=
  ⟨⟨pg, hd, po, sa⟩, n1, n2, n3, n4, n5, n6⟩
end
theorem fin {w : World} {K : PySem.W.Frag} {h : Heap} {mg : Str → Option Value} {fa f C : Addr} {oc : Value} {od an : Option Addr} {osl : Array (Option Value)} {kV doc pm cdv ct : Value} (X : K.In h) (G : h.Ns mainGlobals mg) (hfa : mg "law" = some (.ref fa))
    (aC : PySem.W.nsIn K mainGlobals "Window" = some (some (.ref C))) (aL : PySem.W.nsIn K mainGlobals "law" = some (some (.ref f)))
    (lL : K.lookup f = some ⟨oc, od, .func (PySem.W.fnOf "law" "law" (defArgs tLaw) (defBody tLaw) (defScope tLaw) .none kV doc pm an cdv ct), osl⟩) (cL : PySem.W.codeIn K cdv "law" = true) (kL : PySem.W.keepIn K (.ref f) = true)
    (T : Glo mg) (W : WinC K C) (mW : MakK K mg "Window" C "Window.__init__" tInit ["self", "k", "rule"])
    (mBecomes : MetK K C "becomes" "Window.becomes" tBecomes ["self", "text", "index"])
    (mEntry : MetK K C "entry" "Window.entry" tEntry ["self", "word", "letter"])
    (mLast : MetK K C "last" "Window.last" tLast ["self", "word"])
    (mMachine : MetK K C "machine" "Window.machine" tMachine ["self"])
    (dCheckSize : DefK K mg "check_size" "check_size" tCheckSize ["k"])
    (dHasLetters : DefK K mg "has_letters" "has_letters" tHasLetters ["k", "word"])
    (dIsWord : DefK K mg "is_word" "is_word" tIsWord ["k", "word"])
    (dCheckWord : DefK K mg "check_word" "check_word" tCheckWord ["k", "word"])
    (dIsString : DefK K mg "is_string" "is_string" tIsString ["k", "text"])
    (dIsRow : DefK K mg "is_row" "is_row" tIsRow ["k", "count", "row"])
    (dIsFormed : DefK K mg "is_formed" "is_formed" tIsFormed ["machine", "most"])
    (dIsWide : DefK K mg "is_wide" "is_wide" tIsWide ["machine"])
    (dCheckWide : DefK K mg "check_wide" "check_wide" tCheckWide ["machine"])
    (dWalked : DefK K mg "walked" "walked" tWalked ["machine", "state", "word"])
    (dChangedM : DefK K mg "changed_machines" "changed" tChangedM ["machine", "word"])
    (dCheckCall : DefK K mg "check_call" "check_call" tCheckCall ["machine", "word"])
    (dForm : DefK K mg "form" "form" tForm ["machine", "word"])
    (dWritten : DefK K mg "written" "written" tWritten ["machine", "word"])
    (dIsPlace : DefK K mg "is_place" "is_place" tIsPlace ["k", "place"])
    (dArePlaces : DefK K mg "are_places" "are_places" tArePlaces ["k", "places", "edge"])
    (dIsRule : DefK K mg "is_rule" "is_rule" tIsRule ["k", "rule"])
    (dIsRules : DefK K mg "is_rules" "is_rules" tIsRules ["k", "rules"])
    (dCheckRule : DefK K mg "check_rule" "check_rule" tCheckRule ["k", "rule"])
    (dCheckRules : DefK K mg "check_rules" "check_rules" tCheckRules ["k", "rules"])
    (dFits : DefK K mg "fits" "fits" tFits ["place", "word", "at"])
    (dIsThere : DefK K mg "is_there" "is_there" tIsThere ["rule", "word", "at"])
    (dPiecesOf : DefK K mg "pieces_of" "pieces_of" tPiecesOf ["rule", "word"])
    (dChangedR : DefK K mg "changed_rules" "changed" tChangedR ["k", "rule", "word"])
    (dRuleMachine : DefK K mg "rule_machine" "rule_machine" tRuleMachine ["k", "rule"])
    (dNumber : DefK K mg "_law_number" "_law_number" tNumber ["_law_cell"])
    (dDraws : DefK K mg "_law_draws" "_law_draws" tDraws ["_law_script"])
    (dNext : DefK K mg "_law_next" "_law_next" tNext ["_law_draws_here"])
    (dText : DefK K mg "_law_text" "_law_text" tText ["_law_draws_here", "_law_k", "_law_most"])
    (dPlace : DefK K mg "_law_place" "_law_place" tPlace ["_law_draws_here", "_law_k"])
    (dRule : DefK K mg "_law_rule" "_law_rule" tRule ["_law_draws_here", "_law_k"])
    (dStands : DefK K mg "_law_stands" "_law_stands" tStands ["_law_rule_here", "_law_word", "_law_at"])
    (dMade : DefK K mg "_law_made" "_law_made" tMade ["_law_rule_here", "_law_word"])
    (dWords : DefK K mg "_law_words" "_law_words" tWords ["_law_k", "_law_length"])
    (dCut : DefK K mg "_law_cut" "_law_cut" tCut ["_law_k", "_law_rule_here"]) :
    ∃ fd : FuncData, (∀ (s : Shared) (v : Value), BindsTo s fd ⟨[v], []⟩ [("_law_script", v)]) ∧ ∀ base : Heap, K.In base → base.Ns mainGlobals mg → FnOk PySem.Challenge.pw_soundturns_k23_whole_rules_and_their_mac w K mg base CX0 9 fa fd ["_law_script"] (spLaw K) := by
  have e := hfa.symm.trans (PySem.W.mg_of X G aL)
  cases e
  refine ⟨PySem.W.fnOf "law" "law" (defArgs tLaw) (defBody tLaw) (defScope tLaw) .none kV doc pm an cdv ct, fun s v => .of_eq rfl, fun base _ _ => ?_⟩
  have c1 : C8.Cal PySem.Challenge.pw_soundturns_k23_whole_rules_and_their_mac w K mg base 1 "check_size" spCheckSize [] := cal_check_size dCheckSize T
  have c2 := cal_has_letters (P := PySem.Challenge.pw_soundturns_k23_whole_rules_and_their_mac) (w := w) (base := base) dHasLetters T
  have c3 := cal_is_word (P := PySem.Challenge.pw_soundturns_k23_whole_rules_and_their_mac) (w := w) (base := base) dIsWord T c1 c2
  have c4 := cal_check_word dCheckWord T c3
  have c5 := cal_is_string dIsString T c2
  have c6 := cal_is_row dIsRow T c5
  have c7 := cal_is_formed dIsFormed T c5 c6
  have c8 := cal_is_wide dIsWide T c7
  have c9 := cal_check_wide dCheckWide c8
  have c10 := cal_walked (P := PySem.Challenge.pw_soundturns_k23_whole_rules_and_their_mac) (w := w) (base := base) dWalked T
  have c11 := cal_changedM dChangedM c10
  have c12 := cal_check_call dCheckCall c9 c4
  have c13 := cal_form dForm c12 c11
  have c14 := cal_written dWritten c12 c10
  have c15 := cal_is_place dIsPlace T c2
  have c16 := cal_are_places dArePlaces T c15
  have c17 := cal_is_rule dIsRule T c1 c2 c16
  have c18 := cal_is_rules dIsRules T c1 c17
  have c19 := cal_check_rule dCheckRule c17
  have c20 := cal_check_rules dCheckRules c18
  have c21 := cal_fits (P := PySem.Challenge.pw_soundturns_k23_whole_rules_and_their_mac) (w := w) (K := K) (base := base) dFits T
  have c22 := cal_is_there dIsThere T c21
  have c23 := cal_pieces_of dPiecesOf T c22
  have c24 := cal_changedR dChangedR c19 c4 c23
  have w1 := mak_window (P := PySem.Challenge.pw_soundturns_k23_whole_rules_and_their_mac) (w := w) (base := base) mW T W
  have w2 := met_becomes W mBecomes c22
  have w3 := met_entry W mEntry T w2
  have w4 := met_last W mLast T w2
  have w5 := met_machine W mMachine T w3 w4
  have c25 := cal_rule_machine dRuleMachine c20 w1 w5
  have d1 := cal_number (P := PySem.Challenge.pw_soundturns_k23_whole_rules_and_their_mac) (w := w) (base := base) dNumber
  have d2 := cal_draws dDraws T d1
  have d3 := cal_next (P := PySem.Challenge.pw_soundturns_k23_whole_rules_and_their_mac) (w := w) (base := base) dNext
  have d4 := cal_text dText T d3
  have d5 := cal_place dPlace T d3
  have d6 := cal_rule dRule T d3 d4 d5
  have d7 := cal_stands (P := PySem.Challenge.pw_soundturns_k23_whole_rules_and_their_mac) (w := w) (base := base) dStands T
  have d8 := cal_made dMade T d7
  have d9 := cal_words (P := PySem.Challenge.pw_soundturns_k23_whole_rules_and_their_mac) (w := w) (base := base) dWords T
  have d10 := cal_cut (P := PySem.Challenge.pw_soundturns_k23_whole_rules_and_their_mac) (w := w) (base := base) dCut
  exact ok_law (fun_mk lL cL kL) T d2 d3 d4 d6 d10 c25 d9 d8 c13 c24 d7 c14
end K23


open PySem PySem.W PyProof.Rows
set_option maxHeartbeats 0
open_top khead for PySem.Challenge.rw_soundturns_k23_whole_rules_and_their_mac


open PySem PySem.W PyProof.Rows
set_option maxHeartbeats 0 in
theorem PySem.Challenge.cw_soundturns_k23_whole_rules_and_their_mac_holds : PySem.Challenge.rw_soundturns_k23_whole_rules_and_their_mac.Holds :=
  khead (by
  k_fill
  refine L2.walk_of (l := PySem.Challenge.rw_soundturns_k23_whole_rules_and_their_mac) (n := 63) (k := 9) (x := "_law_script") (CX := fun _ => L2.CX0) (sp := fun w => K23.spLaw _) rfl (by decide) rfl ⟨rfl, by decide, by decide⟩ (fun w h Y => PySem.W.kIn_of Y) ?F (fun _ _ a ns hl _ hS => ⟨a, ns, rfl, hS, hl, fun _ => rfl⟩) (fun _ _ _ _ _ h => h)
  case F =>
    intro w mg fa h KX G hmg
    refine' K23.fin KX G hmg ?aC ?aL ?lL ?cL ?kL ?T ?W ?mW ?mBecomes ?mEntry ?mLast ?mMachine ?dCheckSize ?dHasLetters ?dIsWord ?dCheckWord ?dIsString ?dIsRow ?dIsFormed ?dIsWide ?dCheckWide ?dWalked ?dChangedM ?dCheckCall ?dForm ?dWritten ?dIsPlace ?dArePlaces ?dIsRule ?dIsRules ?dCheckRule ?dCheckRules ?dFits ?dIsThere ?dPiecesOf ?dChangedR ?dRuleMachine ?dNumber ?dDraws ?dNext ?dText ?dPlace ?dRule ?dStands ?dMade ?dWords ?dCut
    (case aC => k_is); (case aL => k_is); (case lL => k_is); (case cL => k_is); (case kL => k_is)
    case T =>
      refine' K23.glo_mk KX G ?g1 ?g2 ?g3 ?g4 ?g5 ?g6 ?g7 ?g8 ?z1 ?z2 ?z3 ?z4 ?z5 ?z6 ?z7 ?z8 ?z9 ?z10
      (case g1 => k_is); (case g2 => k_is); (case g3 => k_is); (case g4 => k_is); (case g5 => k_is); (case g6 => k_is); (case g7 => k_is); (case g8 => k_is); (case z1 => k_is); (case z2 => k_is); (case z3 => k_is); (case z4 => k_is); (case z5 => k_is); (case z6 => k_is); (case z7 => k_is); (case z8 => k_is); (case z9 => k_is); (case z10 => k_is)
    case W =>
      refine' K23.winC_mk ?pg ?hd ?po ?sa ?n1 ?n2 ?n3 ?n4 ?n5 ?n6
      (case pg => k_is); (case hd => k_is); (case po => k_is); (case sa => k_is); (case n1 => k_is); (case n2 => k_is); (case n3 => k_is); (case n4 => k_is); (case n5 => k_is); (case n6 => k_is)
    case mW =>
      refine' K23.makK_mk KX G ?aC ?a ?i ?l ?c ?k ?mk ?kc (fun _ _ _ _ _ _ us hl => match us, hl with | [_, _, _], _ => rfl)
      (case aC => k_is); (case a => k_is); (case i => k_is); (case l => k_is); (case c => k_is); (case k => k_is); (case mk => k_is); (case kc => k_is)
    case mBecomes =>
      refine' K23.metK_mk ?a ?i ?l ?c ?k (fun _ _ _ _ _ _ us hl => match us, hl with | [_, _, _], _ => rfl)
      (case a => k_is); (case i => k_is); (case l => k_is); (case c => k_is); (case k => k_is)
    case mEntry =>
      refine' K23.metK_mk ?a ?i ?l ?c ?k (fun _ _ _ _ _ _ us hl => match us, hl with | [_, _, _], _ => rfl)
      (case a => k_is); (case i => k_is); (case l => k_is); (case c => k_is); (case k => k_is)
    case mLast =>
      refine' K23.metK_mk ?a ?i ?l ?c ?k (fun _ _ _ _ _ _ us hl => match us, hl with | [_, _], _ => rfl)
      (case a => k_is); (case i => k_is); (case l => k_is); (case c => k_is); (case k => k_is)
    case mMachine =>
      refine' K23.metK_mk ?a ?i ?l ?c ?k (fun _ _ _ _ _ _ us hl => match us, hl with | [_], _ => rfl)
      (case a => k_is); (case i => k_is); (case l => k_is); (case c => k_is); (case k => k_is)
    case dCheckSize =>
      refine' K23.defK_mk KX G ?a ?l ?c ?k (fun _ _ _ _ _ _ us hl => match us, hl with | [_], _ => rfl)
      (case a => k_is); (case l => k_is); (case c => k_is); (case k => k_is)
    case dHasLetters =>
      refine' K23.defK_mk KX G ?a ?l ?c ?k (fun _ _ _ _ _ _ us hl => match us, hl with | [_, _], _ => rfl)
      (case a => k_is); (case l => k_is); (case c => k_is); (case k => k_is)
    case dIsWord =>
      refine' K23.defK_mk KX G ?a ?l ?c ?k (fun _ _ _ _ _ _ us hl => match us, hl with | [_, _], _ => rfl)
      (case a => k_is); (case l => k_is); (case c => k_is); (case k => k_is)
    case dCheckWord =>
      refine' K23.defK_mk KX G ?a ?l ?c ?k (fun _ _ _ _ _ _ us hl => match us, hl with | [_, _], _ => rfl)
      (case a => k_is); (case l => k_is); (case c => k_is); (case k => k_is)
    case dIsString =>
      refine' K23.defK_mk KX G ?a ?l ?c ?k (fun _ _ _ _ _ _ us hl => match us, hl with | [_, _], _ => rfl)
      (case a => k_is); (case l => k_is); (case c => k_is); (case k => k_is)
    case dIsRow =>
      refine' K23.defK_mk KX G ?a ?l ?c ?k (fun _ _ _ _ _ _ us hl => match us, hl with | [_, _, _], _ => rfl)
      (case a => k_is); (case l => k_is); (case c => k_is); (case k => k_is)
    case dIsFormed =>
      refine' K23.defK_mk KX G ?a ?l ?c ?k (fun _ _ _ _ _ _ us hl => match us, hl with | [_, _], _ => rfl)
      (case a => k_is); (case l => k_is); (case c => k_is); (case k => k_is)
    case dIsWide =>
      refine' K23.defK_mk KX G ?a ?l ?c ?k (fun _ _ _ _ _ _ us hl => match us, hl with | [_], _ => rfl)
      (case a => k_is); (case l => k_is); (case c => k_is); (case k => k_is)
    case dCheckWide =>
      refine' K23.defK_mk KX G ?a ?l ?c ?k (fun _ _ _ _ _ _ us hl => match us, hl with | [_], _ => rfl)
      (case a => k_is); (case l => k_is); (case c => k_is); (case k => k_is)
    case dWalked =>
      refine' K23.defK_mk KX G ?a ?l ?c ?k (fun _ _ _ _ _ _ us hl => match us, hl with | [_, _, _], _ => rfl)
      (case a => k_is); (case l => k_is); (case c => k_is); (case k => k_is)
    case dChangedM =>
      refine' K23.defK_mk KX G ?a ?l ?c ?k (fun _ _ _ _ _ _ us hl => match us, hl with | [_, _], _ => rfl)
      (case a => k_is); (case l => k_is); (case c => k_is); (case k => k_is)
    case dCheckCall =>
      refine' K23.defK_mk KX G ?a ?l ?c ?k (fun _ _ _ _ _ _ us hl => match us, hl with | [_, _], _ => rfl)
      (case a => k_is); (case l => k_is); (case c => k_is); (case k => k_is)
    case dForm =>
      refine' K23.defK_mk KX G ?a ?l ?c ?k (fun _ _ _ _ _ _ us hl => match us, hl with | [_, _], _ => rfl)
      (case a => k_is); (case l => k_is); (case c => k_is); (case k => k_is)
    case dWritten =>
      refine' K23.defK_mk KX G ?a ?l ?c ?k (fun _ _ _ _ _ _ us hl => match us, hl with | [_, _], _ => rfl)
      (case a => k_is); (case l => k_is); (case c => k_is); (case k => k_is)
    case dIsPlace =>
      refine' K23.defK_mk KX G ?a ?l ?c ?k (fun _ _ _ _ _ _ us hl => match us, hl with | [_, _], _ => rfl)
      (case a => k_is); (case l => k_is); (case c => k_is); (case k => k_is)
    case dArePlaces =>
      refine' K23.defK_mk KX G ?a ?l ?c ?k (fun _ _ _ _ _ _ us hl => match us, hl with | [_, _, _], _ => rfl)
      (case a => k_is); (case l => k_is); (case c => k_is); (case k => k_is)
    case dIsRule =>
      refine' K23.defK_mk KX G ?a ?l ?c ?k (fun _ _ _ _ _ _ us hl => match us, hl with | [_, _], _ => rfl)
      (case a => k_is); (case l => k_is); (case c => k_is); (case k => k_is)
    case dIsRules =>
      refine' K23.defK_mk KX G ?a ?l ?c ?k (fun _ _ _ _ _ _ us hl => match us, hl with | [_, _], _ => rfl)
      (case a => k_is); (case l => k_is); (case c => k_is); (case k => k_is)
    case dCheckRule =>
      refine' K23.defK_mk KX G ?a ?l ?c ?k (fun _ _ _ _ _ _ us hl => match us, hl with | [_, _], _ => rfl)
      (case a => k_is); (case l => k_is); (case c => k_is); (case k => k_is)
    case dCheckRules =>
      refine' K23.defK_mk KX G ?a ?l ?c ?k (fun _ _ _ _ _ _ us hl => match us, hl with | [_, _], _ => rfl)
      (case a => k_is); (case l => k_is); (case c => k_is); (case k => k_is)
    case dFits =>
      refine' K23.defK_mk KX G ?a ?l ?c ?k (fun _ _ _ _ _ _ us hl => match us, hl with | [_, _, _], _ => rfl)
      (case a => k_is); (case l => k_is); (case c => k_is); (case k => k_is)
    case dIsThere =>
      refine' K23.defK_mk KX G ?a ?l ?c ?k (fun _ _ _ _ _ _ us hl => match us, hl with | [_, _, _], _ => rfl)
      (case a => k_is); (case l => k_is); (case c => k_is); (case k => k_is)
    case dPiecesOf =>
      refine' K23.defK_mk KX G ?a ?l ?c ?k (fun _ _ _ _ _ _ us hl => match us, hl with | [_, _], _ => rfl)
      (case a => k_is); (case l => k_is); (case c => k_is); (case k => k_is)
    case dChangedR =>
      refine' K23.defK_mk KX G ?a ?l ?c ?k (fun _ _ _ _ _ _ us hl => match us, hl with | [_, _, _], _ => rfl)
      (case a => k_is); (case l => k_is); (case c => k_is); (case k => k_is)
    case dRuleMachine =>
      refine' K23.defK_mk KX G ?a ?l ?c ?k (fun _ _ _ _ _ _ us hl => match us, hl with | [_, _], _ => rfl)
      (case a => k_is); (case l => k_is); (case c => k_is); (case k => k_is)
    case dNumber =>
      refine' K23.defK_mk KX G ?a ?l ?c ?k (fun _ _ _ _ _ _ us hl => match us, hl with | [_], _ => rfl)
      (case a => k_is); (case l => k_is); (case c => k_is); (case k => k_is)
    case dDraws =>
      refine' K23.defK_mk KX G ?a ?l ?c ?k (fun _ _ _ _ _ _ us hl => match us, hl with | [_], _ => rfl)
      (case a => k_is); (case l => k_is); (case c => k_is); (case k => k_is)
    case dNext =>
      refine' K23.defK_mk KX G ?a ?l ?c ?k (fun _ _ _ _ _ _ us hl => match us, hl with | [_], _ => rfl)
      (case a => k_is); (case l => k_is); (case c => k_is); (case k => k_is)
    case dText =>
      refine' K23.defK_mk KX G ?a ?l ?c ?k (fun _ _ _ _ _ _ us hl => match us, hl with | [_, _, _], _ => rfl)
      (case a => k_is); (case l => k_is); (case c => k_is); (case k => k_is)
    case dPlace =>
      refine' K23.defK_mk KX G ?a ?l ?c ?k (fun _ _ _ _ _ _ us hl => match us, hl with | [_, _], _ => rfl)
      (case a => k_is); (case l => k_is); (case c => k_is); (case k => k_is)
    case dRule =>
      refine' K23.defK_mk KX G ?a ?l ?c ?k (fun _ _ _ _ _ _ us hl => match us, hl with | [_, _], _ => rfl)
      (case a => k_is); (case l => k_is); (case c => k_is); (case k => k_is)
    case dStands =>
      refine' K23.defK_mk KX G ?a ?l ?c ?k (fun _ _ _ _ _ _ us hl => match us, hl with | [_, _, _], _ => rfl)
      (case a => k_is); (case l => k_is); (case c => k_is); (case k => k_is)
    case dMade =>
      refine' K23.defK_mk KX G ?a ?l ?c ?k (fun _ _ _ _ _ _ us hl => match us, hl with | [_, _], _ => rfl)
      (case a => k_is); (case l => k_is); (case c => k_is); (case k => k_is)
    case dWords =>
      refine' K23.defK_mk KX G ?a ?l ?c ?k (fun _ _ _ _ _ _ us hl => match us, hl with | [_, _], _ => rfl)
      (case a => k_is); (case l => k_is); (case c => k_is); (case k => k_is)
    case dCut =>
      refine' K23.defK_mk KX G ?a ?l ?c ?k (fun _ _ _ _ _ _ us hl => match us, hl with | [_, _], _ => rfl)
      (case a => k_is); (case l => k_is); (case c => k_is); (case k => k_is))
