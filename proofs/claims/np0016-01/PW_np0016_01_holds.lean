import PyProof.Rows.All
import Wide.All
import OpenK.AllK
import Wide.FinOn
import PySem.Challenge.RW_np0016_01
open PySem PySem.W PyProof.Rows PyProof.V PySem.Spec PySem.Calls
set_option Elab.async false
set_option linter.unusedSectionVars false
set_option linter.unusedVariables false
namespace Mine
set_option maxRecDepth 100000
set_option maxHeartbeats 8000000
open_top hd for PySem.Challenge.rw_np0016_01
abbrev IntD := List (Int × PyData)
def dk (c : IntD) : List (PyData × PyData) := c.map fun p => (PyData.int p.1, p.2)
abbrev look (c : IntD) (k : Int) : Option PyData := PySem.Spec.lookup (PyData.int k) (dk c)
def cPut (c : IntD) (k : Int) (v : PyData) : IntD := if c.any (fun p => decide (p.1 = k)) then c.map (fun p => if p.1 = k then (p.1, v) else p) else c ++ [(k, v)]
def cDel (c : IntD) (k : Int) : IntD := c.filter fun p => !decide (p.1 = k)
theorem dk_length (c : IntD) : (dk c).length = c.length := by unfold dk; rw [List.length_map]
theorem look_nil (k : Int) : look [] k = none := rfl
theorem look_cons (i : Int) (v : PyData) (c : IntD) (k : Int) : look ((i, v) :: c) k = if i = k then some v else look c k := by
  show (if PySem.Spec.same (PyData.int i) (PyData.int k) = true then some v else PySem.Spec.lookup (PyData.int k) (dk c)) = _
  rw [PyProof.V.same_int]
  by_cases h : i = k
  · rw [if_pos (decide_eq_true h), if_pos h]
  · rw [if_neg (by simp [h]), if_neg h]
theorem dk_any (c : IntD) (k : Int) : ((dk c).any fun p => PySem.Spec.same p.1 (PyData.int k)) = c.any fun p => decide (p.1 = k) := by
  induction c with
  | nil => rfl
  | cons p c ih =>
    show (PySem.Spec.same (PyData.int p.1) (PyData.int k) || (dk c).any fun p => PySem.Spec.same p.1 (PyData.int k)) = (decide (p.1 = k) || c.any fun p => decide (p.1 = k))
    rw [ih, PyProof.V.same_int]
theorem dk_put (c : IntD) (k : Int) (v : PyData) : putD (PyData.int k) v (dk c) = dk (cPut c k v) := by
  unfold putD cPut
  rw [dk_any]
  by_cases hc : (c.any fun p => decide (p.1 = k)) = true
  · rw [if_pos hc, if_pos hc]
    unfold dk
    rw [List.map_map, List.map_map]
    refine List.map_congr_left fun p _ => ?_
    show (if PySem.Spec.same (PyData.int p.1) (PyData.int k) = true then (PyData.int p.1, v) else (PyData.int p.1, p.2)) = (fun p : Int × PyData => (PyData.int p.1, p.2)) (if p.1 = k then (p.1, v) else p)
    rw [PyProof.V.same_int]
    by_cases hp : p.1 = k
    · rw [if_pos (decide_eq_true hp), if_pos hp]
    · rw [if_neg (by simp [hp]), if_neg hp]
  · rw [if_neg hc, if_neg hc]
    unfold dk
    rw [List.map_append]
    rfl
theorem dk_del (c : IntD) (k : Int) : delD (PyData.int k) (dk c) = dk (cDel c k) := by
  unfold delD dk cDel
  rw [List.filter_map]
  have e : ((fun p : PyData × PyData => !PySem.Spec.same p.1 (PyData.int k)) ∘ fun p : Int × PyData => (PyData.int p.1, p.2)) = fun p : Int × PyData => !decide (p.1 = k) := by
    funext p
    show (!PySem.Spec.same (PyData.int p.1) (PyData.int k)) = !decide (p.1 = k)
    rw [PyProof.V.same_int]
  rw [e]
theorem cPut_len (c : IntD) (k : Int) (v : PyData) : (cPut c k v).length ≤ c.length + 1 := by
  unfold cPut
  split
  · rw [List.length_map]; omega
  · rw [List.length_append]; simp
theorem cDel_len (c : IntD) (k : Int) : (cDel c k).length ≤ c.length := List.length_filter_le _ _
theorem look_isSome (k : Int) : ∀ c : IntD, (look c k).isSome = c.any fun p => decide (p.1 = k)
  | [] => rfl
  | (i, v) :: c => by
    rw [look_cons, List.any_cons, ← look_isSome k c]
    by_cases h : i = k
    · simp [h]
    · simp [h]
theorem look_mem {k : Int} {d : PyData} : ∀ {c : IntD}, look c k = some d → (k, d) ∈ c
  | [], h => by rw [look_nil] at h; cases h
  | (i, v) :: c, h => by
    rw [look_cons] at h
    by_cases e : i = k
    · rw [if_pos e] at h; cases h; rw [e]; exact .head _
    · rw [if_neg e] at h; exact .tail _ (look_mem h)
/-- a value that is none or an int -/
def VD (d : PyData) : Prop := d = .none ∨ ∃ n, d = .int n
def VOK (c : IntD) : Prop := ∀ p ∈ c, VD p.2
def BOK (c : IntD) : Prop := ∀ p ∈ c, ∃ b, p.2 = .bool b
theorem vd_look {c : IntD} (h : VOK c) (k : Int) : VD ((look c k).getD .none) := by
  cases e : look c k with
  | none => exact .inl rfl
  | some d => exact h _ (look_mem e)
def permB (c : IntD) (k : Int) : Bool := match look c k with
  | some (.bool b) => b
  | _ => false
theorem perm_flat {c : IntD} {k : Int} {r : Value} (h : BOK c) (f : Flat r ((look c k).getD (.bool false))) : r = .bool (permB c k) := by
  unfold permB
  cases e : look c k with
  | none => rw [e] at f; exact Flat.bool_inv f
  | some d =>
    obtain ⟨b, hb⟩ := h _ (look_mem e)
    have hb' : d = .bool b := hb
    rw [e, hb'] at f
    rw [hb']
    exact Flat.bool_inv f
/-- the value in a buffer -/
def valD (e c : IntD) (k : Int) : PyData := match look e k with
  | some d => d
  | none => (look c k).getD .none
theorem vd_val {e c : IntD} (he : VOK e) (hc : VOK c) (k : Int) : VD (valD e c k) := by
  unfold valD
  cases h : look e k with
  | none => exact vd_look hc k
  | some d => exact he _ (look_mem h)
theorem val_some {e c : IntD} {k : Int} (h : (look e k).isSome = true) : (look e k).getD .none = valD e c k := by
  unfold valD
  cases q : look e k with
  | none => rw [q] at h; cases h
  | some d => rfl
theorem val_none {e c : IntD} {k : Int} (h : (look e k).isSome = false) : (look c k).getD .none = valD e c k := by
  unfold valD
  cases q : look e k with
  | none => rfl
  | some d => rw [q] at h; cases h
theorem vok_put {c : IntD} {k : Int} {v : PyData} (h : VOK c) (hv : VD v) : VOK (cPut c k v) := by
  intro p hp
  unfold cPut at hp
  split at hp
  · obtain ⟨q, hq, rfl⟩ := List.mem_map.mp hp
    split
    · exact hv
    · exact h q hq
  · rcases List.mem_append.mp hp with hq | hq
    · exact h p hq
    · rw [List.mem_singleton.mp hq]; exact hv
theorem bok_put {c : IntD} {k : Int} {v : Bool} (h : BOK c) : BOK (cPut c k (.bool v)) := by
  intro p hp
  unfold cPut at hp
  split at hp
  · obtain ⟨q, hq, rfl⟩ := List.mem_map.mp hp
    split
    · exact ⟨v, rfl⟩
    · exact h q hq
  · rcases List.mem_append.mp hp with hq | hq
    · exact h p hq
    · rw [List.mem_singleton.mp hq]; exact ⟨v, rfl⟩
theorem vok_filter {c : IntD} {f : Int × PyData → Bool} (h : VOK c) : VOK (c.filter f) := fun p hp => h p (List.mem_filter.mp hp).1
theorem vok_nil : VOK [] := fun _ h => nomatch h
theorem bok_nil : BOK [] := fun _ h => nomatch h
/-- a put of what stands there turns nothing -/
theorem cPut_self {k : Int} {d : PyData} : ∀ {c : IntD}, (c.map (·.1)).Nodup → look c k = some d → cPut c k d = c := by
  have aux : ∀ {c : IntD}, (c.map (·.1)).Nodup → look c k = some d → c.map (fun p => if p.1 = k then (p.1, d) else p) = c := by
    intro c
    induction c with
    | nil => intro _ _; rfl
    | cons p c ih =>
      obtain ⟨i, v⟩ := p
      intro hn hl
      rw [look_cons] at hl
      rw [List.map_cons, List.nodup_cons] at hn
      by_cases e : i = k
      · rw [if_pos e] at hl
        cases hl
        rw [List.map_cons]
        have e2 : c.map (fun p => if p.1 = k then (p.1, d) else p) = c := by
          refine (List.map_congr_left (g := id) fun q hq => ?_).trans (List.map_id _)
          have : q.1 ≠ k := fun z => hn.1 (List.mem_map.mpr ⟨q, hq, by rw [z, e]⟩)
          simp [this]
        rw [e2]
        simp [e]
      · rw [if_neg e] at hl
        rw [List.map_cons, ih hn.2 hl]
        simp [e]
  intro c hn hl
  unfold cPut
  rw [← look_isSome, hl]
  exact aux hn hl
theorem cDel_none {c : IntD} {k : Int} (h : (look c k).isSome = false) : cDel c k = c := by
  rw [look_isSome] at h
  unfold cDel
  rw [List.filter_eq_self]
  intro p hp
  have := List.any_eq_false.mp h p hp
  simpa using this
/-- what stands under keys that are not gone -/
def cWO (c : IntD) (gs : List Int) : IntD := c.filter fun p => !(gs.any (· == p.1))
theorem cWO_len (c : IntD) (gs : List Int) : (cWO c gs).length ≤ c.length := List.length_filter_le _ _
theorem look_at {c : IntD} {i : Nat} {k : Int} {d : PyData} (hn : (c.map (·.1)).Nodup) (h : c[i]? = some (k, d)) : look c k = some d := by
  induction c generalizing i with
  | nil => simp at h
  | cons p c ih =>
    obtain ⟨j, v⟩ := p
    rw [List.map_cons, List.nodup_cons] at hn
    rw [look_cons]
    cases i with
    | zero =>
      simp at h
      rw [if_pos h.1, h.2]
    | succ i =>
      have h' : c[i]? = some (k, d) := by simpa using h
      have hne : ¬ j = k := fun e => hn.1 (List.mem_map.mpr ⟨(k, d), List.mem_of_getElem? h', e.symm⟩)
      rw [if_neg hne]
      exact ih hn.2 h'
theorem take_snoc {α : Type} {c : List α} {i : Nat} {p : α} (h : c[i]? = some p) : c.take (i + 1) = c.take i ++ [p] := by
  rw [List.take_add_one, h]; rfl
theorem wo_in {c : IntD} {gs : List Int} {i : Nat} {k : Int} {d : PyData} (h : c[i]? = some (k, d)) (hk : (gs.any (· == k)) = true) : cWO (c.take (i + 1)) gs = cWO (c.take i) gs := by
  unfold cWO
  rw [take_snoc h, List.filter_append, List.filter_cons_of_neg (by simpa using hk)]
  simp
theorem wo_out {c : IntD} {gs : List Int} {i : Nat} {k : Int} {d : PyData} (hn : (c.map (·.1)).Nodup) (h : c[i]? = some (k, d)) (hk : (gs.any (· == k)) = false) : cPut (cWO (c.take i) gs) k ((look c k).getD .none) = cWO (c.take (i + 1)) gs := by
  rw [look_at hn h]
  have e : cWO (c.take (i + 1)) gs = cWO (c.take i) gs ++ [(k, d)] := by
    unfold cWO
    rw [take_snoc h, List.filter_append, List.filter_cons_of_pos (by simpa using hk)]
    simp
  rw [e]
  unfold cPut
  rw [if_neg]
  · rfl
  · intro hany
    obtain ⟨p, hp, hpk⟩ := List.any_eq_true.mp hany
    have hp' : p ∈ c.take i := (List.mem_filter.mp hp).1
    have hpk' : p.1 = k := by simpa using hpk
    have e2 : (c.take (i + 1)).map (·.1) = (c.take i).map (·.1) ++ [k] := by rw [take_snoc h, List.map_append]; rfl
    have hn2 : ((c.take (i + 1)).map (·.1)).Nodup := by
      have := hn.sublist ((List.take_sublist (i + 1) c).map (·.1))
      exact this
    rw [e2] at hn2
    have := (List.nodup_append.mp hn2).2.2 k (List.mem_map.mpr ⟨p, hp', hpk'⟩) k (List.mem_singleton.mpr rfl)
    exact this rfl
theorem look_at_some {c : IntD} {i : Nat} {k : Int} {d : PyData} (hn : (c.map (·.1)).Nodup) (h : c[i]? = some (k, d)) : (look c k).isSome = true := by rw [look_at hn h]; rfl
theorem vok_wo {c : IntD} {gs : List Int} (h : VOK c) : VOK (cWO c gs) := vok_filter h
theorem wo_one (c : IntD) (k : Int) : cWO c [k] = cDel c k := by
  unfold cWO cDel
  refine List.filter_congr fun p _ => ?_
  by_cases h : p.1 = k
  · simp [h]
  · have h' : ¬ k = p.1 := fun e => h e.symm
    simp [h, h']
theorem fold_filter (P : Int → Bool) : ∀ (ns acc : List Int), ns.foldl (fun l k => if P k = true then l else l ++ [k]) acc = acc ++ ns.filter fun k => !P k
  | [], acc => by simp
  | n :: r, acc => by
    rw [List.foldl_cons, fold_filter P r]
    by_cases h : P n = true
    · rw [if_pos h, List.filter_cons_of_neg (by simp [h])]
    · rw [if_neg h, List.filter_cons_of_pos (by simpa using h)]
      simp
theorem wo_pop {c : IntD} {gs : List Int} {i : Nat} {k : Int} (h : gs[i]? = some k) : cDel (cWO c (gs.take i)) k = cWO c (gs.take (i + 1)) := by
  unfold cDel cWO
  rw [List.filter_filter, take_snoc h]
  refine List.filter_congr fun p _ => ?_
  rw [List.any_append]
  by_cases e : p.1 = k
  · simp [e]
  · have e' : ¬ k = p.1 := fun z => e z.symm
    simp [e, e']
theorem wo_has {c : IntD} {gs : List Int} {i : Nat} {k : Int} (hn : gs.Nodup) (h : gs[i]? = some k) (hk : k ∈ c.map (·.1)) : (look (cWO c (gs.take i)) k).isSome = true := by
  rw [look_isSome]
  obtain ⟨p, hp, e⟩ := List.mem_map.mp hk
  refine List.any_eq_true.mpr ⟨p, List.mem_filter.mpr ⟨hp, ?_⟩, by simpa using e⟩
  have hni : k ∉ gs.take i := by
    intro hm
    have e2 := take_snoc h
    have hn2 : (gs.take (i + 1)).Nodup := hn.sublist (List.take_sublist _ _)
    rw [e2] at hn2
    exact (List.nodup_append.mp hn2).2.2 k hm k (List.mem_singleton.mpr rfl) rfl
  have : ((gs.take i).any (· == p.1)) = false := by
    rw [List.any_eq_false]
    intro x hx
    have : x ≠ p.1 := fun z => hni (by rw [← e, ← z]; exact hx)
    simpa using this
  rw [this]
  rfl
abbrev ent (w : World) (x : Str) (t : Tok) (v : Value) : DictEntry := ⟨PyData.keyHash w.params x, .str x t, v⟩
abbrev varsD (w : World) (t1 t2 t3 : Tok) (d1 d2 d3 : Addr) (n : Nat) : Obj := dictOf [ent w (Str.ofString "defaults") t1 (.ref d1), ent w (Str.ofString "automatic") t2 (.ref d2), ent w (Str.ofString "permanent") t3 (.ref d3)] n
abbrev locD (w : World) (t : Tok) (e : Addr) (n : Nat) : Obj := dictOf [ent w (Str.ofString "values") t (.ref e)] n
def IsI (w : World) (d : Addr) (o : Obj) (c : IntD) : Prop := (d == sysModules) = false ∧ ∃ kvs, o.IsDictOf (intKind PySem.Challenge.rw_np0016_01.row.prog w) kvs ∧ FlatPairs PyData.int kvs (dk c)
theorem fp_keys : ∀ {kvs : List (Int × Value)} {c : IntD}, FlatPairs PyData.int kvs (dk c) → kvs.map (·.1) = c.map (·.1)
  | [], [], _ => rfl
  | [], p :: c, h => nomatch h
  | _ :: _, [], h => nomatch h
  | q :: kvs, p :: c, h => by
    obtain ⟨i, v⟩ := p
    have h' : FlatPairs PyData.int (q :: kvs) ((PyData.int i, v) :: dk c) := h
    cases h' with
    | cons hf hr => rw [List.map_cons, List.map_cons, fp_keys hr]
theorem IsI.nodup {w : World} {d : Addr} {o : Obj} {c : IntD} (I : IsI w d o c) : (c.map (·.1)).Nodup := by
  obtain ⟨_, kvs, ⟨_, _, _, _, _, _, hn⟩, hf⟩ := I
  rw [← fp_keys hf]
  exact hn
theorem UpdF.mem {d : Addr} {o : Obj} : ∀ {l : List (Addr × Obj)} {g : Obj → List (Addr × Obj)}, UpdF d o l g → (d, o) ∈ l
  | _, _, .head _ => .head _
  | _, _, .tail _ r => .tail _ (UpdF.mem r)
theorem UpdF.same {d : Addr} {o : Obj} : ∀ {l : List (Addr × Obj)} {g : Obj → List (Addr × Obj)}, UpdF d o l g → g o = l
  | _, _, .head _ => rfl
  | _, _, .tail (p := p) _ r => congrArg (p :: ·) (UpdF.same r)
theorem UpdF.keepMem {d : Addr} {o : Obj} {q : Addr × Obj} (o' : Obj) : ∀ {l : List (Addr × Obj)} {g : Obj → List (Addr × Obj)}, UpdF d o l g → q.1 ≠ d → q ∈ l → q ∈ g o'
  | _, _, .head _, hq, h => by
    rcases List.mem_cons.mp h with e | h
    · exact absurd (by rw [e]) hq
    · exact .tail _ h
  | _, _, .tail (p := p) _ r, hq, h => by
    rcases List.mem_cons.mp h with e | h
    · rw [e]; exact .head _
    · exact .tail _ (UpdF.keepMem o' r hq h)
theorem UpdF.newMem {d : Addr} {o : Obj} (o' : Obj) : ∀ {l : List (Addr × Obj)} {g : Obj → List (Addr × Obj)}, UpdF d o l g → (d, o') ∈ g o'
  | _, _, .head _ => .head _
  | _, _, .tail _ r => .tail _ (UpdF.newMem o' r)
theorem updOf {d : Addr} {o : Obj} (o' : Obj) : ∀ {l : List (Addr × Obj)} {g : Obj → List (Addr × Obj)}, UpdF d o l g → Upd d o o' l (g o')
  | _, _, .head h => .head h
  | _, _, .tail h r => .tail h (updOf o' r)
theorem UpdF.again {d : Addr} {o o' : Obj} : ∀ {l : List (Addr × Obj)} {g : Obj → List (Addr × Obj)}, UpdF d o l g → UpdF d o' (g o') g
  | _, _, .head h => .head h
  | _, _, .tail h r => .tail h (UpdF.again r)
theorem UpdF.all {P : Addr → Prop} {d : Addr} {o : Obj} (o' : Obj) : ∀ {l : List (Addr × Obj)} {g : Obj → List (Addr × Obj)}, UpdF d o l g → (∀ p ∈ l, P p.1) → ∀ p ∈ g o', P p.1
  | _, _, .head _, H, p, hp => by
    rcases List.mem_cons.mp hp with e | hp
    · rw [e]; exact H (d, o) (.head _)
    · exact H _ (.tail _ hp)
  | _, _, .tail _ r, H, p, hp => by
    rcases List.mem_cons.mp hp with e | hp
    · rw [e]; exact H _ (.head _)
    · exact UpdF.all o' r (fun q hq => H q (.tail _ hq)) p hp
section
variable {w : World} {A : Around} {s : Shared} {E : Value → Shared → Prop} {h₀ h : Heap} {L d : Addr} {m : Str → Option Value} {news : List (Addr × Obj)} {o : Obj} {c : IntD} {k : Int} {tk : Tok} {u : Obj → List (Addr × Obj)} {v : Value} {dv : PyData}
theorem my_tab (N : News h₀ L h news) (hm : (d, o) ∈ news) (I : IsI w d o c) : TabAt (intKind PySem.Challenge.rw_np0016_01.row.prog w) PyData.int h d (dk c) := by
  obtain ⟨lo, kvs, hd, hf⟩ := I
  exact TabAt.ofNews N hm lo hd hf
theorem my_set {Q : Unit → Shared → Prop} (F : Fr h₀ L s.heap m) (N : News h₀ L s.heap news) (U : UpdF d o news u) (I : IsI w d o c) (hz : c.length ≤ 1000) (hv : Flat v dv)
    (h : ∀ h' o', Fr h₀ L h' m → News h₀ L h' (u o') → IsI w d o' (cPut c k dv) → Q () { s with heap := h', toks := s.toks + 1 }) :
    wpAny (model PySem.Challenge.rw_np0016_01.row.prog w) A (setItem (.ref d) (.int k tk) v) Q E s := by
  obtain ⟨lo, kvs, hd, hf⟩ := I
  exact setItem_K PyProof.V.same_int (intKind_is _ _ _ _) hv F N U hd hf (fun h' o' F' N' a b => h h' o' F' N' ⟨lo, _, a, by rw [← dk_put]; exact b⟩) (by rw [dk_length, sizeLine_eq]; omega)
theorem my_pop {Q : Value → Shared → Prop} (F : Fr h₀ L s.heap m) (N : News h₀ L s.heap news) (U : UpdF d o news u) (I : IsI w d o c) (hz : c.length ≤ 1000) (hk : (look c k).isSome = true)
    (h : ∀ h' o' r, Fr h₀ L h' m → News h₀ L h' (u o') → IsI w d o' (cDel c k) → Q r { s with heap := h', toks := s.toks + 1 }) :
    wpAny (model PySem.Challenge.rw_np0016_01.row.prog w) A (call (.builtin "dict.pop") [.ref d, .int k tk]) Q E s := by
  obtain ⟨lo, kvs, hd, hf⟩ := I
  obtain ⟨x, hx⟩ := Option.isSome_iff_exists.mp hk
  exact kt_pop_K PyProof.V.same_int (intKind_is _ _ _ _) (.inl rfl) (by rfl) (PySem.F.args_dict_pop_2 _ _) F N U hd hf hx (fun h' o' r _ F' N' a b => h h' o' r F' N' ⟨lo, _, a, by rw [← dk_del]; exact b⟩) (by rw [dk_length, sizeLine_eq]; omega)
theorem my_item {value slice : PySem.Expr} {Q : Value → Shared → Prop} (N : News h₀ L s.heap news) (hm : (d, o) ∈ news) (I : IsI w d o c) (hk : (look c k).isSome = true) (h : ∀ r, Flat r ((look c k).getD .none) → Q r { s with toks := s.toks + 1 })
    (hs : subscripted slice false (.ref d) (.int k tk) = operate [.ref d, .int k tk] (getItem (.ref d) (.int k tk)) := by with_unfolding_all rfl) (hg : ∀ r, letTemporaryGo value (.ref d) r = pure () := by intro _; with_unfolding_all rfl) :
    wpAny (model PySem.Challenge.rw_np0016_01.row.prog w) A (subscriptTail value slice (.ref d) (.int k tk)) Q E s := by
  obtain ⟨x, hx⟩ := Option.isSome_iff_exists.mp hk
  exact item_intTab (my_tab N hm I) hx (fun v hv => h v (by rw [hx]; exact hv)) hs hg
theorem my_getB {b : Bool} {Q : Value → Shared → Prop} (N : News h₀ L s.heap news) (hm : (d, o) ∈ news) (I : IsI w d o c) (hb : BOK c) (hf : b = false) (h : Q (.bool (permB c k)) { s with toks := s.toks + 1 }) :
    wpAny (model PySem.Challenge.rw_np0016_01.row.prog w) A (call (.builtin "dict.get") [.ref d, .int k tk, .bool b]) Q E s := by
  subst hf
  exact call_get2_intTab (my_tab N hm I) (PyProof.V.Flat.bool _) fun v hv => by rw [perm_flat hb hv]; exact h
end
theorem allLt_mem {D : Addr} {q : Addr × Obj} : ∀ {l : List (Addr × Obj)}, AllLt D l → q ∈ l → q.1 < D
  | _ :: _, h, .head _ => h.1
  | _ :: _, h, .tail _ m => allLt_mem h.2 m
theorem news_tail {h₀ h : Heap} {L : Addr} {p : Addr × Obj} {l : List (Addr × Obj)} (N : News h₀ L h (p :: l)) : News h₀ L h l := fun q hq => N q (.tail _ hq)
theorem news_skip {h₀ h : Heap} {L : Addr} {p q : Addr × Obj} {l : List (Addr × Obj)} (N : News h₀ L h (p :: q :: l)) : News h₀ L h (p :: l) := fun r hr => N r ((List.mem_cons.mp hr).elim (fun e => e ▸ .head _) fun h => .tail _ (.tail _ h))
theorem all_ne_of_lt {D : Addr} {l : List (Addr × Obj)} (h : ∀ p ∈ l, p.1 < D) : ∀ p ∈ l, p.1 ≠ D := fun p hp => Nat.ne_of_lt (h p hp)
theorem ne_succ {D d : Addr} {o : Obj} {l : List (Addr × Obj)} (h : ∀ p ∈ l, p.1 < D) (m : (d, o) ∈ l) : @Ne Nat (D + 1) d := Nat.ne_of_gt (Nat.lt_succ_of_lt (h _ m))
theorem ne_ofLt {D d : Addr} {o : Obj} {l : List (Addr × Obj)} (h : ∀ p ∈ l, p.1 < D) (m : (d, o) ∈ l) : D ≠ d := Nat.ne_of_gt (h _ m)
theorem ne_ofLt2 {D X d : Addr} {o : Obj} {l : List (Addr × Obj)} (h : ∀ p ∈ l, p.1 < D) (hX : @LT.lt Nat _ D X) (m : (d, o) ∈ l) : X ≠ d := Nat.ne_of_gt (Nat.lt_trans (h _ m) hX)
theorem lt_ofAll {D : Addr} {a : Prop} {l : List (Addr × Obj)} (h : a ∧ AllLt D l) : ∀ q ∈ l, q.1 < D := fun _ hq => allLt_mem h.2 hq
theorem ne_allLt {D d : Addr} {o : Obj} {l : List (Addr × Obj)} (h : AllLt D l) (m : (d, o) ∈ l) : D ≠ d := Nat.ne_of_gt (allLt_mem h m)
section
variable {w : World} {A : Around} {s : Shared} {E : Value → Shared → Prop} {h₀ : Heap} {L d : Addr} {m : Str → Option Value} {news : List (Addr × Obj)} {u : Obj → List (Addr × Obj)} {vs : List Value} {ns : List Int} {n : Nat} {tk : Tok}
theorem my_pop0 {Q : Value → Shared → Prop} (F : Fr h₀ L s.heap m) (N : News h₀ L s.heap news) (U : UpdF d (PySem.W.listOf vs.toArray n) news u) (hi : IntsAre vs ns) (hne : decide (ns = []) = false) (hz : ns.length ≤ 1000)
    (h : ∀ h' x t vs' ns' n', ns = x :: ns' → Fr h₀ L h' m → News h₀ L h' (u (PySem.W.listOf vs'.toArray n')) → IntsAre vs' ns' → Q (.int x t) { s with heap := h' }) :
    wpAny (model PySem.Challenge.rw_np0016_01.row.prog w) A (call (.builtin "list.pop") [.ref d, .int 0 tk]) Q E s := by
  have hl := hi.length
  cases hi with
  | nil => simp at hne
  | @cons i t vs' ns' hr =>
    refine kl_popAt F N (k := 0) (p := []) (y := .int i t) (q := vs') (by rfl) (by simp [seqIndex?]) (by simp [kl_cut]) (updOf _ U) (by rw [sizeLine_eq]; simp only [List.length_cons] at *; omega) fun h' F' N' => ?_
    exact h h' i t vs' ns' (n + 1) rfl F' N' hr
end

section
variable {w : World} {A : Around} {s : Shared} {E : Value → Shared → Prop} {h₀ : Heap} {L a b : Addr} {news : List (Addr × Obj)} {xs ys : List Value} {ns ms : List Int} {na nb : Nat}
theorem my_neints {Q : Value → Shared → Prop} (N : News h₀ L s.heap news) (ha : (a, PySem.W.listOf xs.toArray na) ∈ news) (hb : (b, PySem.W.listOf ys.toArray nb) ∈ news) (hi : IntsAre xs ns) (hj : IntsAre ys ms) (hu : A.units + 64 < cLine)
    (h : Q (.bool (!decide (ns = ms))) s) : wpAny (model PySem.Challenge.rw_np0016_01.row.prog w) A (compareOp .NotEq (.ref a) (.ref b)) Q E s :=
  ke_ne_ints (kso_isList N ha rfl) (kso_isList N hb rfl) hi hj hu h
end

theorem flat_handed {r : Value} {d : PyData} (f : Flat r d) : handedIn r = true := by cases f {} <;> rfl
theorem mem_up {p : Addr × Obj} {l : List (Addr × Obj)} (h : p ∈ l) : List.Mem p l := h
def isN (d : PyData) : Bool := match d with
  | .none => true
  | _ => false
theorem my_isnone {M : Model} {A : Around} {E : Value → Shared → Prop} {s : Shared} {r : Value} {d : PyData} {Q : Value → Shared → Prop} (f : Flat r d) (hd : VD d) (h : Q (.bool (isN d)) s) : wpAny M A (compareOp .Is r .none) Q E s := by
  refine is_none_gen ?_
  rcases hd with rfl | ⟨n, rfl⟩
  · rw [Flat.none_inv f]; exact h
  · obtain ⟨t, rfl⟩ := Flat.int_inv f; exact h
theorem my_ne {w : World} {A : Around} {E : Value → Shared → Prop} {s : Shared} {r r' : Value} {d : PyData} {Q : Value → Shared → Prop} (f : Flat r d) (f' : Flat r' d) (hd : VD d) (h : Q (.bool false) s) :
    wpAny (model PySem.Challenge.rw_np0016_01.row.prog w) A (compareOp .NotEq r r') Q E s := by
  rcases hd with rfl | ⟨n, rfl⟩
  · rw [Flat.none_inv f, Flat.none_inv f']; exact EqNone.ne_none_none h
  · obtain ⟨t, rfl⟩ := Flat.int_inv f
    obtain ⟨t', rfl⟩ := Flat.int_inv f'
    exact ne_int (by simpa using h)

section
variable {w : World} {A : Around} {s : Shared} {E : Value → Shared → Prop} {h₀ : Heap} {L d : Addr} {m : Str → Option Value} {news : List (Addr × Obj)} {o : Obj} {c : IntD} {k : Int} {tk : Tok}
theorem my_getItem {Q : Value → Shared → Prop} (N : News h₀ L s.heap news) (hm : (d, o) ∈ news) (I : IsI w d o c) (hk : (look c k).isSome = true) (h : ∀ r, Flat r ((look c k).getD .none) → Q r { s with toks := s.toks + 1 }) :
    wpAny (model PySem.Challenge.rw_np0016_01.row.prog w) A (getItem (.ref d) (.int k tk)) Q E s := by
  obtain ⟨x, hx⟩ := Option.isSome_iff_exists.mp hk
  exact getItem_tab PyProof.V.same_int (intKind_is _ _ _ _) (my_tab N hm I) hx (fun v hv => h v (by rw [hx]; exact hv))
theorem my_listkeys {Q : Value → Shared → Prop} (hh : A.handled = none) (F : Fr h₀ L s.heap m) (N : News h₀ L s.heap news) (hm : (d, o) ∈ news) (I : IsI w d o c) (hc : c.length ≤ 60)
    (h : ∀ (B : Addr) (n : Nat) h' tk vs, Fr h₀ L h' m → News h₀ L h' ((B, PySem.W.listOf vs.toArray n) :: news) → (∀ q ∈ news, q.1 < B) → IntsAre vs (c.map (·.1)) → Q (.ref B) { s with heap := h', toks := tk }) :
    wpAny (model PySem.Challenge.rw_np0016_01.row.prog w) A (call (.type "list") [.ref d]) Q E s := by
  obtain ⟨lo, kvs, hD, hf⟩ := my_tab N hm I
  obtain ⟨ep, hat⟩ := hD.dictAt
  have hlen : kvs.length = c.length := by rw [← hf.length, dk_length]
  refine kdl_N (kdl_dict (knd := PySem.intKind PySem.Challenge.rw_np0016_01.row.prog w) (kvs := kvs) (ep := ep) lo) hh F N hat (kdl_size (by rw [hlen]; omega)) fun B n h' tk vs F' N' l1 hl hv => ?_
  refine h B n h' tk vs F' N' l1 (kdy_ints (by rw [hl, hlen, List.length_map]) fun j v hvj => ?_)
  obtain ⟨k, x, hx, hk⟩ := hv j v hvj
  obtain ⟨t, rfl⟩ := Value.isInt_shape hk
  refine ⟨k, ?_, t, rfl⟩
  rw [← fp_keys hf, List.getElem?_map, hx]
  rfl
end
/-- make_automatic's turn of the defaults -/
def cAuto (c : IntD) (k : Int) (d : PyData) : IntD := if isN ((look c k).getD .none) = true then cPut c k d else c
/-- unbind's turn of a buffer's own values -/
def cUnb (c : IntD) (k : Int) (d : PyData) : IntD := if (look c k).isSome = true then cPut c k d else c
abbrev boundD (w : World) (t1 t2 t3 t4 : Tok) (sv ov kv bv : Value) (n : Nat) : Obj := dictOf [ent w (Str.ofString "sort") t1 sv, ent w (Str.ofString "own") t2 ov, ent w (Str.ofString "symbol") t3 kv, ent w (Str.ofString "value") t4 bv] n
theorem put_val {ce c1 : IntD} {k : Int} (hn : (ce.map (·.1)).Nodup) (h : (look ce k).isSome = true) : cPut ce k (valD ce c1 k) = ce := by
  obtain ⟨x, hx⟩ := Option.isSome_iff_exists.mp h
  have e : valD ce c1 k = x := by unfold valD; rw [hx]
  rw [e]
  exact cPut_self hn hx

theorem my_notinl {w : World} {A : Around} {E : Value → Shared → Prop} {s : Shared} {h₀ : Heap} {L l : Addr} {news : List (Addr × Obj)} {vs : List Value} {ns : List Int} {n : Nat} {k : Int} {t : Tok} {Q : Value → Shared → Prop} (N : News h₀ L s.heap news) (hm : (l, PySem.W.listOf vs.toArray n) ∈ news) (hi : IntsAre vs ns)
    (h : Q (.bool (!(ns.any (· == k)))) s) : wpAny (model PySem.Challenge.rw_np0016_01.row.prog w) A (compareOp .NotIn (.int k t) (.ref l)) Q E s := notin_list_ints (kso_isList N hm rfl) hi h
/-- the next draw -/
def dr (ns : List Int) (many : Int) : Int := match ns with
  | [] => 0
  | x :: _ => Int.fmod x many
theorem dr_nil {ns : List Int} {many : Int} (h : decide (ns = []) = true) : dr ns many = 0 := by rw [of_decide_eq_true h]; rfl
theorem tail_nil {ns : List Int} (h : decide (ns = []) = true) : ns.tail = ns := by rw [of_decide_eq_true h]; rfl
theorem dr_lo (ns : List Int) {many : Int} (h : 0 < many) : 0 ≤ dr ns many := by
  unfold dr
  split
  · exact Int.le_refl _
  · exact fmod_lo _ h
theorem dr_hi (ns : List Int) {many : Int} (h : 0 < many) : dr ns many < many := by
  unfold dr
  split
  · exact h
  · exact fmod_hi _ h
section Walk
local macro_rules | `(tactic| k_handed) => `(tactic| exact flat_handed (by assumption))
local macro_rules | `(tactic| k_room) => `(tactic| ktr_room)
local macro_rules | `(tactic| k_tabat) => `(tactic| exact my_tab (by k_asm) (by k_mem) (by k_asm))
local macro_rules | `(tactic| k_updF) => `(tactic| first | assumption | (refine UpdF.tail ?ua ?ub; (case ua => k_ne); (case ub => k_updF)))
local macro_rules | `(tactic| k_upd) => `(tactic| exact updOf _ (by k_updF))
local macro_rules | `(tactic| k_mem) => `(tactic| (refine mem_up ?_; ktr_member))
local macro_rules | `(tactic| k_mem) => `(tactic| first | exact UpdF.mem (by assumption) | exact UpdF.keepMem _ (by assumption) (by first | assumption | exact Ne.symm (by assumption)) (by assumption))
local macro_rules | `(tactic| k_ne) => `(tactic| first | assumption | exact Ne.symm (by assumption) | exact ne_ofLt (by assumption) (UpdF.mem (by assumption)) | exact ne_ofLt2 (by assumption) (by assumption) (UpdF.mem (by assumption)) | exact ne_succ (by assumption) (UpdF.mem (by assumption)) | exact ne_ofLt (by assumption) (by assumption) | exact ne_allLt (by assumption) (UpdF.mem (by assumption)) | exact ne_allLt (by assumption) (by assumption))
local macro_rules | `(tactic| walk_at $s:str) => `(tactic| k_extra $s)
theorem said21 : True := by
  k_with "setItem ref int" => (k_here; k_dflt (refine my_set (by k_asm) (by k_asm) (by k_updF) (by k_asm) (by first | assumption | omega) (by k_flat) ?_); intro h' o' F' N' I'; (try dsimp only at N'))
  k_with "call builtin:dict.pop" => (k_here; k_dflt (refine my_pop (by k_asm) (by k_asm) (by k_updF) (by k_asm) (by first | assumption | omega) (by assumption) ?_); intro h' o' r' F' N' I'; (try dsimp only at N'))
  k_with "call builtin:list.pop" => (k_here; k_dflt (refine my_pop0 (by k_asm) (by k_asm) (by k_updF) (by assumption) (by assumption) (by first | assumption | omega) ?_); intro h' x' t' vs' ns' n' e' F' N' i'; (try dsimp only at N'))
  k_with "subscriptTail" => (k_here; (with_reducible show wpAny _ _ (subscriptTail _ _ (Value.ref _) (Value.int _ _)) _ _ _); k_dflt (refine my_item (by k_asm) (by k_mem) (by k_asm) (by assumption) ?_); intro r' f')
  k_with "call builtin:dict.get" => (k_here; k_dflt (refine my_getB (by k_asm) (by k_mem) (by k_asm) (by assumption) (by rfl) ?_))
  k_with "compareOp NotEq ref ref" => (k_here; k_dflt (refine my_neints (by k_asm) (by k_mem) (by k_mem) (by first | assumption | exact IntsAre.nil) (by first | assumption | exact IntsAre.nil) (by ktr_units) ?_))
  k_with "compareOp Is" => (k_here; k_dflt (refine my_isnone (by assumption) (by first | assumption | exact vd_look (by assumption) _) ?_))
  k_with "compareOp NotEq" => (k_here; k_dflt (refine my_ne (by assumption) (by assumption) (by first | assumption | exact vd_look (by assumption) _ | exact vd_val (by assumption) (by assumption) _) ?_))
  k_with "getItem ref int" => (k_here; k_dflt (refine my_getItem (by k_asm) (by k_mem) (by k_asm) (by assumption) ?_); intro r' f')
  k_with "call type:list" => (k_here; k_dflt (refine my_listkeys (by rfl) (by k_asm) (by k_asm) (by k_mem) (by k_asm) (by first | assumption | omega) ?_); intro D' n' h' tk' vs' F' N' l' i')
  exact trivial
section
variable {w : World} {p : Program} {loose : List Str} {mean : ExcName → Option Value} {mg mb : Str → Option Value} {dp un : Nat} {gd : Option (List Code)} {cn : Str} {cs : Scope} {a : Addr} {ccd : Value} {cl : List (Str × Addr)} {outer : List Env} {A₀ : Around} {base h₀ : Heap} {L : Addr} {m : Str → Option Value} {s : Shared} {Q E : Value → Shared → Prop} {news : List (Addr × Obj)}
variable {v dv a1 a2 a3 l dl e : Addr} {o1 o2 o3 oe : Obj} {c1 c2 c3 ce : IntD} {k : Int} {tk t1 t2 t3 t4 : Tok} {nv nl : Nat} {u u2 : Obj → List (Addr × Obj)} {val : Value} {dd : PyData}
variable (B : Below A₀ base outer h₀) (F : Fr h₀ L s.heap m) (X : (hd.heap_39 w.params).In h₀) (N : News h₀ L s.heap news) (T : Top p loose mean mg mb h₀) (hk : cs.kind = .function) (hdp : dp + 5 < recursionLimit) (hun : un + 100 < cLine)
include B F X N T hk hdp hun
theorem c_default (iv : (v, instObj 73 dv) ∈ news) (ivd : (dv, varsD w t1 t2 t3 a1 a2 a3 nv) ∈ news) (i1 : (a1, o1) ∈ news) (I1 : IsI w a1 o1 c1)
    (ret : ∀ r h' tk', Flat r ((look c1 k).getD .none) → Fr h₀ L h' m → News h₀ L h' news → Q r { s with heap := h', toks := tk' }) :
    wpAny (model PySem.Challenge.rw_np0016_01.row.prog w) (ktrTop dp un gd cn cs L a ccd cl outer) (call (.ref 35) [.ref v, .int k tk]) Q E s := by
  w_on
  refine wpAny_call ?_
  k_dflt cell_enter
  k_steps
  all_goals exact ret _ _ _ (by assumption) (by assumption) (by assumption)
theorem c_setdef (iv : (v, instObj 73 dv) ∈ news) (ivd : (dv, varsD w t1 t2 t3 a1 a2 a3 nv) ∈ news) (U : UpdF a1 o1 news u) (I1 : IsI w a1 o1 c1) (hz : c1.length ≤ 1000) (hv : Flat val dd)
    (ret : ∀ h' tk' o', IsI w a1 o' (cPut c1 k dd) → Fr h₀ L h' m → News h₀ L h' (u o') → Q .none { s with heap := h', toks := tk' }) :
    wpAny (model PySem.Challenge.rw_np0016_01.row.prog w) (ktrTop dp un gd cn cs L a ccd cl outer) (call (.ref 42) [.ref v, .int k tk, val]) Q E s := by
  w_on
  refine wpAny_call ?_
  k_dflt cell_enter
  k_steps
  all_goals exact ret _ _ _ (by assumption) (by assumption) (by assumption)
theorem c_isauto (iv : (v, instObj 73 dv) ∈ news) (ivd : (dv, varsD w t1 t2 t3 a1 a2 a3 nv) ∈ news) (i2 : (a2, o2) ∈ news) (I2 : IsI w a2 o2 c2)
    (ret : ∀ h' tk', Fr h₀ L h' m → News h₀ L h' news → Q (.bool (look c2 k).isSome) { s with heap := h', toks := tk' }) :
    wpAny (model PySem.Challenge.rw_np0016_01.row.prog w) (ktrTop dp un gd cn cs L a ccd cl outer) (call (.ref 63) [.ref v, .int k tk]) Q E s := by
  w_on
  refine wpAny_call ?_
  k_dflt cell_enter
  k_steps
  all_goals exact ret _ _ (by assumption) (by assumption)
theorem c_isperm (iv : (v, instObj 73 dv) ∈ news) (ivd : (dv, varsD w t1 t2 t3 a1 a2 a3 nv) ∈ news) (i3 : (a3, o3) ∈ news) (I3 : IsI w a3 o3 c3) (hb : BOK c3)
    (ret : ∀ h' tk', Fr h₀ L h' m → News h₀ L h' news → Q (.bool (permB c3 k)) { s with heap := h', toks := tk' }) :
    wpAny (model PySem.Challenge.rw_np0016_01.row.prog w) (ktrTop dp un gd cn cs L a ccd cl outer) (call (.ref 70) [.ref v, .int k tk]) Q E s := by
  w_on
  refine wpAny_call ?_
  k_dflt cell_enter
  k_steps
  all_goals exact ret _ _ (by assumption) (by assumption)
theorem c_makeperm {b : Bool} (iv : (v, instObj 73 dv) ∈ news) (ivd : (dv, varsD w t1 t2 t3 a1 a2 a3 nv) ∈ news) (U : UpdF a3 o3 news u) (I3 : IsI w a3 o3 c3) (hz : c3.length ≤ 1000)
    (ret : ∀ h' tk' o', IsI w a3 o' (cPut c3 k (.bool b)) → Fr h₀ L h' m → News h₀ L h' (u o') → Q .none { s with heap := h', toks := tk' }) :
    wpAny (model PySem.Challenge.rw_np0016_01.row.prog w) (ktrTop dp un gd cn cs L a ccd cl outer) (call (.ref 56) [.ref v, .int k tk, .bool b]) Q E s := by
  w_on
  refine wpAny_call ?_
  k_dflt cell_enter
  k_steps
  all_goals exact ret _ _ _ (by assumption) (by assumption) (by assumption)
theorem c_islocal (il : (l, instObj 127 dl) ∈ news) (ild : (dl, locD w t4 e nl) ∈ news) (ie : (e, oe) ∈ news) (Ie : IsI w e oe ce)
    (ret : ∀ h' tk', Fr h₀ L h' m → News h₀ L h' news → Q (.bool (look ce k).isSome) { s with heap := h', toks := tk' }) :
    wpAny (model PySem.Challenge.rw_np0016_01.row.prog w) (ktrTop dp un gd cn cs L a ccd cl outer) (call (.ref 98) [.ref l, .int k tk]) Q E s := by
  w_on
  refine wpAny_call ?_
  k_dflt cell_enter
  k_steps
  all_goals exact ret _ _ (by assumption) (by assumption)
theorem c_kill (il : (l, instObj 127 dl) ∈ news) (ild : (dl, locD w t4 e nl) ∈ news) (U : UpdF e oe news u) (Ie : IsI w e oe ce) (hz : ce.length ≤ 1000)
    (ret : ∀ h' tk' o', IsI w e o' (cDel ce k) → Fr h₀ L h' m → News h₀ L h' (u o') → Q .none { s with heap := h', toks := tk' }) :
    wpAny (model PySem.Challenge.rw_np0016_01.row.prog w) (ktrTop dp un gd cn cs L a ccd cl outer) (call (.ref 119) [.ref l, .int k tk]) Q E s := by
  w_on
  refine wpAny_call ?_
  k_dflt cell_enter
  k_steps
  all_goals first | exact ret _ _ _ (by assumption) (by assumption) (by assumption) | exact ret _ _ oe (by rw [cDel_none (by assumption)]; assumption) (by assumption) (by rw [UpdF.same U]; assumption)
theorem c_lawvalue {q k1 : Addr} {oq : Obj} {cq : IntD} (i1 : (k1, o1) ∈ news) (I1 : IsI w k1 o1 c1) (iq : (q, oq) ∈ news) (Iq : IsI w q oq cq)
    (ret : ∀ r h' tk', Flat r (valD cq c1 k) → Fr h₀ L h' m → News h₀ L h' news → Q r { s with heap := h', toks := tk' }) :
    wpAny (model PySem.Challenge.rw_np0016_01.row.prog w) (ktrTop dp un gd cn cs L a ccd cl outer) (call (.ref 201) [.ref k1, .ref q, .int k tk]) Q E s := by
  w_on
  refine wpAny_call ?_
  k_dflt cell_enter
  k_steps
  all_goals first | exact ret _ _ _ (by rw [← val_some (by assumption)]; assumption) (by assumption) (by assumption) | exact ret _ _ _ (by rw [← val_none (by assumption)]; assumption) (by assumption) (by assumption)
theorem c_draw {dq : Addr} {vs : List Value} {ns : List Int} {n : Nat} {many : Int} {tm : Tok} (U : UpdF dq (PySem.W.listOf vs.toArray n) news u) (hi : IntsAre vs ns) (hz : ns.length ≤ 1000) (hm : 0 < many)
    (ret : ∀ t h' tk' vs' n', IntsAre vs' ns.tail → Fr h₀ L h' m → News h₀ L h' (u (PySem.W.listOf vs'.toArray n')) → Q (.int (dr ns many) t) { s with heap := h', toks := tk' }) :
    wpAny (model PySem.Challenge.rw_np0016_01.row.prog w) (ktrTop dp un gd cn cs L a ccd cl outer) (call (.ref 187) [.ref dq, .int many tm]) Q E s := by
  w_on
  refine wpAny_call ?_
  k_dflt cell_enter
  k_steps
  all_goals first
    | (have e0 := dr_nil (many := many) (by assumption); rw [e0] at ret; exact ret _ _ _ _ _ (by rw [tail_nil (by assumption)]; exact hi) (by assumption) (by rw [UpdF.same U]; exact news_tail (by assumption)))
    | (subst ns; exact ret _ _ _ _ _ (by assumption) (by assumption) (news_tail (by assumption)))
theorem c_drawR {dq : Addr} {vs : List Value} {ns : List Int} {n : Nat} {many : Int} {tm : Tok} (U : UpdF dq (PySem.W.listOf vs.toArray n) news u) (hi : IntsAre vs ns) (hz : ns.length ≤ 1000) (hm : 0 < many)
    (ret : ∀ r t h' tk' vs' n', 0 ≤ r → r < many → IntsAre vs' ns.tail → Fr h₀ L h' m → News h₀ L h' (u (PySem.W.listOf vs'.toArray n')) → Q (.int r t) { s with heap := h', toks := tk' }) :
    wpAny (model PySem.Challenge.rw_np0016_01.row.prog w) (ktrTop dp un gd cn cs L a ccd cl outer) (call (.ref 187) [.ref dq, .int many tm]) Q E s :=
  c_draw B F X N T hk hdp hun U hi hz hm fun t h' tk' vs' n' i F' N' => ret _ t h' tk' vs' n' (dr_lo _ hm) (dr_hi _ hm) i F' N'
theorem c_drawK {k : Int} {dq : Addr} {vs : List Value} {ns : List Int} {n : Nat} {many : Int} {tm : Tok} (U : UpdF dq (PySem.W.listOf vs.toArray n) news u) (hi : IntsAre vs ns) (hz : ns.length ≤ 1000) (hm : 0 < many) (e : dr ns many = k)
    (ret : ∀ t h' tk' vs' n', IntsAre vs' ns.tail → Fr h₀ L h' m → News h₀ L h' (u (PySem.W.listOf vs'.toArray n')) → Q (.int k t) { s with heap := h', toks := tk' }) :
    wpAny (model PySem.Challenge.rw_np0016_01.row.prog w) (ktrTop dp un gd cn cs L a ccd cl outer) (call (.ref 187) [.ref dq, .int many tm]) Q E s := by
  subst e
  exact c_draw B F X N T hk hdp hun U hi hz hm ret
end
theorem said31 : True := by
  k_with "call ref" => (k_here; k_dflt (refine c_default (by k_asm) (by k_asm) (by k_asm) (by k_asm) (by k_asm) (by first | exact rfl | assumption) (by ktr_room) (by ktr_units) (by k_mem) (by k_mem) (by k_mem) (by k_asm) ?_); intro r' h' tk' f' F' N'; (try dsimp only at N'))
  k_with "call ref" => (k_here; k_dflt (refine c_setdef (by k_asm) (by k_asm) (by k_asm) (by k_asm) (by k_asm) (by first | exact rfl | assumption) (by ktr_room) (by ktr_units) (by k_mem) (by k_mem) (by k_updF) (by k_asm) (by first | assumption | omega) (by k_flat) ?_); intro h' tk' o' I' F' N'; (try dsimp only at N'))
  k_with "call ref" => (k_here; k_dflt (refine c_isauto (by k_asm) (by k_asm) (by k_asm) (by k_asm) (by k_asm) (by first | exact rfl | assumption) (by ktr_room) (by ktr_units) (by k_mem) (by k_mem) (by k_mem) (by k_asm) ?_); intro h' tk' F' N'; (try dsimp only at N'))
  k_with "call ref" => (k_here; k_dflt (refine c_isperm (by k_asm) (by k_asm) (by k_asm) (by k_asm) (by k_asm) (by first | exact rfl | assumption) (by ktr_room) (by ktr_units) (by k_mem) (by k_mem) (by k_mem) (by k_asm) (by assumption) ?_); intro h' tk' F' N'; (try dsimp only at N'))
  k_with "call ref" => (k_here; k_dflt (refine c_makeperm (by k_asm) (by k_asm) (by k_asm) (by k_asm) (by k_asm) (by first | exact rfl | assumption) (by ktr_room) (by ktr_units) (by k_mem) (by k_mem) (by k_updF) (by k_asm) (by first | assumption | omega) ?_); intro h' tk' o' I' F' N'; (try dsimp only at N'))
  k_with "call ref" => (k_here; k_dflt (refine c_islocal (by k_asm) (by k_asm) (by k_asm) (by k_asm) (by k_asm) (by first | exact rfl | assumption) (by ktr_room) (by ktr_units) (by k_mem) (by k_mem) (by k_mem) (by k_asm) ?_); intro h' tk' F' N'; (try dsimp only at N'))
  k_with "call ref" => (k_here; k_dflt (refine c_kill (by k_asm) (by k_asm) (by k_asm) (by k_asm) (by k_asm) (by first | exact rfl | assumption) (by ktr_room) (by ktr_units) (by k_mem) (by k_mem) (by k_updF) (by k_asm) (by first | assumption | omega) ?_); intro h' tk' o' I' F' N'; (try dsimp only at N'))
  k_with "call ref" => (k_here; k_dflt (refine c_lawvalue (by k_asm) (by k_asm) (by k_asm) (by k_asm) (by k_asm) (by first | exact rfl | assumption) (by ktr_room) (by ktr_units) (by k_mem) (by k_asm) (by k_mem) (by k_asm) ?_); intro r' h' tk' f' F' N'; (try dsimp only at N'))
  exact trivial
section
variable {w : World} {p : Program} {loose : List Str} {mean : ExcName → Option Value} {mg mb : Str → Option Value} {dp un : Nat} {gd : Option (List Code)} {cn : Str} {cs : Scope} {a : Addr} {ccd : Value} {cl : List (Str × Addr)} {outer : List Env} {A₀ : Around} {base h₀ : Heap} {L : Addr} {m : Str → Option Value} {s : Shared} {Q E : Value → Shared → Prop} {news : List (Addr × Obj)}
variable {v dv a1 a2 a3 l dl e : Addr} {o1 o2 o3 oe : Obj} {c1 c2 c3 ce : IntD} {k : Int} {tk t1 t2 t3 t4 : Tok} {nv nl : Nat} {u u2 : Obj → List (Addr × Obj)} {val : Value} {dd : PyData}
variable (B : Below A₀ base outer h₀) (F : Fr h₀ L s.heap m) (X : (hd.heap_39 w.params).In h₀) (N : News h₀ L s.heap news) (T : Top p loose mean mg mb h₀) (hk : cs.kind = .function) (hdp : dp + 10 < recursionLimit) (hun : un + 140 < cLine)
include B F X N T hk hdp hun
theorem c_valuein (iv : (v, instObj 73 dv) ∈ news) (ivd : (dv, varsD w t1 t2 t3 a1 a2 a3 nv) ∈ news) (i1 : (a1, o1) ∈ news) (I1 : IsI w a1 o1 c1) (il : (l, instObj 127 dl) ∈ news) (ild : (dl, locD w t4 e nl) ∈ news) (ie : (e, oe) ∈ news) (Ie : IsI w e oe ce)
    (ret : ∀ r h' tk', Flat r (valD ce c1 k) → Fr h₀ L h' m → News h₀ L h' news → Q r { s with heap := h', toks := tk' }) :
    wpAny (model PySem.Challenge.rw_np0016_01.row.prog w) (ktrTop dp un gd cn cs L a ccd cl outer) (call (.ref 138) [.ref v, .ref l, .int k tk]) Q E s := by
  w_on
  refine wpAny_call ?_
  k_dflt cell_enter
  k_steps
  all_goals first | exact ret _ _ _ (by rw [← val_some (by assumption)]; assumption) (by assumption) (by assumption) | exact ret _ _ _ (by rw [← val_none (by assumption)]; assumption) (by assumption) (by assumption)
theorem c_setin (iv : (v, instObj 73 dv) ∈ news) (ivd : (dv, varsD w t1 t2 t3 a1 a2 a3 nv) ∈ news) (U : UpdF a1 o1 news u) (I1 : IsI w a1 o1 c1) (i2 : (a2, o2) ∈ news) (I2 : IsI w a2 o2 c2) (il : (l, instObj 127 dl) ∈ news) (ild : (dl, locD w t4 e nl) ∈ news) (U2 : UpdF e oe news u2) (Ie : IsI w e oe ce) (hz1 : c1.length ≤ 60) (hz2 : ce.length ≤ 60) (hv : Flat val dd)
    (retL : ∀ h' tk' o', (look ce k).isSome = true → IsI w e o' (cPut ce k dd) → Fr h₀ L h' m → News h₀ L h' (u2 o') → Q .none { s with heap := h', toks := tk' })
    (retA : ∀ h' tk' o', (look ce k).isSome = false → (look c2 k).isSome = true → IsI w e o' (cPut ce k dd) → Fr h₀ L h' m → News h₀ L h' (u2 o') → Q .none { s with heap := h', toks := tk' })
    (retD : ∀ h' tk' o', (look ce k).isSome = false → (look c2 k).isSome = false → IsI w a1 o' (cPut c1 k dd) → Fr h₀ L h' m → News h₀ L h' (u o') → Q .none { s with heap := h', toks := tk' }) :
    wpAny (model PySem.Challenge.rw_np0016_01.row.prog w) (ktrTop dp un gd cn cs L a ccd cl outer) (call (.ref 145) [.ref v, .ref l, .int k tk, val]) Q E s := by
  w_on
  refine wpAny_call ?_
  k_dflt cell_enter
  k_steps
  all_goals first | exact retL _ _ _ (by assumption) (by assumption) (by assumption) (by assumption) | exact retA _ _ _ (by assumption) (by assumption) (by assumption) (by assumption) (by assumption) | exact retD _ _ _ (by assumption) (by assumption) (by assumption) (by assumption) (by assumption)
theorem c_makelocal (il : (l, instObj 127 dl) ∈ news) (ild : (dl, locD w t4 e nl) ∈ news) (U : UpdF e oe news u) (Ie : IsI w e oe ce) (iv : (v, instObj 73 dv) ∈ news) (ivd : (dv, varsD w t1 t2 t3 a1 a2 a3 nv) ∈ news) (i1 : (a1, o1) ∈ news) (I1 : IsI w a1 o1 c1) (hz : ce.length ≤ 60)
    (ret : ∀ h' tk' o', IsI w e o' (cPut ce k (valD ce c1 k)) → Fr h₀ L h' m → News h₀ L h' (u o') → Q .none { s with heap := h', toks := tk' }) :
    wpAny (model PySem.Challenge.rw_np0016_01.row.prog w) (ktrTop dp un gd cn cs L a ccd cl outer) (call (.ref 112) [.ref l, .ref v, .int k tk]) Q E s := by
  w_on
  refine wpAny_call ?_
  k_dflt cell_enter
  k_steps
  all_goals first | exact ret _ _ oe (by rw [put_val (IsI.nodup Ie) (by assumption)]; exact Ie) (by assumption) (by rw [UpdF.same U]; assumption) | exact ret _ _ _ (by rw [← val_none (by assumption)]; assumption) (by assumption) (by assumption)
theorem c_names (il : (l, instObj 127 dl) ∈ news) (ild : (dl, locD w t4 e nl) ∈ news) (ie : (e, oe) ∈ news) (Ie : IsI w e oe ce) (hz : ce.length ≤ 60)
    (ret : ∀ D vs ns n h' tk', IntsAre vs ns → ns.Perm (ce.map (·.1)) → ns.Pairwise (· ≤ ·) → (∀ q ∈ news, q.1 < D) → Fr h₀ L h' m → News h₀ L h' ((D, PySem.W.listOf vs.toArray n) :: news) → Q (.ref D) { s with heap := h', toks := tk' }) :
    wpAny (model PySem.Challenge.rw_np0016_01.row.prog w) (ktrTop dp un gd cn cs L a ccd cl outer) (call (.ref 105) [.ref l]) Q E s := by
  w_on
  refine wpAny_call ?_
  k_dflt cell_enter
  k_steps
  all_goals exact ret _ _ _ _ _ _ (by assumption) (by assumption) (by assumption) (lt_ofAll (by assumption)) (by assumption) (news_skip (by assumption))
theorem c_bind (iv : (v, instObj 73 dv) ∈ news) (ivd : (dv, varsD w t1 t2 t3 a1 a2 a3 nv) ∈ news) (U : UpdF a1 o1 news u) (I1 : IsI w a1 o1 c1) (il : (l, instObj 127 dl) ∈ news) (ild : (dl, locD w t4 e nl) ∈ news) (U2 : UpdF e oe news u2) (Ie : IsI w e oe ce) (hz1 : c1.length ≤ 60) (hz2 : ce.length ≤ 60) (hv : Flat val dd)
    (retL : ∀ h' tk' o' x db t5 t6 t7 t8 ts ty n bv, (look ce k).isSome = true → Flat bv (valD ce c1 k) → IsI w e o' (cPut ce k dd) → (∀ q ∈ news, q.1 < db) → @LT.lt Nat _ db x → Fr h₀ L h' m → News h₀ L h' ((x, instObj 162 db) :: (db, boundD w t5 t6 t7 t8 (.int 0 ts) (.ref l) (.int k ty) bv n) :: u2 o') → Q (.ref x) { s with heap := h', toks := tk' })
    (retD : ∀ h' tk' o' x db t5 t6 t7 t8 ts ty n bv, (look ce k).isSome = false → Flat bv (valD ce c1 k) → IsI w a1 o' (cPut c1 k dd) → (∀ q ∈ news, q.1 < db) → @LT.lt Nat _ db x → Fr h₀ L h' m → News h₀ L h' ((x, instObj 162 db) :: (db, boundD w t5 t6 t7 t8 (.int 1 ts) .none (.int k ty) bv n) :: u o') → Q (.ref x) { s with heap := h', toks := tk' }) :
    wpAny (model PySem.Challenge.rw_np0016_01.row.prog w) (ktrTop dp un gd cn cs L a ccd cl outer) (call (.ref 173) [.ref v, .ref l, .int k tk, val]) Q E s := by
  w_on
  refine wpAny_call ?_
  k_dflt cell_enter
  k_steps
  all_goals first
    | exact retL _ _ _ _ _ _ _ _ _ _ _ _ _ (by assumption) (by rw [← val_some (by assumption)]; assumption) (by assumption) (by assumption) (by assumption) (by assumption) (by assumption)
    | exact retD _ _ _ _ _ _ _ _ _ _ _ _ _ (by assumption) (by rw [← val_none (by assumption)]; assumption) (by assumption) (by assumption) (by assumption) (by assumption) (by assumption)
theorem c_unbindD {b db : Addr} {t5 t6 t7 t8 ts ty : Tok} {n : Nat} {ov bv : Value} (iv : (v, instObj 73 dv) ∈ news) (ivd : (dv, varsD w t1 t2 t3 a1 a2 a3 nv) ∈ news) (U : UpdF a1 o1 news u) (I1 : IsI w a1 o1 c1) (ib : (b, instObj 162 db) ∈ news) (ibd : (db, boundD w t5 t6 t7 t8 (.int 1 ts) ov (.int k ty) bv n) ∈ news) (hz1 : c1.length ≤ 60) (hv : Flat bv dd)
    (ret : ∀ h' tk' o', IsI w a1 o' (cPut c1 k dd) → Fr h₀ L h' m → News h₀ L h' (u o') → Q .none { s with heap := h', toks := tk' }) :
    wpAny (model PySem.Challenge.rw_np0016_01.row.prog w) (ktrTop dp un gd cn cs L a ccd cl outer) (call (.ref 180) [.ref v, .ref b]) Q E s := by
  w_on
  refine wpAny_call ?_
  k_dflt cell_enter
  k_steps
  all_goals exact ret _ _ _ (by assumption) (by assumption) (by assumption)
theorem c_unbindL {b db : Addr} {t5 t6 t7 t8 ts ty : Tok} {n : Nat} {bv : Value} (ib : (b, instObj 162 db) ∈ news) (ibd : (db, boundD w t5 t6 t7 t8 (.int 0 ts) (.ref l) (.int k ty) bv n) ∈ news) (iv : (v, instObj 73 dv) ∈ news) (il : (l, instObj 127 dl) ∈ news) (ild : (dl, locD w t4 e nl) ∈ news) (U2 : UpdF e oe news u2) (Ie : IsI w e oe ce) (hz1 : ce.length ≤ 60) (hv : Flat bv dd)
    (ret : ∀ h' tk' o', IsI w e o' (cUnb ce k dd) → Fr h₀ L h' m → News h₀ L h' (u2 o') → Q .none { s with heap := h', toks := tk' }) :
    wpAny (model PySem.Challenge.rw_np0016_01.row.prog w) (ktrTop dp un gd cn cs L a ccd cl outer) (call (.ref 180) [.ref v, .ref b]) Q E s := by
  w_on
  refine wpAny_call ?_
  k_dflt cell_enter
  k_steps
  all_goals first | exact ret _ _ _ (by unfold cUnb; rw [if_pos (by assumption)]; assumption) (by assumption) (by assumption) | exact ret _ _ oe (by unfold cUnb; rw [if_neg (by simp_all)]; exact Ie) (by assumption) (by rw [UpdF.same U2]; assumption)
end
local macro_rules | `(tactic| k_all) => `(tactic| exact all_ne_of_lt (by assumption))
theorem said41 : True := by
  k_with "compareOp NotIn int ref" => (k_here; k_dflt (refine my_notinl (by k_asm) (by k_mem) (by first | assumption | exact IntsAre.cons _ _ IntsAre.nil) ?_))
  k_with "exec For Name Name cons nil" => (k_here; (rename Fr _ _ _ _ => lF'); (with_unfolding_all refine For_invVF lF' (by exact rfl) (by exact rfl) ?_))
  k_with "call ref" => (k_here; k_dflt (refine c_names (by k_asm) (by k_asm) (by k_asm) (by k_asm) (by k_asm) (by first | exact rfl | assumption) (by ktr_room) (by ktr_units) (by k_mem) (by k_mem) (by k_mem) (by k_asm) (by first | assumption | omega) ?_); intro D' vs' ns' n' h' tk' i' p' o' l' F' N'; (try dsimp only at N'))
  exact trivial
theorem off1_mem {D : Addr} : ∀ {l : List (Addr × Obj)}, LCg.Off1 D l → ∀ p ∈ l, p.1 ≠ D := by
  intro l
  induction l with
  | nil => intro _ p hp; cases hp
  | cons q l ih =>
    intro h p hp
    rcases List.mem_cons.mp hp with e | hp
    · rw [e]; exact h.1
    · exact ih h.2 p hp
theorem off_cons {d I : Addr} {o o' : Obj} {l : List (Addr × Obj)} (off : ∀ p ∈ (d, o) :: l, p.1 ≠ I) : ∀ p ∈ (d, o') :: l, p.1 ≠ I := fun p hp => by
  rcases List.mem_cons.mp hp with rfl | hp
  · exact off (d, o) (.head _)
  · exact off p (.tail _ hp)
section
variable {prog : Program} {w : World} {A : Around} {E : Value → Shared → Prop} {s : Shared} {env : Env} {h₀ : Heap} {x : Str} {body : List Stmt} {Q : Flow → Shared → Prop}
/-- a loop by a word over the frame's map and the ledger; the ledger's addresses may change -/
theorem my_loop {I src : Addr} {os : Obj} {fp : List Addr} {n : Nat} {P : Nat → Value → Prop} {St : Nat → Heap → Prop} {m₀ : Str → Option Value} {news : List (Addr × Obj)} (J : Nat → (Str → Option Value) → List (Addr × Obj) → Prop)
    (W : Walks prog w A I fp [I] n P St) (hfp : ∀ b ∈ fp, b = I ∨ (b = src ∧ src ≠ env.locals ∧ ∀ i m nw, J i m nw → (src, os) ∈ nw)) (hLI : env.locals ≠ I) (hI₀ : h₀.get? I = none)
    (hSt : ∀ i h, St i h → ∃ o, h.get? I = some o) (hst : St 0 s.heap) (F : Fr h₀ env.locals s.heap m₀) (N : News h₀ env.locals s.heap news) (off : ∀ p ∈ news, p.1 ≠ I) (hj : J 0 m₀ news)
    (turn : ∀ i v m₁ nw it h tk, i < n → P i v → J i m₁ nw → Fr h₀ env.locals h (fun y => if y = x then some v else m₁ y) → News h₀ env.locals h ((I, it) :: nw) → (∀ p ∈ nw, p.1 ≠ I) →
      wpAny (model prog w) A (execs body env) (UnrPost h₀ env.locals { s with heap := h, toks := tk } I it (J (i + 1)) Q) E { s with heap := h, toks := tk })
    (done : ∀ m₁ nw h tk, J n m₁ nw → Fr h₀ env.locals h m₁ → News h₀ env.locals h nw → Q .next { s with heap := h, toks := tk }) :
    LoopAtV prog w A h₀ env x body Q E (.ref I) s := by
  refine ⟨I, fp, [I], n, P, St, m₀, news, J, rfl, W, ?_, ?_, ?_, hst, F, N, hj, ?_, ?_⟩
  · intro hm
    rcases hfp _ hm with e | ⟨e, h1, _⟩
    · exact hLI e
    · exact h1 e.symm
  · intro b hb
    rw [List.mem_singleton.mp hb]; exact hI₀
  · intro p hp hI
    exact off p hp (List.mem_singleton.mp hI)
  · rintro i v m₁ news₁ s₁ own ⟨hh', tk', rfl⟩ hin hP hJ hoff hown hget hall hst₁ F₁ N₁
    obtain ⟨it, hit⟩ := hSt _ _ hst₁
    have hmem := hall I (W.sub I (List.mem_singleton.mpr rfl)) hI₀ it hit
    have hoff' : ∀ p ∈ news₁, p.1 ≠ I := fun p hp e => hoff p hp (List.mem_singleton.mpr e)
    have N₂ : News h₀ env.locals hh' ((I, it) :: news₁) := fun p hp => by
      rcases List.mem_cons.mp hp with rfl | hp
      · exact N₁ _ (List.mem_append_left _ hmem)
      · exact N₁ _ (List.mem_append_right _ hp)
    refine wpAny_mono (turn i v m₁ news₁ it hh' tk' hin hP hJ F₁ N₂ hoff') (fun f s₂ p => ?_) fun _ _ e => e
    have fin : UnrEnd h₀ env.locals { s with heap := hh', toks := tk' } I it (J (i + 1)) s₂ → LoopStepU h₀ env.locals [I] own (J (i + 1)) { s with heap := hh', toks := tk' } .next s₂ := by
      rintro ⟨h', tk, m', news', e, F', N', ho, r⟩
      refine ⟨rfl, h', tk, m', news', e, F', fun p hp => ?_, fun p hp hI => ho p hp (List.mem_singleton.mp hI), r⟩
      rcases List.mem_append.mp hp with hp | hp
      · have h2 : hh'.get? p.1 = some p.2 := hget p hp
        rcases hfp _ (hown p hp) with h1 | ⟨h1, _, h3⟩
        · have h4 : p = (I, it) := by
            rw [h1, hit] at h2
            exact Prod.ext h1 (Option.some.inj h2).symm
          rw [h4]; exact N' _ (List.mem_cons_self ..)
        · have h4 : p = (src, os) := by
            have z : hh'.get? src = some os := (N₁ (src, os) (List.mem_append_right _ (h3 _ _ _ hJ))).1
            rw [h1, z] at h2
            exact Prod.ext h1 (Option.some.inj h2).symm
          rw [h4]; exact N' _ (List.mem_cons_of_mem _ (h3 _ _ _ r))
      · exact N' _ (List.mem_cons_of_mem _ hp)
    cases f with
    | ret v => exact .ret p
    | brk => exact .brk p
    | next => exact .next (fin p)
    | cont => exact .cont (fin p)
  · rintro h' tk m' news' F' N' _ hJ
    exact done m' news' h' tk hJ F' N'

theorem my_list {l : Addr} {vs : List Value} {ns : List Int} {nl : Nat} {m₀ : Str → Option Value} {news : List (Addr × Obj)} (J : Nat → (Str → Option Value) → List (Addr × Obj) → Prop)
    (hJ : ∀ i m nw, J i m nw → (l, PySem.W.listOf vs.toArray nl) ∈ nw) (hh : A.handled = none) (hi : IntsAre vs ns) (F : Fr h₀ env.locals s.heap m₀) (N : News h₀ env.locals s.heap news) (hj : J 0 m₀ news)
    (turn : ∀ i k t m₁ nw I it h tk, ns[i]? = some k → J i m₁ nw → Fr h₀ env.locals h (fun y => if y = x then some (.int k t) else m₁ y) → News h₀ env.locals h ((I, it) :: nw) → (∀ p ∈ nw, p.1 ≠ I) → (∀ p ∈ news, p.1 < I) →
      wpAny (model prog w) A (execs body env) (UnrPost h₀ env.locals { s with heap := h, toks := tk } I it (J (i + 1)) Q) E { s with heap := h, toks := tk })
    (done : ∀ m₁ nw h tk, J ns.length m₁ nw → Fr h₀ env.locals h m₁ → News h₀ env.locals h nw → Q .next { s with heap := h, toks := tk }) :
    wpAny (model prog w) A (pyIter (.ref l)) (fun it s₂ => LoopAtV prog w A h₀ env x body Q E it s₂) E s := by
  have hm := hJ _ _ _ hj
  have hax := N _ hm
  have hl : s.heap.IsList l vs.toArray := kso_isList N hm rfl
  have hlt : l < s.heap.objs.size := Heap.lt_size hax.1
  refine wpAny_pyIter_list hl ?_
  have hlen : vs.toArray.size = ns.length := by simp [hi.length]
  refine my_loop (src := l) (os := PySem.W.listOf vs.toArray nl) J (Walks.list (prog := prog) (w := w) hh s.heap.objs.size l (Nat.ne_of_lt hlt) vs.toArray) ?_ ?_ (next_is_new F) ?_ ⟨⟨_, Heap.get?_push_size _ rfl, rfl, rfl⟩, hl.at fun o e => Heap.get?_push_of_some _ e⟩ (F.push _) (fun p hp => ⟨Heap.get?_push_of_some _ (N p hp).1, (N p hp).2⟩) (fun p hp => Nat.ne_of_lt (Heap.lt_size (N p hp).1)) hj ?_ ?_
  · intro b hb
    rcases List.mem_cons.mp hb with e | hb
    · exact .inl e
    · exact .inr ⟨List.mem_singleton.mp hb, hax.2.1, hJ⟩
  · exact Nat.ne_of_lt F.ns.lt
  · rintro i h ⟨⟨o, e, _⟩, _⟩
    exact ⟨o, e⟩
  · intro i v m₁ nw it h tk hin hP hJ' F' N' off'
    obtain ⟨k, t, hk, hv⟩ := IntsAre.at hi i v (by simpa using hP)
    have hv' : v = .int k t := by first | exact hv | exact hk
    subst hv'
    exact turn i k t m₁ nw _ it h tk (by first | exact hk | exact hv) hJ' F' N' off' fun p hp => Heap.lt_size (N p hp).1
  · intro m₁ nw h tk hJ' F' N'
    rw [hlen] at hJ'
    exact done m₁ nw h tk hJ' F' N'

theorem my_range {r : Addr} {a₀ b₀ : Int} {t₀ u₀ v₀ : Tok} {n : Nat} {m₀ : Str → Option Value} {news : List (Addr × Obj)} (J : Nat → (Str → Option Value) → List (Addr × Obj) → Prop)
    (hh : A.handled = none) (hr : IsRange s.heap r a₀ b₀ 1 t₀ u₀ v₀) (hsmall : Builtin.Range.small a₀ b₀ 1 = true) (hn : Builtin.Range.rangeSize a₀ b₀ 1 = (n : Int)) (F : Fr h₀ env.locals s.heap m₀) (N : News h₀ env.locals s.heap news) (hj : J 0 m₀ news)
    (turn : ∀ i t m₁ nw I it h tk, i < n → J i m₁ nw → Fr h₀ env.locals h (fun y => if y = x then some (.int (a₀ + (i : Int)) t) else m₁ y) → News h₀ env.locals h ((I, it) :: nw) → (∀ p ∈ nw, p.1 ≠ I) → (∀ p ∈ news, p.1 < I) →
      wpAny (model prog w) A (execs body env) (UnrPost h₀ env.locals { s with heap := h, toks := tk } I it (J (i + 1)) Q) E { s with heap := h, toks := tk })
    (done : ∀ m₁ nw h tk, J n m₁ nw → Fr h₀ env.locals h m₁ → News h₀ env.locals h nw → Q .next { s with heap := h, toks := tk }) :
    wpAny (model prog w) A (pyIter (.ref r)) (fun it s₂ => LoopAtV prog w A h₀ env x body Q E it s₂) E s := by
  refine wpAny_pyIter_range hr hsmall ?_
  have W : Walks prog w A s.heap.objs.size [s.heap.objs.size] [s.heap.objs.size] n (fun i v => i < n ∧ ∃ t, v = .int (a₀ + i * 1) t)
      (fun i h => IsRangeIter h s.heap.objs.size (a₀ + (i : Nat) * 1) ((n : Int) - (i : Nat)) 1) := (Walks.range hh _ a₀ 1 n).bound
  refine my_loop (src := r) (os := default) J W ?_ (Nat.ne_of_lt F.ns.lt) (next_is_new F) (fun i h e => ⟨_, e⟩) (by show IsRangeIter _ _ _ _ _; rw [hn]; simpa using Heap.get?_push_size _ rfl) (F.push _) (fun p hp => ⟨Heap.get?_push_of_some _ (N p hp).1, (N p hp).2⟩) (fun p hp => Nat.ne_of_lt (Heap.lt_size (N p hp).1)) hj ?_ done
  · intro b hb
    exact .inl (List.mem_singleton.mp hb)
  · rintro i v m₁ nw it h tk hin ⟨_, t, rfl⟩ hJ' F' N' off'
    have e1 : a₀ + (i : Int) * 1 = a₀ + (i : Int) := by rw [Int.mul_one]
    rw [e1] at F'
    exact turn i t m₁ nw _ it h tk hin hJ' F' N' off' fun p hp => Heap.lt_size (N p hp).1
end
section
variable {w : World} {A : Around} {E : Value → Shared → Prop} {s : Shared} {env : Env} {h₀ : Heap} {x : Str} {body : List Stmt} {Q : Flow → Shared → Prop}
theorem my_keys {d : Addr} {o : Obj} {c : IntD} {m₀ : Str → Option Value} {news : List (Addr × Obj)} (J : Nat → (Str → Option Value) → List (Addr × Obj) → Prop)
    (hJ : ∀ i m nw, J i m nw → (d, o) ∈ nw) (hh : A.handled = none) (I : IsI w d o c) (F : Fr h₀ env.locals s.heap m₀) (N : News h₀ env.locals s.heap news) (hj : J 0 m₀ news)
    (turn : ∀ i k dv t m₁ nw I it h tk, c[i]? = some (k, dv) → J i m₁ nw → Fr h₀ env.locals h (fun y => if y = x then some (.int k t) else m₁ y) → News h₀ env.locals h ((I, it) :: nw) → (∀ p ∈ nw, p.1 ≠ I) → (∀ p ∈ news, p.1 < I) →
      wpAny (model PySem.Challenge.rw_np0016_01.row.prog w) A (execs body env) (UnrPost h₀ env.locals { s with heap := h, toks := tk } I it (J (i + 1)) Q) E { s with heap := h, toks := tk })
    (done : ∀ m₁ nw h tk, J c.length m₁ nw → Fr h₀ env.locals h m₁ → News h₀ env.locals h nw → Q .next { s with heap := h, toks := tk }) :
    wpAny (model PySem.Challenge.rw_np0016_01.row.prog w) A (pyIter (.ref d)) (fun it s₂ => LoopAtV PySem.Challenge.rw_np0016_01.row.prog w A h₀ env x body Q E it s₂) E s := by
  have hm := hJ _ _ _ hj
  have hax := N _ hm
  obtain ⟨lo, kvs, hD, hf⟩ := my_tab N hm I
  obtain ⟨ep, hat⟩ := hD.dictAt
  have hlen : kvs.length = c.length := by rw [← hf.length, dk_length]
  have hlt : d < s.heap.objs.size := Heap.lt_size hax.1
  refine wpAny_pyIter_dict lo hat ?_
  refine my_loop (src := d) (os := o) J (Walks.dictKeys (knd := intKind PySem.Challenge.rw_np0016_01.row.prog w) hh s.heap.objs.size d (Nat.ne_of_lt hlt) kvs ep) ?_ (Nat.ne_of_lt F.ns.lt) (next_is_new F) ?_ ⟨⟨_, Heap.get?_push_size _ rfl, rfl, rfl⟩, hat.push _⟩ (F.push _) (fun p hp => ⟨Heap.get?_push_of_some _ (N p hp).1, (N p hp).2⟩) (fun p hp => Nat.ne_of_lt (Heap.lt_size (N p hp).1)) hj ?_ ?_
  · intro b hb
    rcases List.mem_cons.mp hb with e | hb
    · exact .inl e
    · exact .inr ⟨List.mem_singleton.mp hb, hax.2.1, hJ⟩
  · rintro i h ⟨⟨o, e, _⟩, _⟩
    exact ⟨o, e⟩
  · rintro i v m₁ nw it h tk hin ⟨k, xv, hx, hk⟩ hJ' F' N' off'
    obtain ⟨t, rfl⟩ := Value.isInt_shape hk
    obtain ⟨dv, hd, _⟩ := hf.at hx
    have hd' : (c[i]?).map (fun p => (PyData.int p.1, p.2)) = some (PyData.int k, dv) := by rw [← List.getElem?_map]; exact hd
    cases hci : c[i]? with
    | none => rw [hci] at hd'; cases hd'
    | some p =>
      rw [hci] at hd'
      have e1 : PyData.int p.1 = PyData.int k := congrArg Prod.fst (Option.some.inj hd')
      injection e1 with e1
      exact turn i k p.2 t m₁ nw _ it h tk (by rw [hci, ← e1]) hJ' F' N' off' fun p hp => Heap.lt_size (N p hp).1
  · intro m₁ nw h tk hJ' F' N'
    rw [hlen] at hJ'
    exact done m₁ nw h tk hJ' F' N'
end
section
variable {w : World} {A : Around} {E : Value → Shared → Prop} {s : Shared} {env : Env} {h₀ : Heap} {x : Str} {body : List Stmt} {Q : Flow → Shared → Prop}
theorem my_keys1 {d : Addr} {o : Obj} {c : IntD} {m₀ : Str → Option Value} {news : List (Addr × Obj)} (J : Nat → List (Addr × Obj) → Prop)
    (hJ : ∀ i nw, J i nw → (d, o) ∈ nw) (hh : A.handled = none) (I : IsI w d o c) (F : Fr h₀ env.locals s.heap m₀) (N : News h₀ env.locals s.heap news) (hj : J 0 news)
    (turn : ∀ i k dv t nw I it h tk, c[i]? = some (k, dv) → J i nw → Fr h₀ env.locals h (fun y => if y = x then some (.int k t) else m₀ y) → News h₀ env.locals h ((I, it) :: nw) → (∀ p ∈ nw, p.1 ≠ I) → (∀ p ∈ news, p.1 < I) →
      wpAny (model PySem.Challenge.rw_np0016_01.row.prog w) A (execs body env) (UnrPost h₀ env.locals { s with heap := h, toks := tk } I it (fun m' nw' => J (i + 1) nw' ∧ ∀ z, z ≠ x → m' z = m₀ z) Q) E { s with heap := h, toks := tk })
    (done : ∀ (u : Str → Option Value) nw h tk, J c.length nw → Fr h₀ env.locals h (fun y => if y = x then u y else m₀ y) → News h₀ env.locals h nw → Q .next { s with heap := h, toks := tk }) :
    wpAny (model PySem.Challenge.rw_np0016_01.row.prog w) A (pyIter (.ref d)) (fun it s₂ => LoopAtV PySem.Challenge.rw_np0016_01.row.prog w A h₀ env x body Q E it s₂) E s := by
  refine my_keys (fun i m' nw' => J i nw' ∧ ∀ z, z ≠ x → m' z = m₀ z) (fun i m nw h => hJ i nw h.1) hh I F N ⟨hj, fun _ _ => rfl⟩ ?_ ?_
  · rintro i k dv t m₁ nw I it h tk hci ⟨hj', hm⟩ F' N' off l1
    rw [map_none hm] at F'
    exact turn i k dv t nw I it h tk hci hj' F' N' off l1
  · rintro m₁ nw h tk ⟨hj', hm⟩ F' N'
    rw [← done_none hm] at F'
    exact done m₁ nw h tk hj' F' N'
theorem my_list1 {prog : Program} {l : Addr} {vs : List Value} {ns : List Int} {nl : Nat} {m₀ : Str → Option Value} {news : List (Addr × Obj)} (J : Nat → List (Addr × Obj) → Prop)
    (hJ : ∀ i nw, J i nw → (l, PySem.W.listOf vs.toArray nl) ∈ nw) (hh : A.handled = none) (hi : IntsAre vs ns) (F : Fr h₀ env.locals s.heap m₀) (N : News h₀ env.locals s.heap news) (hj : J 0 news)
    (turn : ∀ i k t nw I it h tk, ns[i]? = some k → J i nw → Fr h₀ env.locals h (fun y => if y = x then some (.int k t) else m₀ y) → News h₀ env.locals h ((I, it) :: nw) → (∀ p ∈ nw, p.1 ≠ I) → (∀ p ∈ news, p.1 < I) →
      wpAny (model prog w) A (execs body env) (UnrPost h₀ env.locals { s with heap := h, toks := tk } I it (fun m' nw' => J (i + 1) nw' ∧ ∀ z, z ≠ x → m' z = m₀ z) Q) E { s with heap := h, toks := tk })
    (done : ∀ (u : Str → Option Value) nw h tk, J ns.length nw → Fr h₀ env.locals h (fun y => if y = x then u y else m₀ y) → News h₀ env.locals h nw → Q .next { s with heap := h, toks := tk }) :
    wpAny (model prog w) A (pyIter (.ref l)) (fun it s₂ => LoopAtV prog w A h₀ env x body Q E it s₂) E s := by
  refine my_list (fun i m' nw' => J i nw' ∧ ∀ z, z ≠ x → m' z = m₀ z) (fun i m nw h => hJ i nw h.1) hh hi F N ⟨hj, fun _ _ => rfl⟩ ?_ ?_
  · rintro i k t m₁ nw I it h tk hci ⟨hj', hm⟩ F' N' off l1
    rw [map_none hm] at F'
    exact turn i k t nw I it h tk hci hj' F' N' off l1
  · rintro m₁ nw h tk ⟨hj', hm⟩ F' N'
    rw [← done_none hm] at F'
    exact done m₁ nw h tk hj' F' N'
end
section
variable {w : World} {p : Program} {loose : List Str} {mean : ExcName → Option Value} {mg mb : Str → Option Value} {dp un : Nat} {gd : Option (List Code)} {cn : Str} {cs : Scope} {a : Addr} {ccd : Value} {cl : List (Str × Addr)} {outer : List Env} {A₀ : Around} {base h₀ : Heap} {L : Addr} {m : Str → Option Value} {s : Shared} {Q E : Value → Shared → Prop} {news : List (Addr × Obj)}
variable {v dv a1 a2 a3 l dl e : Addr} {o1 o2 o3 oe : Obj} {c1 c2 c3 ce : IntD} {k : Int} {tk t1 t2 t3 t4 : Tok} {nv nl : Nat} {u u2 : Obj → List (Addr × Obj)} {val : Value} {dd : PyData}
variable (B : Below A₀ base outer h₀) (F : Fr h₀ L s.heap m) (X : (hd.heap_39 w.params).In h₀) (N : News h₀ L s.heap news) (T : Top p loose mean mg mb h₀) (hk : cs.kind = .function) (hdp : dp + 15 < recursionLimit) (hun : un + 180 < cLine)
include B F X N T hk hdp hun
theorem c_without {row gone : Addr} {orow : Obj} {c : IntD} {gs : List Int} {gv : List Value} {ng : Nat} (ir : (row, orow) ∈ news) (Ir : IsI w row orow c) (ig : (gone, PySem.W.listOf gv.toArray ng) ∈ news) (hg : IntsAre gv gs) (hz : c.length ≤ 60)
    (ret : ∀ h' tk' d o', IsI w d o' (cWO c gs) → (∀ q ∈ news, q.1 < d) → Fr h₀ L h' m → News h₀ L h' ((d, o') :: news) → Q (.ref d) { s with heap := h', toks := tk' }) :
    wpAny (model PySem.Challenge.rw_np0016_01.row.prog w) (ktrTop dp un gd cn cs L a ccd cl outer) (call (.ref 194) [.ref row, .ref gone]) Q E s := by
  w_on
  refine wpAny_call ?_
  k_dflt cell_enter
  k_steps
  rename_i fd h2 fo l1 lo1 hs1 fs1 hi1 fi1 h3 N1
  have FL := lF'
  have I0 : IsI w fd fo (cWO (c.take 0) gs) := ⟨lo1, _, hi1, fi1⟩
  refine my_keys1 (fun i nw => ∃ fo', IsI w fd fo' (cWO (c.take i) gs) ∧ nw = (fd, fo') :: news) ?_ (by rfl) Ir FL N1 ⟨fo, I0, rfl⟩ ?_ ?_
  · rintro i nw ⟨fo', _, rfl⟩
    exact .tail _ ir
  · rintro i k dv t nw I it h tk hci ⟨fo', If, rfl⟩ F2 N2 off l2
    have hlk := look_at_some (IsI.nodup Ir) hci
    have hIf : I ≠ fd := Ne.symm (off _ (.head _))
    have hzf : (cWO (c.take i) gs).length ≤ 1000 := by
      have h1 := cWO_len (c.take i) gs
      have h2 : (c.take i).length ≤ c.length := by rw [List.length_take]; omega
      omega
    k_steps
    all_goals first
      | exact UnrEnd.intro F2 N2 ((fd, fo') :: news) (fun p hp => hp) (fun p hp => off p hp) ⟨⟨fo', by rw [wo_in hci (by assumption)]; exact If, rfl⟩, fun z hz => if_neg hz⟩
      | exact UnrEnd.intro (by assumption) (by assumption) ((fd, _) :: news) (fun p hp => hp) (fun p hp => off_cons off p hp) ⟨⟨_, by rw [← wo_out (IsI.nodup Ir) hci (by assumption)]; assumption, rfl⟩, fun z hz => if_neg hz⟩
  · rintro u nw h tk ⟨fo', If, rfl⟩ F2 N2
    rw [List.take_length] at If
    k_steps
    all_goals exact ret _ _ fd fo' If l1 (by assumption) (by assumption)
theorem c_killall (il : (l, instObj 127 dl) ∈ news) (ild : (dl, locD w t4 e nl) ∈ news) (U : UpdF e oe news u) (Ie : IsI w e oe ce) (iv : (v, instObj 73 dv) ∈ news) (ivd : (dv, varsD w t1 t2 t3 a1 a2 a3 nv) ∈ news) (i3 : (a3, o3) ∈ news) (I3 : IsI w a3 o3 c3) (hb : BOK c3) (hn1 : l ≠ e) (hn2 : dl ≠ e) (hz : ce.length ≤ 60) (hz3 : c3.length ≤ 60)
    (ret : ∀ D vs gs n h' tk' o', IntsAre vs gs → gs.Perm ((ce.map (·.1)).filter fun k => !permB c3 k) → gs.Pairwise (· ≤ ·) → IsI w e o' (cWO ce gs) → (∀ q ∈ news, q.1 ≠ D) → Fr h₀ L h' m → News h₀ L h' ((D, PySem.W.listOf vs.toArray n) :: u o') → Q (.ref D) { s with heap := h', toks := tk' }) :
    wpAny (model PySem.Challenge.rw_np0016_01.row.prog w) (ktrTop dp un gd cn cs L a ccd cl outer) (call (.ref 124) [.ref l, .ref v]) Q E s := by
  w_on
  refine wpAny_call ?_
  k_dflt (refine' code_defC ?k1 ?k2 ?k3 ?k4 ?k5 ?kA ?kF ?kK ?k6 ?k7 ?k8 ?k9 ?kB ?kD ?_ ?c2 ?c3 ?c4; (case kA => exact rfl); (case kF => exact rfl); (case kK => assumption); (case k1 => k_asm); (case k2 => k_asm); (case k3 => k_asm); (case k4 => k_asm); (case k5 => k_asm); (case k6 => k_is); (case k7 => k_is); (case k8 => ktr_room); (case k9 => exact BindsTo.of_eq rfl); (case kB => exact rfl); (case kD => decide +kernel); (case c2 => exact rfl); (case c3 => exact rfl); (case c4 => exact rfl); intro g' L' h' tk' cells' FG' F' N' Y' B' X' T' lc; k_cells Y'; (try simp only [List.cons_append, List.nil_append] at N'); (try dsimp only); (try k_fold))
  refine wpAny_execs_cons ?_
  k_dflt (refine LCt.Assign_ListComp_T (F₀ := by k_asm) (by rfl) (by with_unfolding_all rfl) (by with_unfolding_all rfl) (by decide) (by rfl) (by decide) (by rfl) (by rfl) (by rfl) ?_)
  k_steps
  have FD := F'
  have ND := N'
  have hi := i'
  have hp := p'
  have ho := o'
  clear F' N'
  have hnl : ns'.length ≤ 60 := by rw [hp.length_eq, List.length_map]; exact hz
  have hvl : vs'.length ≤ 60 := by rw [hi.length]; exact hnl
  k_dflt (refine LCt.CompSrcT.ledger (by rfl) FD ND (.head _) (by rw [sizeLine_eq, List.size_toArray]; omega) ?_)
  intro gX
  refine kci_list (fun l k => if permB c3 k = true then l else l ++ [k]) hi ?_ ?_ ?_
  · intro k tk I oI C oC DD m2 ys lz h tk2 E' hk9 hys hC hx F9 N9 off9 ne9 mark
    k_steps
    all_goals first
      | exact LCg.CompEnd.intro (by assumption) (by assumption) _ (fun p hp => hp) off9 (.inr ⟨_, .head _, rfl, _, rfl⟩) (kci_no (by rw [if_pos (by assumption)]) rfl)
      | exact LCg.CompEnd.intro (by assumption) (by assumption) _ (fun p hp => hp) off9 (.inr ⟨_, .head _, rfl, _, rfl⟩) (kci_el (by rw [if_neg (by simp_all)]) rfl rfl)
  · unfold KPfDone
    intro ys hys hyl
    rw [fold_filter, List.nil_append] at hys
    have hgp : (ns'.filter fun k => !permB c3 k).Perm ((ce.map (·.1)).filter fun k => !permB c3 k) := hp.filter _
    have hgo : (ns'.filter fun k => !permB c3 k).Pairwise (· ≤ ·) := ho.filter _
    have hgn : (ns'.filter fun k => !permB c3 k).Nodup := hgp.nodup_iff.mpr ((IsI.nodup Ie).filter _)
    have hgm : ∀ k ∈ (ns'.filter fun k => !permB c3 k), k ∈ ce.map (·.1) := fun k hk => (List.mem_filter.mp (hgp.mem_iff.mp hk)).1
    generalize (ns'.filter fun k => !permB c3 k) = gs at hys hgp hgo hgn hgm
    k_steps
    rename_i DD hX tkX NX oX
    have FX := lF'
    have offD : ∀ p ∈ news, p.1 ≠ DD := off1_mem oX.2.2
    have hDe : DD ≠ e := Ne.symm (offD _ (UpdF.mem U))
    have NY : News g' L' hX ((DD, PySem.W.listOf ys.toArray ys.length) :: u oe) := by
      rw [UpdF.same U]
      intro q hq
      rcases List.mem_cons.mp hq with rfl | hq
      · exact NX _ (.head _)
      · exact NX _ (.tail _ (.tail _ (.tail _ hq)))
    have I0 : IsI w e oe (cWO ce (gs.take 0)) := by
      have e0 : cWO ce (gs.take 0) = ce := by unfold cWO; simp
      rw [e0]; exact Ie
    refine my_list1 (l := DD) (nl := ys.length) (fun i nw => ∃ oe', IsI w e oe' (cWO ce (gs.take i)) ∧ nw = (DD, PySem.W.listOf ys.toArray ys.length) :: u oe') ?_ (by rfl) hys FX NY ⟨oe, I0, rfl⟩ ?_ ?_
    · rintro i nw ⟨oe', _, rfl⟩
      exact .head _
    · rintro i k t nw I it h tk hgi ⟨oe', If, rfl⟩ F2 N2 off l2
      have U' : UpdF e oe' (u oe') u := UpdF.again U
      have il' := UpdF.keepMem oe' U hn1 il
      have ild' := UpdF.keepMem oe' U hn2 ild
      have hIe : I ≠ e := Ne.symm (off _ (.tail _ (UpdF.mem U')))
      have hhas := wo_has (c := ce) hgn hgi (hgm k (List.mem_of_getElem? hgi))
      have hzf : (cWO ce (gs.take i)).length ≤ 1000 := by
        have h1 := cWO_len ce (gs.take i)
        omega
      k_steps
      all_goals exact UnrEnd.intro (by assumption) (by assumption) ((DD, _) :: u _) (fun p hp => hp) (UpdF.all (P := fun a => a ≠ I) _ (UpdF.tail (p := (DD, PySem.W.listOf ys.toArray ys.length)) hDe U') off) ⟨⟨_, by rw [← wo_pop hgi]; assumption, rfl⟩, fun z hz => if_neg hz⟩
    · rintro uu nw h tk ⟨oe', If, rfl⟩ F2 N2
      rw [List.take_length] at If
      k_steps
      all_goals exact ret _ _ _ _ _ _ _ hys hgp hgo If offD (by assumption) (by assumption)
  · intro l k
    show (if permB c3 k = true then l else l ++ [k]).length ≤ l.length + 1
    split <;> simp
end
theorem said56 : True := by
  k_with "call ref" => (k_here; k_dflt (refine c_without (by k_asm) (by k_asm) (by k_asm) (by k_asm) (by k_asm) (by first | exact rfl | assumption) (by ktr_room) (by ktr_units) (by k_mem) (by k_asm) (by k_mem) (by first | assumption | exact IntsAre.cons _ _ IntsAre.nil) (by first | assumption | omega) ?_); intro h' tk' d' o' I' l' F' N'; (try dsimp only at N'))
  exact trivial
def put (d : Addr) (o' : Obj) (l : List (Addr × Obj)) : List (Addr × Obj) := l.map fun p => if p.1 = d then (d, o') else p
theorem put_keys (d : Addr) (o' : Obj) (l : List (Addr × Obj)) : (put d o' l).map (·.1) = l.map (·.1) := by
  unfold put
  rw [List.map_map]
  refine List.map_congr_left fun p _ => ?_
  show (if p.1 = d then (d, o') else p).1 = p.1
  split
  · next e => exact e.symm
  · rfl
theorem put_put (d : Addr) (o' o'' : Obj) (l : List (Addr × Obj)) : put d o'' (put d o' l) = put d o'' l := by
  unfold put
  rw [List.map_map]
  refine List.map_congr_left fun p _ => ?_
  show (if (if p.1 = d then (d, o') else p).1 = d then (d, o'') else (if p.1 = d then (d, o') else p)) = if p.1 = d then (d, o'') else p
  by_cases e : p.1 = d
  · rw [if_pos e, if_pos rfl, if_pos e]
  · rw [if_neg e, if_neg e]
theorem put_new {d : Addr} {o o' : Obj} {l : List (Addr × Obj)} (h : (d, o) ∈ l) : (d, o') ∈ put d o' l :=
  List.mem_map.mpr ⟨_, h, if_pos rfl⟩
theorem put_keep {d a : Addr} {o o' : Obj} {l : List (Addr × Obj)} (n : a ≠ d) (h : (a, o) ∈ l) : (a, o) ∈ put d o' l :=
  List.mem_map.mpr ⟨_, h, if_neg n⟩
theorem put_off {d : Addr} {o' : Obj} {l : List (Addr × Obj)} (h : ∀ p ∈ l, p.1 ≠ d) : put d o' l = l := by
  unfold put
  refine (List.map_congr_left (g := id) fun p hp => ?_).trans (List.map_id _)
  exact if_neg (h p hp)
theorem updF_put {d : Addr} {o : Obj} : ∀ {l : List (Addr × Obj)}, (l.map (·.1)).Nodup → (d, o) ∈ l → UpdF d o l (fun o' => put d o' l) := by
  intro l
  induction l with
  | nil => intro _ h; cases h
  | cons p l ih =>
    intro hn hm
    rw [List.map_cons, List.nodup_cons] at hn
    rcases List.mem_cons.mp hm with e | hm
    · subst e
      have off : ∀ p ∈ l, p.1 ≠ d := fun p hp e => hn.1 (List.mem_map.mpr ⟨p, hp, e⟩)
      have e2 : (fun o' => put d o' ((d, o) :: l)) = fun o' => (d, o') :: l := by
        funext o'
        show (if d = d then (d, o') else (d, o)) :: put d o' l = _
        rw [if_pos rfl, put_off off]
      rw [e2]
      exact .head off
    · have ne : p.1 ≠ d := fun e => hn.1 (List.mem_map.mpr ⟨_, hm, e.symm⟩)
      have e2 : (fun o' => put d o' (p :: l)) = fun o' => p :: put d o' l := by
        funext o'
        show (if p.1 = d then (d, o') else p) :: put d o' l = _
        rw [if_neg ne]
      rw [e2]
      exact .tail ne (ih hn.2 hm)
theorem nd_put {d : Addr} {o' : Obj} {l : List (Addr × Obj)} (h : (l.map (·.1)).Nodup) : ((put d o' l).map (·.1)).Nodup := by rw [put_keys]; exact h
theorem nd_cons {D : Addr} {x : Obj} {l : List (Addr × Obj)} (h : ∀ p ∈ l, p.1 ≠ D) (hn : (l.map (·.1)).Nodup) : (((D, x) :: l).map (·.1)).Nodup := by
  rw [List.map_cons, List.nodup_cons]
  refine ⟨fun hm => ?_, hn⟩
  obtain ⟨p, hp, e⟩ := List.mem_map.mp hm
  exact h p hp e
theorem ne_code {cd : Addr → Nat} {a b : Addr} {i j : Nat} (ha : cd a = i) (hb : cd b = j) (h : Nat.beq i j = false) : a ≠ b := fun e => by
  rw [e, hb] at ha
  rw [ha] at h
  rw [Nat.beq_refl] at h
  cases h
section
variable {w : World} {A : Around} {s : Shared} {E : Value → Shared → Prop} {h₀ : Heap} {L a b : Addr} {news : List (Addr × Obj)} {xs : List Value} {na nb : Nat} {m : Str → Option Value} {u : Obj → List (Addr × Obj)} {d : Addr} {n : Nat}
theorem my_nenil {Q : Value → Shared → Prop} (N : News h₀ L s.heap news) (ha : (a, PySem.W.listOf xs.toArray na) ∈ news) (hb : (b, PySem.W.listOf #[] nb) ∈ news) (hu : A.units + 64 < cLine) (h : Q (.bool (!decide (xs = []))) s) :
    wpAny (model PySem.Challenge.rw_np0016_01.row.prog w) A (compareOp .NotEq (.ref a) (.ref b)) Q E s := by
  have hu' : A.units < cLine := by omega
  refine cmp_ofNotEq ?_
  cases xs with
  | nil => exact PySem.SeqAt.RcNeAt.lists (e := fun _ => true) (kso_isList N ha rfl) (kso_isList N hb rfl) rfl hu' (fun j h1 => absurd h1 (Nat.not_lt_zero _)) _ _ _ _ (by simpa using h)
  | cons x xs => exact PySem.SeqAt.RcNeAt.lists_lengths (kso_isList N ha rfl) (kso_isList N hb rfl) (by simp) hu' _ _ _ _ (by simpa using h)
theorem my_app {x : Value} {Q : Value → Shared → Prop} (F : Fr h₀ L s.heap m) (N : News h₀ L s.heap news) (U : UpdF d (PySem.W.listOf xs.toArray n) news u) (hz : xs.length ≤ 60)
    (h : ∀ h' n', Fr h₀ L h' m → News h₀ L h' (u (PySem.W.listOf (xs ++ [x]).toArray n')) → Q .none { s with heap := h' }) :
    wpAny (model PySem.Challenge.rw_np0016_01.row.prog w) A (call (.builtin "list.append") [.ref d, x]) Q E s := by
  refine append_K F N (updOf _ U) (fun h' F' N' => h h' (n + 1) F' ?_) (by rw [sizeLine_eq, List.size_toArray]; omega)
  have e : xs.toArray.push x = (xs ++ [x]).toArray := by simp
  rw [← e]; exact N'
theorem my_popb {Q : Value → Shared → Prop} (F : Fr h₀ L s.heap m) (N : News h₀ L s.heap news) (U : UpdF d (PySem.W.listOf xs.toArray n) news u) (hne' : ¬ xs = []) (hz : xs.length ≤ 60)
    (h : ∀ h' pre b n', xs = pre ++ [b] → Fr h₀ L h' m → News h₀ L h' (u (PySem.W.listOf pre.toArray n')) → Q b { s with heap := h' }) :
    wpAny (model PySem.Challenge.rw_np0016_01.row.prog w) A (call (.builtin "list.pop") [.ref d]) Q E s := by
  cases e : kl_last xs with
  | none => exact absurd (kl_last_none e) hne'
  | some q =>
    obtain ⟨pre, y⟩ := q
    exact kl_pop F N (by simpa using e) (updOf _ U) (by rw [sizeLine_eq]; simp; omega) fun h' F' N' => h h' pre y (n + 1) (kl_last_spec e) F' N'
theorem my_at0 {x y : Value} {value slice : PySem.Expr} {t : Tok} {Q : Value → Shared → Prop} (N : News h₀ L s.heap news) (ha : (a, PySem.W.listOf #[x, y] na) ∈ news) (h : Q x s)
    (hs : subscripted slice false (.ref a) (.int 0 t) = operate [.ref a, .int 0 t] (getItem (.ref a) (.int 0 t)) := by with_unfolding_all rfl) (hg : ∀ r, letTemporaryGo value (.ref a) r = pure () := by intro _; with_unfolding_all rfl) :
    wpAny (model PySem.Challenge.rw_np0016_01.row.prog w) A (subscriptTail value slice (.ref a) (.int 0 t)) Q E s := item_list (kso_isList N ha rfl) (by decide) (by decide) rfl h hs hg
theorem my_at1 {x y : Value} {value slice : PySem.Expr} {t : Tok} {Q : Value → Shared → Prop} (N : News h₀ L s.heap news) (ha : (a, PySem.W.listOf #[x, y] na) ∈ news) (h : Q y s)
    (hs : subscripted slice false (.ref a) (.int 1 t) = operate [.ref a, .int 1 t] (getItem (.ref a) (.int 1 t)) := by with_unfolding_all rfl) (hg : ∀ r, letTemporaryGo value (.ref a) r = pure () := by intro _; with_unfolding_all rfl) :
    wpAny (model PySem.Challenge.rw_np0016_01.row.prog w) A (subscriptTail value slice (.ref a) (.int 1 t)) Q E s := item_list (kso_isList N ha rfl) (by decide) (by decide) rfl h hs hg
theorem my_set0 {x y v : Value} {t : Tok} {Q : Unit → Shared → Prop} (F : Fr h₀ L s.heap m) (N : News h₀ L s.heap news) (U : UpdF d (PySem.W.listOf #[x, y] n) news u)
    (h : ∀ h', Fr h₀ L h' m → News h₀ L h' (u (PySem.W.listOf #[v, y] n)) → Q () { s with heap := h' }) :
    wpAny (model PySem.Challenge.rw_np0016_01.row.prog w) A (setItem (.ref d) (.int 0 t) v) Q E s := by
  obtain ⟨pre, post, rfl, e, a, b⟩ := U.split
  have z := N (d, PySem.W.listOf #[x, y] n) (List.mem_append.mpr (.inr (.head _)))
  refine ki_setAt z.1 (by decide) (by decide) (by show (0 : Int) < 2; decide) (h _ (F.change (Heap.SameBut.update ..) z.2.1 z.2.2) ?_)
  rw [e]
  exact ki_turn _ N a b rfl rfl
theorem my_set1 {x y v : Value} {t : Tok} {Q : Unit → Shared → Prop} (F : Fr h₀ L s.heap m) (N : News h₀ L s.heap news) (U : UpdF d (PySem.W.listOf #[x, y] n) news u)
    (h : ∀ h', Fr h₀ L h' m → News h₀ L h' (u (PySem.W.listOf #[x, v] n)) → Q () { s with heap := h' }) :
    wpAny (model PySem.Challenge.rw_np0016_01.row.prog w) A (setItem (.ref d) (.int 1 t) v) Q E s := by
  obtain ⟨pre, post, rfl, e, a, b⟩ := U.split
  have z := N (d, PySem.W.listOf #[x, y] n) (List.mem_append.mpr (.inr (.head _)))
  refine ki_setAt z.1 (by decide) (by decide) (by show (1 : Int) < 2; decide) (h _ (F.change (Heap.SameBut.update ..) z.2.1 z.2.2) ?_)
  rw [e]
  exact ki_turn _ N a b rfl rfl
end
theorem of_all {D : Addr} {l : List (Addr × Obj)} (h : ∀ p ∈ l, p.1 < D) : ∀ p ∈ l, p.1 ≠ D := fun p hp => Nat.ne_of_lt (h p hp)
theorem lt_ne {D d : Addr} {o : Obj} {l : List (Addr × Obj)} (h : ∀ p ∈ l, p.1 < D) (m : (d, o) ∈ l) : d ≠ D := Nat.ne_of_lt (h _ m)
theorem lt_ne2 {D X d : Addr} {o : Obj} {l : List (Addr × Obj)} (hX : @LT.lt Nat _ D X) (h : ∀ p ∈ l, p.1 < D) (m : (d, o) ∈ l) : d ≠ X := Nat.ne_of_lt (Nat.lt_trans (h _ m) hX)
abbrev tupO (vs : List Value) : Obj := { cls := .type "tuple", data := .seq vs.toArray }
def cdSet (cd : Addr → Nat) (D : Addr) (n : Nat) : Addr → Nat := fun a => if a = D then n else cd a
theorem cdSet_self {cd : Addr → Nat} {D : Addr} {n : Nat} : cdSet cd D n D = n := if_pos rfl
theorem cdSet_keep {cd : Addr → Nat} {D a : Addr} {n i : Nat} (ne : a ≠ D) (h : cd a = i) : cdSet cd D n a = i := (if_neg ne).trans h
theorem put_keepP {d : Addr} {o' : Obj} {p : Addr × Obj} {l : List (Addr × Obj)} (n : p.1 ≠ d) (h : p ∈ l) : p ∈ put d o' l := List.mem_map.mpr ⟨_, h, if_neg n⟩
theorem off_put {d D : Addr} {o' : Obj} {l : List (Addr × Obj)} (h : ∀ p ∈ l, p.1 ≠ D) : ∀ p ∈ put d o' l, p.1 ≠ D := fun p hp => by
  have hk : p.1 ∈ (put d o' l).map (·.1) := List.mem_map.mpr ⟨p, hp, rfl⟩
  rw [put_keys] at hk
  obtain ⟨q, hq, e⟩ := List.mem_map.mp hk
  rw [← e]; exact h q hq
theorem off_ne {D d : Addr} {o : Obj} {l : List (Addr × Obj)} (h : ∀ p ∈ l, p.1 ≠ D) (m : (d, o) ∈ l) : d ≠ D := h _ m
theorem lt_put {d D : Addr} {o' : Obj} {l : List (Addr × Obj)} (h : ∀ p ∈ l, p.1 < D) : ∀ p ∈ put d o' l, @LT.lt Nat _ p.1 D := fun p hp => by
  have hk : p.1 ∈ (put d o' l).map (·.1) := List.mem_map.mpr ⟨p, hp, rfl⟩
  rw [put_keys] at hk
  obtain ⟨q, hq, e⟩ := List.mem_map.mp hk
  rw [← e]; exact h q hq
theorem lt_unput {d D : Addr} {o' : Obj} {l : List (Addr × Obj)} (h : ∀ p ∈ put d o' l, p.1 < D) : ∀ p ∈ l, p.1 < D := fun p hp => by
  have hk : p.1 ∈ l.map (·.1) := List.mem_map.mpr ⟨p, hp, rfl⟩
  rw [← put_keys d o'] at hk
  obtain ⟨q, hq, e⟩ := List.mem_map.mp hk
  rw [← e]; exact h q hq
theorem lt_tail {D : Addr} {q : Addr × Obj} {l : List (Addr × Obj)} (h : ∀ p ∈ q :: l, p.1 < D) : ∀ p ∈ l, p.1 < D := fun p hp => h p (.tail _ hp)
theorem put_comm {a b : Addr} {x y : Obj} {l : List (Addr × Obj)} (h : a ≠ b) : put a x (put b y l) = put b y (put a x l) := by
  unfold put
  rw [List.map_map, List.map_map]
  refine List.map_congr_left fun p _ => ?_
  show (if (if p.1 = b then (b, y) else p).1 = a then (a, x) else (if p.1 = b then (b, y) else p)) = (if (if p.1 = a then (a, x) else p).1 = b then (b, y) else (if p.1 = a then (a, x) else p))
  by_cases e : p.1 = b
  · have e2 : ¬ p.1 = a := fun z => h (z.symm.trans e)
    rw [if_pos e, if_neg (fun z => h z.symm), if_neg e2, if_pos e]
  · rw [if_neg e]
    by_cases e2 : p.1 = a
    · rw [if_pos e2, if_neg h]
    · rw [if_neg e2, if_neg e]
/-- two places, the one at hand told first -/
def pr (at_ : Int) (x y : Value) : Array Value := if at_ = 0 then #[x, y] else #[y, x]
theorem pr_zero (x y : Value) : pr 0 x y = #[x, y] := if_pos rfl
theorem pr_one (x y : Value) : pr 1 x y = #[y, x] := if_neg (by decide)
theorem pr_swap {at_ : Int} {x y : Value} (h : at_ = 0 ∨ at_ = 1) : pr (1 - at_) y x = pr at_ x y := by
  rcases h with rfl | rfl <;> rfl
/-- where a binding lies -/
def Where (la lb : Addr) (at_ sort place : Int) (own : Value) : Prop := (1 = sort ∧ -1 = place) ∨ (0 = sort ∧ at_ = place ∧ Value.ref la = own) ∨ (0 = sort ∧ 1 - at_ = place ∧ Value.ref lb = own)
theorem Where.swap {la lb : Addr} {at_ sort place : Int} {own : Value} (h : Where la lb at_ sort place own) : Where lb la (1 - at_) sort place own := by
  rcases h with h | ⟨a, b, c⟩ | ⟨a, b, c⟩
  · exact .inl h
  · exact .inr (.inr ⟨a, by omega, c⟩)
  · exact .inr (.inl ⟨a, b, c⟩)
/-- a binding on the pile -/
inductive BindR (w : World) (cd : Addr → Nat) (at_ : Int) (la lb : Addr) (news : List (Addr × Obj)) : Value → Prop
  | mk {T x db : Addr} {t5 t6 t7 t8 ts ty tp to : Tok} {sort place : Int} {own : Value} {k : Int} {n : Nat} {bv bv2 : Value} {d : PyData} (m1 : (T, tupO [.ref x, .int place tp, .int k to, bv2]) ∈ news) (m2 : (x, instObj 162 db) ∈ news)
      (m3 : (db, boundD w t5 t6 t7 t8 (.int sort ts) own (.int k ty) bv n) ∈ news) (f1 : Flat bv d) (f2 : Flat bv2 d) (v1 : VD d) (k1 : cd T = 100) (k2 : cd x = 100) (k3 : cd db = 100) (r : Where la lb at_ sort place own) : BindR w cd at_ la lb news (.ref T)
theorem BindR.mono {w : World} {cd cd' : Addr → Nat} {at_ : Int} {la lb : Addr} {news news' : List (Addr × Obj)} {b : Value} (h : BindR w cd at_ la lb news b) (hm : ∀ p ∈ news, cd p.1 = 100 → p ∈ news' ∧ cd' p.1 = 100) : BindR w cd' at_ la lb news' b := by
  cases h with
  | mk m1 m2 m3 f1 f2 v1 k1 k2 k3 r => exact .mk (hm _ m1 k1).1 (hm _ m2 k2).1 (hm _ m3 k3).1 f1 f2 v1 (hm _ m1 k1).2 (hm _ m2 k2).2 (hm _ m3 k3).2 r
theorem BindR.put {w : World} {cd : Addr → Nat} {at_ : Int} {la lb d : Addr} {o' : Obj} {n : Nat} {news : List (Addr × Obj)} {b : Value} (h : BindR w cd at_ la lb news b) (hd : cd d = n) (e : Nat.beq 100 n = false) : BindR w cd at_ la lb (put d o' news) b :=
  h.mono fun p hp hc => ⟨put_keepP (ne_code hc hd e) hp, hc⟩
theorem BindR.cons {w : World} {cd : Addr → Nat} {at_ : Int} {la lb : Addr} {news : List (Addr × Obj)} {b : Value} {D : Addr} {x : Obj} {n : Nat} (h : BindR w cd at_ la lb news b) (hD : ∀ p ∈ news, p.1 ≠ D) : BindR w (cdSet cd D n) at_ la lb ((D, x) :: news) b :=
  h.mono fun p hp hc => ⟨.tail _ hp, cdSet_keep (hD p hp) hc⟩
def sw (n : Nat) : Nat := match n with
  | 7 => 10
  | 8 => 11
  | 9 => 12
  | 10 => 7
  | 11 => 8
  | 12 => 9
  | 19 => 20
  | 20 => 19
  | n => n
def swapC (cd : Addr → Nat) : Addr → Nat := fun a => sw (cd a)
theorem swap_code {cd : Addr → Nat} {a : Addr} {j k : Nat} (h : cd a = j) (e : sw j = k) : swapC cd a = k := (congrArg sw h).trans e
theorem BindR.swap {w : World} {cd : Addr → Nat} {at_ : Int} {la lb : Addr} {news : List (Addr × Obj)} {b : Value} (h : BindR w cd at_ la lb news b) : BindR w (swapC cd) (1 - at_) lb la news b := by
  cases h with
  | mk m1 m2 m3 f1 f2 v1 k1 k2 k3 r => exact .mk m1 m2 m3 f1 f2 v1 (swap_code k1 rfl) (swap_code k2 rfl) (swap_code k3 rfl) r.swap
theorem keep_drop {p : Addr × Obj} {I : Addr} {l : List (Addr × Obj)} (h : p.1 ≠ I) (m : p ∈ l) : p ∈ l.filter fun p => !(p.1 == I) :=
  List.mem_filter.mpr ⟨m, by simpa using h⟩
theorem off_drop {I : Addr} {l : List (Addr × Obj)} : ∀ p ∈ l.filter fun p => !(p.1 == I), p.1 ≠ I := fun p hp => by
  have := (List.mem_filter.mp hp).2
  simpa using this
section
variable {w : World} {A : Around} {s : Shared} {E : Value → Shared → Prop} {h₀ : Heap} {L a b : Addr} {news : List (Addr × Obj)} {na : Nat} {m : Str → Option Value} {u : Obj → List (Addr × Obj)} {d : Addr} {n : Nat} {at_ : Int}
theorem my_prAt {x y : Value} {value slice : PySem.Expr} {t : Tok} {Q : Value → Shared → Prop} (N : News h₀ L s.heap news) (ha : (a, PySem.W.listOf (pr at_ x y) na) ∈ news) (hat : at_ = 0 ∨ at_ = 1) (h : Q x s)
    (hs : ∀ i, subscripted slice false (.ref a) (.int i t) = operate [.ref a, .int i t] (getItem (.ref a) (.int i t)) := by intro _; with_unfolding_all rfl) (hg : ∀ r, letTemporaryGo value (.ref a) r = pure () := by intro _; with_unfolding_all rfl) :
    wpAny (model PySem.Challenge.rw_np0016_01.row.prog w) A (subscriptTail value slice (.ref a) (.int at_ t)) Q E s := by
  rcases hat with rfl | rfl
  · rw [pr_zero] at ha; exact my_at0 N ha h (hs 0) hg
  · rw [pr_one] at ha; exact my_at1 N ha h (hs 1) hg
theorem my_prAt2 {x y : Value} {value slice : PySem.Expr} {t : Tok} {Q : Value → Shared → Prop} (N : News h₀ L s.heap news) (ha : (a, PySem.W.listOf (pr at_ x y) na) ∈ news) (hat : at_ = 0 ∨ at_ = 1) (h : Q y s)
    (hs : ∀ i, subscripted slice false (.ref a) (.int i t) = operate [.ref a, .int i t] (getItem (.ref a) (.int i t)) := by intro _; with_unfolding_all rfl) (hg : ∀ r, letTemporaryGo value (.ref a) r = pure () := by intro _; with_unfolding_all rfl) :
    wpAny (model PySem.Challenge.rw_np0016_01.row.prog w) A (subscriptTail value slice (.ref a) (.int (1 - at_) t)) Q E s :=
  my_prAt (at_ := 1 - at_) N (by rw [pr_swap hat]; exact ha) (by omega) h hs hg
theorem my_prSet {x y v : Value} {t : Tok} {Q : Unit → Shared → Prop} (F : Fr h₀ L s.heap m) (N : News h₀ L s.heap news) (U : UpdF d (PySem.W.listOf (pr at_ x y) n) news u) (hat : at_ = 0 ∨ at_ = 1)
    (h : ∀ h', Fr h₀ L h' m → News h₀ L h' (u (PySem.W.listOf (pr at_ v y) n)) → Q () { s with heap := h' }) :
    wpAny (model PySem.Challenge.rw_np0016_01.row.prog w) A (setItem (.ref d) (.int at_ t) v) Q E s := by
  rcases hat with rfl | rfl
  · rw [pr_zero] at U
    exact my_set0 F N U fun h' F' N' => h h' F' (by rw [pr_zero]; exact N')
  · rw [pr_one] at U
    exact my_set1 F N U fun h' F' N' => h h' F' (by rw [pr_one]; exact N')
end
theorem news_skip3 {h₀ h : Heap} {L : Addr} {a b c q : Addr × Obj} {l : List (Addr × Obj)} (N : News h₀ L h (a :: b :: c :: q :: l)) : News h₀ L h (a :: b :: c :: l) := fun r hr => N r (by
  rcases List.mem_cons.mp hr with e | hr
  · rw [e]; exact .head _
  · rcases List.mem_cons.mp hr with e | hr
    · rw [e]; exact .tail _ (.head _)
    · rcases List.mem_cons.mp hr with e | hr
      · rw [e]; exact .tail _ (.tail _ (.head _))
      · exact .tail _ (.tail _ (.tail _ (.tail _ hr))))
theorem neg_of {b : Bool} (h : b = false) : ¬ b = true := Bool.eq_false_iff.mp h
theorem cAuto_pos {c : IntD} {k : Int} {d : PyData} (h : isN ((look c k).getD .none) = true) : cAuto c k d = cPut c k d := if_pos h
theorem cAuto_neg {c : IntD} {k : Int} {d : PyData} (h : isN ((look c k).getD .none) = false) : cAuto c k d = c := if_neg (neg_of h)
theorem cUnb_pos {c : IntD} {k : Int} {d : PyData} (h : (look c k).isSome = true) : cUnb c k d = cPut c k d := if_pos h
theorem cUnb_neg {c : IntD} {k : Int} {d : PyData} (h : (look c k).isSome = false) : cUnb c k d = c := if_neg (neg_of h)
theorem len_put {c : IntD} {k : Int} {v : PyData} {i : Nat} (h : c.length ≤ i) : (cPut c k v).length ≤ i + 1 := Nat.le_trans (cPut_len _ _ _) (Nat.succ_le_succ h)
theorem len_auto {c : IntD} {k : Int} {v : PyData} {i : Nat} (h : c.length ≤ i) : (cAuto c k v).length ≤ i + 1 := by
  unfold cAuto
  split
  · exact len_put h
  · exact Nat.le_succ_of_le h
theorem len_unb {c : IntD} {k : Int} {v : PyData} {i : Nat} (h : c.length ≤ i) : (cUnb c k v).length ≤ i + 1 := by
  unfold cUnb
  split
  · exact len_put h
  · exact Nat.le_succ_of_le h
theorem len_del {c : IntD} {k : Int} {i : Nat} (h : c.length ≤ i) : (cDel c k).length ≤ i + 1 := Nat.le_succ_of_le (Nat.le_trans (cDel_len _ _) h)
theorem len_wo {c : IntD} {gs : List Int} {i : Nat} (h : c.length ≤ i) : (cWO c gs).length ≤ i + 1 := Nat.le_succ_of_le (Nat.le_trans (cWO_len _ _) h)
theorem vok_auto {c : IntD} {k : Int} {v : PyData} (h : VOK c) (hv : VD v) : VOK (cAuto c k v) := by
  unfold cAuto
  split
  · exact vok_put h hv
  · exact h
theorem vok_unb {c : IntD} {k : Int} {v : PyData} (h : VOK c) (hv : VD v) : VOK (cUnb c k v) := by
  unfold cUnb
  split
  · exact vok_put h hv
  · exact h
-- printed by gen57.py from here on
/-- the state of the law between two deeds: the addresses, the objects, what they hold; the place at hand is at_ -/
inductive StX (w : World) (deck : Addr) (v : Addr) (lo : Addr) (bs : Addr) (kn : Addr) (i : Nat) (K : List (Addr × Obj)) (news : List (Addr × Obj)) (cd : Addr → Nat) (at_ : Int) (vs : List Value) (ns : List Int) (nd : Nat) (dv : Addr) (a1 : Addr) (a2 : Addr) (a3 : Addr) (t1 : Tok) (t2 : Tok) (t3 : Tok) (nv : Nat) (o1 : Obj) (o2 : Obj) (o3 : Obj) (c1 : IntD) (c2 : IntD) (c3 : IntD) (la : Addr) (dla : Addr) (ea : Addr) (ua : Tok) (na : Nat) (oea : Obj) (cea : IntD) (lb : Addr) (dlb : Addr) (eb : Addr) (ub : Tok) (nb : Nat) (oeb : Obj) (ceb : IntD) (nlo : Nat) (bv : List Value) (nbv : Nat) (k1 : Addr) (ow : Addr) (k2 : Addr) (k3 : Addr) (p1 : Obj) (p2 : Obj) (p3 : Obj) (g1 : IntD) (g2 : IntD) (g3 : IntD) (nw : Nat) (qa : Addr) (qb : Addr) (ra : Obj) (rb : Obj) (ga : IntD) (gb : IntD) : Prop
  | mk (nod : (news.map (·.1)).Nodup)
    (hK : ∀ p ∈ K, p ∈ news ∧ cd p.1 = 101)
    (hat : at_ = 0 ∨ at_ = 1)
    (mdk : (deck, PySem.W.listOf vs.toArray nd) ∈ news)
    (mv : (v, instObj 73 dv) ∈ news)
    (mdv : (dv, varsD w t1 t2 t3 a1 a2 a3 nv) ∈ news)
    (m1 : (a1, o1) ∈ news)
    (m2 : (a2, o2) ∈ news)
    (m3 : (a3, o3) ∈ news)
    (mlo : (lo, PySem.W.listOf (pr at_ (.ref la) (.ref lb)) nlo) ∈ news)
    (mla : (la, instObj 127 dla) ∈ news)
    (mdla : (dla, locD w ua ea na) ∈ news)
    (mea : (ea, oea) ∈ news)
    (mlb : (lb, instObj 127 dlb) ∈ news)
    (mdlb : (dlb, locD w ub eb nb) ∈ news)
    (meb : (eb, oeb) ∈ news)
    (mbs : (bs, PySem.W.listOf bv.toArray nbv) ∈ news)
    (mkn : (kn, tupO [.ref k1, .ref ow, .ref k2, .ref k3]) ∈ news)
    (mk1 : (k1, p1) ∈ news)
    (mk2 : (k2, p2) ∈ news)
    (mk3 : (k3, p3) ∈ news)
    (mow : (ow, PySem.W.listOf (pr at_ (.ref qa) (.ref qb)) nw) ∈ news)
    (mqa : (qa, ra) ∈ news)
    (mqb : (qb, rb) ∈ news)
    (idk : IntsAre vs ns)
    (I1 : IsI w a1 o1 c1)
    (I2 : IsI w a2 o2 c2)
    (I3 : IsI w a3 o3 c3)
    (Iea : IsI w ea oea cea)
    (Ieb : IsI w eb oeb ceb)
    (J1 : IsI w k1 p1 g1)
    (J2 : IsI w k2 p2 g2)
    (J3 : IsI w k3 p3 g3)
    (Jqa : IsI w qa ra ga)
    (Jqb : IsI w qb rb gb)
    (ldk : ns.length ≤ 60)
    (z1 : c1.length ≤ i)
    (z2 : c2.length ≤ i)
    (z3 : c3.length ≤ i)
    (zea : cea.length ≤ i)
    (zeb : ceb.length ≤ i)
    (zb : bv.length ≤ i)
    (V1 : VOK c1)
    (B3 : BOK c3)
    (Vea : VOK cea)
    (Veb : VOK ceb)
    (hbv : ∀ b ∈ bv, BindR w cd at_ la lb news b)
    (hdk : cd deck = 0)
    (hv : cd v = 1)
    (hdv : cd dv = 2)
    (h1 : cd a1 = 3)
    (h2 : cd a2 = 4)
    (h3 : cd a3 = 5)
    (hlo : cd lo = 6)
    (hla : cd la = 7)
    (hdla : cd dla = 8)
    (hea : cd ea = 9)
    (hlb : cd lb = 10)
    (hdlb : cd dlb = 11)
    (heb : cd eb = 12)
    (hbs : cd bs = 13)
    (hkn : cd kn = 14)
    (hk1 : cd k1 = 15)
    (hk2 : cd k2 = 16)
    (hk3 : cd k3 = 17)
    (how : cd ow = 18)
    (hqa : cd qa = 19)
    (hqb : cd qb = 20) : StX w deck v lo bs kn i K news cd at_ vs ns nd dv a1 a2 a3 t1 t2 t3 nv o1 o2 o3 c1 c2 c3 la dla ea ua na oea cea lb dlb eb ub nb oeb ceb nlo bv nbv k1 ow k2 k3 p1 p2 p3 g1 g2 g3 nw qa qb ra rb ga gb
inductive St (w : World) (deck : Addr) (v : Addr) (lo : Addr) (bs : Addr) (kn : Addr) (i : Nat) (K : List (Addr × Obj)) (news : List (Addr × Obj)) : Prop
  | mk {cd : Addr → Nat} {at_ : Int} {vs : List Value} {ns : List Int} {nd : Nat} {dv : Addr} {a1 : Addr} {a2 : Addr} {a3 : Addr} {t1 : Tok} {t2 : Tok} {t3 : Tok} {nv : Nat} {o1 : Obj} {o2 : Obj} {o3 : Obj} {c1 : IntD} {c2 : IntD} {c3 : IntD} {la : Addr} {dla : Addr} {ea : Addr} {ua : Tok} {na : Nat} {oea : Obj} {cea : IntD} {lb : Addr} {dlb : Addr} {eb : Addr} {ub : Tok} {nb : Nat} {oeb : Obj} {ceb : IntD} {nlo : Nat} {bv : List Value} {nbv : Nat} {k1 : Addr} {ow : Addr} {k2 : Addr} {k3 : Addr} {p1 : Obj} {p2 : Obj} {p3 : Obj} {nw : Nat} {qa : Addr} {qb : Addr} {ra : Obj} {rb : Obj} (S : StX w deck v lo bs kn i K news cd at_ vs ns nd dv a1 a2 a3 t1 t2 t3 nv o1 o2 o3 c1 c2 c3 la dla ea ua na oea cea lb dlb eb ub nb oeb ceb nlo bv nbv k1 ow k2 k3 p1 p2 p3 c1 c2 c3 nw qa qb ra rb cea ceb) : St w deck v lo bs kn i K news
section
variable {w : World} {deck : Addr} {v : Addr} {lo : Addr} {bs : Addr} {kn : Addr} {i : Nat} {K : List (Addr × Obj)} {news : List (Addr × Obj)} {cd : Addr → Nat} {at_ : Int} {vs : List Value} {ns : List Int} {nd : Nat} {dv : Addr} {a1 : Addr} {a2 : Addr} {a3 : Addr} {t1 : Tok} {t2 : Tok} {t3 : Tok} {nv : Nat} {o1 : Obj} {o2 : Obj} {o3 : Obj} {c1 : IntD} {c2 : IntD} {c3 : IntD} {la : Addr} {dla : Addr} {ea : Addr} {ua : Tok} {na : Nat} {oea : Obj} {cea : IntD} {lb : Addr} {dlb : Addr} {eb : Addr} {ub : Tok} {nb : Nat} {oeb : Obj} {ceb : IntD} {nlo : Nat} {bv : List Value} {nbv : Nat} {k1 : Addr} {ow : Addr} {k2 : Addr} {k3 : Addr} {p1 : Obj} {p2 : Obj} {p3 : Obj} {g1 : IntD} {g2 : IntD} {g3 : IntD} {nw : Nat} {qa : Addr} {qb : Addr} {ra : Obj} {rb : Obj} {ga : IntD} {gb : IntD}
theorem StX.dk {vs' : List Value} {ns' : List Int} {nd' : Nat} (i' : IntsAre vs' ns') (l' : ns'.length ≤ 60) (S : StX w deck v lo bs kn i K news cd at_ vs ns nd dv a1 a2 a3 t1 t2 t3 nv o1 o2 o3 c1 c2 c3 la dla ea ua na oea cea lb dlb eb ub nb oeb ceb nlo bv nbv k1 ow k2 k3 p1 p2 p3 g1 g2 g3 nw qa qb ra rb ga gb) :
    StX w deck v lo bs kn i K (put deck (PySem.W.listOf vs'.toArray nd') news) cd at_ vs' ns' nd' dv a1 a2 a3 t1 t2 t3 nv o1 o2 o3 c1 c2 c3 la dla ea ua na oea cea lb dlb eb ub nb oeb ceb nlo bv nbv k1 ow k2 k3 p1 p2 p3 g1 g2 g3 nw qa qb ra rb ga gb := by
  obtain ⟨nod, hK, hat, mdk, mv, mdv, m1, m2, m3, mlo, mla, mdla, mea, mlb, mdlb, meb, mbs, mkn, mk1, mk2, mk3, mow, mqa, mqb, idk, I1, I2, I3, Iea, Ieb, J1, J2, J3, Jqa, Jqb, ldk, z1, z2, z3, zea, zeb, zb, V1, B3, Vea, Veb, hbv, hdk, hv, hdv, h1, h2, h3, hlo, hla, hdla, hea, hlb, hdlb, heb, hbs, hkn, hk1, hk2, hk3, how, hqa, hqb⟩ := S
  constructor
  case nod => exact nd_put nod
  case hK => exact fun p hp => ⟨put_keepP (ne_code (hK p hp).2 hdk rfl) (hK p hp).1, (hK p hp).2⟩
  case hbv => exact fun b hb => (hbv b hb).put hdk rfl
  all_goals first
    | assumption
    | exact put_new (by assumption)
    | exact put_keep (ne_code (by assumption) (by assumption) (by rfl)) (by assumption)
theorem StX.pa1 {o' : Obj} {c' : IntD} (I' : IsI w a1 o' c') (z' : c'.length ≤ i) (V' : VOK c') (S : StX w deck v lo bs kn i K news cd at_ vs ns nd dv a1 a2 a3 t1 t2 t3 nv o1 o2 o3 c1 c2 c3 la dla ea ua na oea cea lb dlb eb ub nb oeb ceb nlo bv nbv k1 ow k2 k3 p1 p2 p3 g1 g2 g3 nw qa qb ra rb ga gb) :
    StX w deck v lo bs kn i K (put a1 o' news) cd at_ vs ns nd dv a1 a2 a3 t1 t2 t3 nv o' o2 o3 c' c2 c3 la dla ea ua na oea cea lb dlb eb ub nb oeb ceb nlo bv nbv k1 ow k2 k3 p1 p2 p3 g1 g2 g3 nw qa qb ra rb ga gb := by
  obtain ⟨nod, hK, hat, mdk, mv, mdv, m1, m2, m3, mlo, mla, mdla, mea, mlb, mdlb, meb, mbs, mkn, mk1, mk2, mk3, mow, mqa, mqb, idk, I1, I2, I3, Iea, Ieb, J1, J2, J3, Jqa, Jqb, ldk, z1, z2, z3, zea, zeb, zb, V1, B3, Vea, Veb, hbv, hdk, hv, hdv, h1, h2, h3, hlo, hla, hdla, hea, hlb, hdlb, heb, hbs, hkn, hk1, hk2, hk3, how, hqa, hqb⟩ := S
  constructor
  case nod => exact nd_put nod
  case hK => exact fun p hp => ⟨put_keepP (ne_code (hK p hp).2 h1 rfl) (hK p hp).1, (hK p hp).2⟩
  case hbv => exact fun b hb => (hbv b hb).put h1 rfl
  all_goals first
    | assumption
    | exact put_new (by assumption)
    | exact put_keep (ne_code (by assumption) (by assumption) (by rfl)) (by assumption)
theorem StX.pa2 {o' : Obj} {c' : IntD} (I' : IsI w a2 o' c') (z' : c'.length ≤ i) (S : StX w deck v lo bs kn i K news cd at_ vs ns nd dv a1 a2 a3 t1 t2 t3 nv o1 o2 o3 c1 c2 c3 la dla ea ua na oea cea lb dlb eb ub nb oeb ceb nlo bv nbv k1 ow k2 k3 p1 p2 p3 g1 g2 g3 nw qa qb ra rb ga gb) :
    StX w deck v lo bs kn i K (put a2 o' news) cd at_ vs ns nd dv a1 a2 a3 t1 t2 t3 nv o1 o' o3 c1 c' c3 la dla ea ua na oea cea lb dlb eb ub nb oeb ceb nlo bv nbv k1 ow k2 k3 p1 p2 p3 g1 g2 g3 nw qa qb ra rb ga gb := by
  obtain ⟨nod, hK, hat, mdk, mv, mdv, m1, m2, m3, mlo, mla, mdla, mea, mlb, mdlb, meb, mbs, mkn, mk1, mk2, mk3, mow, mqa, mqb, idk, I1, I2, I3, Iea, Ieb, J1, J2, J3, Jqa, Jqb, ldk, z1, z2, z3, zea, zeb, zb, V1, B3, Vea, Veb, hbv, hdk, hv, hdv, h1, h2, h3, hlo, hla, hdla, hea, hlb, hdlb, heb, hbs, hkn, hk1, hk2, hk3, how, hqa, hqb⟩ := S
  constructor
  case nod => exact nd_put nod
  case hK => exact fun p hp => ⟨put_keepP (ne_code (hK p hp).2 h2 rfl) (hK p hp).1, (hK p hp).2⟩
  case hbv => exact fun b hb => (hbv b hb).put h2 rfl
  all_goals first
    | assumption
    | exact put_new (by assumption)
    | exact put_keep (ne_code (by assumption) (by assumption) (by rfl)) (by assumption)
theorem StX.pa3 {o' : Obj} {c' : IntD} (I' : IsI w a3 o' c') (z' : c'.length ≤ i) (V' : BOK c') (S : StX w deck v lo bs kn i K news cd at_ vs ns nd dv a1 a2 a3 t1 t2 t3 nv o1 o2 o3 c1 c2 c3 la dla ea ua na oea cea lb dlb eb ub nb oeb ceb nlo bv nbv k1 ow k2 k3 p1 p2 p3 g1 g2 g3 nw qa qb ra rb ga gb) :
    StX w deck v lo bs kn i K (put a3 o' news) cd at_ vs ns nd dv a1 a2 a3 t1 t2 t3 nv o1 o2 o' c1 c2 c' la dla ea ua na oea cea lb dlb eb ub nb oeb ceb nlo bv nbv k1 ow k2 k3 p1 p2 p3 g1 g2 g3 nw qa qb ra rb ga gb := by
  obtain ⟨nod, hK, hat, mdk, mv, mdv, m1, m2, m3, mlo, mla, mdla, mea, mlb, mdlb, meb, mbs, mkn, mk1, mk2, mk3, mow, mqa, mqb, idk, I1, I2, I3, Iea, Ieb, J1, J2, J3, Jqa, Jqb, ldk, z1, z2, z3, zea, zeb, zb, V1, B3, Vea, Veb, hbv, hdk, hv, hdv, h1, h2, h3, hlo, hla, hdla, hea, hlb, hdlb, heb, hbs, hkn, hk1, hk2, hk3, how, hqa, hqb⟩ := S
  constructor
  case nod => exact nd_put nod
  case hK => exact fun p hp => ⟨put_keepP (ne_code (hK p hp).2 h3 rfl) (hK p hp).1, (hK p hp).2⟩
  case hbv => exact fun b hb => (hbv b hb).put h3 rfl
  all_goals first
    | assumption
    | exact put_new (by assumption)
    | exact put_keep (ne_code (by assumption) (by assumption) (by rfl)) (by assumption)
theorem StX.pea {o' : Obj} {c' : IntD} (I' : IsI w ea o' c') (z' : c'.length ≤ i) (V' : VOK c') (S : StX w deck v lo bs kn i K news cd at_ vs ns nd dv a1 a2 a3 t1 t2 t3 nv o1 o2 o3 c1 c2 c3 la dla ea ua na oea cea lb dlb eb ub nb oeb ceb nlo bv nbv k1 ow k2 k3 p1 p2 p3 g1 g2 g3 nw qa qb ra rb ga gb) :
    StX w deck v lo bs kn i K (put ea o' news) cd at_ vs ns nd dv a1 a2 a3 t1 t2 t3 nv o1 o2 o3 c1 c2 c3 la dla ea ua na o' c' lb dlb eb ub nb oeb ceb nlo bv nbv k1 ow k2 k3 p1 p2 p3 g1 g2 g3 nw qa qb ra rb ga gb := by
  obtain ⟨nod, hK, hat, mdk, mv, mdv, m1, m2, m3, mlo, mla, mdla, mea, mlb, mdlb, meb, mbs, mkn, mk1, mk2, mk3, mow, mqa, mqb, idk, I1, I2, I3, Iea, Ieb, J1, J2, J3, Jqa, Jqb, ldk, z1, z2, z3, zea, zeb, zb, V1, B3, Vea, Veb, hbv, hdk, hv, hdv, h1, h2, h3, hlo, hla, hdla, hea, hlb, hdlb, heb, hbs, hkn, hk1, hk2, hk3, how, hqa, hqb⟩ := S
  constructor
  case nod => exact nd_put nod
  case hK => exact fun p hp => ⟨put_keepP (ne_code (hK p hp).2 hea rfl) (hK p hp).1, (hK p hp).2⟩
  case hbv => exact fun b hb => (hbv b hb).put hea rfl
  all_goals first
    | assumption
    | exact put_new (by assumption)
    | exact put_keep (ne_code (by assumption) (by assumption) (by rfl)) (by assumption)
theorem StX.peb {o' : Obj} {c' : IntD} (I' : IsI w eb o' c') (z' : c'.length ≤ i) (V' : VOK c') (S : StX w deck v lo bs kn i K news cd at_ vs ns nd dv a1 a2 a3 t1 t2 t3 nv o1 o2 o3 c1 c2 c3 la dla ea ua na oea cea lb dlb eb ub nb oeb ceb nlo bv nbv k1 ow k2 k3 p1 p2 p3 g1 g2 g3 nw qa qb ra rb ga gb) :
    StX w deck v lo bs kn i K (put eb o' news) cd at_ vs ns nd dv a1 a2 a3 t1 t2 t3 nv o1 o2 o3 c1 c2 c3 la dla ea ua na oea cea lb dlb eb ub nb o' c' nlo bv nbv k1 ow k2 k3 p1 p2 p3 g1 g2 g3 nw qa qb ra rb ga gb := by
  obtain ⟨nod, hK, hat, mdk, mv, mdv, m1, m2, m3, mlo, mla, mdla, mea, mlb, mdlb, meb, mbs, mkn, mk1, mk2, mk3, mow, mqa, mqb, idk, I1, I2, I3, Iea, Ieb, J1, J2, J3, Jqa, Jqb, ldk, z1, z2, z3, zea, zeb, zb, V1, B3, Vea, Veb, hbv, hdk, hv, hdv, h1, h2, h3, hlo, hla, hdla, hea, hlb, hdlb, heb, hbs, hkn, hk1, hk2, hk3, how, hqa, hqb⟩ := S
  constructor
  case nod => exact nd_put nod
  case hK => exact fun p hp => ⟨put_keepP (ne_code (hK p hp).2 heb rfl) (hK p hp).1, (hK p hp).2⟩
  case hbv => exact fun b hb => (hbv b hb).put heb rfl
  all_goals first
    | assumption
    | exact put_new (by assumption)
    | exact put_keep (ne_code (by assumption) (by assumption) (by rfl)) (by assumption)
theorem StX.pk1 {o' : Obj} {c' : IntD} (I' : IsI w k1 o' c') (S : StX w deck v lo bs kn i K news cd at_ vs ns nd dv a1 a2 a3 t1 t2 t3 nv o1 o2 o3 c1 c2 c3 la dla ea ua na oea cea lb dlb eb ub nb oeb ceb nlo bv nbv k1 ow k2 k3 p1 p2 p3 g1 g2 g3 nw qa qb ra rb ga gb) :
    StX w deck v lo bs kn i K (put k1 o' news) cd at_ vs ns nd dv a1 a2 a3 t1 t2 t3 nv o1 o2 o3 c1 c2 c3 la dla ea ua na oea cea lb dlb eb ub nb oeb ceb nlo bv nbv k1 ow k2 k3 o' p2 p3 c' g2 g3 nw qa qb ra rb ga gb := by
  obtain ⟨nod, hK, hat, mdk, mv, mdv, m1, m2, m3, mlo, mla, mdla, mea, mlb, mdlb, meb, mbs, mkn, mk1, mk2, mk3, mow, mqa, mqb, idk, I1, I2, I3, Iea, Ieb, J1, J2, J3, Jqa, Jqb, ldk, z1, z2, z3, zea, zeb, zb, V1, B3, Vea, Veb, hbv, hdk, hv, hdv, h1, h2, h3, hlo, hla, hdla, hea, hlb, hdlb, heb, hbs, hkn, hk1, hk2, hk3, how, hqa, hqb⟩ := S
  constructor
  case nod => exact nd_put nod
  case hK => exact fun p hp => ⟨put_keepP (ne_code (hK p hp).2 hk1 rfl) (hK p hp).1, (hK p hp).2⟩
  case hbv => exact fun b hb => (hbv b hb).put hk1 rfl
  all_goals first
    | assumption
    | exact put_new (by assumption)
    | exact put_keep (ne_code (by assumption) (by assumption) (by rfl)) (by assumption)
theorem StX.pk2 {o' : Obj} {c' : IntD} (I' : IsI w k2 o' c') (S : StX w deck v lo bs kn i K news cd at_ vs ns nd dv a1 a2 a3 t1 t2 t3 nv o1 o2 o3 c1 c2 c3 la dla ea ua na oea cea lb dlb eb ub nb oeb ceb nlo bv nbv k1 ow k2 k3 p1 p2 p3 g1 g2 g3 nw qa qb ra rb ga gb) :
    StX w deck v lo bs kn i K (put k2 o' news) cd at_ vs ns nd dv a1 a2 a3 t1 t2 t3 nv o1 o2 o3 c1 c2 c3 la dla ea ua na oea cea lb dlb eb ub nb oeb ceb nlo bv nbv k1 ow k2 k3 p1 o' p3 g1 c' g3 nw qa qb ra rb ga gb := by
  obtain ⟨nod, hK, hat, mdk, mv, mdv, m1, m2, m3, mlo, mla, mdla, mea, mlb, mdlb, meb, mbs, mkn, mk1, mk2, mk3, mow, mqa, mqb, idk, I1, I2, I3, Iea, Ieb, J1, J2, J3, Jqa, Jqb, ldk, z1, z2, z3, zea, zeb, zb, V1, B3, Vea, Veb, hbv, hdk, hv, hdv, h1, h2, h3, hlo, hla, hdla, hea, hlb, hdlb, heb, hbs, hkn, hk1, hk2, hk3, how, hqa, hqb⟩ := S
  constructor
  case nod => exact nd_put nod
  case hK => exact fun p hp => ⟨put_keepP (ne_code (hK p hp).2 hk2 rfl) (hK p hp).1, (hK p hp).2⟩
  case hbv => exact fun b hb => (hbv b hb).put hk2 rfl
  all_goals first
    | assumption
    | exact put_new (by assumption)
    | exact put_keep (ne_code (by assumption) (by assumption) (by rfl)) (by assumption)
theorem StX.pk3 {o' : Obj} {c' : IntD} (I' : IsI w k3 o' c') (S : StX w deck v lo bs kn i K news cd at_ vs ns nd dv a1 a2 a3 t1 t2 t3 nv o1 o2 o3 c1 c2 c3 la dla ea ua na oea cea lb dlb eb ub nb oeb ceb nlo bv nbv k1 ow k2 k3 p1 p2 p3 g1 g2 g3 nw qa qb ra rb ga gb) :
    StX w deck v lo bs kn i K (put k3 o' news) cd at_ vs ns nd dv a1 a2 a3 t1 t2 t3 nv o1 o2 o3 c1 c2 c3 la dla ea ua na oea cea lb dlb eb ub nb oeb ceb nlo bv nbv k1 ow k2 k3 p1 p2 o' g1 g2 c' nw qa qb ra rb ga gb := by
  obtain ⟨nod, hK, hat, mdk, mv, mdv, m1, m2, m3, mlo, mla, mdla, mea, mlb, mdlb, meb, mbs, mkn, mk1, mk2, mk3, mow, mqa, mqb, idk, I1, I2, I3, Iea, Ieb, J1, J2, J3, Jqa, Jqb, ldk, z1, z2, z3, zea, zeb, zb, V1, B3, Vea, Veb, hbv, hdk, hv, hdv, h1, h2, h3, hlo, hla, hdla, hea, hlb, hdlb, heb, hbs, hkn, hk1, hk2, hk3, how, hqa, hqb⟩ := S
  constructor
  case nod => exact nd_put nod
  case hK => exact fun p hp => ⟨put_keepP (ne_code (hK p hp).2 hk3 rfl) (hK p hp).1, (hK p hp).2⟩
  case hbv => exact fun b hb => (hbv b hb).put hk3 rfl
  all_goals first
    | assumption
    | exact put_new (by assumption)
    | exact put_keep (ne_code (by assumption) (by assumption) (by rfl)) (by assumption)
theorem StX.pqa {o' : Obj} {c' : IntD} (I' : IsI w qa o' c') (S : StX w deck v lo bs kn i K news cd at_ vs ns nd dv a1 a2 a3 t1 t2 t3 nv o1 o2 o3 c1 c2 c3 la dla ea ua na oea cea lb dlb eb ub nb oeb ceb nlo bv nbv k1 ow k2 k3 p1 p2 p3 g1 g2 g3 nw qa qb ra rb ga gb) :
    StX w deck v lo bs kn i K (put qa o' news) cd at_ vs ns nd dv a1 a2 a3 t1 t2 t3 nv o1 o2 o3 c1 c2 c3 la dla ea ua na oea cea lb dlb eb ub nb oeb ceb nlo bv nbv k1 ow k2 k3 p1 p2 p3 g1 g2 g3 nw qa qb o' rb c' gb := by
  obtain ⟨nod, hK, hat, mdk, mv, mdv, m1, m2, m3, mlo, mla, mdla, mea, mlb, mdlb, meb, mbs, mkn, mk1, mk2, mk3, mow, mqa, mqb, idk, I1, I2, I3, Iea, Ieb, J1, J2, J3, Jqa, Jqb, ldk, z1, z2, z3, zea, zeb, zb, V1, B3, Vea, Veb, hbv, hdk, hv, hdv, h1, h2, h3, hlo, hla, hdla, hea, hlb, hdlb, heb, hbs, hkn, hk1, hk2, hk3, how, hqa, hqb⟩ := S
  constructor
  case nod => exact nd_put nod
  case hK => exact fun p hp => ⟨put_keepP (ne_code (hK p hp).2 hqa rfl) (hK p hp).1, (hK p hp).2⟩
  case hbv => exact fun b hb => (hbv b hb).put hqa rfl
  all_goals first
    | assumption
    | exact put_new (by assumption)
    | exact put_keep (ne_code (by assumption) (by assumption) (by rfl)) (by assumption)
theorem StX.pqb {o' : Obj} {c' : IntD} (I' : IsI w qb o' c') (S : StX w deck v lo bs kn i K news cd at_ vs ns nd dv a1 a2 a3 t1 t2 t3 nv o1 o2 o3 c1 c2 c3 la dla ea ua na oea cea lb dlb eb ub nb oeb ceb nlo bv nbv k1 ow k2 k3 p1 p2 p3 g1 g2 g3 nw qa qb ra rb ga gb) :
    StX w deck v lo bs kn i K (put qb o' news) cd at_ vs ns nd dv a1 a2 a3 t1 t2 t3 nv o1 o2 o3 c1 c2 c3 la dla ea ua na oea cea lb dlb eb ub nb oeb ceb nlo bv nbv k1 ow k2 k3 p1 p2 p3 g1 g2 g3 nw qa qb ra o' ga c' := by
  obtain ⟨nod, hK, hat, mdk, mv, mdv, m1, m2, m3, mlo, mla, mdla, mea, mlb, mdlb, meb, mbs, mkn, mk1, mk2, mk3, mow, mqa, mqb, idk, I1, I2, I3, Iea, Ieb, J1, J2, J3, Jqa, Jqb, ldk, z1, z2, z3, zea, zeb, zb, V1, B3, Vea, Veb, hbv, hdk, hv, hdv, h1, h2, h3, hlo, hla, hdla, hea, hlb, hdlb, heb, hbs, hkn, hk1, hk2, hk3, how, hqa, hqb⟩ := S
  constructor
  case nod => exact nd_put nod
  case hK => exact fun p hp => ⟨put_keepP (ne_code (hK p hp).2 hqb rfl) (hK p hp).1, (hK p hp).2⟩
  case hbv => exact fun b hb => (hbv b hb).put hqb rfl
  all_goals first
    | assumption
    | exact put_new (by assumption)
    | exact put_keep (ne_code (by assumption) (by assumption) (by rfl)) (by assumption)
theorem StX.pbs {bv' : List Value} {nbv' : Nat} (hsub : ∀ b ∈ bv', b ∈ bv) (l' : bv'.length ≤ i) (S : StX w deck v lo bs kn i K news cd at_ vs ns nd dv a1 a2 a3 t1 t2 t3 nv o1 o2 o3 c1 c2 c3 la dla ea ua na oea cea lb dlb eb ub nb oeb ceb nlo bv nbv k1 ow k2 k3 p1 p2 p3 g1 g2 g3 nw qa qb ra rb ga gb) :
    StX w deck v lo bs kn i K (put bs (PySem.W.listOf bv'.toArray nbv') news) cd at_ vs ns nd dv a1 a2 a3 t1 t2 t3 nv o1 o2 o3 c1 c2 c3 la dla ea ua na oea cea lb dlb eb ub nb oeb ceb nlo bv' nbv' k1 ow k2 k3 p1 p2 p3 g1 g2 g3 nw qa qb ra rb ga gb := by
  obtain ⟨nod, hK, hat, mdk, mv, mdv, m1, m2, m3, mlo, mla, mdla, mea, mlb, mdlb, meb, mbs, mkn, mk1, mk2, mk3, mow, mqa, mqb, idk, I1, I2, I3, Iea, Ieb, J1, J2, J3, Jqa, Jqb, ldk, z1, z2, z3, zea, zeb, zb, V1, B3, Vea, Veb, hbv, hdk, hv, hdv, h1, h2, h3, hlo, hla, hdla, hea, hlb, hdlb, heb, hbs, hkn, hk1, hk2, hk3, how, hqa, hqb⟩ := S
  constructor
  case nod => exact nd_put nod
  case hK => exact fun p hp => ⟨put_keepP (ne_code (hK p hp).2 hbs rfl) (hK p hp).1, (hK p hp).2⟩
  case hbv => exact fun b hb => (hbv b (hsub b hb)).put hbs rfl
  all_goals first
    | assumption
    | exact put_new (by assumption)
    | exact put_keep (ne_code (by assumption) (by assumption) (by rfl)) (by assumption)
theorem StX.succ  (S : StX w deck v lo bs kn i K news cd at_ vs ns nd dv a1 a2 a3 t1 t2 t3 nv o1 o2 o3 c1 c2 c3 la dla ea ua na oea cea lb dlb eb ub nb oeb ceb nlo bv nbv k1 ow k2 k3 p1 p2 p3 g1 g2 g3 nw qa qb ra rb ga gb) :
    StX w deck v lo bs kn (i + 1) K news cd at_ vs ns nd dv a1 a2 a3 t1 t2 t3 nv o1 o2 o3 c1 c2 c3 la dla ea ua na oea cea lb dlb eb ub nb oeb ceb nlo bv nbv k1 ow k2 k3 p1 p2 p3 g1 g2 g3 nw qa qb ra rb ga gb := by
  obtain ⟨nod, hK, hat, mdk, mv, mdv, m1, m2, m3, mlo, mla, mdla, mea, mlb, mdlb, meb, mbs, mkn, mk1, mk2, mk3, mow, mqa, mqb, idk, I1, I2, I3, Iea, Ieb, J1, J2, J3, Jqa, Jqb, ldk, z1, z2, z3, zea, zeb, zb, V1, B3, Vea, Veb, hbv, hdk, hv, hdv, h1, h2, h3, hlo, hla, hdla, hea, hlb, hdlb, heb, hbs, hkn, hk1, hk2, hk3, how, hqa, hqb⟩ := S
  constructor
  all_goals first
    | assumption
    | exact Nat.le_succ_of_le (by assumption)
theorem StX.cons {D : Addr} {x : Obj} (n : Nat) (hD : ∀ p ∈ news, p.1 ≠ D) (S : StX w deck v lo bs kn i K news cd at_ vs ns nd dv a1 a2 a3 t1 t2 t3 nv o1 o2 o3 c1 c2 c3 la dla ea ua na oea cea lb dlb eb ub nb oeb ceb nlo bv nbv k1 ow k2 k3 p1 p2 p3 g1 g2 g3 nw qa qb ra rb ga gb) :
    StX w deck v lo bs kn i K ((D, x) :: news) (cdSet cd D n) at_ vs ns nd dv a1 a2 a3 t1 t2 t3 nv o1 o2 o3 c1 c2 c3 la dla ea ua na oea cea lb dlb eb ub nb oeb ceb nlo bv nbv k1 ow k2 k3 p1 p2 p3 g1 g2 g3 nw qa qb ra rb ga gb := by
  obtain ⟨nod, hK, hat, mdk, mv, mdv, m1, m2, m3, mlo, mla, mdla, mea, mlb, mdlb, meb, mbs, mkn, mk1, mk2, mk3, mow, mqa, mqb, idk, I1, I2, I3, Iea, Ieb, J1, J2, J3, Jqa, Jqb, ldk, z1, z2, z3, zea, zeb, zb, V1, B3, Vea, Veb, hbv, hdk, hv, hdv, h1, h2, h3, hlo, hla, hdla, hea, hlb, hdlb, heb, hbs, hkn, hk1, hk2, hk3, how, hqa, hqb⟩ := S
  constructor
  case nod => exact nd_cons hD nod
  case hK => exact fun p hp => ⟨.tail _ (hK p hp).1, cdSet_keep (hD p (hK p hp).1) (hK p hp).2⟩
  case hbv => exact fun b hb => (hbv b hb).cons hD
  all_goals first
    | assumption
    | exact .tail _ (by assumption)
    | exact cdSet_keep (off_ne hD (by assumption)) (by assumption)
theorem StX.newq {D : Addr} {x : Obj} {g' : IntD} (hD : ∀ p ∈ news, p.1 ≠ D) (I' : IsI w D x g') (S : StX w deck v lo bs kn i K news cd at_ vs ns nd dv a1 a2 a3 t1 t2 t3 nv o1 o2 o3 c1 c2 c3 la dla ea ua na oea cea lb dlb eb ub nb oeb ceb nlo bv nbv k1 ow k2 k3 p1 p2 p3 g1 g2 g3 nw qa qb ra rb ga gb) :
    StX w deck v lo bs kn i K ((D, x) :: put ow (PySem.W.listOf (pr at_ (.ref D) (.ref qb)) nw) news) (cdSet (cdSet cd qa 100) D 19) at_ vs ns nd dv a1 a2 a3 t1 t2 t3 nv o1 o2 o3 c1 c2 c3 la dla ea ua na oea cea lb dlb eb ub nb oeb ceb nlo bv nbv k1 ow k2 k3 p1 p2 p3 g1 g2 g3 nw D qb x rb g' gb := by
  obtain ⟨nod, hK, hat, mdk, mv, mdv, m1, m2, m3, mlo, mla, mdla, mea, mlb, mdlb, meb, mbs, mkn, mk1, mk2, mk3, mow, mqa, mqb, idk, I1, I2, I3, Iea, Ieb, J1, J2, J3, Jqa, Jqb, ldk, z1, z2, z3, zea, zeb, zb, V1, B3, Vea, Veb, hbv, hdk, hv, hdv, h1, h2, h3, hlo, hla, hdla, hea, hlb, hdlb, heb, hbs, hkn, hk1, hk2, hk3, how, hqa, hqb⟩ := S
  have hP := off_put (d := ow) (o' := PySem.W.listOf (pr at_ (.ref D) (.ref qb)) nw) hD
  constructor
  case nod => exact nd_cons hP (nd_put nod)
  case hK => exact fun p hp => ⟨.tail _ (put_keepP (ne_code (hK p hp).2 how rfl) (hK p hp).1), cdSet_keep (hD p (hK p hp).1) (cdSet_keep (ne_code (hK p hp).2 hqa rfl) (hK p hp).2)⟩
  case hbv => exact fun b hb => (hbv b hb).mono fun p hp hc => ⟨.tail _ (put_keepP (ne_code hc how rfl) hp), cdSet_keep (hD p hp) (cdSet_keep (ne_code hc hqa rfl) hc)⟩
  case mow => exact .tail _ (put_new mow)
  case mqa => exact .head _
  case hqa => exact cdSet_self
  all_goals first
    | assumption
    | exact .tail _ (put_keep (ne_code (by assumption) how (by rfl)) (by assumption))
    | exact cdSet_keep (off_ne hD (by assumption)) (cdSet_keep (ne_code (by assumption) hqa (by rfl)) (by assumption))
theorem StX.push {T x db : Addr} {t5 t6 t7 t8 ts ty tp to : Tok} {sort place k : Int} {own : Value} {n nbv' : Nat} {bv1 bv2 : Value} {d : PyData} (h1' : ∀ p ∈ news, p.1 < db) (h2' : @LT.lt Nat _ db x) (h3' : @LT.lt Nat _ x T) (f1 : Flat bv1 d) (f2 : Flat bv2 d) (hd : VD d) (r : Where la lb at_ sort place own) (zb' : bv.length + 1 ≤ i) (S : StX w deck v lo bs kn i K news cd at_ vs ns nd dv a1 a2 a3 t1 t2 t3 nv o1 o2 o3 c1 c2 c3 la dla ea ua na oea cea lb dlb eb ub nb oeb ceb nlo bv nbv k1 ow k2 k3 p1 p2 p3 g1 g2 g3 nw qa qb ra rb ga gb) :
    StX w deck v lo bs kn i K ((T, tupO [.ref x, .int place tp, .int k to, bv2]) :: (x, instObj 162 db) :: (db, boundD w t5 t6 t7 t8 (.int sort ts) own (.int k ty) bv1 n) :: put bs (PySem.W.listOf (bv ++ [Value.ref T]).toArray nbv') news) (cdSet (cdSet (cdSet cd db 100) x 100) T 100) at_ vs ns nd dv a1 a2 a3 t1 t2 t3 nv o1 o2 o3 c1 c2 c3 la dla ea ua na oea cea lb dlb eb ub nb oeb ceb nlo (bv ++ [Value.ref T]) nbv' k1 ow k2 k3 p1 p2 p3 g1 g2 g3 nw qa qb ra rb ga gb := by
  obtain ⟨nod, hK, hat, mdk, mv, mdv, m1, m2, m3, mlo, mla, mdla, mea, mlb, mdlb, meb, mbs, mkn, mk1, mk2, mk3, mow, mqa, mqb, idk, I1, I2, I3, Iea, Ieb, J1, J2, J3, Jqa, Jqb, ldk, z1, z2, z3, zea, zeb, zb, V1, B3, Vea, Veb, hbv, hdk, hv, hdv, h1, h2, h3, hlo, hla, hdla, hea, hlb, hdlb, heb, hbs, hkn, hk1, hk2, hk3, how, hqa, hqb⟩ := S
  have P : ∀ p ∈ put bs (PySem.W.listOf (bv ++ [Value.ref T]).toArray nbv') news, @LT.lt Nat _ p.1 db := lt_put h1'
  have F1 : ∀ p ∈ put bs (PySem.W.listOf (bv ++ [Value.ref T]).toArray nbv') news, p.1 ≠ db := of_all P
  have F2 : ∀ p ∈ (db, boundD w t5 t6 t7 t8 (.int sort ts) own (.int k ty) bv1 n) :: put bs (PySem.W.listOf (bv ++ [Value.ref T]).toArray nbv') news, p.1 ≠ x := fun p hp => by
    rcases List.mem_cons.mp hp with e | hp
    · rw [e]; exact Nat.ne_of_lt h2'
    · exact Nat.ne_of_lt (Nat.lt_trans (P p hp) h2')
  have F3 : ∀ p ∈ (x, instObj 162 db) :: (db, boundD w t5 t6 t7 t8 (.int sort ts) own (.int k ty) bv1 n) :: put bs (PySem.W.listOf (bv ++ [Value.ref T]).toArray nbv') news, p.1 ≠ T := fun p hp => by
    rcases List.mem_cons.mp hp with e | hp
    · rw [e]; exact Nat.ne_of_lt h3'
    · rcases List.mem_cons.mp hp with e | hp
      · rw [e]; exact Nat.ne_of_lt (Nat.lt_trans h2' h3')
      · exact Nat.ne_of_lt (Nat.lt_trans (Nat.lt_trans (P p hp) h2') h3')
  have kc : ∀ {a : Addr} {o : Obj} {j : Nat}, (a, o) ∈ news → cd a = j → cdSet (cdSet (cdSet cd db 100) x 100) T 100 a = j := fun {a o j} hp hj =>
    cdSet_keep (Nat.ne_of_lt (Nat.lt_trans (Nat.lt_trans (h1' (a, o) hp) h2') h3')) (cdSet_keep (Nat.ne_of_lt (Nat.lt_trans (h1' (a, o) hp) h2')) (cdSet_keep (Nat.ne_of_lt (h1' (a, o) hp)) hj))
  have kp : ∀ {p : Addr × Obj}, p ∈ news → p.1 ≠ bs → p ∈ (T, tupO [.ref x, .int place tp, .int k to, bv2]) :: (x, instObj 162 db) :: (db, boundD w t5 t6 t7 t8 (.int sort ts) own (.int k ty) bv1 n) :: put bs (PySem.W.listOf (bv ++ [Value.ref T]).toArray nbv') news := fun {p} hp hn =>
    .tail _ (.tail _ (.tail _ (put_keepP hn hp)))
  constructor
  case nod => exact nd_cons F3 (nd_cons F2 (nd_cons F1 (nd_put nod)))
  case hK => exact fun p hp => ⟨kp (hK p hp).1 (ne_code (hK p hp).2 hbs rfl), kc (hK p hp).1 (hK p hp).2⟩
  case hbv =>
    intro b hb
    rcases List.mem_append.mp hb with hb | hb
    · exact (hbv b hb).mono fun p hp hc => ⟨kp hp (ne_code hc hbs rfl), kc hp hc⟩
    · rw [List.mem_singleton.mp hb]
      exact BindR.mk (.head _) (.tail _ (.head _)) (.tail _ (.tail _ (.head _))) f1 f2 hd cdSet_self (cdSet_keep (Nat.ne_of_lt h3') cdSet_self) (cdSet_keep (Nat.ne_of_lt (Nat.lt_trans h2' h3')) (cdSet_keep (Nat.ne_of_lt h2') cdSet_self)) r
  case mbs => exact .tail _ (.tail _ (.tail _ (put_new mbs)))
  case zb => rw [List.length_append]; exact zb'
  all_goals first
    | assumption
    | exact kp (by assumption) (ne_code (by assumption) hbs (by rfl))
    | exact kc (by assumption) (by assumption)
theorem StX.swap  (S : StX w deck v lo bs kn i K news cd at_ vs ns nd dv a1 a2 a3 t1 t2 t3 nv o1 o2 o3 c1 c2 c3 la dla ea ua na oea cea lb dlb eb ub nb oeb ceb nlo bv nbv k1 ow k2 k3 p1 p2 p3 g1 g2 g3 nw qa qb ra rb ga gb) :
    StX w deck v lo bs kn i K news (swapC cd) (1 - at_) vs ns nd dv a1 a2 a3 t1 t2 t3 nv o1 o2 o3 c1 c2 c3 lb dlb eb ub nb oeb ceb la dla ea ua na oea cea nlo bv nbv k1 ow k2 k3 p1 p2 p3 g1 g2 g3 nw qb qa rb ra gb ga := by
  obtain ⟨nod, hK, hat, mdk, mv, mdv, m1, m2, m3, mlo, mla, mdla, mea, mlb, mdlb, meb, mbs, mkn, mk1, mk2, mk3, mow, mqa, mqb, idk, I1, I2, I3, Iea, Ieb, J1, J2, J3, Jqa, Jqb, ldk, z1, z2, z3, zea, zeb, zb, V1, B3, Vea, Veb, hbv, hdk, hv, hdv, h1, h2, h3, hlo, hla, hdla, hea, hlb, hdlb, heb, hbs, hkn, hk1, hk2, hk3, how, hqa, hqb⟩ := S
  constructor
  case hat => omega
  case hK => exact fun p hp => ⟨(hK p hp).1, swap_code (hK p hp).2 rfl⟩
  case mlo => rw [pr_swap hat]; exact mlo
  case mow => rw [pr_swap hat]; exact mow
  case hbv => exact fun b hb => (hbv b hb).swap
  all_goals first
    | assumption
    | exact swap_code (by assumption) (by rfl)
theorem StX.pick  (S : StX w deck v lo bs kn i K news cd at_ vs ns nd dv a1 a2 a3 t1 t2 t3 nv o1 o2 o3 c1 c2 c3 la dla ea ua na oea cea lb dlb eb ub nb oeb ceb nlo bv nbv k1 ow k2 k3 p1 p2 p3 g1 g2 g3 nw qa qb ra rb ga gb) :
    dr ns.tail.tail 2 = at_ ∨ dr ns.tail.tail 2 = 1 - at_ := by
  obtain ⟨nod, hK, hat, mdk, mv, mdv, m1, m2, m3, mlo, mla, mdla, mea, mlb, mdlb, meb, mbs, mkn, mk1, mk2, mk3, mow, mqa, mqb, idk, I1, I2, I3, Iea, Ieb, J1, J2, J3, Jqa, Jqb, ldk, z1, z2, z3, zea, zeb, zb, V1, B3, Vea, Veb, hbv, hdk, hv, hdv, h1, h2, h3, hlo, hla, hdla, hea, hlb, hdlb, heb, hbs, hkn, hk1, hk2, hk3, how, hqa, hqb⟩ := S
  have h1 := dr_lo ns.tail.tail (many := 2) (by decide)
  have h2 := dr_hi ns.tail.tail (many := 2) (by decide)
  omega
theorem StX.hold {I : Addr} {it : Obj} (hI : ∀ p ∈ news, p.1 ≠ I) (hK0 : K = []) (S : StX w deck v lo bs kn i K news cd at_ vs ns nd dv a1 a2 a3 t1 t2 t3 nv o1 o2 o3 c1 c2 c3 la dla ea ua na oea cea lb dlb eb ub nb oeb ceb nlo bv nbv k1 ow k2 k3 p1 p2 p3 g1 g2 g3 nw qa qb ra rb ga gb) :
    StX w deck v lo bs kn i [(I, it)] ((I, it) :: news) (cdSet cd I 101) at_ vs ns nd dv a1 a2 a3 t1 t2 t3 nv o1 o2 o3 c1 c2 c3 la dla ea ua na oea cea lb dlb eb ub nb oeb ceb nlo bv nbv k1 ow k2 k3 p1 p2 p3 g1 g2 g3 nw qa qb ra rb ga gb := by
  obtain ⟨nod, hK, hat, mdk, mv, mdv, m1, m2, m3, mlo, mla, mdla, mea, mlb, mdlb, meb, mbs, mkn, mk1, mk2, mk3, mow, mqa, mqb, idk, I1, I2, I3, Iea, Ieb, J1, J2, J3, Jqa, Jqb, ldk, z1, z2, z3, zea, zeb, zb, V1, B3, Vea, Veb, hbv, hdk, hv, hdv, h1, h2, h3, hlo, hla, hdla, hea, hlb, hdlb, heb, hbs, hkn, hk1, hk2, hk3, how, hqa, hqb⟩ := S
  subst hK0
  constructor
  case nod => exact nd_cons hI nod
  case hK => exact fun p hp => (by rw [List.mem_singleton.mp hp]; exact ⟨.head _, cdSet_self⟩)
  case hbv => exact fun b hb => (hbv b hb).cons hI
  all_goals first
    | assumption
    | exact .tail _ (by assumption)
    | exact cdSet_keep (off_ne hI (by assumption)) (by assumption)
theorem StX.drop {I : Addr} {it : Obj} (hK0 : K = [(I, it)]) (S : StX w deck v lo bs kn i K news cd at_ vs ns nd dv a1 a2 a3 t1 t2 t3 nv o1 o2 o3 c1 c2 c3 la dla ea ua na oea cea lb dlb eb ub nb oeb ceb nlo bv nbv k1 ow k2 k3 p1 p2 p3 g1 g2 g3 nw qa qb ra rb ga gb) :
    StX w deck v lo bs kn i [] (news.filter fun p => !(p.1 == I)) cd at_ vs ns nd dv a1 a2 a3 t1 t2 t3 nv o1 o2 o3 c1 c2 c3 la dla ea ua na oea cea lb dlb eb ub nb oeb ceb nlo bv nbv k1 ow k2 k3 p1 p2 p3 g1 g2 g3 nw qa qb ra rb ga gb := by
  obtain ⟨nod, hK, hat, mdk, mv, mdv, m1, m2, m3, mlo, mla, mdla, mea, mlb, mdlb, meb, mbs, mkn, mk1, mk2, mk3, mow, mqa, mqb, idk, I1, I2, I3, Iea, Ieb, J1, J2, J3, Jqa, Jqb, ldk, z1, z2, z3, zea, zeb, zb, V1, B3, Vea, Veb, hbv, hdk, hv, hdv, h1, h2, h3, hlo, hla, hdla, hea, hlb, hdlb, heb, hbs, hkn, hk1, hk2, hk3, how, hqa, hqb⟩ := S
  subst hK0
  have hI : cd I = 101 := (hK (I, it) (.head _)).2
  constructor
  case nod => exact List.Nodup.sublist (List.Sublist.map _ List.filter_sublist) nod
  case hK => exact fun p hp => nomatch hp
  case hbv => exact fun b hb => (hbv b hb).mono fun p hp hc => ⟨keep_drop (ne_code hc hI rfl) hp, hc⟩
  all_goals first
    | assumption
    | exact keep_drop (ne_code (by assumption) hI (by rfl)) (by assumption)
end
local macro_rules | `(tactic| k_mem) => `(tactic| first | assumption | exact put_new (by k_mem) | (refine' put_keep ?kn ?km; (case kn => k_ne); (case km => k_mem)))
local macro_rules | `(tactic| k_ne) => `(tactic| first | assumption | exact ne_code (by assumption) (by assumption) (by rfl) | exact Ne.symm (off_ne (by assumption) (by k_mem)) | exact off_ne (by assumption) (by k_mem) | exact lt_ne (by assumption) (by k_mem) | exact Ne.symm (lt_ne (by assumption) (by k_mem)) | exact lt_ne2 (by assumption) (by assumption) (by k_mem) | exact Ne.symm (lt_ne2 (by assumption) (by assumption) (by k_mem)))
local macro_rules | `(tactic| k_all) => `(tactic| assumption)
local macro_rules | `(tactic| k_updF) => `(tactic| first | (refine' updF_put ?nn ?mm; (case nn => (repeat (first | assumption | refine nd_put ?_))); (case mm => k_mem)) | (refine' UpdF.tail ?ua ?ub; (case ua => k_ne); (case ub => k_updF)))
theorem said58 : True := by
  k_with "call ref" => (k_here; k_dflt (refine c_drawR (by k_asm) (by k_asm) (by k_asm) (by k_asm) (by k_asm) (by first | exact rfl | assumption) (by ktr_room) (by ktr_units) (by k_updF) (by k_asm) (by first | assumption | omega) (by decide) ?_); intro r' t' h' tk' vs' n' lo' hi' i' F' N'; (try dsimp only at N'); (try simp only [put_put] at N'))
  k_with "call ref" => (k_here; k_dflt (refine c_drawK (by k_asm) (by k_asm) (by k_asm) (by k_asm) (by k_asm) (by first | exact rfl | assumption) (by ktr_room) (by ktr_units) (by k_updF) (by k_asm) (by first | assumption | omega) (by decide) (by assumption) ?_); intro t' h' tk' vs' n' i' F' N'; (try dsimp only at N'); (try simp only [put_put] at N'))
  k_with "call ref" => (k_here; k_dflt (refine c_valuein (by k_asm) (by k_asm) (by k_asm) (by k_asm) (by k_asm) (by first | exact rfl | assumption) (by ktr_room) (by ktr_units) (by k_mem) (by k_mem) (by k_mem) (by k_asm) (by k_mem) (by k_mem) (by k_mem) (by k_asm) ?_); intro r' h' tk' f' F' N'; (try dsimp only at N'); (try simp only [put_put] at N'))
  k_with "call ref" => (k_here; k_dflt (refine c_setin (by k_asm) (by k_asm) (by k_asm) (by k_asm) (by k_asm) (by first | exact rfl | assumption) (by ktr_room) (by ktr_units) (by k_mem) (by k_mem) (by k_updF) (by k_asm) (by k_mem) (by k_asm) (by k_mem) (by k_mem) (by k_updF) (by k_asm) (by first | assumption | omega) (by first | assumption | omega) (by k_flat) ?_ ?_ ?_); (all_goals (intros; rename News _ _ _ _ => N'; (try dsimp only at N'); (try simp only [put_put] at N'))))
  k_with "call ref" => (k_here; k_dflt (refine c_makelocal (by k_asm) (by k_asm) (by k_asm) (by k_asm) (by k_asm) (by first | exact rfl | assumption) (by ktr_room) (by ktr_units) (by k_mem) (by k_mem) (by k_updF) (by k_asm) (by k_mem) (by k_mem) (by k_mem) (by k_asm) (by first | assumption | omega) ?_); intro h' tk' o' I' F' N'; (try dsimp only at N'); (try simp only [put_put] at N'))
  k_with "call ref" => (k_here; k_dflt (refine c_bind (by k_asm) (by k_asm) (by k_asm) (by k_asm) (by k_asm) (by first | exact rfl | assumption) (by ktr_room) (by ktr_units) (by k_mem) (by k_mem) (by k_updF) (by k_asm) (by k_mem) (by k_mem) (by k_updF) (by k_asm) (by first | assumption | omega) (by first | assumption | omega) (by k_flat) ?_ ?_); (all_goals (intros; rename News _ _ _ _ => N'; (try dsimp only at N'); (try simp only [put_put] at N'))))
  k_with "call ref" => (k_here; k_dflt (refine c_unbindD (by k_asm) (by k_asm) (by k_asm) (by k_asm) (by k_asm) (by first | exact rfl | assumption) (by ktr_room) (by ktr_units) (by k_mem) (by k_mem) (by k_updF) (by k_asm) (by k_mem) (by k_mem) (by first | assumption | omega) (by k_flat) ?_); intro h' tk' o' I' F' N'; (try dsimp only at N'); (try simp only [put_put] at N'))
  k_with "call ref" => (k_here; k_dflt (refine c_unbindL (by k_asm) (by k_asm) (by k_asm) (by k_asm) (by k_asm) (by first | exact rfl | assumption) (by ktr_room) (by ktr_units) (by k_mem) (by k_mem) (by k_mem) (by k_mem) (by k_mem) (by k_updF) (by k_asm) (by first | assumption | omega) (by k_flat) ?_); intro h' tk' o' I' F' N'; (try dsimp only at N'); (try simp only [put_put] at N'))
  k_with "call ref" => (k_here; k_dflt (refine c_killall (by k_asm) (by k_asm) (by k_asm) (by k_asm) (by k_asm) (by first | exact rfl | assumption) (by ktr_room) (by ktr_units) (by k_mem) (by k_mem) (by k_updF) (by k_asm) (by k_mem) (by k_mem) (by k_mem) (by k_asm) (by assumption) (by k_ne) (by k_ne) (by first | assumption | omega) (by first | assumption | omega) ?_); intro D' vs' gs' n' h' tk' o' i' p' w' I' l1' F' N'; (try dsimp only at N'); (try simp only [put_put] at N'))
  k_with "compareOp NotEq ref ref" => (k_here; k_dflt (refine my_nenil (by k_asm) (by k_mem) (by k_mem) (by ktr_units) ?_))
  k_with "call builtin:list.append" => (k_here; k_dflt (refine my_app (by k_asm) (by k_asm) (by k_updF) (by first | assumption | omega) ?_); intro h' n' F' N'; (try dsimp only at N'))
  k_with "newTuple" => (k_here; k_dflt (refine kup_newTuple (by k_asm) (by k_asm) ?_ (by kmk_size)); intro D' h' F' N' l1)
  k_with "subscriptTail" => (k_here; (with_reducible show wpAny _ _ (subscriptTail _ _ (Value.ref _) (Value.int (1 - _) _)) _ _ _); k_dflt (refine my_prAt2 (by k_asm) (by k_mem) (by assumption) ?_))
  k_with "subscriptTail" => (k_here; (with_reducible show wpAny _ _ (subscriptTail _ _ (Value.ref _) (Value.int _ _)) _ _ _); k_dflt (refine my_prAt (by k_asm) (by k_mem) (by assumption) ?_))
  k_with "setItem ref int" => (k_here; (with_reducible show wpAny _ _ (setItem (Value.ref _) (Value.int _ _) (Value.ref _)) _ _ _); k_dflt (refine my_prSet (by k_asm) (by k_asm) (by k_updF) (by assumption) ?_); intro h' F' N'; (try dsimp only at N'))
  k_with "newList" => (k_here; k_dflt (refine newList_K (by k_asm) (by k_asm) ?_; k_whole); intro l' h' F' N' l1)
  exact trivial
open LCg LCt in
/-- a dict as the source of a comprehension with a test -/
def CompSrcD (w : World) (A : Around) (h₀ : Heap) (L : Addr) (m : Str → Option Value) (env : Env) (ct elt : PySem.Expr) (x : Str) (scope : Scope) (cl : List (Str × Addr)) (Fin : Shared → List Value → List (Addr × Obj) → Prop) (xv : Value) (s₁ : Shared) : Prop :=
  ∃ d o c news, xv = .ref d ∧ A.handled = none ∧ Fr h₀ L s₁.heap m ∧ News h₀ L s₁.heap news ∧ (d, o) ∈ news ∧ IsI w d o c ∧ c.length ≤ 1000 ∧
    ∀ s₂ : Shared, (∃ h, s₂ = { s₁ with heap := h }) → LCt.CompRestT PySem.Challenge.rw_np0016_01.row.prog w A h₀ L m env ct elt x scope cl s₂ (fun nw => (d, o) ∈ nw) (fun i v => ∃ k t, (c.map (·.1))[i]? = some k ∧ v = .int k t) (Fin s₂) c.length 0 [] news
section
variable {w : World} {A : Around} {E : Value → Shared → Prop} {s : Shared} {h₀ : Heap} {L : Addr} {m : Str → Option Value} {env : Env}
open LCg LCt in
theorem my_comp {ct elt iter : PySem.Expr} {x : Str} {px : Pos} {scope : Scope} {cl : List (Str × Addr)} {pos : Pos} {Q : Value → Shared → Prop} (F₀ : Fr h₀ L s.heap m)
    (hclos : closureFor scope env = pure cl) (hcell : ∀ y ∈ scope.names, y.2 ≠ .cell) (hkind : scope.kind = .function)
    (hnames : ∀ y ∈ scope.names, y.2 = .local → scope.names.lookup y.1 = some .local) (hx : scope.names.lookup x = some .local)
    (h : wpAny (model PySem.Challenge.rw_np0016_01.row.prog w) A (eval iter env) (CompSrcD w A h₀ L m env ct elt x scope cl (fun s₂ => FinE h₀ L m s₂ Q)) E s)
    (hs : ∀ x, foldedSetIterable iter env x = pure x := by intro _; rfl) :
    wpAny (model PySem.Challenge.rw_np0016_01.row.prog w) A (eval (.ListComp elt [⟨.Name x px, iter, [ct], 0⟩] scope pos) env) Q E s := by
  rw [eval_ListComp]
  refine wpAny_comprehension_free (use := none) rfl hs hclos hkind hnames (wpAny_mono h (fun xv s₁ h₁ => ?_) fun _ _ e => e)
  obtain ⟨d, o, c, news, rfl, hh, F, N, hm, I, hz, R⟩ := h₁
  have hax := N _ hm
  obtain ⟨lo, kvs, hD, hf⟩ := my_tab N hm I
  obtain ⟨ep, hat⟩ := hD.dictAt
  have hlen : kvs.length = c.length := by rw [← hf.length, dk_length]
  have hkeys : kvs.map (·.1) = c.map (·.1) := fp_keys hf
  have hlt : d < s₁.heap.objs.size := Heap.lt_size hax.1
  refine wpAny_pyIter_dict lo hat ?_
  have up : ∀ ob b o, s₁.heap.get? b = some o → (s₁.heap.push ob).get? b = some o := fun ob b o e => Heap.get?_push_of_some _ e
  have W0 := Walks.dictKeys (prog := PySem.Challenge.rw_np0016_01.row.prog) (w := w) (A := A) (knd := intKind PySem.Challenge.rw_np0016_01.row.prog w) hh s₁.heap.objs.size d (Nat.ne_of_lt hlt) kvs ep
  have W : Walks PySem.Challenge.rw_np0016_01.row.prog w A s₁.heap.objs.size [s₁.heap.objs.size, d] [s₁.heap.objs.size] kvs.length (fun i v => ∃ k t, (c.map (·.1))[i]? = some k ∧ v = .int k t)
      (fun i h => (h.IsKeyIter s₁.heap.objs.size d i kvs.length ep ∧ h.DictAt (intKind PySem.Challenge.rw_np0016_01.row.prog w) d kvs ep) ∧ h.get? d = some o) := by
    have hnd : d ∉ [s₁.heap.objs.size] := fun hmm => Nat.ne_of_lt hlt (List.mem_singleton.mp hmm)
    refine { sub := W0.sub, frame := fun i h h' st hk => ⟨W0.frame i h h' st.1 hk, hk d (by simp) _ st.2⟩, item := fun i s Q E hi st hQ => ?_, done := fun s Q E st hQ => W0.done s Q E st.1 hQ, self := fun i s Q E st hQ => W0.self i s Q E st.1 hQ }
    refine W0.item i s Q E hi st.1 fun v h' tk hP st' hk => hQ v h' tk ?_ ⟨st', hk d o hnd st.2⟩ hk
    obtain ⟨k, xv, hx, hkk⟩ := hP
    obtain ⟨t, rfl⟩ := Value.isInt_shape hkk
    exact ⟨k, t, by rw [← hkeys, List.getElem?_map, hx]; rfl, rfl⟩
  refine block_T W (by rw [hlen, sizeLine_eq]; omega) (fun i h st => by obtain ⟨o', e, _⟩ := st.1.1; exact ⟨o', e⟩) (S := fun nw => (d, o) ∈ nw) ?_ hcell hkind hx ⟨⟨⟨_, Heap.get?_push_size _ rfl, rfl, rfl⟩, hat.push _⟩, up _ _ _ hax.1⟩ (fun b hb => ?_)
      (F.keeps (up _)) (N.grown (up _)) (Nat.ne_of_lt F.ns.lt) (next_is_new F) (fun p hp => Nat.ne_of_lt (Heap.lt_size (N p hp).1)) hm (by rw [hlen]; exact R _ ⟨_, rfl⟩) ?_
  · rintro i h h' o' nw ⟨⟨⟨o'', q, r⟩, hd⟩, hdo⟩ e e' k N' S
    rw [e] at q
    cases q
    have hd' := (N' _ S).1
    exact ⟨⟨⟨o', e', r⟩, hd.at' fun o2 e2 => by rw [hdo] at e2; cases e2; exact hd'⟩, hd'⟩
  · show b < (s₁.heap.push _).objs.size
    rw [Heap.size_push]
    rcases List.mem_cons.mp hb with rfl | hb
    · exact Nat.lt_succ_self _
    · rw [List.mem_singleton.mp hb]; exact Nat.lt_succ_of_lt hlt
  · intro D C h tk m' ys news' F' N' o1 hn hC₀ hD₀ hCL hDL hCD offC fin
    refine ⟨m', hn, fun h'' hs'' => fin D h'' tk (F'.change hs'' hCL hC₀) (fun p hp => ?_) o1⟩
    refine ⟨hs''.extBut _ _ ?_ (N' p hp).1, (N' p hp).2⟩
    rcases List.mem_cons.mp hp with rfl | hp
    · exact Ne.symm hCD
    · exact offC p hp
open LCg LCt in
theorem my_src {ct elt : PySem.Expr} {x : Str} {scope : Scope} {cl : List (Str × Addr)} {d : Addr} {o : Obj} {c : IntD} {news : List (Addr × Obj)} {Fin : Shared → List Value → List (Addr × Obj) → Prop} {c3 : IntD}
    (hh : A.handled = none) (F : Fr h₀ L s.heap m) (N : News h₀ L s.heap news) (hm : (d, o) ∈ news) (I : IsI w d o c) (hz : c.length ≤ 1000) (hb : BOK c3)
    (turn : ∀ k t I oI C oC D m₂ ys l h tk (E' : Value → Shared → Prop), NsObj oC m₂ → m₂ x = some (.int k t) → Fr h₀ L h m → News h₀ L h ((I, oI) :: (C, oC) :: (D, lst ys) :: news) → Off3 I C D news → ((@Ne Nat I C) ∧ (@Ne Nat I D) ∧ (@Ne Nat C D)) →
      wpAny (model PySem.Challenge.rw_np0016_01.row.prog w) A (isTrue ct (compEnvC scope cl C env) (eval ct (compEnvC scope cl C env))) (fun b s' => if b = true then wpAny (model PySem.Challenge.rw_np0016_01.row.prog w) A (eval elt (compEnvC scope cl C env)) (CompEnd h₀ L m { s with heap := h, toks := tk } I oI C oC D (lst ys) (fun nw => (d, o) ∈ nw) (fun y news' => KCiEl news l (if permB c3 k = true then l else l ++ [k]) y news')) E' s'
        else CompEnd h₀ L m { s with heap := h, toks := tk } I oI C oC D (lst ys) (fun nw => (d, o) ∈ nw) (fun _ news' => KCiNo news l (if permB c3 k = true then l else l ++ [k]) news') Value.none s') E' { s with heap := h, toks := tk })
    (fin : ∀ hA ys, IntsAre ys ((c.map (·.1)).filter fun k => !permB c3 k) → Fin { s with heap := hA } ys news) : CompSrcD w A h₀ L m env ct elt x scope cl Fin (.ref d) s := by
  refine ⟨d, o, c, news, rfl, hh, F, N, hm, I, hz, ?_⟩
  rintro s₂ ⟨hA, rfl⟩
  refine kci_rest (ks := c.map (·.1)) (fun l k => if permB c3 k = true then l else l ++ [k]) (List.length_map _) (fun i v _ hv => hv) (fun k t I oI C oC D m₂ ys l h tk E' _ _ hC hx F' N' off ne _ => turn k t I oI C oC D m₂ ys l h tk E' hC hx F' N' off ne) ?_ ?_
  · unfold KPfDone
    intro ys hys _
    rw [fold_filter, List.nil_append] at hys
    exact fin hA ys hys
  · intro l k
    show (if permB c3 k = true then l else l ++ [k]).length ≤ l.length + 1
    split <;> simp
end
theorem sorted_same {xs ys fs : List Int} (p1 : xs.Perm fs) (p2 : ys.Perm fs) (o1 : xs.Pairwise (· ≤ ·)) (o2 : ys.Pairwise (· ≤ ·)) : xs = ys :=
  (p1.trans p2.symm).eq_of_pairwise (fun _ _ _ _ h1 h2 => Int.le_antisymm h1 h2) o1 o2
theorem my_nesorted {w : World} {A : Around} {s : Shared} {E : Value → Shared → Prop} {h₀ : Heap} {L a b : Addr} {news : List (Addr × Obj)} {xs ys : List Value} {ns ms fs : List Int} {na nb : Nat} {Q : Value → Shared → Prop}
    (N : News h₀ L s.heap news) (ha : (a, PySem.W.listOf xs.toArray na) ∈ news) (hb : (b, PySem.W.listOf ys.toArray nb) ∈ news) (hi : IntsAre xs ns) (hj : IntsAre ys ms) (p1 : ns.Perm fs) (p2 : ms.Perm fs) (o1 : ns.Pairwise (· ≤ ·)) (o2 : ms.Pairwise (· ≤ ·)) (hu : A.units + 64 < cLine)
    (h : ns = ms → Q (.bool false) s) : wpAny (model PySem.Challenge.rw_np0016_01.row.prog w) A (compareOp .NotEq (.ref a) (.ref b)) Q E s := by
  have e := sorted_same p1 p2 o1 o2
  exact my_neints N ha hb hi hj hu (by rw [decide_eq_true e]; exact h e)
theorem my_popB {w : World} {A : Around} {s : Shared} {E : Value → Shared → Prop} {h₀ : Heap} {L d : Addr} {m : Str → Option Value} {u : Obj → List (Addr × Obj)} {news news0 : List (Addr × Obj)} {xs : List Value} {n : Nat} {cd : Addr → Nat} {at_ : Int} {la lb : Addr} {Q : Value → Shared → Prop}
    (hb : ∀ b ∈ xs, BindR w cd at_ la lb news0 b) (F : Fr h₀ L s.heap m) (N : News h₀ L s.heap news) (U : UpdF d (PySem.W.listOf xs.toArray n) news u) (hne : ¬ xs = []) (hz : xs.length ≤ 60)
    (h : ∀ h' (pre : List Value) n' T x db t5 t6 t7 t8 ts ty tp to sort place own k nB bv bv2 dd, (∀ b ∈ pre, b ∈ xs) → pre.length + 1 = xs.length → Fr h₀ L h' m → News h₀ L h' (u (PySem.W.listOf pre.toArray n')) →
      (T, tupO [.ref x, .int place tp, .int k to, bv2]) ∈ news0 → (x, instObj 162 db) ∈ news0 → (db, boundD w t5 t6 t7 t8 (.int sort ts) own (.int k ty) bv nB) ∈ news0 → Flat bv dd → Flat bv2 dd → VD dd → cd T = 100 → cd x = 100 → cd db = 100 →
      Where la lb at_ sort place own → Q (.ref T) { s with heap := h' }) :
    wpAny (model PySem.Challenge.rw_np0016_01.row.prog w) A (call (.builtin "list.pop") [.ref d]) Q E s := by
  refine my_popb F N U hne hz fun h' pre b n' e F' N' => ?_
  cases hb b (by rw [e]; simp) with
  | mk m1 m2 m3 f1 f2 v1 k1 k2 k3 r =>
    exact h h' pre n' _ _ _ _ _ _ _ _ _ _ _ _ _ _ _ _ _ _ _ (fun b hb => by rw [e]; exact List.mem_append_left _ hb) (by rw [e]; simp) F' N' m1 m2 m3 f1 f2 v1 k1 k2 k3 r
theorem my_sorted {w : World} {A : Around} {s : Shared} {E : Value → Shared → Prop} {h₀ : Heap} {L l : Addr} {m : Str → Option Value} {news : List (Addr × Obj)} {vs : List Value} {n : Nat} {c : IntD} {P : Int → Bool} {Q : Value → Shared → Prop}
    (F : Fr h₀ L s.heap m) (N : News h₀ L s.heap news) (hm : (l, PySem.W.listOf vs.toArray n) ∈ news) (hi : IntsAre vs ((c.map (·.1)).filter P)) (hz : c.length ≤ 60)
    (h : ∀ D vs' ns' n' h', IntsAre vs' ns' → ns'.Perm ((c.map (·.1)).filter P) → ns'.Pairwise (· ≤ ·) → (∀ q ∈ news, q.1 < D) → Fr h₀ L h' m → News h₀ L h' ((D, PySem.W.listOf vs'.toArray n') :: news) → Q (.ref D) { s with heap := h' }) :
    wpAny (model PySem.Challenge.rw_np0016_01.row.prog w) A (call (.builtin "sorted") [.ref l]) Q E s := by
  have hlen : ((c.map (·.1)).filter P).length ≤ c.length := Nat.le_trans (List.length_filter_le _ _) (by rw [List.length_map]; exact Nat.le_refl _)
  exact kso_sorted F N (kso_isList N hm rfl) hi (by omega) fun D vs' ns' n' h' F' N' l1 i' _ p' o' _ => h D vs' ns' n' h' i' p' o' l1 F' N'
theorem said59 : True := by
  k_with "eval ListComp" => (k_here; k_dflt (refine my_comp (F₀ := by k_asm) (by with_unfolding_all rfl) (by decide) (by rfl) (by decide) (by rfl) ?_))
  k_with "CompSrcD" => (k_here; k_dflt (refine my_src (by rfl) (by k_asm) (by k_asm) (by k_mem) (by k_asm) (by first | assumption | omega) (by assumption) ?_ ?_); (focus (intro k tk I oI C oC D m2 ys l h tk2 E' hC hx F9 N9 off9 ne9; k_steps; all_goals first | exact LCg.CompEnd.intro (by assumption) (by assumption) _ (fun p hp => hp) off9 (by k_mem) (kci_no (by rw [if_pos (by assumption)]) rfl) | exact LCg.CompEnd.intro (by assumption) (by assumption) _ (fun p hp => hp) off9 (by k_mem) (kci_el (by rw [if_neg (Bool.eq_false_iff.mp (by assumption))]) rfl rfl))); intro hA ys' hys')
  k_with "FinE" => (k_here; unfold LCg.FinE; intro D' h' tk' F' N' o1'; replace o1' := off1_mem o1')
  k_with "compareOp NotEq ref ref" => (k_here; k_dflt (refine my_nesorted (by k_asm) (by k_mem) (by k_mem) (by assumption) (by assumption) (by assumption) (by assumption) (by assumption) (by assumption) (by ktr_units) ?_); intro e'; subst e')
  k_with "call builtin:list.pop" => (k_here; (with_reducible show wpAny _ _ (call (Value.builtin _) [Value.ref _]) _ _ _); k_dflt (refine my_popB (by assumption) (by k_asm) (by k_asm) (by k_updF) (by assumption) (by first | assumption | omega) ?_); intro h' pre' n' T' x' db' t5' t6' t7' t8' ts' ty' tp' to' sort' place' own' k' nB' bv' bv2' dd' sub' len' F' N' m1' m2' m3' f1' f2' v1' k1' k2' k3' r'; (try dsimp only at N'); ((rcases r' with ⟨e1, e2⟩ | ⟨e1, e2, e3⟩ | ⟨e1, e2, e3⟩) <;> (subst e1; subst e2; (try subst e3))))
  k_with "call builtin:sorted" => (k_here; (with_reducible show wpAny _ _ (call (Value.builtin _) [Value.ref _]) _ _ _); k_dflt (refine my_sorted (by k_asm) (by k_asm) (by k_mem) (by assumption) (by first | assumption | omega) ?_); intro D' vs' ns' n' h' i' p' o' l' F' N')
  exact trivial
section
variable {w : World} {p : Program} {loose : List Str} {mean : ExcName → Option Value} {mg mb : Str → Option Value} {dp un : Nat} {gd : Option (List Code)} {cn : Str} {cs : Scope} {a : Addr} {ccd : Value} {cl : List (Str × Addr)} {outer : List Env} {A₀ : Around} {base h₀ : Heap} {L : Addr} {m : Str → Option Value} {s : Shared} {Q E : Value → Shared → Prop} {news : List (Addr × Obj)}
variable (B : Below A₀ base outer h₀) (F : Fr h₀ L s.heap m) (X : (hd.heap_39 w.params).In h₀) (N : News h₀ L s.heap news) (T : Top p loose mean mg mb h₀) (hk : cs.kind = .function) (hdp : dp + 5 < recursionLimit) (hun : un + 100 < cLine)
include B F X N T hk hdp hun
theorem c_draw9 {u : Obj → List (Addr × Obj)} {dq : Addr} {vs : List Value} {ns : List Int} {n : Nat} {tm : Tok} (U : UpdF dq (PySem.W.listOf vs.toArray n) news u) (hi : IntsAre vs ns) (hz : ns.length ≤ 1000)
    (ret01 : ∀ r t h' tk' vs' n', 0 ≤ r → r < 2 → IntsAre vs' ns.tail → Fr h₀ L h' m → News h₀ L h' (u (PySem.W.listOf vs'.toArray n')) → Q (.int r t) { s with heap := h', toks := tk' })
    (ret2 : ∀ t h' tk' vs' n', IntsAre vs' ns.tail → Fr h₀ L h' m → News h₀ L h' (u (PySem.W.listOf vs'.toArray n')) → Q (.int 2 t) { s with heap := h', toks := tk' })
    (ret3 : ∀ t h' tk' vs' n', IntsAre vs' ns.tail → Fr h₀ L h' m → News h₀ L h' (u (PySem.W.listOf vs'.toArray n')) → Q (.int 3 t) { s with heap := h', toks := tk' })
    (ret4 : ∀ t h' tk' vs' n', IntsAre vs' ns.tail → Fr h₀ L h' m → News h₀ L h' (u (PySem.W.listOf vs'.toArray n')) → Q (.int 4 t) { s with heap := h', toks := tk' })
    (ret5 : ∀ t h' tk' vs' n', IntsAre vs' ns.tail → Fr h₀ L h' m → News h₀ L h' (u (PySem.W.listOf vs'.toArray n')) → Q (.int 5 t) { s with heap := h', toks := tk' })
    (ret6 : ∀ t h' tk' vs' n', IntsAre vs' ns.tail → Fr h₀ L h' m → News h₀ L h' (u (PySem.W.listOf vs'.toArray n')) → Q (.int 6 t) { s with heap := h', toks := tk' })
    (ret7 : ∀ t h' tk' vs' n', IntsAre vs' ns.tail → Fr h₀ L h' m → News h₀ L h' (u (PySem.W.listOf vs'.toArray n')) → Q (.int 7 t) { s with heap := h', toks := tk' })
    (ret8 : ∀ t h' tk' vs' n', IntsAre vs' ns.tail → Fr h₀ L h' m → News h₀ L h' (u (PySem.W.listOf vs'.toArray n')) → Q (.int 8 t) { s with heap := h', toks := tk' })
    : wpAny (model PySem.Challenge.rw_np0016_01.row.prog w) (ktrTop dp un gd cn cs L a ccd cl outer) (call (.ref 187) [.ref dq, .int 9 tm]) Q E s := by
  refine c_drawR B F X N T hk hdp hun U hi hz (by decide) fun r t h' tk' vs' n' lo hi' i F' N' => ?_
  have e : r < 2 ∨ r = 2 ∨ r = 3 ∨ r = 4 ∨ r = 5 ∨ r = 6 ∨ r = 7 ∨ r = 8 := by omega
  rcases e with e | rfl | rfl | rfl | rfl | rfl | rfl | rfl
  · exact ret01 _ _ _ _ _ _ lo e i F' N'
  · exact ret2 _ _ _ _ _ i F' N'
  · exact ret3 _ _ _ _ _ i F' N'
  · exact ret4 _ _ _ _ _ i F' N'
  · exact ret5 _ _ _ _ _ i F' N'
  · exact ret6 _ _ _ _ _ i F' N'
  · exact ret7 _ _ _ _ _ i F' N'
  · exact ret8 _ _ _ _ _ i F' N'
end
theorem said60 : True := by
  k_with "call ref" => (k_here; k_dflt (refine c_draw9 (by k_asm) (by k_asm) (by k_asm) (by k_asm) (by k_asm) (by first | exact rfl | assumption) (by ktr_room) (by ktr_units) (by k_updF) (by k_asm) (by first | assumption | omega) ?_ ?_ ?_ ?_ ?_ ?_ ?_ ?_); (all_goals (intros; rename News _ _ _ _ => N'; (try dsimp only at N'); (try simp only [put_put] at N'))))
  exact trivial
section
variable {w : World} {p : Program} {loose : List Str} {mean : ExcName → Option Value} {mg mb : Str → Option Value} {dp un : Nat} {gd : Option (List Code)} {cn : Str} {cs : Scope} {a : Addr} {ccd : Value} {cl : List (Str × Addr)} {outer : List Env} {A₀ : Around} {base h₀ : Heap} {L : Addr} {m : Str → Option Value} {s : Shared} {Q E : Value → Shared → Prop} {news : List (Addr × Obj)}
variable (B : Below A₀ base outer h₀) (F : Fr h₀ L s.heap m) (X : (hd.heap_39 w.params).In h₀) (N : News h₀ L s.heap news) (T : Top p loose mean mg mb h₀) (hk : cs.kind = .function) (hdp : dp + 20 < recursionLimit) (hun : un + 220 < cLine)
include B F X N T hk hdp hun
theorem c_deedA {deck : Addr} {v : Addr} {lo : Addr} {bs : Addr} {kn : Addr} {i : Nat} {K : List (Addr × Obj)} {cd : Addr → Nat} {at_ : Int} {vs : List Value} {ns : List Int} {nd : Nat} {dv : Addr} {a1 : Addr} {a2 : Addr} {a3 : Addr} {t1 : Tok} {t2 : Tok} {t3 : Tok} {nv : Nat} {o1 : Obj} {o2 : Obj} {o3 : Obj} {c1 : IntD} {c2 : IntD} {c3 : IntD} {la : Addr} {dla : Addr} {ea : Addr} {ua : Tok} {na : Nat} {oea : Obj} {cea : IntD} {lb : Addr} {dlb : Addr} {eb : Addr} {ub : Tok} {nb : Nat} {oeb : Obj} {ceb : IntD} {nlo : Nat} {bv : List Value} {nbv : Nat} {k1 : Addr} {ow : Addr} {k2 : Addr} {k3 : Addr} {p1 : Obj} {p2 : Obj} {p3 : Obj} {nw : Nat} {qa : Addr} {qb : Addr} {ra : Obj} {rb : Obj} (S : StX w deck v lo bs kn i K news cd at_ vs ns nd dv a1 a2 a3 t1 t2 t3 nv o1 o2 o3 c1 c2 c3 la dla ea ua na oea cea lb dlb eb ub nb oeb ceb nlo bv nbv k1 ow k2 k3 p1 p2 p3 c1 c2 c3 nw qa qb ra rb cea ceb) (hi : i ≤ 40) (ha : dr ns.tail.tail 2 = at_)
    (ret : ∀ h' tk' news', St w deck v lo bs kn (i + 1) K news' → Fr h₀ L h' m → News h₀ L h' news' → Q (.bool true) { s with heap := h', toks := tk' }) :
    wpAny (model PySem.Challenge.rw_np0016_01.row.prog w) (ktrTop dp un gd cn cs L a ccd cl outer) (call (.ref 206) [.ref deck, .ref v, .ref lo, .ref bs, .ref kn]) Q E s := by
  have S0 := S.succ
  obtain ⟨nod, hK, hat, mdk, mv, mdv, m1, m2, m3, mlo, mla, mdla, mea, mlb, mdlb, meb, mbs, mkn, mk1, mk2, mk3, mow, mqa, mqb, idk, I1, I2, I3, Iea, Ieb, J1, J2, J3, Jqa, Jqb, ldk, z1, z2, z3, zea, zeb, zb, V1, B3, Vea, Veb, hbv, hdk, hv, hdv, h1, h2, h3, hlo, hla, hdla, hea, hlb, hdlb, heb, hbs, hkn, hk1, hk2, hk3, how, hqa, hqb⟩ := S
  have ht1 : ns.tail.length ≤ 60 := by rw [List.length_tail]; omega
  have ht2 : ns.tail.tail.length ≤ 60 := by rw [List.length_tail]; omega
  have ht3 : ns.tail.tail.tail.length ≤ 60 := by rw [List.length_tail]; omega
  have ht4 : ns.tail.tail.tail.tail.length ≤ 60 := by rw [List.length_tail]; omega
  have hat0 : 0 ≤ at_ := by omega
  have hat1 : at_ ≤ 1 := by omega
  w_on
  refine wpAny_call ?_
  k_dflt (refine' code_defC ?k1 ?k2 ?k3 ?k4 ?k5 ?kA ?kF ?kK ?k6 ?k7 ?k8 ?k9 ?kB ?kD ?_ ?c2 ?c3 ?c4; (case kA => exact rfl); (case kF => exact rfl); (case kK => assumption); (case k1 => k_asm); (case k2 => k_asm); (case k3 => k_asm); (case k4 => k_asm); (case k5 => k_asm); (case k6 => k_is); (case k7 => k_is); (case k8 => ktr_room); (case k9 => exact BindsTo.of_eq rfl); (case kB => exact rfl); (case kD => decide +kernel); (case c2 => exact rfl); (case c3 => exact rfl); (case c4 => exact rfl); intro g' L' h' tk' cells' FG' F' N' Y' B' X' T' lc; k_cells Y'; (try simp only [List.cons_append, List.nil_append] at N'); (try dsimp only); (try k_fold))
  have hC : ∀ p ∈ news, p.1 ≠ L' + 1 := fun p hp => Nat.ne_of_lt (Nat.lt_succ_of_lt (lc p hp))
  k_steps
  all_goals (rename News _ _ _ _ => kN; rename Fr _ _ _ _ => kF; dsimp only at kN kF)
  all_goals first
    | ((repeat (replace kN := news_tail kN)); first
      | exact ret _ _ _ (St.mk (((S0.dk (by assumption) (by assumption)).pea (by first | assumption | (have hh := (by assumption : IsI w _ _ (cAuto _ _ _)); rwa [cAuto_neg (by assumption)] at hh) | (have hh := (by assumption : IsI w _ _ (cUnb _ _ _)); rwa [cUnb_neg (by assumption)] at hh)) (by first | exact len_put (by assumption) | exact len_auto (by assumption) | exact len_unb (by assumption) | exact len_del (by assumption) | exact len_wo (by assumption) | exact Nat.le_succ_of_le (by assumption)) (by first | assumption | exact vok_put (by assumption) (by first | assumption | exact .inr ⟨_, rfl⟩ | exact vd_val (by assumption) (by assumption) _) | exact vok_auto (by assumption) (by first | assumption | exact .inr ⟨_, rfl⟩ | exact vd_val (by assumption) (by assumption) _) | exact vok_unb (by assumption) (by first | assumption | exact .inr ⟨_, rfl⟩ | exact vd_val (by assumption) (by assumption) _) | exact vok_filter (by assumption))).pqa (by first | assumption | (rw [cAuto_pos (by assumption)]; assumption) | (rw [cUnb_pos (by assumption)]; assumption) | (rw [← wo_one]; assumption)))) kF kN
      | exact ret _ _ _ (St.mk (((S0.dk (by assumption) (by assumption)).pa1 (by first | assumption | (have hh := (by assumption : IsI w _ _ (cAuto _ _ _)); rwa [cAuto_neg (by assumption)] at hh) | (have hh := (by assumption : IsI w _ _ (cUnb _ _ _)); rwa [cUnb_neg (by assumption)] at hh)) (by first | exact len_put (by assumption) | exact len_auto (by assumption) | exact len_unb (by assumption) | exact len_del (by assumption) | exact len_wo (by assumption) | exact Nat.le_succ_of_le (by assumption)) (by first | assumption | exact vok_put (by assumption) (by first | assumption | exact .inr ⟨_, rfl⟩ | exact vd_val (by assumption) (by assumption) _) | exact vok_auto (by assumption) (by first | assumption | exact .inr ⟨_, rfl⟩ | exact vd_val (by assumption) (by assumption) _) | exact vok_unb (by assumption) (by first | assumption | exact .inr ⟨_, rfl⟩ | exact vd_val (by assumption) (by assumption) _) | exact vok_filter (by assumption))).pk1 (by first | assumption | (rw [cAuto_pos (by assumption)]; assumption) | (rw [cUnb_pos (by assumption)]; assumption) | (rw [← wo_one]; assumption)))) kF kN
      | exact ret _ _ _ (St.mk (((((S0.dk (by assumption) (by assumption)).pa1 (by first | assumption | (have hh := (by assumption : IsI w _ _ (cAuto _ _ _)); rwa [cAuto_neg (by assumption)] at hh) | (have hh := (by assumption : IsI w _ _ (cUnb _ _ _)); rwa [cUnb_neg (by assumption)] at hh)) (by first | exact len_put (by assumption) | exact len_auto (by assumption) | exact len_unb (by assumption) | exact len_del (by assumption) | exact len_wo (by assumption) | exact Nat.le_succ_of_le (by assumption)) (by first | assumption | exact vok_put (by assumption) (by first | assumption | exact .inr ⟨_, rfl⟩ | exact vd_val (by assumption) (by assumption) _) | exact vok_auto (by assumption) (by first | assumption | exact .inr ⟨_, rfl⟩ | exact vd_val (by assumption) (by assumption) _) | exact vok_unb (by assumption) (by first | assumption | exact .inr ⟨_, rfl⟩ | exact vd_val (by assumption) (by assumption) _) | exact vok_filter (by assumption))).pa2 (by assumption) (by first | exact len_put (by assumption) | exact len_auto (by assumption) | exact len_unb (by assumption) | exact len_del (by assumption) | exact len_wo (by assumption) | exact Nat.le_succ_of_le (by assumption))).pk2 (by first | assumption | (rw [cAuto_pos (by assumption)]; assumption) | (rw [cUnb_pos (by assumption)]; assumption) | (rw [← wo_one]; assumption))).pk1 (by first | assumption | (rw [cAuto_pos (by assumption)]; assumption) | (rw [cUnb_pos (by assumption)]; assumption) | (rw [← wo_one]; assumption)))) kF kN
      | exact ret _ _ _ (St.mk ((((S0.dk (by assumption) (by assumption)).pa1 (by first | assumption | (have hh := (by assumption : IsI w _ _ (cAuto _ _ _)); rwa [cAuto_neg (by assumption)] at hh) | (have hh := (by assumption : IsI w _ _ (cUnb _ _ _)); rwa [cUnb_neg (by assumption)] at hh)) (by first | exact len_put (by assumption) | exact len_auto (by assumption) | exact len_unb (by assumption) | exact len_del (by assumption) | exact len_wo (by assumption) | exact Nat.le_succ_of_le (by assumption)) (by first | assumption | exact vok_put (by assumption) (by first | assumption | exact .inr ⟨_, rfl⟩ | exact vd_val (by assumption) (by assumption) _) | exact vok_auto (by assumption) (by first | assumption | exact .inr ⟨_, rfl⟩ | exact vd_val (by assumption) (by assumption) _) | exact vok_unb (by assumption) (by first | assumption | exact .inr ⟨_, rfl⟩ | exact vd_val (by assumption) (by assumption) _) | exact vok_filter (by assumption))).pa2 (by assumption) (by first | exact len_put (by assumption) | exact len_auto (by assumption) | exact len_unb (by assumption) | exact len_del (by assumption) | exact len_wo (by assumption) | exact Nat.le_succ_of_le (by assumption))).pk2 (by first | assumption | (rw [cAuto_pos (by assumption)]; assumption) | (rw [cUnb_pos (by assumption)]; assumption) | (rw [← wo_one]; assumption)))) kF kN
      | exact ret _ _ _ (St.mk (((S0.dk (by assumption) (by assumption)).pa2 (by assumption) (by first | exact len_put (by assumption) | exact len_auto (by assumption) | exact len_unb (by assumption) | exact len_del (by assumption) | exact len_wo (by assumption) | exact Nat.le_succ_of_le (by assumption))).pk2 (by first | assumption | (rw [cAuto_pos (by assumption)]; assumption) | (rw [cUnb_pos (by assumption)]; assumption) | (rw [← wo_one]; assumption)))) kF kN
      | exact ret _ _ _ (St.mk ((((S0.dk (by assumption) (by assumption)).pbs (by assumption) (by omega)).pa1 (by first | assumption | (have hh := (by assumption : IsI w _ _ (cAuto _ _ _)); rwa [cAuto_neg (by assumption)] at hh) | (have hh := (by assumption : IsI w _ _ (cUnb _ _ _)); rwa [cUnb_neg (by assumption)] at hh)) (by first | exact len_put (by assumption) | exact len_auto (by assumption) | exact len_unb (by assumption) | exact len_del (by assumption) | exact len_wo (by assumption) | exact Nat.le_succ_of_le (by assumption)) (by first | assumption | exact vok_put (by assumption) (by first | assumption | exact .inr ⟨_, rfl⟩ | exact vd_val (by assumption) (by assumption) _) | exact vok_auto (by assumption) (by first | assumption | exact .inr ⟨_, rfl⟩ | exact vd_val (by assumption) (by assumption) _) | exact vok_unb (by assumption) (by first | assumption | exact .inr ⟨_, rfl⟩ | exact vd_val (by assumption) (by assumption) _) | exact vok_filter (by assumption))).pk1 (by first | assumption | (rw [cAuto_pos (by assumption)]; assumption) | (rw [cUnb_pos (by assumption)]; assumption) | (rw [← wo_one]; assumption)))) kF kN
      | exact ret _ _ _ (St.mk ((((S0.dk (by assumption) (by assumption)).pbs (by assumption) (by omega)).pea (by first | assumption | (have hh := (by assumption : IsI w _ _ (cAuto _ _ _)); rwa [cAuto_neg (by assumption)] at hh) | (have hh := (by assumption : IsI w _ _ (cUnb _ _ _)); rwa [cUnb_neg (by assumption)] at hh)) (by first | exact len_put (by assumption) | exact len_auto (by assumption) | exact len_unb (by assumption) | exact len_del (by assumption) | exact len_wo (by assumption) | exact Nat.le_succ_of_le (by assumption)) (by first | assumption | exact vok_put (by assumption) (by first | assumption | exact .inr ⟨_, rfl⟩ | exact vd_val (by assumption) (by assumption) _) | exact vok_auto (by assumption) (by first | assumption | exact .inr ⟨_, rfl⟩ | exact vd_val (by assumption) (by assumption) _) | exact vok_unb (by assumption) (by first | assumption | exact .inr ⟨_, rfl⟩ | exact vd_val (by assumption) (by assumption) _) | exact vok_filter (by assumption))).pqa (by first | assumption | (rw [cAuto_pos (by assumption)]; assumption) | (rw [cUnb_pos (by assumption)]; assumption) | (rw [← wo_one]; assumption)))) kF kN
      | exact ret _ _ _ (St.mk (((S0.dk (by assumption) (by assumption)).pbs (by assumption) (by omega)).pea (by first | assumption | (have hh := (by assumption : IsI w _ _ (cAuto _ _ _)); rwa [cAuto_neg (by assumption)] at hh) | (have hh := (by assumption : IsI w _ _ (cUnb _ _ _)); rwa [cUnb_neg (by assumption)] at hh)) (by first | exact len_put (by assumption) | exact len_auto (by assumption) | exact len_unb (by assumption) | exact len_del (by assumption) | exact len_wo (by assumption) | exact Nat.le_succ_of_le (by assumption)) (by first | assumption | exact vok_put (by assumption) (by first | assumption | exact .inr ⟨_, rfl⟩ | exact vd_val (by assumption) (by assumption) _) | exact vok_auto (by assumption) (by first | assumption | exact .inr ⟨_, rfl⟩ | exact vd_val (by assumption) (by assumption) _) | exact vok_unb (by assumption) (by first | assumption | exact .inr ⟨_, rfl⟩ | exact vd_val (by assumption) (by assumption) _) | exact vok_filter (by assumption)))) kF kN
      | exact ret _ _ _ (St.mk ((((S0.dk (by assumption) (by assumption)).pbs (by assumption) (by omega)).peb (by first | assumption | (have hh := (by assumption : IsI w _ _ (cAuto _ _ _)); rwa [cAuto_neg (by assumption)] at hh) | (have hh := (by assumption : IsI w _ _ (cUnb _ _ _)); rwa [cUnb_neg (by assumption)] at hh)) (by first | exact len_put (by assumption) | exact len_auto (by assumption) | exact len_unb (by assumption) | exact len_del (by assumption) | exact len_wo (by assumption) | exact Nat.le_succ_of_le (by assumption)) (by first | assumption | exact vok_put (by assumption) (by first | assumption | exact .inr ⟨_, rfl⟩ | exact vd_val (by assumption) (by assumption) _) | exact vok_auto (by assumption) (by first | assumption | exact .inr ⟨_, rfl⟩ | exact vd_val (by assumption) (by assumption) _) | exact vok_unb (by assumption) (by first | assumption | exact .inr ⟨_, rfl⟩ | exact vd_val (by assumption) (by assumption) _) | exact vok_filter (by assumption))).pqb (by first | assumption | (rw [cAuto_pos (by assumption)]; assumption) | (rw [cUnb_pos (by assumption)]; assumption) | (rw [← wo_one]; assumption)))) kF kN
      | exact ret _ _ _ (St.mk (((S0.dk (by assumption) (by assumption)).pbs (by assumption) (by omega)).peb (by first | assumption | (have hh := (by assumption : IsI w _ _ (cAuto _ _ _)); rwa [cAuto_neg (by assumption)] at hh) | (have hh := (by assumption : IsI w _ _ (cUnb _ _ _)); rwa [cUnb_neg (by assumption)] at hh)) (by first | exact len_put (by assumption) | exact len_auto (by assumption) | exact len_unb (by assumption) | exact len_del (by assumption) | exact len_wo (by assumption) | exact Nat.le_succ_of_le (by assumption)) (by first | assumption | exact vok_put (by assumption) (by first | assumption | exact .inr ⟨_, rfl⟩ | exact vd_val (by assumption) (by assumption) _) | exact vok_auto (by assumption) (by first | assumption | exact .inr ⟨_, rfl⟩ | exact vd_val (by assumption) (by assumption) _) | exact vok_unb (by assumption) (by first | assumption | exact .inr ⟨_, rfl⟩ | exact vd_val (by assumption) (by assumption) _) | exact vok_filter (by assumption)))) kF kN
      | exact ret _ _ _ (St.mk (((S0.dk (by assumption) (by assumption)).pa3 (by assumption) (by first | exact len_put (by assumption) | exact len_auto (by assumption) | exact len_unb (by assumption) | exact len_del (by assumption) | exact len_wo (by assumption) | exact Nat.le_succ_of_le (by assumption)) (bok_put (by assumption))).pk3 (by first | assumption | (rw [cAuto_pos (by assumption)]; assumption) | (rw [cUnb_pos (by assumption)]; assumption) | (rw [← wo_one]; assumption)))) kF kN
      | exact ret _ _ _ (St.mk (S0.dk (by assumption) (by assumption))) kF kN)
    | ((repeat (replace kN := news_skip3 kN)); rw [put_comm (a := k1) (b := bs) (ne_code (by assumption) (by assumption) (by rfl))] at kN; exact ret _ _ _ (St.mk ((((S0.dk (by assumption) (by assumption)).pa1 (by first | assumption | (have hh := (by assumption : IsI w _ _ (cAuto _ _ _)); rwa [cAuto_neg (by assumption)] at hh) | (have hh := (by assumption : IsI w _ _ (cUnb _ _ _)); rwa [cUnb_neg (by assumption)] at hh)) (by first | exact len_put (by assumption) | exact len_auto (by assumption) | exact len_unb (by assumption) | exact len_del (by assumption) | exact len_wo (by assumption) | exact Nat.le_succ_of_le (by assumption)) (by first | assumption | exact vok_put (by assumption) (by first | assumption | exact .inr ⟨_, rfl⟩ | exact vd_val (by assumption) (by assumption) _) | exact vok_auto (by assumption) (by first | assumption | exact .inr ⟨_, rfl⟩ | exact vd_val (by assumption) (by assumption) _) | exact vok_unb (by assumption) (by first | assumption | exact .inr ⟨_, rfl⟩ | exact vd_val (by assumption) (by assumption) _) | exact vok_filter (by assumption))).pk1 (by first | assumption | (rw [cAuto_pos (by assumption)]; assumption) | (rw [cUnb_pos (by assumption)]; assumption) | (rw [← wo_one]; assumption))).push (lt_put (lt_put (lt_tail (lt_tail (by assumption))))) (by assumption) (l1 _ (.head _)) (by assumption) (by assumption) (by first | assumption | exact .inr ⟨_, rfl⟩ | exact vd_val (by assumption) (by assumption) _) (.inl ⟨rfl, rfl⟩) (Nat.succ_le_succ (by assumption)))) kF kN)
    | ((repeat (replace kN := news_skip3 kN)); rw [put_comm (a := qa) (b := bs) (ne_code (by assumption) (by assumption) (by rfl))] at kN; exact ret _ _ _ (St.mk ((((S0.dk (by assumption) (by assumption)).pea (by first | assumption | (have hh := (by assumption : IsI w _ _ (cAuto _ _ _)); rwa [cAuto_neg (by assumption)] at hh) | (have hh := (by assumption : IsI w _ _ (cUnb _ _ _)); rwa [cUnb_neg (by assumption)] at hh)) (by first | exact len_put (by assumption) | exact len_auto (by assumption) | exact len_unb (by assumption) | exact len_del (by assumption) | exact len_wo (by assumption) | exact Nat.le_succ_of_le (by assumption)) (by first | assumption | exact vok_put (by assumption) (by first | assumption | exact .inr ⟨_, rfl⟩ | exact vd_val (by assumption) (by assumption) _) | exact vok_auto (by assumption) (by first | assumption | exact .inr ⟨_, rfl⟩ | exact vd_val (by assumption) (by assumption) _) | exact vok_unb (by assumption) (by first | assumption | exact .inr ⟨_, rfl⟩ | exact vd_val (by assumption) (by assumption) _) | exact vok_filter (by assumption))).pqa (by first | assumption | (rw [cAuto_pos (by assumption)]; assumption) | (rw [cUnb_pos (by assumption)]; assumption) | (rw [← wo_one]; assumption))).push (lt_put (lt_put (lt_tail (lt_tail (by assumption))))) (by assumption) (l1 _ (.head _)) (by assumption) (by assumption) (by first | assumption | exact .inr ⟨_, rfl⟩ | exact vd_val (by assumption) (by assumption) _) (.inr (.inl ⟨rfl, rfl, rfl⟩)) (Nat.succ_le_succ (by assumption)))) kF kN)
    | ((repeat (replace kN := news_skip kN)); exact ret _ _ _ (St.mk (((S0.dk (by assumption) (by assumption)).pea (by first | assumption | (have hh := (by assumption : IsI w _ _ (cAuto _ _ _)); rwa [cAuto_neg (by assumption)] at hh) | (have hh := (by assumption : IsI w _ _ (cUnb _ _ _)); rwa [cUnb_neg (by assumption)] at hh)) (by first | exact len_put (by assumption) | exact len_auto (by assumption) | exact len_unb (by assumption) | exact len_del (by assumption) | exact len_wo (by assumption) | exact Nat.le_succ_of_le (by assumption)) (by first | assumption | exact vok_put (by assumption) (by first | assumption | exact .inr ⟨_, rfl⟩ | exact vd_val (by assumption) (by assumption) _) | exact vok_auto (by assumption) (by first | assumption | exact .inr ⟨_, rfl⟩ | exact vd_val (by assumption) (by assumption) _) | exact vok_unb (by assumption) (by first | assumption | exact .inr ⟨_, rfl⟩ | exact vd_val (by assumption) (by assumption) _) | exact vok_filter (by assumption))).newq (of_all (by (repeat (replace l' := lt_tail l')); exact l')) (by first | assumption | (rw [cAuto_pos (by assumption)]; assumption) | (rw [cUnb_pos (by assumption)]; assumption) | (rw [← wo_one]; assumption)))) kF kN)
theorem c_deed {deck v lo bs kn : Addr} {i : Nat} {K : List (Addr × Obj)} (S : St w deck v lo bs kn i K news) (hi : i ≤ 40)
    (ret : ∀ h' tk' news', St w deck v lo bs kn (i + 1) K news' → Fr h₀ L h' m → News h₀ L h' news' → Q (.bool true) { s with heap := h', toks := tk' }) :
    wpAny (model PySem.Challenge.rw_np0016_01.row.prog w) (ktrTop dp un gd cn cs L a ccd cl outer) (call (.ref 206) [.ref deck, .ref v, .ref lo, .ref bs, .ref kn]) Q E s := by
  cases S with
  | mk S =>
    rcases S.pick with e | e
    · exact c_deedA B F X N T hk hdp hun S hi e ret
    · exact c_deedA B F X N T hk hdp hun S.swap hi e ret
end
end Walk
theorem map3 {m₀ m₁ : Str → Option Value} {x y1 y2 : Str} {v : Value} (hm : ∀ z, z ≠ x → z ≠ y1 → z ≠ y2 → m₁ z = m₀ z) : (fun y => if y = x then some v else m₁ y) = fun y => if y = x then some v else if y = y1 then m₁ y else if y = y2 then m₁ y else m₀ y := by
  funext z
  by_cases h1 : z = x
  · rw [if_pos h1, if_pos h1]
  · rw [if_neg h1, if_neg h1]
    by_cases h2 : z = y1
    · rw [if_pos h2]
    · rw [if_neg h2]
      by_cases h3 : z = y2
      · rw [if_pos h3]
      · rw [if_neg h3]; exact hm z h1 h2 h3
theorem done3 {m₀ m₁ : Str → Option Value} {x y1 y2 : Str} (hm : ∀ z, z ≠ x → z ≠ y1 → z ≠ y2 → m₁ z = m₀ z) : m₁ = fun y => if y = x then m₁ y else if y = y1 then m₁ y else if y = y2 then m₁ y else m₀ y := by
  funext z
  by_cases h1 : z = x
  · rw [if_pos h1]
  · rw [if_neg h1]
    by_cases h2 : z = y1
    · rw [if_pos h2]
    · rw [if_neg h2]
      by_cases h3 : z = y2
      · rw [if_pos h3]
      · rw [if_neg h3]; exact hm z h1 h2 h3
theorem range_ok {b : Int} (h1 : 0 ≤ b) (h2 : b ≤ 13) : Builtin.Range.small 0 b 1 = true ∧ Builtin.Range.rangeSize 0 b 1 = (b.toNat : Int) := by
  obtain ⟨n, rfl⟩ := Int.eq_ofNat_of_zero_le h1
  have h3 : n < 14 := by omega
  have all : ∀ n : Nat, n < 14 → Builtin.Range.small 0 (n : Int) 1 = true ∧ Builtin.Range.rangeSize 0 (n : Int) 1 = ((n : Int).toNat : Int) := by decide
  exact all n h3
section
variable {prog : Program} {w : World} {A : Around} {E : Value → Shared → Prop} {s : Shared} {env : Env} {h₀ : Heap} {x : Str} {body : List Stmt} {Q : Flow → Shared → Prop}
theorem my_main {r : Addr} {b₀ : Int} {t₀ u₀ v₀ : Tok} {y1 y2 : Str} {m₀ : Str → Option Value} {news : List (Addr × Obj)} (P : Nat → List (Addr × Obj) → Prop)
    (hh : A.handled = none) (hr : IsRange s.heap r 0 b₀ 1 t₀ u₀ v₀) (h1 : 0 ≤ b₀) (h2 : b₀ ≤ 13) (F : Fr h₀ env.locals s.heap m₀) (N : News h₀ env.locals s.heap news) (hj : P 0 news)
    (turn : ∀ i t (u : Str → Option Value) nw I it h tk, ((i : Nat) : Int) < b₀ → i < 13 → P i nw → Fr h₀ env.locals h (fun y => if y = x then some (.int (i : Int) t) else if y = y1 then u y else if y = y2 then u y else m₀ y) → News h₀ env.locals h ((I, it) :: nw) → (∀ p ∈ nw, p.1 ≠ I) →
      wpAny (model prog w) A (execs body env) (UnrPost h₀ env.locals { s with heap := h, toks := tk } I it (fun m' nw' => P (i + 1) nw' ∧ ∀ z, z ≠ x → z ≠ y1 → z ≠ y2 → m' z = m₀ z) Q) E { s with heap := h, toks := tk })
    (done : ∀ (n : Nat) (u : Str → Option Value) nw h tk, n ≤ 13 → P n nw → Fr h₀ env.locals h (fun y => if y = x then u y else if y = y1 then u y else if y = y2 then u y else m₀ y) → News h₀ env.locals h nw → Q .next { s with heap := h, toks := tk }) :
    wpAny (model prog w) A (pyIter (.ref r)) (fun it s₂ => LoopAtV prog w A h₀ env x body Q E it s₂) E s := by
  obtain ⟨k1, k2⟩ := range_ok h1 h2
  refine my_range (fun i m nw => P i nw ∧ ∀ z, z ≠ x → z ≠ y1 → z ≠ y2 → m z = m₀ z) hh hr k1 k2 F N ⟨hj, fun _ _ _ _ => rfl⟩ ?_ ?_
  · rintro i t m₁ nw I it h tk hi ⟨hp, hm⟩ F' N' off _
    rw [map3 hm, Int.zero_add] at F'
    exact turn i t m₁ nw I it h tk (by omega) (by omega) hp F' N' off
  · rintro m₁ nw h tk ⟨hp, hm⟩ F' N'
    rw [done3 hm] at F'
    exact done _ m₁ nw h tk (by omega) hp F' N'
end
/-- the state with a given buffer at hand -/
inductive StA (w : World) (deck : Addr) (v : Addr) (lo : Addr) (bs : Addr) (kn : Addr) (i : Nat) (K : List (Addr × Obj)) (news : List (Addr × Obj)) (at_ : Int) : Prop
  | mk {cd : Addr → Nat} {vs : List Value} {ns : List Int} {nd : Nat} {dv : Addr} {a1 : Addr} {a2 : Addr} {a3 : Addr} {t1 : Tok} {t2 : Tok} {t3 : Tok} {nv : Nat} {o1 : Obj} {o2 : Obj} {o3 : Obj} {c1 : IntD} {c2 : IntD} {c3 : IntD} {la : Addr} {dla : Addr} {ea : Addr} {ua : Tok} {na : Nat} {oea : Obj} {cea : IntD} {lb : Addr} {dlb : Addr} {eb : Addr} {ub : Tok} {nb : Nat} {oeb : Obj} {ceb : IntD} {nlo : Nat} {bv : List Value} {nbv : Nat} {k1 : Addr} {ow : Addr} {k2 : Addr} {k3 : Addr} {p1 : Obj} {p2 : Obj} {p3 : Obj} {nw : Nat} {qa : Addr} {qb : Addr} {ra : Obj} {rb : Obj} (S : StX w deck v lo bs kn i K news cd at_ vs ns nd dv a1 a2 a3 t1 t2 t3 nv o1 o2 o3 c1 c2 c3 la dla ea ua na oea cea lb dlb eb ub nb oeb ceb nlo bv nbv k1 ow k2 k3 p1 p2 p3 c1 c2 c3 nw qa qb ra rb cea ceb) : StA w deck v lo bs kn i K news at_
section
variable {w : World} {deck : Addr} {v : Addr} {lo : Addr} {bs : Addr} {kn : Addr} {i : Nat} {K : List (Addr × Obj)} {news : List (Addr × Obj)} {cd : Addr → Nat} {at_ : Int} {vs : List Value} {ns : List Int} {nd : Nat} {dv : Addr} {a1 : Addr} {a2 : Addr} {a3 : Addr} {t1 : Tok} {t2 : Tok} {t3 : Tok} {nv : Nat} {o1 : Obj} {o2 : Obj} {o3 : Obj} {c1 : IntD} {c2 : IntD} {c3 : IntD} {la : Addr} {dla : Addr} {ea : Addr} {ua : Tok} {na : Nat} {oea : Obj} {cea : IntD} {lb : Addr} {dlb : Addr} {eb : Addr} {ub : Tok} {nb : Nat} {oeb : Obj} {ceb : IntD} {nlo : Nat} {bv : List Value} {nbv : Nat} {k1 : Addr} {ow : Addr} {k2 : Addr} {k3 : Addr} {p1 : Obj} {p2 : Obj} {p3 : Obj} {g1 : IntD} {g2 : IntD} {g3 : IntD} {nw : Nat} {qa : Addr} {qb : Addr} {ra : Obj} {rb : Obj} {ga : IntD} {gb : IntD}
theorem StX.at0 (S : StX w deck v lo bs kn i K news cd at_ vs ns nd dv a1 a2 a3 t1 t2 t3 nv o1 o2 o3 c1 c2 c3 la dla ea ua na oea cea lb dlb eb ub nb oeb ceb nlo bv nbv k1 ow k2 k3 p1 p2 p3 g1 g2 g3 nw qa qb ra rb ga gb) : at_ = 0 ∨ at_ = 1 := by
  obtain ⟨nod, hK, hat, mdk, mv, mdv, m1, m2, m3, mlo, mla, mdla, mea, mlb, mdlb, meb, mbs, mkn, mk1, mk2, mk3, mow, mqa, mqb, idk, I1, I2, I3, Iea, Ieb, J1, J2, J3, Jqa, Jqb, ldk, z1, z2, z3, zea, zeb, zb, V1, B3, Vea, Veb, hbv, hdk, hv, hdv, h1, h2, h3, hlo, hla, hdla, hea, hlb, hdlb, heb, hbs, hkn, hk1, hk2, hk3, how, hqa, hqb⟩ := S
  exact hat
theorem St.at (S : St w deck v lo bs kn i K news) {j : Int} (h : j = 0 ∨ j = 1) : StA w deck v lo bs kn i K news j := by
  cases S with
  | mk S =>
    rcases S.at0 with rfl | rfl
    · rcases h with rfl | rfl
      · exact .mk S
      · exact .mk S.swap
    · rcases h with rfl | rfl
      · exact .mk S.swap
      · exact .mk S
theorem St.hold {I : Addr} {it : Obj} (S : St w deck v lo bs kn i [] news) (hI : ∀ p ∈ news, p.1 ≠ I) : St w deck v lo bs kn i [(I, it)] ((I, it) :: news) := by
  cases S with
  | mk S => exact .mk (S.hold hI rfl)
theorem St.kept {I : Addr} {it : Obj} (S : St w deck v lo bs kn i [(I, it)] news) : (I, it) ∈ news := by
  cases S with
  | mk S =>
    obtain ⟨nod, hK, hat, mdk, mv, mdv, m1, m2, m3, mlo, mla, mdla, mea, mlb, mdlb, meb, mbs, mkn, mk1, mk2, mk3, mow, mqa, mqb, idk, I1, I2, I3, Iea, Ieb, J1, J2, J3, Jqa, Jqb, ldk, z1, z2, z3, zea, zeb, zb, V1, B3, Vea, Veb, hbv, hdk, hv, hdv, h1, h2, h3, hlo, hla, hdla, hea, hlb, hdlb, heb, hbs, hkn, hk1, hk2, hk3, how, hqa, hqb⟩ := S
    exact (hK _ (.head _)).1
theorem St.drop {I : Addr} {it : Obj} (S : St w deck v lo bs kn i [(I, it)] news) : St w deck v lo bs kn i [] (news.filter fun p => !(p.1 == I)) := by
  cases S with
  | mk S => exact .mk (S.drop rfl)
theorem St.sym (S : St w deck v lo bs kn i K news)  :
    ∃ (dv : Addr) (t1 : Tok) (t2 : Tok) (t3 : Tok) (a1 : Addr) (a2 : Addr) (a3 : Addr) (nv : Nat) (o1 : Obj) (c1 : IntD) (k1 : Addr) (ow : Addr) (k2 : Addr) (k3 : Addr) (p1 : Obj), (v, instObj 73 dv) ∈ news ∧ (dv, varsD w t1 t2 t3 a1 a2 a3 nv) ∈ news ∧ (a1, o1) ∈ news ∧ IsI w a1 o1 c1 ∧ VOK c1 ∧ (kn, tupO [.ref k1, .ref ow, .ref k2, .ref k3]) ∈ news ∧ (k1, p1) ∈ news ∧ IsI w k1 p1 c1 := by
  cases S.at (.inl rfl) with
  | mk S =>
    obtain ⟨nod, hK, hat, mdk, mv, mdv, m1, m2, m3, mlo, mla, mdla, mea, mlb, mdlb, meb, mbs, mkn, mk1, mk2, mk3, mow, mqa, mqb, idk, I1, I2, I3, Iea, Ieb, J1, J2, J3, Jqa, Jqb, ldk, z1, z2, z3, zea, zeb, zb, V1, B3, Vea, Veb, hbv, hdk, hv, hdv, h1, h2, h3, hlo, hla, hdla, hea, hlb, hdlb, heb, hbs, hkn, hk1, hk2, hk3, how, hqa, hqb⟩ := S
    exact ⟨_, _, _, _, _, _, _, _, _, _, _, _, _, _, _, mv, mdv, m1, I1, V1, mkn, mk1, J1⟩
theorem St.inner (S : St w deck v lo bs kn i K news) {j : Int} (h : j = 0 ∨ j = 1) :
    ∃ (dv : Addr) (t1 : Tok) (t2 : Tok) (t3 : Tok) (a1 : Addr) (a2 : Addr) (a3 : Addr) (nv : Nat) (o1 : Obj) (c1 : IntD) (k1 : Addr) (ow : Addr) (k2 : Addr) (k3 : Addr) (p1 : Obj) (la : Addr) (dla : Addr) (ea : Addr) (ua : Tok) (na : Nat) (oea : Obj) (cea : IntD) (lb : Addr) (nlo : Nat) (nw : Nat) (qa : Addr) (qb : Addr) (ra : Obj), (v, instObj 73 dv) ∈ news ∧ (dv, varsD w t1 t2 t3 a1 a2 a3 nv) ∈ news ∧ (a1, o1) ∈ news ∧ IsI w a1 o1 c1 ∧ VOK c1 ∧ (kn, tupO [.ref k1, .ref ow, .ref k2, .ref k3]) ∈ news ∧ (k1, p1) ∈ news ∧ IsI w k1 p1 c1 ∧ (lo, PySem.W.listOf (pr j (.ref la) (.ref lb)) nlo) ∈ news ∧ (la, instObj 127 dla) ∈ news ∧ (dla, locD w ua ea na) ∈ news ∧ (ea, oea) ∈ news ∧ IsI w ea oea cea ∧ VOK cea ∧ (ow, PySem.W.listOf (pr j (.ref qa) (.ref qb)) nw) ∈ news ∧ (qa, ra) ∈ news ∧ IsI w qa ra cea := by
  cases S.at h with
  | mk S =>
    obtain ⟨nod, hK, hat, mdk, mv, mdv, m1, m2, m3, mlo, mla, mdla, mea, mlb, mdlb, meb, mbs, mkn, mk1, mk2, mk3, mow, mqa, mqb, idk, I1, I2, I3, Iea, Ieb, J1, J2, J3, Jqa, Jqb, ldk, z1, z2, z3, zea, zeb, zb, V1, B3, Vea, Veb, hbv, hdk, hv, hdv, h1, h2, h3, hlo, hla, hdla, hea, hlb, hdlb, heb, hbs, hkn, hk1, hk2, hk3, how, hqa, hqb⟩ := S
    exact ⟨_, _, _, _, _, _, _, _, _, _, _, _, _, _, _, _, _, _, _, _, _, _, _, _, _, _, _, _, mv, mdv, m1, I1, V1, mkn, mk1, J1, mlo, mla, mdla, mea, Iea, Vea, mow, mqa, Jqa⟩
theorem St.fin (S : St w deck v lo bs kn i K news)  :
    ∃ (la : Addr) (dla : Addr) (ea : Addr) (ua : Tok) (na : Nat) (oea : Obj) (cea : IntD) (lb : Addr) (dlb : Addr) (eb : Addr) (ub : Tok) (nb : Nat) (oeb : Obj) (ceb : IntD) (nlo : Nat) (nw : Nat) (qa : Addr) (qb : Addr) (ra : Obj) (rb : Obj) (k1 : Addr) (ow : Addr) (k2 : Addr) (k3 : Addr), (lo, PySem.W.listOf #[.ref la, .ref lb] nlo) ∈ news ∧ (la, instObj 127 dla) ∈ news ∧ (dla, locD w ua ea na) ∈ news ∧ (ea, oea) ∈ news ∧ IsI w ea oea cea ∧ (lb, instObj 127 dlb) ∈ news ∧ (dlb, locD w ub eb nb) ∈ news ∧ (eb, oeb) ∈ news ∧ IsI w eb oeb ceb ∧ (kn, tupO [.ref k1, .ref ow, .ref k2, .ref k3]) ∈ news ∧ (ow, PySem.W.listOf #[.ref qa, .ref qb] nw) ∈ news ∧ (qa, ra) ∈ news ∧ (qb, rb) ∈ news ∧ IsI w qa ra cea ∧ IsI w qb rb ceb ∧ cea.length ≤ i ∧ ceb.length ≤ i := by
  cases S.at (.inl rfl) with
  | mk S =>
    obtain ⟨nod, hK, hat, mdk, mv, mdv, m1, m2, m3, mlo, mla, mdla, mea, mlb, mdlb, meb, mbs, mkn, mk1, mk2, mk3, mow, mqa, mqb, idk, I1, I2, I3, Iea, Ieb, J1, J2, J3, Jqa, Jqb, ldk, z1, z2, z3, zea, zeb, zb, V1, B3, Vea, Veb, hbv, hdk, hv, hdv, h1, h2, h3, hlo, hla, hdla, hea, hlb, hdlb, heb, hbs, hkn, hk1, hk2, hk3, how, hqa, hqb⟩ := S
    exact ⟨_, _, _, _, _, _, _, _, _, _, _, _, _, _, _, _, _, _, _, _, _, _, _, _, mlo, mla, mdla, mea, Iea, mlb, mdlb, meb, Ieb, mkn, mow, mqa, mqb, Jqa, Jqb, zea, zeb⟩
def AllLtA (D : Addr) : List Addr → Prop
  | [] => True
  | [a] => @LT.lt Nat _ a D
  | a :: b :: l => @LT.lt Nat _ a D ∧ AllLtA D (b :: l)
theorem AllLtA.all {D : Addr} : ∀ {l : List Addr}, AllLtA D l → ∀ b ∈ l, @LT.lt Nat _ b D
  | [], _, _, h => nomatch h
  | [a], h, b, hb => by rw [List.mem_singleton.mp hb]; exact h
  | a :: c :: l, h, b, hb => by
    rcases List.mem_cons.mp hb with e | hb
    · rw [e]; exact h.1
    · exact AllLtA.all h.2 b hb
theorem ltA_notmem {D : Addr} {l : List Addr} (h : AllLtA D l) : D ∉ l := fun hm => Nat.lt_irrefl _ (h.all D hm)
theorem lt2_notmem {D d : Addr} {l : List Addr} (h1 : @LT.lt Nat _ d D) (h : AllLtA d l) : D ∉ d :: l := fun hm => by
  rcases List.mem_cons.mp hm with e | hm
  · rw [e] at h1; exact Nat.lt_irrefl _ h1
  · exact Nat.lt_irrefl _ (Nat.lt_trans h1 (h.all D hm))
theorem ne_notmem {D : Addr} {l : List Addr} {led : List (Addr × Obj)} (h : ∀ p ∈ led, p.1 ≠ D) (e : led.map (·.1) = l) : D ∉ l := fun hm => by
  rw [← e] at hm
  obtain ⟨p, hp, e2⟩ := List.mem_map.mp hm
  exact h p hp e2
theorem ne1_notmem {D a : Addr} (h : @Ne Nat a D) : D ∉ [a] := fun hm => h (List.mem_singleton.mp hm).symm
theorem range_lo (n : Nat) : 0 ≤ 1 + if 12 < (n : Int).fdiv 3 then 12 else (n : Int).fdiv 3 := by
  have h : 0 ≤ (n : Int).fdiv 3 := Int.fdiv_nonneg (Int.natCast_nonneg n) (by decide)
  split <;> omega
theorem range_hi (n : Nat) : (1 + if 12 < (n : Int).fdiv 3 then 12 else (n : Int).fdiv 3) ≤ 13 := by
  split <;> omega
def cdOf : List (Addr × Nat) → Addr → Nat
  | [], _ => 100
  | (a, n) :: l, b => if b = a then n else cdOf l b
theorem cdOf_mem : ∀ {l : List (Addr × Nat)} {a : Addr} {n : Nat}, (l.map (·.1)).Nodup → (a, n) ∈ l → cdOf l a = n
  | [], _, _, _, h => nomatch h
  | (b, k) :: l, a, n, hn, h => by
    rw [List.map_cons, List.nodup_cons] at hn
    rcases List.mem_cons.mp h with e | h
    · cases e; exact if_pos rfl
    · have hne : a ≠ b := fun e => hn.1 (List.mem_map.mpr ⟨(a, n), h, e⟩)
      exact (if_neg hne).trans (cdOf_mem hn.2 h)
theorem St.start {T1 T2 T3 : Addr} {x1 x2 x3 : Obj} {h₀ h : Heap} {L : Addr} (N : News h₀ L h [(T1, x1), (kn, tupO [.ref k1, .ref ow, .ref k2, .ref k3]), (k3, p3), (k2, p2), (ow, PySem.W.listOf #[.ref qa, .ref qb] nw), (qb, rb), (qa, ra), (k1, p1), (bs, PySem.W.listOf #[] nbv), (T2, x2), (lo, PySem.W.listOf #[.ref la, .ref lb] nlo), (eb, oeb), (lb, instObj 127 dlb), (dlb, locD w ub eb nb), (ea, oea), (la, instObj 127 dla), (dla, locD w ua ea na), (a3, o3), (a2, o2), (a1, o1), (v, instObj 73 dv), (dv, varsD w t1 t2 t3 a1 a2 a3 nv), (deck, PySem.W.listOf vs.toArray nd), (T3, x3)]) (nod : [T1, kn, k3, k2, ow, qb, qa, k1, bs, T2, lo, eb, lb, dlb, ea, la, dla, a3, a2, a1, v, dv, deck, T3].Nodup) (hi : IntsAre vs ns) (hl : ns.length ≤ 60)
    (I1 : IsI w a1 o1 []) (I2 : IsI w a2 o2 []) (I3 : IsI w a3 o3 []) (Iea : IsI w ea oea []) (Ieb : IsI w eb oeb []) (J1 : IsI w k1 p1 []) (J2 : IsI w k2 p2 []) (J3 : IsI w k3 p3 []) (Jqa : IsI w qa ra []) (Jqb : IsI w qb rb []) :
    ∃ news, St w deck v lo bs kn 0 [] news ∧ News h₀ L h news := by
  have nod2 : ([(T1, 100), (kn, 14), (k3, 17), (k2, 16), (ow, 18), (qb, 20), (qa, 19), (k1, 15), (bs, 13), (T2, 100), (lo, 6), (eb, 12), (lb, 10), (dlb, 11), (ea, 9), (la, 7), (dla, 8), (a3, 5), (a2, 4), (a1, 3), (v, 1), (dv, 2), (deck, 0), (T3, 100)].map (·.1)).Nodup := nod
  have S : StX w deck v lo bs kn 0 [] [(T1, x1), (kn, tupO [.ref k1, .ref ow, .ref k2, .ref k3]), (k3, p3), (k2, p2), (ow, PySem.W.listOf #[.ref qa, .ref qb] nw), (qb, rb), (qa, ra), (k1, p1), (bs, PySem.W.listOf #[] nbv), (T2, x2), (lo, PySem.W.listOf #[.ref la, .ref lb] nlo), (eb, oeb), (lb, instObj 127 dlb), (dlb, locD w ub eb nb), (ea, oea), (la, instObj 127 dla), (dla, locD w ua ea na), (a3, o3), (a2, o2), (a1, o1), (v, instObj 73 dv), (dv, varsD w t1 t2 t3 a1 a2 a3 nv), (deck, PySem.W.listOf vs.toArray nd), (T3, x3)] (cdOf [(T1, 100), (kn, 14), (k3, 17), (k2, 16), (ow, 18), (qb, 20), (qa, 19), (k1, 15), (bs, 13), (T2, 100), (lo, 6), (eb, 12), (lb, 10), (dlb, 11), (ea, 9), (la, 7), (dla, 8), (a3, 5), (a2, 4), (a1, 3), (v, 1), (dv, 2), (deck, 0), (T3, 100)]) 0 vs ns nd dv a1 a2 a3 t1 t2 t3 nv o1 o2 o3 [] [] [] la dla ea ua na oea [] lb dlb eb ub nb oeb [] nlo [] nbv k1 ow k2 k3 p1 p2 p3 [] [] [] nw qa qb ra rb [] [] := by
    constructor
    case nod => exact nod
    case hK => exact fun p hp => nomatch hp
    case hat => exact .inl rfl
    case hbv => exact fun b hb => nomatch hb
    case V1 => exact vok_nil
    case B3 => exact bok_nil
    case Vea => exact vok_nil
    case Veb => exact vok_nil
    all_goals first
      | assumption
      | exact Nat.le_refl _
      | exact cdOf_mem nod2 (by repeat (first | exact List.Mem.head _ | refine List.Mem.tail _ ?_))
      | (repeat (first | exact List.Mem.head _ | refine List.Mem.tail _ ?_))
  exact ⟨_, .mk S, N⟩
end
theorem map2 {m₀ m₁ : Str → Option Value} {x y : Str} {v : Value} (hm : ∀ z, z ≠ x → z ≠ y → m₁ z = m₀ z) : (fun z => if z = x then some v else m₁ z) = fun z => if z = x then some v else if z = y then m₁ z else m₀ z := by
  funext z
  by_cases h1 : z = x
  · rw [if_pos h1, if_pos h1]
  · rw [if_neg h1, if_neg h1]
    by_cases h2 : z = y
    · rw [if_pos h2]
    · rw [if_neg h2]; exact hm z h1 h2
theorem done2 {m₀ m₁ : Str → Option Value} {x y : Str} (hm : ∀ z, z ≠ x → z ≠ y → m₁ z = m₀ z) : m₁ = fun z => if z = x then m₁ z else if z = y then m₁ z else m₀ z := by
  funext z
  by_cases h1 : z = x
  · rw [if_pos h1]
  · rw [if_neg h1]
    by_cases h2 : z = y
    · rw [if_pos h2]
    · rw [if_neg h2]; exact hm z h1 h2
section
variable {prog : Program} {w : World} {A : Around} {E : Value → Shared → Prop} {s : Shared} {env : Env} {h₀ : Heap} {x : Str} {body : List Stmt} {Q : Flow → Shared → Prop}
/-- a loop over a written range whose turns leave the ledger as it is -/
theorem my_const {r : Addr} {b₀ : Int} {n : Nat} {t₀ u₀ v₀ : Tok} {m₀ : Str → Option Value} {news : List (Addr × Obj)} (y : Str)
    (hh : A.handled = none) (hr : IsRange s.heap r 0 b₀ 1 t₀ u₀ v₀) (k1 : Builtin.Range.small 0 b₀ 1 = true) (k2 : Builtin.Range.rangeSize 0 b₀ 1 = (n : Int)) (F : Fr h₀ env.locals s.heap m₀) (N : News h₀ env.locals s.heap news)
    (turn : ∀ i t (u : Str → Option Value) I it h tk, i < n → Fr h₀ env.locals h (fun z => if z = x then some (.int ((i : Nat) : Int) t) else if z = y then u z else m₀ z) → News h₀ env.locals h ((I, it) :: news) → (∀ p ∈ news, p.1 ≠ I) →
      wpAny (model prog w) A (execs body env) (UnrPost h₀ env.locals { s with heap := h, toks := tk } I it (fun m' nw' => nw' = news ∧ ∀ z, z ≠ x → z ≠ y → m' z = m₀ z) Q) E { s with heap := h, toks := tk })
    (done : ∀ (u : Str → Option Value) h tk, Fr h₀ env.locals h (fun z => if z = x then u z else if z = y then u z else m₀ z) → News h₀ env.locals h news → Q .next { s with heap := h, toks := tk }) :
    wpAny (model prog w) A (pyIter (.ref r)) (fun it s₂ => LoopAtV prog w A h₀ env x body Q E it s₂) E s := by
  refine my_range (fun i m nw => nw = news ∧ ∀ z, z ≠ x → z ≠ y → m z = m₀ z) hh hr k1 k2 F N ⟨rfl, fun _ _ _ => rfl⟩ ?_ ?_
  · rintro i t m₁ nw I it h tk hi ⟨rfl, hm⟩ F' N' off _
    rw [map2 hm, Int.zero_add] at F'
    exact turn i t m₁ I it h tk hi F' N' off
  · rintro m₁ nw h tk ⟨rfl, hm⟩ F' N'
    rw [done2 hm] at F'
    exact done m₁ h tk F' N'
end
section
variable {w : World} {A : Around} {s : Shared} {E : Value → Shared → Prop} {h₀ : Heap} {L d : Addr} {m : Str → Option Value} {news : List (Addr × Obj)} {o : Obj} {c : IntD}
theorem my_sortedD {Q : Value → Shared → Prop} (hh : A.handled = none) (F : Fr h₀ L s.heap m) (N : News h₀ L s.heap news) (hm : (d, o) ∈ news) (I : IsI w d o c) (hz : c.length ≤ 60)
    (h : ∀ (D : Addr) vs' ns' n' h' tk, IntsAre vs' ns' → ns'.Perm (c.map (·.1)) → ns'.Pairwise (· ≤ ·) → (∀ q ∈ news, q.1 < D) → Fr h₀ L h' m → News h₀ L h' ((D, PySem.W.listOf vs'.toArray n') :: news) → Q (.ref D) { s with heap := h', toks := tk }) :
    wpAny (model PySem.Challenge.rw_np0016_01.row.prog w) A (call (.builtin "sorted") [.ref d]) Q E s := by
  obtain ⟨lo, kvs, hD, hf⟩ := my_tab N hm I
  obtain ⟨ep, hat⟩ := hD.dictAt
  have hlen : kvs.length = c.length := by rw [← hf.length, dk_length]
  refine kdu_sorted (kdl_dict (knd := PySem.intKind PySem.Challenge.rw_np0016_01.row.prog w) (kvs := kvs) (ep := ep) lo) hh F N hat (kdl_size (by rw [hlen]; omega)) fun D h' tk vs F' N' l1 hl hv => ?_
  have hi : IntsAre vs (c.map (·.1)) := kdy_ints (by rw [hl, hlen, List.length_map]) fun j v hvj => by
    obtain ⟨k, x, hx, hk⟩ := hv j v hvj
    obtain ⟨t, rfl⟩ := Value.isInt_shape hk
    refine ⟨k, ?_, t, rfl⟩
    rw [← fp_keys hf, List.getElem?_map, hx]
    rfl
  have z := N' (D, PySem.W.listOf vs.toArray 0) (.head _)
  refine wpAny_call_entry PyProof.Rows.slot_list_sort ⟨_, z.1, rfl⟩ PyProof.Rows.entry_list_sort (list_sort_tree (n := 0) (vs := vs) z.1 hi (by rw [hl, hlen]; omega) fun out ns' hI hp hP => ⟨.none, rfl, ?_⟩) (PyProof.Rows.args_list_sort _)
  obtain ⟨e, he⟩ := sortedHeap_at (out := out) z.1
  have F2 : Fr h₀ L (sortedHeap h' D vs out) m := (((F'.change (Heap.SameBut.update ..) z.2.1 z.2.2).push (seqObj "tuple" vs.toArray 0)).push (seqObj "list" #[] 0)).change (Heap.SameBut.update ..) z.2.1 z.2.2
  refine h D out.toList ns' e _ tk hI hp hP l1 F2 fun q hq => ?_
  rcases List.mem_cons.mp hq with rfl | hq
  · exact ⟨he, z.2⟩
  · have y := N' q (.tail _ hq)
    exact ⟨(sortedHeap_old (Nat.ne_of_lt (l1 q hq)) (Heap.lt_size y.1)).trans y.1, y.2⟩
theorem my_tupAt {a : Addr} {l : List Value} {k : Int} {j : Nat} {x : Value} {value slice : PySem.Expr} {t : Tok} {Q : Value → Shared → Prop} (N : News h₀ L s.heap news) (ha : (a, tupO l) ∈ news) (hlo : -(2 ^ 63) ≤ k) (hhi : k < 2 ^ 63) (hj : seqIndex? k l.length = some j) (hx : l[j]? = some x) (h : Q x s)
    (hs : subscripted slice false (.ref a) (.int k t) = operate [.ref a, .int k t] (getItem (.ref a) (.int k t)) := by with_unfolding_all rfl) (hg : ∀ r, letTemporaryGo value (.ref a) r = pure () := by intro _; with_unfolding_all rfl) :
    wpAny (model PySem.Challenge.rw_np0016_01.row.prog w) A (subscriptTail value slice (.ref a) (.int k t)) Q E s :=
  item_tupleL (l := l) ⟨_, (N _ ha).1, rfl, _, rfl⟩ hlo hhi hj hx h hs hg
theorem shaped2 (a b : List Int) : SeqAt.shaped (.list [.list (a.map .int), .list (b.map .int)]) = true := by
  simp [SeqAt.shaped, PyData.canLay0, PyData.canLayAll0, PyData.depth, PyData.depthAll, ke_canLayAll0, ke_depthAll]
theorem my_eq2 {D1 D2 A0 A1 B0 B1 : Addr} {x0 x1 y0 y1 : List Value} {a0 a1 b0 b1 f0 f1 : List Int} {na0 na1 nb0 nb1 : Nat} {Q : Value → Shared → Prop} (N : News h₀ L s.heap news) (m1 : (D1, LCg.lst [.ref A0, .ref A1]) ∈ news) (m2 : (D2, LCg.lst [.ref B0, .ref B1]) ∈ news)
    (mA0 : (A0, PySem.W.listOf x0.toArray na0) ∈ news) (mA1 : (A1, PySem.W.listOf x1.toArray na1) ∈ news) (mB0 : (B0, PySem.W.listOf y0.toArray nb0) ∈ news) (mB1 : (B1, PySem.W.listOf y1.toArray nb1) ∈ news)
    (iA0 : IntsAre x0 a0) (iA1 : IntsAre x1 a1) (iB0 : IntsAre y0 b0) (iB1 : IntsAre y1 b1) (p0 : a0.Perm f0) (q0 : b0.Perm f0) (p1 : a1.Perm f1) (q1 : b1.Perm f1)
    (oA0 : a0.Pairwise (· ≤ ·)) (oA1 : a1.Pairwise (· ≤ ·)) (oB0 : b0.Pairwise (· ≤ ·)) (oB1 : b1.Pairwise (· ≤ ·)) (hu : A.units + 64 < cLine) (h : Q (.bool true) s) :
    wpAny (model PySem.Challenge.rw_np0016_01.row.prog w) A (compareOp .Eq (.ref D1) (.ref D2)) Q E s := by
  have e0 := sorted_same p0 q0 oA0 oB0
  have e1 := sorted_same p1 q1 oA1 oB1
  subst e0
  subst e1
  have rd : ∀ {a : Addr} {xs : List Value} {ns : List Int} {n : Nat}, (a, PySem.W.listOf xs.toArray n) ∈ news → IntsAre xs ns → Reads s.heap (.ref a) (.list (ns.map .int)) [a] := fun ha hi => reads_newData (kso_isList N ha rfl) (ke_carried hi)
  have r1 := reads_list_at (N _ m1).1 rfl rfl (ReadsAll.cons (rd mA0 iA0) (ReadsAll.cons (rd mA1 iA1) ReadsAll.nil))
  have r2 := reads_list_at (N _ m2).1 rfl rfl (ReadsAll.cons (rd mB0 iB0) (ReadsAll.cons (rd mB1 iB1) ReadsAll.nil))
  refine eq_dataH r1 r2 (shaped2 _ _) (shaped2 _ _) hu ?_
  have e : PyData.eqv (.list [.list (a0.map .int), .list (a1.map .int)]) (.list [.list (a0.map .int), .list (a1.map .int)]) = true := by
    simp only [PyData.eqv, PyData.eqvAll, ked_eqvAll, decide_true, Bool.and_self]
  rw [e]; exact h
end
theorem end3 {h₀ : Heap} {L I C D B : Addr} {m : Str → Option Value} {s₁ : Shared} {oI oC oD oB : Obj} {S : List (Addr × Obj) → Prop} {rest : Value → List (Addr × Obj) → Prop} {y : Value} {h' : Heap} {tk : Nat} {news : List (Addr × Obj)}
    (F : Fr h₀ L h' m) (N : News h₀ L h' ((B, oB) :: (I, oI) :: (C, oC) :: (D, oD) :: news)) (l : ∀ q ∈ (I, oI) :: (C, oC) :: (D, oD) :: news, q.1 < B) (off : LCg.Off3 I C D news) (hS : S ((B, oB) :: news)) (r : rest y ((B, oB) :: news)) :
    LCg.CompEnd h₀ L m s₁ I oI C oC D oD S rest y { s₁ with heap := h', toks := tk } :=
  LCg.CompEnd.intro F N ((B, oB) :: news) (fun p hp => by
      rcases List.mem_cons.mp hp with rfl | hp
      · exact .tail _ (.head _)
      · rcases List.mem_cons.mp hp with rfl | hp
        · exact .tail _ (.tail _ (.head _))
        · rcases List.mem_cons.mp hp with rfl | hp
          · exact .tail _ (.tail _ (.tail _ (.head _)))
          · rcases List.mem_cons.mp hp with rfl | hp
            · exact .head _
            · exact .tail _ (.tail _ (.tail _ (.tail _ hp))))
    ⟨⟨Nat.ne_of_gt (l _ (.head _)), Nat.ne_of_gt (l _ (.tail _ (.head _))), Nat.ne_of_gt (l _ (.tail _ (.tail _ (.head _))))⟩, off⟩ hS r
/-- what a turn of the law's loop leaves of the frame -/
abbrev Same3 (m₀ m' : Str → Option Value) (x y1 y2 : Str) : Prop := ∀ z, z ≠ x → z ≠ y1 → z ≠ y2 → m' z = m₀ z
section
variable {prog : Program} {w : World} {A : Around} {E : Value → Shared → Prop} {s : Shared} {env : Env} {h₀ : Heap} {x : Str} {body : List Stmt} {Q : Flow → Shared → Prop} {deck v lo bs kn : Addr} {news : List (Addr × Obj)}
theorem my_mainS {r : Addr} {b₀ : Int} {t₀ u₀ v₀ : Tok} (y1 y2 : Str) {m₀ : Str → Option Value} (S : St w deck v lo bs kn 0 [] news)
    (hh : A.handled = none) (hr : IsRange s.heap r 0 b₀ 1 t₀ u₀ v₀) (h1 : 0 ≤ b₀) (h2 : b₀ ≤ 13) (F : Fr h₀ env.locals s.heap m₀) (N : News h₀ env.locals s.heap news)
    (turn : ∀ (i : Nat) (t : Tok) (u : Str → Option Value) nw I it h tk, i < 13 → St w deck v lo bs kn i [(I, it)] nw → Fr h₀ env.locals h (fun y => if y = x then some (.int (i : Int) t) else if y = y1 then u y else if y = y2 then u y else m₀ y) → News h₀ env.locals h nw →
      wpAny (model prog w) A (execs body env) (UnrPost h₀ env.locals { s with heap := h, toks := tk } I it (fun m' nw' => St w deck v lo bs kn (i + 1) [] nw' ∧ Same3 m₀ m' x y1 y2) Q) E { s with heap := h, toks := tk })
    (done : ∀ (n : Nat) (u : Str → Option Value) nw h tk, n ≤ 13 → St w deck v lo bs kn n [] nw → Fr h₀ env.locals h (fun y => if y = x then u y else if y = y1 then u y else if y = y2 then u y else m₀ y) → News h₀ env.locals h nw → Q .next { s with heap := h, toks := tk }) :
    wpAny (model prog w) A (pyIter (.ref r)) (fun it s₂ => LoopAtV prog w A h₀ env x body Q E it s₂) E s :=
  my_main (y1 := y1) (y2 := y2) (fun i nw => St w deck v lo bs kn i [] nw) hh hr h1 h2 F N S
    (fun i t u nw I it h tk _ hi S F' N' off => turn i t u _ I it h tk hi (S.hold off) F' N') done
theorem turn_end {L I : Addr} {it : Obj} {h' : Heap} {tk : Tok} {s₁ : Shared} {i : Nat} {m' : Str → Option Value} {rest : (Str → Option Value) → Prop} (S : St w deck v lo bs kn i [(I, it)] news) (F : Fr h₀ L h' m') (N : News h₀ L h' news) (r : rest m') :
    UnrEnd h₀ L s₁ I it (fun m' nw' => St w deck v lo bs kn i [] nw' ∧ rest m') { s₁ with heap := h', toks := tk } :=
  UnrEnd.intro F N _ (fun p hp => by
    rcases List.mem_cons.mp hp with rfl | hp
    · exact S.kept
    · exact (List.mem_filter.mp hp).1) off_drop ⟨S.drop, r⟩
end
theorem const_end {h₀ : Heap} {L I : Addr} {it : Obj} {h' : Heap} {tk : Tok} {s₁ : Shared} {m₀ m' : Str → Option Value} {x y : Str} {news : List (Addr × Obj)} (F : Fr h₀ L h' m') (N : News h₀ L h' ((I, it) :: news)) (off : ∀ p ∈ news, p.1 ≠ I) (r : ∀ z, z ≠ x → z ≠ y → m' z = m₀ z) :
    UnrEnd h₀ L s₁ I it (fun m' nw' => nw' = news ∧ ∀ z, z ≠ x → z ≠ y → m' z = m₀ z) { s₁ with heap := h', toks := tk } :=
  UnrEnd.intro F N news (fun p hp => hp) off ⟨rfl, r⟩
section Law
local macro_rules | `(tactic| k_handed) => `(tactic| (k_extra "law"; exact flat_handed (by assumption)))
local macro_rules | `(tactic| k_room) => `(tactic| (k_extra "law"; ktr_room))
local macro_rules | `(tactic| k_tabat) => `(tactic| (k_extra "law"; exact my_tab (by k_asm) (by k_mem) (by k_asm)))
local macro_rules | `(tactic| k_mem) => `(tactic| (k_extra "law"; (fail_if_success (with_reducible show _ ∈ ([] : List (Addr × Obj)))); first | assumption | exact List.Mem.head _ | (refine List.mem_cons_of_mem _ ?_; k_mem)))
local macro_rules | `(tactic| walk_at $s:str) => `(tactic| k_extra $s)
theorem law : PySem.Challenge.rw_np0016_01.Holds := hd (by
  k_with_none
  w_strict (k_go0; (all_goals try k_fold); k_steps)
  rename News _ _ _ _ => N0
  rename Fr _ _ _ _ => F0
  rename IsRange _ _ _ _ _ _ _ _ => R0
  obtain ⟨nw0, S0, N1⟩ := St.start N0 (by repeat (first | exact List.nodup_nil | refine List.nodup_cons.mpr ⟨by first | exact ltA_notmem (by assumption) | exact ne1_notmem (by assumption) | exact lt2_notmem (by assumption) (by assumption) | (refine' ne_notmem ?h1 ?h2; (case h1 => assumption); (case h2 => rfl)), ?_⟩)) (by assumption) (by rw [List.length_map, List.length_take]; omega)
    ⟨by assumption, [], by assumption, .nil⟩ ⟨by assumption, [], by assumption, .nil⟩ ⟨by assumption, [], by assumption, .nil⟩ ⟨by assumption, [], by assumption, .nil⟩ ⟨by assumption, [], by assumption, .nil⟩
    ⟨by assumption, [], by assumption, .nil⟩ ⟨by assumption, [], by assumption, .nil⟩ ⟨by assumption, [], by assumption, .nil⟩ ⟨by assumption, [], by assumption, .nil⟩ ⟨by assumption, [], by assumption, .nil⟩
  k_with "law" => skip
  refine my_mainS (Str.ofString "symbol") (Str.ofString "at") S0 (by rfl) R0 ?_ ?_ F0 N1 ?_ ?_
  · exact range_lo _
  · exact range_hi _
  · intro i t u nw I it h tk hi S F2 N2
    clear S0 N1 N0 F0 R0
    k_with "call ref" => (k_here; k_dflt (refine c_islocal (by k_asm) (by k_asm) (by k_asm) (by k_asm) (by k_asm) (by first | exact rfl | assumption) (by ktr_room) (by ktr_units) (by k_mem) (by k_mem) (by k_mem) (by k_asm) ?_); intro h' tk' F' N'; (try dsimp only at N'))
    k_with "call ref" => (k_here; k_dflt (refine c_lawvalue (by k_asm) (by k_asm) (by k_asm) (by k_asm) (by k_asm) (by first | exact rfl | assumption) (by ktr_room) (by ktr_units) (by k_mem) (by k_asm) (by k_mem) (by k_asm) ?_); intro r' h' tk' f' F' N'; (try dsimp only at N'))
    k_with "call ref" => (k_here; k_dflt (refine c_valuein (by k_asm) (by k_asm) (by k_asm) (by k_asm) (by k_asm) (by first | exact rfl | assumption) (by ktr_room) (by ktr_units) (by k_mem) (by k_mem) (by k_mem) (by k_asm) (by k_mem) (by k_mem) (by k_mem) (by k_asm) ?_); intro r' h' tk' f' F' N'; (try dsimp only at N'))
    k_with "call ref" => (k_here; k_dflt (refine c_default (by k_asm) (by k_asm) (by k_asm) (by k_asm) (by k_asm) (by first | exact rfl | assumption) (by ktr_room) (by ktr_units) (by k_mem) (by k_mem) (by k_mem) (by k_asm) ?_); intro r' h' tk' f' F' N'; (try dsimp only at N'))
    k_with "call ref" => (k_here; k_dflt (refine c_deed (by k_asm) (by k_asm) (by k_asm) (by k_asm) (by k_asm) (by first | exact rfl | assumption) (by ktr_room) (by ktr_units) (by assumption) (by omega) ?_); intro h' tk' nw' S' F' N')
    k_with "compareOp NotEq" => (k_here; k_dflt (refine my_ne (by assumption) (by assumption) (by first | assumption | exact vd_look (by assumption) _ | exact vd_val (by assumption) (by assumption) _) ?_))
    k_with "subscriptTail" => (k_here; (with_reducible show wpAny _ _ (subscriptTail _ _ (Value.ref _) (Value.int _ _)) _ _ _); k_dflt (refine my_prAt (by k_asm) (by k_mem) (by assumption) ?_))
    k_with "subscriptTail" => (k_here; (with_reducible show wpAny _ _ (subscriptTail _ _ (Value.ref _) (Value.int _ _)) _ _ _); k_dflt (refine my_tupAt (by k_asm) (by k_mem) (by decide) (by decide) (by rfl) (by rfl) ?_))
    k_with "subscriptTail" => (k_here; (fail_if_success (with_reducible show wpAny _ _ (subscriptTail (PySem.Expr.Name _ _) _ _ _) _ _ _)); k_dflt (refine kba_turn (value' := PySem.Expr.Name (PySem.Str.ofString "_") ⟨0, 0, 0, 0⟩) (fun _ => rfl) ?_))
    k_with "pyIter ref" => (k_here; k_dflt (refine my_const (n := 2) (Str.ofString "at") (by rfl) (by assumption) (by decide) (by decide) (by k_asm) (by k_asm) ?turnB ?doneB); (case' turnB => (intro j t' u' I' it' h' tk' hj F' N' off'; have hat' : ((j : Nat) : Int) = 0 ∨ ((j : Nat) : Int) = 1 := (by omega); obtain ⟨dv', t1', t2', t3', b1', b2', b3', nv', o1', c1', k1', ow', k2', k3', p1', la', dla', ea', ua', na', oea', cea', lb', nlo', nwn', qa', qb', ra', mv', mdv', m1', I1', V1', mkn', mk1', J1', mlo', mla', mdla', mea', Iea', Vea', mow', mqa', Jqa'⟩ := S'.inner hat')); (case' doneB => (intro u' h' tk' F' N')))
    k_with "pyIter ref" => (k_here; k_dflt (refine my_const (n := 5) (Str.ofString "at") (by rfl) (by assumption) (by decide) (by decide) (by k_asm) (by k_asm) ?turnA ?doneA); (case' turnA => (intro i' t' u' I' it' h' tk' hi' F' N' off'; obtain ⟨dv', t1', t2', t3', b1', b2', b3', nv', o1', c1', k1', ow', k2', k3', p1', mv', mdv', m1', I1', V1', mkn', mk1', J1'⟩ := S'.sym)); (case' doneA => (intro u' h' tk' F' N')))
    k_with "UnrEnd" => (k_here; exact const_end (by assumption) (by assumption) (by assumption) (by intro z h1 h2; simp only [if_neg h1, if_neg h2]))
    k_with "UnrEnd" => (k_here; exact turn_end (by assumption) (by assumption) (by assumption) (by intro z h1 h2 h3; simp only [if_neg h1, if_neg h2, if_neg h3]))
    k_steps
  · intro n u nw h tk hn S F2 N2
    clear S0 N1 N0 F0 R0
    obtain ⟨la, dla, ea, ua, na, oea, cea, lb, dlb, eb, ub, nb, oeb, ceb, nlo, nwn, qa, qb, ra, rb, k1, ow, k2, k3, mlo, mla, mdla, mea, Iea, mlb, mdlb, meb, Ieb, mkn, mow, mqa, mqb, Jqa, Jqb, zea, zeb⟩ := S.fin
    have hza : cea.length ≤ 60 := by omega
    have hzb : ceb.length ≤ 60 := by omega
    k_with "call ref" => (k_here; k_dflt (refine c_names (by k_asm) (by k_asm) (by k_asm) (by k_asm) (by k_asm) (by first | exact rfl | assumption) (by ktr_room) (by ktr_units) (by k_mem) (by k_mem) (by k_mem) (by k_asm) (by assumption) ?_); intro D' vs' ns' n' h' tk' i' p' o' l' F' N'; (try dsimp only at N'))
    k_with "call builtin:sorted" => (k_here; (with_reducible show wpAny _ _ (call (Value.builtin _) [Value.ref _]) _ _ _); k_dflt (refine my_sortedD (by rfl) (by k_asm) (by k_asm) (by k_mem) (by k_asm) (by assumption) ?_); intro D' vs' ns' n' h' tk' i' p' o' l' F' N')
    k_with "CompEnd" => (refine end3 (by assumption) (by assumption) (by assumption) (by assumption) (.inr ⟨_, by k_mem, rfl, _, rfl⟩) ?_)
    k_with "compareOp Eq ref ref" => (k_here; k_dflt (refine my_eq2 (by k_asm) (by k_mem) (by k_mem) (by k_mem) (by k_mem) (by k_mem) (by k_mem) (by assumption) (by assumption) (by assumption) (by assumption) (by assumption) (by assumption) (by assumption) (by assumption) (by assumption) (by assumption) (by assumption) (by assumption) (by ktr_units) ?_))
    k_steps)
end Law
end Mine
theorem PySem.Challenge.cw_np0016_01_holds : PySem.Challenge.rw_np0016_01.Holds :=
  Mine.law
